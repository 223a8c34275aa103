import PyProof.Rows.All
import PySem.Str
import Wide.All
import OpenK.AllK
import Wide.FinOn
import HandS.ForMost
import HandS.ForExc
import HandS.Evl
import HandS.Deep
import HandS.IsInst
import HandS.TupAny
import HandS.Style
import KE.KTupSum
import KE.DataMinMax
import KE.DatumOrd
import KE.SortData
import HandS.Walk
import HandS.Zip
import HandS.WordsExc
import KE.KDictZip
import KE.KDictItemsList
import HandS.ListItems
import PyProof.EnumMake
import KE.GoesMore
import KE.GoesZip
import HandS.SortInts
import HandS.NamedTupSort
import KE.LtData
import HandS.Ends
import PySem.Challenge.RW_bowings_k02_bowings_recognized
set_option Elab.async false
set_option linter.all false
/-! QPure: pure values and the pure meaning of the constructs -/
namespace Q
open PySem (Str)

/-- pure values -/
inductive U where
  | non | bl (b : Bool) | int (i : Int) | str (x : List Nat)
  | tup (xs : List U) | lst (xs : List U) | dct (ks vs : List U) | fn (x : Str) | ty (n : String) | obj (C : Str) (ns : List Str) (xs : List U)
  deriving Inhabited

abbrev Sl := List (Option U)
/-- what an expression comes to -/
inductive Rs (α : Type) where
  | ok (a : α) (ρ : Sl) | exc (C : Str) (ρ : Sl) | stuck
def Rs.bind {α β : Type} : Rs α → (α → Sl → Rs β) → Rs β
  | .ok a ρ, k => k a ρ
  | .exc C ρ, _ => .exc C ρ
  | .stuck, _ => .stuck
abbrev EF := Sl → Rs U
abbrev AF := Sl → Rs (List U)
abbrev BF := Sl → Rs Bool
/-- what a statement comes to -/
inductive Fl where
  | next (ρ : Sl) | brk (ρ : Sl) | cont (ρ : Sl) | ret (u : U) (ρ : Sl) | exc (C : Str) (ρ : Sl) | stuck
abbrev SF := Sl → Fl
/-- what a def comes to: its value, and its first argument's content behind it (where it changes it) -/
inductive FR where
  | ok (u : U) (d : U) | exc (C : Str) (d : U) | stuck

def rs {α : Type} : Option α → Sl → Rs α
  | some a, ρ => .ok a ρ
  | none, _ => .stuck

def eV (i : Nat) : EF := fun ρ => match ρ[i]? with
  | some (some u) => .ok u ρ
  | _ => .stuck
def eC (u : U) : EF := fun ρ => .ok u ρ
def e1 (op : U → Option U) (a : EF) : EF := fun ρ => (a ρ).bind fun x ρ1 => rs (op x) ρ1
def e2 (op : U → U → Option U) (a b : EF) : EF := fun ρ => (a ρ).bind fun x ρ1 => (b ρ1).bind fun y ρ2 => rs (op x y) ρ2
def eChain (op op' : U → U → Option U) (a b c : EF) : EF := fun ρ => (a ρ).bind fun x ρ1 => (b ρ1).bind fun y ρ2 => match op x y with
  | some (.bl true) => (c ρ2).bind fun z ρ3 => rs (op' y z) ρ3
  | some (.bl false) => .ok (.bl false) ρ2
  | _ => .stuck
def eAnd (a b : EF) : EF := fun ρ => (a ρ).bind fun x ρ1 => match x with
  | .bl true => b ρ1
  | .bl false => .ok (.bl false) ρ1
  | _ => .stuck
def eOr (a b : EF) : EF := fun ρ => (a ρ).bind fun x ρ1 => match x with
  | .bl true => .ok (.bl true) ρ1
  | .bl false => b ρ1
  | _ => .stuck
def eNot (a : EF) : EF := fun ρ => (a ρ).bind fun x ρ1 => match x with
  | .bl b => .ok (.bl !b) ρ1
  | _ => .stuck
/-- a test by a truth value -/
def tB (a : EF) : BF := fun ρ => (a ρ).bind fun x ρ1 => match x with
  | .bl b => .ok b ρ1
  | _ => .stuck
def tAnd (a b : BF) : BF := fun ρ => (a ρ).bind fun x ρ1 => if x then b ρ1 else .ok false ρ1
def tOr (a b : BF) : BF := fun ρ => (a ρ).bind fun x ρ1 => if x then .ok true ρ1 else b ρ1
def tNot (a : BF) : BF := fun ρ => (a ρ).bind fun x ρ1 => .ok (!x) ρ1
def tTrue : BF := fun ρ => .ok true ρ
def eIf (t : BF) (a b : EF) : EF := fun ρ => (t ρ).bind fun x ρ1 => if x then a ρ1 else b ρ1
def aNil : AF := fun ρ => .ok [] ρ
def aCons (a : EF) (r : AF) : AF := fun ρ => (a ρ).bind fun x ρ1 => (r ρ1).bind fun xs ρ2 => .ok (x :: xs) ρ2
def eTup (as : AF) : EF := fun ρ => (as ρ).bind fun xs ρ1 => if xs.length ≤ 100000 then .ok (.tup xs) ρ1 else .stuck
def eLst (as : AF) : EF := fun ρ => (as ρ).bind fun xs ρ1 => if xs.length ≤ 100000 then .ok (.lst xs) ρ1 else .stuck
/-- a built-in by its arguments -/
def eB (op : List U → Option U) (as : AF) : EF := fun ρ => (as ρ).bind fun xs ρ1 => rs (op xs) ρ1
/-- a def -/
def eCall (φ : List U → FR) (as : AF) : EF := fun ρ => (as ρ).bind fun xs ρ1 => match φ xs with
  | .ok u _ => .ok u ρ1
  | .exc C _ => .exc C ρ1
  | .stuck => .stuck
/-- a def that may change its first argument, the list in the slot i -/
def eCallD (i : Nat) (φ : List U → FR) (as : AF) : EF := fun ρ => match ρ[i]? with
  | some (some _) => (as ρ).bind fun xs ρ1 => match ρ1[i]? with
    | some (some d) => match φ (d :: xs) with
      | .ok u d' => .ok u (ρ1.set i (some d'))
      | .exc C d' => .exc C (ρ1.set i (some d'))
      | .stuck => .stuck
    | _ => .stuck
  | _ => .stuck
/-- x[k], x the list in the slot i -/
def eIxM (i : Nat) (op : U → U → Option U) (b : EF) : EF := fun ρ => match ρ[i]? with
  | some (some _) => (b ρ).bind fun y ρ1 => match ρ1[i]? with
    | some (some d) => rs (op d y) ρ1
    | _ => .stuck
  | _ => .stuck
def scalU : U → Bool
  | .non | .bl _ | .int _ | .str _ | .ty _ | .fn _ => true
  | _ => false
/-- a reading of the slots' own lists that leaves them as they are -/
def eBorrow (e : EF) : EF := fun ρ => match e ρ with
  | .ok u _ => if scalU u then .ok u ρ else .stuck
  | _ => .stuck
/-- .. whose value is a new list of scalars -/
def eBorrowF (e : EF) : EF := fun ρ => match e ρ with
  | .ok (.lst us) _ => if us.all scalU then .ok (.lst us) ρ else .stuck
  | _ => .stuck
/-- targets -/
abbrev TgF := U → Sl → Option Sl
abbrev TgsF := List U → Sl → Option Sl
def gN (i : Nat) : TgF := fun u ρ => some (ρ.set i (some u))
def gsNil : TgsF := fun us ρ => match us with
  | [] => some ρ
  | _ => none
def gsCons (g : TgF) (gs : TgsF) : TgsF := fun us ρ => match us with
  | u :: r => match g u ρ with
    | some ρ1 => gs r ρ1
    | none => none
  | [] => none
def gNs : List Nat → TgsF
  | [] => gsNil
  | i :: is => gsCons (gN i) (gNs is)
def gT (gs : TgsF) : TgF := fun u ρ => match u with
  | .tup us => gs us ρ
  | _ => none

def wipeU (ρ : Sl) : List Nat → Sl
  | [] => ρ
  | v :: vs => (wipeU ρ vs).set v none
/-- the comprehension's own slots as they stood -/
def backU (ρ0 ρ : Sl) : List Nat → Sl
  | [] => ρ
  | v :: vs => (backU ρ0 ρ vs).set v (ρ0.getD v none)
def compL (vs : List Nat) (g : TgF) (t : BF) (e : EF) : List U → Sl → List U → Rs (List U)
  | [], ρ, acc => .ok acc.reverse ρ
  | u :: us, ρ, acc => match g u (wipeU ρ vs) with
    | some ρ1 => match t ρ1 with
      | .ok true ρ2 => match e ρ2 with
        | .ok x ρ3 => compL vs g t e us ρ3 (x :: acc)
        | _ => .stuck
      | .ok false ρ2 => compL vs g t e us ρ2 acc
      | _ => .stuck
    | none => .stuck
/-- [e for g in it if t] -/
def eComp (vs : List Nat) (it : AF) (g : TgF) (t : BF) (e : EF) : EF := fun ρ => (it ρ).bind fun us ρ1 =>
  if us.length ≤ 100000 then (compL vs g t e us ρ1 []).bind fun xs ρ2 => .ok (.lst xs) (backU ρ1 ρ2 vs) else .stuck

/-! statements -/
def sNil : SF := fun ρ => .next ρ
def sSeq (a b : SF) : SF := fun ρ => match a ρ with
  | .next ρ1 => b ρ1
  | f => f
def Fl.of {α : Type} (r : Rs α) (k : α → Sl → Fl) : Fl := match r with
  | .ok a ρ => k a ρ
  | .exc C ρ => .exc C ρ
  | .stuck => .stuck
def sExpr (e : EF) : SF := fun ρ => .of (e ρ) fun _ ρ1 => .next ρ1
def sRet (e : EF) : SF := fun ρ => .of (e ρ) fun u ρ1 => .ret u ρ1
def sRetN : SF := fun ρ => .ret .non ρ
def sAsg (e : EF) (g : TgF) : SF := fun ρ => .of (e ρ) fun u ρ1 => match g u ρ1 with
  | some ρ2 => .next ρ2
  | none => .stuck
abbrev sSet (i : Nat) (e : EF) : SF := sAsg e (gN i)
/-- x, y = a, b -/
def sPar (gs : TgsF) (as : AF) : SF := fun ρ => .of (as ρ) fun us ρ1 => match gs us ρ1 with
  | some ρ2 => .next ρ2
  | none => .stuck
/-- x op= e -/
def sAug (i : Nat) (op : U → U → Option U) (e : EF) : SF := fun ρ => match ρ[i]? with
  | some (some x) => .of (e ρ) fun y ρ1 => match op x y with
    | some z => .next (ρ1.set i (some z))
    | none => .stuck
  | _ => .stuck
/-- x.append(e), x the list in the slot i -/
def sAppend (i : Nat) (e : EF) : SF := fun ρ => match ρ[i]? with
  | some (some _) => .of (e ρ) fun y ρ1 => match ρ1[i]? with
    | some (some (.lst xs)) => if xs.length ≤ 100000 then .next (ρ1.set i (some (.lst (xs ++ [y])))) else .stuck
    | _ => .stuck
  | _ => .stuck
/-- x[k] = e, x the list in the slot i -/
def sPut (i : Nat) (k e : EF) : SF := fun ρ => .of (e ρ) fun y ρ1 => match ρ1[i]? with
  | some (some _) => .of (k ρ1) fun j ρ2 => match ρ2[i]?, j with
    | some (some (.lst xs)), .int n => if 0 ≤ n ∧ n < xs.length then .next (ρ2.set i (some (.lst (xs.set n.toNat y)))) else .stuck
    | _, _ => .stuck
  | _ => .stuck
def sIf (t : BF) (a b : SF) : SF := fun ρ => .of (t ρ) fun x ρ1 => if x then a ρ1 else b ρ1
def sRaise (C : Str) : SF := fun ρ => .exc C ρ
def sBreak : SF := fun ρ => .brk ρ
def sCont : SF := fun ρ => .cont ρ
def forL (g : TgF) (b : SF) : List U → Sl → Fl
  | [], ρ => .next ρ
  | u :: us, ρ => match g u ρ with
    | some ρ1 => match b ρ1 with
      | .next ρ2 => forL g b us ρ2
      | .cont ρ2 => forL g b us ρ2
      | .brk ρ2 => .next ρ2
      | f => f
    | none => .stuck
/-- the rest of a block, in which the lists of the slots vs are known; behind it they are forgotten -/
def sKnown (vs : List Nat) (b : SF) : SF := fun ρ => match b ρ with
  | .next ρ1 => .next (wipeU ρ1 vs)
  | .brk ρ1 => .brk (wipeU ρ1 vs)
  | .cont ρ1 => .cont (wipeU ρ1 vs)
  | f => f
def sFor (it : AF) (g : TgF) (b : SF) : SF := fun ρ => .of (it ρ) fun us ρ1 => forL g b us ρ1
def whileL (t : BF) (b : SF) : Nat → Sl → Fl
  | 0, _ => .stuck
  | n + 1, ρ => .of (t ρ) fun x ρ1 => if x then (match b ρ1 with
      | .next ρ2 => whileL t b n ρ2
      | .cont ρ2 => whileL t b n ρ2
      | .brk ρ2 => .next ρ2
      | f => f) else .next ρ1
def sWhile (n : Nat) (t : BF) (b : SF) : SF := fun ρ => whileL t b n ρ

/-! defs -/
def startU (n : Nat) (us : List U) : Sl := us.map some ++ List.replicate (n - us.length) none
def slot0 (ρ : Sl) : U := match ρ[0]? with
  | some (some d) => d
  | _ => .non
/-- a def by its body: n its slots, p its parameters -/
def fnEnd (io fr : Bool) : Fl → FR
  | .ret u ρ => .ok u (if io then slot0 ρ else .non)
  | .next ρ => if fr then .stuck else .ok .non (if io then slot0 ρ else .non)
  | .exc C ρ => .exc C (if io then slot0 ρ else .non)
  | _ => .stuck
def fnOf (io fr : Bool) (n p : Nat) (b : SF) (us : List U) : FR := if us.length = p then fnEnd io fr (b (startU n us)) else .stuck
end Q
/-! QOps: the operations on pure values -/
namespace Q
open PySem (Str)

/-! == -/
mutual
def eqvU : U → U → Bool
  | .non, .non => true
  | .bl a, .bl b => a == b
  | .bl a, .int j => (if a then 1 else 0) == j
  | .int i, .bl b => i == (if b then 1 else 0)
  | .int i, .int j => i == j
  | .str x, .str y => x == y
  | .lst xs, .lst ys => eqvUs xs ys
  | .tup xs, .tup ys => eqvUs xs ys
  | _, _ => false
def eqvUs : List U → List U → Bool
  | [], [] => true
  | x :: xs, y :: ys => eqvU x y && eqvUs xs ys
  | _, _ => false
end
mutual
/-- plain data -/
def plU : U → Bool
  | .non | .bl _ | .int _ => true
  | .str x => x.all (· < 0x110000)
  | .lst xs | .tup xs => plUs xs
  | _ => false
def plUs : List U → Bool
  | [] => true
  | x :: xs => plU x && plUs xs
end
mutual
def depU : U → Nat
  | .lst xs | .tup xs => depUs xs + 1
  | _ => 0
def depUs : List U → Nat
  | [] => 0
  | x :: xs => max (depU x) (depUs xs)
end
def okU (u : U) : Bool := plU u && decide (depU u ≤ 64)
def uEq (a b : U) : Option U := match a, b with
  | .str x, .str y => some (.bl (x == y))
  | _, _ => if okU a && okU b then some (.bl (eqvU a b)) else none
def uNe (a b : U) : Option U := match a, b with
  | .str x, .str y => some (.bl (!(x == y)))
  | _, _ => if okU a && okU b then some (.bl (!eqvU a b)) else none
def uInB (a b : U) : Option Bool := match b with
  | .lst xs => if okU a && okU (.lst xs) then some (xs.any fun z => eqvU z a) else none
  | .tup xs => if okU a && okU (.tup xs) then some (xs.any fun z => eqvU z a) else none
  | _ => none
def uIn (a b : U) : Option U := (uInB a b).map .bl
def uNotIn (a b : U) : Option U := (uInB a b).map fun x => .bl (!x)
/-! arithmetic -/
def uAdd : U → U → Option U
  | .int i, .int j => some (.int (i + j))
  | .lst xs, .lst ys => if xs.length + ys.length ≤ 100000 then some (.lst (xs ++ ys)) else none
  | .tup xs, .tup ys => if xs.length + ys.length ≤ 100000 then some (.tup (xs ++ ys)) else none
  | .str x, .str y => if x.length + y.length ≤ 100000 then some (.str (x ++ y)) else none
  | _, _ => none
def uAddI : U → U → Option U
  | .int i, .int j => some (.int (i + j))
  | _, _ => none
def uSub : U → U → Option U
  | .int i, .int j => some (.int (i - j))
  | _, _ => none
def uMul : U → U → Option U
  | .int i, .int j => if (-(2 ^ 64) < i ∧ i < 2 ^ 64) ∨ (-(2 ^ 64) < j ∧ j < 2 ^ 64) then some (.int (i * j)) else none
  | _, _ => none
/-- a list times a number -/
def uRep : U → U → Option U
  | .lst xs, .int k => if k ≤ 100000 ∧ -100000 ≤ k ∧ xs.length * k.toNat ≤ 100000 then some (.lst (List.replicate k.toNat xs).flatten) else none
  | _, _ => none
def uMod : U → U → Option U
  | .int i, .int j => if 0 < j then some (.int (i % j)) else none
  | _, _ => none
def uFdiv : U → U → Option U
  | .int i, .int j => if 0 < j ∧ j < 1073741824 then some (.int (i / j)) else none
  | _, _ => none
def uPow : U → U → Option U
  | .int i, .int j => if 0 ≤ j ∧ j ≤ 1000000 ∧ i.natAbs < 2 ^ 64 then some (.int (i ^ j.toNat)) else none
  | _, _ => none
def uNeg : U → Option U
  | .int i => some (.int (-i))
  | _ => none
def uLtI : U → U → Option U
  | .int i, .int j => some (.bl (decide (i < j)))
  | _, _ => none
def uLeI : U → U → Option U
  | .int i, .int j => some (.bl (decide (i ≤ j)))
  | _, _ => none
def uGtI : U → U → Option U
  | .int i, .int j => some (.bl (decide (j < i)))
  | _, _ => none
def uGeI : U → U → Option U
  | .int i, .int j => some (.bl (decide (j ≤ i)))
  | _, _ => none
/-- is, is not, of truth values -/
def uIsB : U → U → Option U
  | .bl a, .bl b => some (.bl (decide (a = b)))
  | _, _ => none
def uNotB : U → U → Option U
  | .bl a, .bl b => some (.bl (!decide (a = b)))
  | _, _ => none
/-! subscripts -/
def atU {α : Type} (xs : List α) (i : Int) : Option α := if 0 ≤ i then xs[i.toNat]? else if -(xs.length : Int) ≤ i then xs[(i + xs.length).toNat]? else none
def uIx : U → U → Option U
  | .lst xs, .int i => atU xs i
  | .tup xs, .int i => atU xs i
  | _, _ => none
def sxU (n d : Nat) : Option Int → Nat
  | none => d
  | some v => if v < 0 then (v + (n : Int)).toNat else min v.toNat n
def cutU {α : Type} (xs : List α) (lo hi : Option Int) : List α := (xs.drop (sxU xs.length 0 lo)).take (sxU xs.length xs.length hi - sxU xs.length 0 lo)
abbrev OF := Sl → Rs (Option Int)
def oNo : OF := fun ρ => .ok none ρ
def oSome (e : EF) : OF := fun ρ => (e ρ).bind fun x ρ1 => match x with
  | .int i => .ok (some i) ρ1
  | _ => .stuck
def uSl (x : U) (lo hi : Option Int) : Option U := match x with
  | .lst xs => some (.lst (cutU xs lo hi))
  | .tup xs => some (.tup (cutU xs lo hi))
  | _ => none
def eSl (a : EF) (lo hi : OF) : EF := fun ρ => (a ρ).bind fun x ρ1 => (lo ρ1).bind fun l ρ2 => (hi ρ2).bind fun h ρ3 => rs (uSl x l h) ρ3
/-- only lists -/
def lo (f : U → U → Option U) (x y : U) : Option U := match f x y with
  | some (.lst us) => some (.lst us)
  | _ => none
/-! built-ins -/
def bLen : List U → Option U
  | [.lst xs] => some (.int xs.length)
  | [.tup xs] => some (.int xs.length)
  | _ => none
def tyOf : U → Option String
  | .non => some "NoneType"
  | .bl _ => some "bool"
  | .int _ => some "int"
  | .str _ => some "str"
  | .tup _ => some "tuple"
  | .lst _ => some "list"
  | _ => none
/-- isinstance(x, T) for T one of int, bool, str, list, tuple -/
def bIsInst : List U → Option U
  | [x, .ty T] => (tyOf x).bind fun t => if ["int", "bool", "str", "list", "tuple"].contains T then some (.bl (t == T || (t == "bool" && T == "int"))) else none
  | _ => none
def blsOf : List U → Option (List Bool)
  | [] => some []
  | .bl b :: r => (blsOf r).map (b :: ·)
  | _ => none
def intsOf : List U → Option (List Int)
  | [] => some []
  | .int b :: r => (intsOf r).map (b :: ·)
  | _ => none
def bAll : List U → Option U
  | [.lst xs] => (blsOf xs).map fun bs => .bl (bs.all id)
  | _ => none
def bAny : List U → Option U
  | [.lst xs] => (blsOf xs).map fun bs => .bl (bs.any id)
  | _ => none
def bSum : List U → Option U
  | [.lst xs] => (intsOf xs).map fun ns => .int ns.sum
  | [.tup xs] => (intsOf xs).map fun ns => .int ns.sum
  | _ => none
def maxL : List Int → Int
  | [] => 0
  | x :: xs => xs.foldl (fun a y => if a < y then y else a) x
def minL : List Int → Int
  | [] => 0
  | x :: xs => xs.foldl (fun a y => if y < a then y else a) x
def bMax1 : List U → Option U
  | [.lst xs] => (intsOf xs).bind fun ns => if ns.length = 0 then none else some (.int (maxL ns))
  | [.tup xs] => (intsOf xs).bind fun ns => if ns.length = 0 then none else some (.int (maxL ns))
  | _ => none
def bMin1 : List U → Option U
  | [.lst xs] => (intsOf xs).bind fun ns => if ns.length = 0 then none else some (.int (minL ns))
  | [.tup xs] => (intsOf xs).bind fun ns => if ns.length = 0 then none else some (.int (minL ns))
  | _ => none
def bMax2 : List U → Option U
  | [.int i, .int j] => some (.int (if j > i then j else i))
  | _ => none
def bMin2 : List U → Option U
  | [.int i, .int j] => some (.int (if j < i then j else i))
  | _ => none
def bInt : List U → Option U
  | [.int i] => some (.int i)
  | [.bl b] => some (.int (if b then 1 else 0))
  | _ => none
def bList : List U → Option U
  | [.lst xs] => some (.lst xs)
  | [.tup xs] => some (.lst xs)
  | _ => none
def bTuple : List U → Option U
  | [.lst xs] => some (.tup xs)
  | [.tup xs] => some (.tup xs)
  | _ => none
/-! sorting -/
def lexL : List Int → List Int → Bool
  | [], [] => false
  | [], _ :: _ => true
  | _ :: _, [] => false
  | x :: xs, y :: ys => if x = y then lexL xs ys else decide (x < y)
def insB {α : Type} (lt : α → α → Bool) (x : α) : List α → List α
  | [] => [x]
  | y :: ys => if lt y x then y :: insB lt x ys else x :: y :: ys
def sortB {α : Type} (lt : α → α → Bool) : List α → List α
  | [] => []
  | x :: xs => insB lt x (sortB lt xs)
theorem insB_perm {α : Type} (lt : α → α → Bool) (x : α) : ∀ l : List α, (insB lt x l).Perm (x :: l)
  | [] => .refl _
  | y :: ys => by
    rw [insB]
    split
    · exact ((insB_perm lt x ys).cons y).trans (.swap x y ys)
    · exact .refl _
theorem sortB_perm {α : Type} (lt : α → α → Bool) : ∀ l : List α, (sortB lt l).Perm l
  | [] => .refl _
  | x :: xs => (insB_perm lt x _).trans ((sortB_perm lt xs).cons x)
theorem insB_sorted {α : Type} {lt : α → α → Bool} (as : ∀ a b, lt a b = true → lt b a = false) (tr : ∀ a b c, lt b a = false → lt c b = false → lt c a = false) (x : α) : ∀ l : List α, l.Pairwise (fun a b => lt b a = false) → (insB lt x l).Pairwise (fun a b => lt b a = false)
  | [], _ => List.pairwise_singleton _ _
  | y :: ys, h => by
    obtain ⟨h1, h2⟩ := List.pairwise_cons.mp h
    rw [insB]
    split
    · rename_i hl
      refine List.pairwise_cons.mpr ⟨fun z hz => ?_, insB_sorted as tr x ys h2⟩
      have hm := (insB_perm lt x ys).mem_iff.mp hz
      rcases List.mem_cons.mp hm with e | hm
      · subst e
        exact as _ _ hl
      · exact h1 z hm
    · rename_i hl
      have hl' : lt y x = false := by simpa using hl
      refine List.pairwise_cons.mpr ⟨fun z hz => ?_, h⟩
      rcases List.mem_cons.mp hz with e | hz
      · subst e
        exact hl'
      · exact tr _ _ _ hl' (h1 z hz)
theorem sortB_sorted {α : Type} {lt : α → α → Bool} (as : ∀ a b, lt a b = true → lt b a = false) (tr : ∀ a b c, lt b a = false → lt c b = false → lt c a = false) : ∀ l : List α, (sortB lt l).Pairwise (fun a b => lt b a = false)
  | [] => .nil
  | x :: xs => insB_sorted as tr x _ (sortB_sorted as tr xs)
abbrev sortI : List Int → List Int := sortB fun a b => decide (a < b)
def keysOf : List U → Option (List (List Int))
  | [] => some []
  | .tup xs :: r => (intsOf xs).bind fun ns => (keysOf r).map (ns :: ·)
  | _ => none
/-- sorted(xs): whole numbers; or tuples of whole numbers, the first of them empty -/
def bSorted : List U → Option U
  | [.lst xs] => match intsOf xs with
    | some ns => some (.lst ((sortI ns).map .int))
    | none => match keysOf xs with
      | some ([] :: ks) => some (.lst ((sortB lexL ([] :: ks)).map fun l => .tup (l.map .int)))
      | _ => none
  | _ => none
/-! what is walked -/
def iSeq (e : EF) : AF := fun ρ => (e ρ).bind fun x ρ1 => match x with
  | .lst xs => .ok xs ρ1
  | .tup xs => .ok xs ρ1
  | _ => .stuck
def rangeU (lo : Int) : Nat → List U
  | 0 => []
  | n + 1 => .int lo :: rangeU (lo + 1) n
def iRange1 (as : AF) : AF := fun ρ => (as ρ).bind fun xs ρ1 => match xs with
  | [.int j] => if -(2 ^ 62) ≤ j ∧ j < 2 ^ 62 then .ok (rangeU 0 j.toNat) ρ1 else .stuck
  | _ => .stuck
def iRange2 (as : AF) : AF := fun ρ => (as ρ).bind fun xs ρ1 => match xs with
  | [.int i, .int j] => if -(2 ^ 62) ≤ i ∧ i < 2 ^ 62 ∧ -(2 ^ 62) ≤ j ∧ j < 2 ^ 62 then .ok (rangeU i (j - i).toNat) ρ1 else .stuck
  | _ => .stuck
def seqU : U → Option (List U)
  | .lst xs => some xs
  | .tup xs => some xs
  | _ => none
def zipU (xs ys : List U) : List U := List.zipWith (fun x y => .tup [x, y]) xs ys
def enumU (xs : List U) : List U := zipU (rangeU 0 xs.length) xs
/-- zip of two lists, of two tuples -/
def iZip (as : AF) : AF := fun ρ => (as ρ).bind fun xs ρ1 => match xs with
  | [.lst a, .lst b] => .ok (zipU a b) ρ1
  | [.tup a, .tup b] => .ok (zipU a b) ρ1
  | _ => .stuck
/-- zip of two sequences -/
def iZip2 (as : AF) : AF := fun ρ => (as ρ).bind fun xs ρ1 => match xs with
  | [a, b] => match seqU a, seqU b with
    | some us, some ws => .ok (zipU us ws) ρ1
    | _, _ => .stuck
  | _ => .stuck
/-- list(zip(t, u)) of two tuples -/
def eListZip (as : AF) : EF := fun ρ => (as ρ).bind fun xs ρ1 => match xs with
  | [.tup a, .tup b] => .ok (.lst (zipU a b)) ρ1
  | _ => .stuck
def iEnum (as : AF) : AF := fun ρ => (as ρ).bind fun xs ρ1 => match xs with
  | [.lst a] => .ok (enumU a) ρ1
  | [.tup a] => .ok (enumU a) ρ1
  | _ => .stuck
end Q
set_option maxRecDepth 100000
/-! QBase: pure values in the abstract heap; the judgements -/
namespace Q
open PySem PySem.Spec PyProof.Rows L2
open Evl (Ex)

/-! ### pure values in the heap -/
structure Tab where
  K : PySem.W.Frag
  mg : Str → Option Value
mutual
/-- the value v is u, by what stands in G -/
def Rep (T : Tab) (G : Hp) : U → V → Prop
  | .non, v => v = .non
  | .bl b, v => v = .bl b
  | .int i, v => v = .int i
  | .str x, v => v = .str ⟨x.toArray⟩
  | .ty n, v => v = .ty n
  | .tup us, v => ∃ a vs, v = .ref a ∧ SqT T.K G a vs ∧ Reps T G us vs
  | .lst us, v => ∃ a vs, v = .ref a ∧ SqL T.K G a vs ∧ Reps T G us vs
  | .fn x, v => ∃ a, v = .ref a ∧ T.mg x = some (.ref a)
  | .dct _ _, _ => False
  | .obj _ _ _, _ => False
def Reps (T : Tab) (G : Hp) : List U → List V → Prop
  | [], vs => vs = []
  | u :: us, vs => ∃ v r, vs = v :: r ∧ Rep T G u v ∧ Reps T G us r
end
mutual
theorem Rep.mono {T : Tab} {G G' : Hp} (e : Ex G G') : ∀ (u : U) (v : V), Rep T G u v → Rep T G' u v
  | .non, _, h => h
  | .bl _, _, h => h
  | .int _, _, h => h
  | .str _, _, h => h
  | .ty _, _, h => h
  | .fn _, _, h => h
  | .dct _ _, _, h => h
  | .obj _ _ _, _, h => h
  | .tup us, v, h => by
    rw [Rep] at h ⊢
    obtain ⟨a, vs, e1, h1, h2⟩ := h
    exact ⟨a, vs, e1, Evl.ex_t e h1, Reps.mono e us vs h2⟩
  | .lst us, v, h => by
    rw [Rep] at h ⊢
    obtain ⟨a, vs, e1, h1, h2⟩ := h
    exact ⟨a, vs, e1, Evl.ex_l e h1, Reps.mono e us vs h2⟩
theorem Reps.mono {T : Tab} {G G' : Hp} (e : Ex G G') : ∀ (us : List U) (vs : List V), Reps T G us vs → Reps T G' us vs
  | [], vs, h => by
    rw [Reps] at h ⊢
    exact h
  | u :: us, vs, h => by
    rw [Reps] at h ⊢
    obtain ⟨v, r, e1, h1, h2⟩ := h
    exact ⟨v, r, e1, Rep.mono e u v h1, Reps.mono e us r h2⟩
end
section
variable {T : Tab} {G : Hp}
theorem rep_non {v : V} : Rep T G .non v ↔ v = .non := by rw [Rep]
theorem rep_bl {b : Bool} {v : V} : Rep T G (.bl b) v ↔ v = .bl b := by rw [Rep]
theorem rep_int {i : Int} {v : V} : Rep T G (.int i) v ↔ v = .int i := by rw [Rep]
theorem rep_str {x : List Nat} {v : V} : Rep T G (.str x) v ↔ v = .str ⟨x.toArray⟩ := by rw [Rep]
theorem rep_ty {n : String} {v : V} : Rep T G (.ty n) v ↔ v = .ty n := by rw [Rep]
theorem rep_tup {us : List U} {v : V} : Rep T G (.tup us) v ↔ ∃ a vs, v = .ref a ∧ SqT T.K G a vs ∧ Reps T G us vs := by rw [Rep]
theorem rep_lst {us : List U} {v : V} : Rep T G (.lst us) v ↔ ∃ a vs, v = .ref a ∧ SqL T.K G a vs ∧ Reps T G us vs := by rw [Rep]
theorem rep_dct {ks us : List U} {v : V} : Rep T G (.dct ks us) v ↔ False := by rw [Rep]
theorem rep_obj {C : Str} {ns : List Str} {us : List U} {v : V} : Rep T G (.obj C ns us) v ↔ False := by rw [Rep]
theorem rep_fn {x : Str} {v : V} : Rep T G (.fn x) v ↔ ∃ a, v = .ref a ∧ T.mg x = some (.ref a) := by rw [Rep]
theorem reps_nil {vs : List V} : Reps T G [] vs ↔ vs = [] := by rw [Reps]
theorem reps_cons {u : U} {us : List U} {vs : List V} : Reps T G (u :: us) vs ↔ ∃ v r, vs = v :: r ∧ Rep T G u v ∧ Reps T G us r := by rw [Reps]
theorem Reps.nil : Reps T G [] [] := reps_nil.2 rfl
theorem Reps.cons {u : U} {us : List U} {v : V} {vs : List V} (h : Rep T G u v) (t : Reps T G us vs) : Reps T G (u :: us) (v :: vs) := reps_cons.2 ⟨v, vs, rfl, h, t⟩
theorem Reps.length : ∀ {us : List U} {vs : List V}, Reps T G us vs → us.length = vs.length
  | [], vs, h => by
    rw [reps_nil] at h
    rw [h]
    rfl
  | u :: us, vs, h => by
    obtain ⟨v, r, rfl, _, h2⟩ := reps_cons.1 h
    rw [List.length_cons, List.length_cons, Reps.length h2]
theorem Reps.append : ∀ {us us' : List U} {vs vs' : List V}, Reps T G us vs → Reps T G us' vs' → Reps T G (us ++ us') (vs ++ vs')
  | [], us', vs, vs', h, h' => by
    rw [reps_nil] at h
    rw [h]
    exact h'
  | u :: us, us', vs, vs', h, h' => by
    obtain ⟨v, r, rfl, h1, h2⟩ := reps_cons.1 h
    exact Reps.cons h1 (Reps.append h2 h')
theorem Reps.get : ∀ {us : List U} {vs : List V} {i : Nat} {u : U}, Reps T G us vs → us[i]? = some u → ∃ v, vs[i]? = some v ∧ Rep T G u v
  | [], _, _, _, _, h => by simp at h
  | u :: us, vs, 0, w, h, e => by
    obtain ⟨v, r, rfl, h1, _⟩ := reps_cons.1 h
    simp at e
    subst e
    exact ⟨v, rfl, h1⟩
  | u :: us, vs, i + 1, w, h, e => by
    obtain ⟨v, r, rfl, _, h2⟩ := reps_cons.1 h
    exact Reps.get (i := i) h2 (by simpa using e)
theorem Reps.get' {us : List U} {vs : List V} {i : Nat} {v : V} (h : Reps T G us vs) (e : vs[i]? = some v) : ∃ u, us[i]? = some u ∧ Rep T G u v := by
  have hl : i < us.length := by
    rw [h.length]
    exact (List.getElem?_eq_some_iff.mp e).1
  obtain ⟨w, hw, r⟩ := h.get (i := i) (u := us[i]) (by simp [hl])
  rw [e] at hw
  cases hw
  exact ⟨us[i], by simp [hl], r⟩
theorem Reps.take : ∀ {us : List U} {vs : List V} (n : Nat), Reps T G us vs → Reps T G (us.take n) (vs.take n)
  | _, _, 0, _ => by
    rw [List.take_zero, List.take_zero]
    exact .nil
  | [], vs, n + 1, h => by
    rw [reps_nil] at h
    subst h
    exact .nil
  | u :: us, vs, n + 1, h => by
    obtain ⟨v, r, rfl, h1, h2⟩ := reps_cons.1 h
    exact .cons h1 (Reps.take n h2)
theorem Reps.drop : ∀ {us : List U} {vs : List V} (n : Nat), Reps T G us vs → Reps T G (us.drop n) (vs.drop n)
  | _, _, 0, h => h
  | [], vs, n + 1, h => by
    rw [reps_nil] at h
    subst h
    exact .nil
  | u :: us, vs, n + 1, h => by
    obtain ⟨v, r, rfl, h1, h2⟩ := reps_cons.1 h
    exact Reps.drop n h2
theorem Reps.set : ∀ {us : List U} {vs : List V} (n : Nat) {u : U} {v : V}, Reps T G us vs → Rep T G u v → Reps T G (us.set n u) (vs.set n v)
  | [], vs, n, _, _, h, _ => by
    rw [reps_nil] at h
    subst h
    exact .nil
  | w :: us, vs, 0, u, v, h, hr => by
    obtain ⟨x, r, rfl, _, h2⟩ := reps_cons.1 h
    exact .cons hr h2
  | w :: us, vs, n + 1, u, v, h, hr => by
    obtain ⟨x, r, rfl, h1, h2⟩ := reps_cons.1 h
    exact .cons h1 (Reps.set n h2 hr)
theorem Reps.rep {us : List U} {vs : List V} (h : Reps T G us vs) : ∀ k : Nat, Reps T G (List.replicate k us).flatten (List.replicate k vs).flatten
  | 0 => by
    rw [List.replicate_zero, List.replicate_zero]
    exact .nil
  | k + 1 => by
    rw [List.replicate_succ, List.replicate_succ, List.flatten_cons, List.flatten_cons]
    exact h.append (Reps.rep h k)
theorem Reps.reverse : ∀ {us : List U} {vs : List V}, Reps T G us vs → Reps T G us.reverse vs.reverse
  | [], vs, h => by
    rw [reps_nil] at h
    subst h
    exact .nil
  | u :: us, vs, h => by
    obtain ⟨v, r, rfl, h1, h2⟩ := reps_cons.1 h
    rw [List.reverse_cons, List.reverse_cons]
    exact (Reps.reverse h2).append (.cons h1 .nil)
theorem reps_ints : ∀ {ns : List Int}, Reps T G (ns.map U.int) (ns.map V.int)
  | [] => .nil
  | n :: ns => .cons (rep_int.2 rfl) reps_ints
theorem reps_ints' : ∀ {ns : List Int} {vs : List V}, Reps T G (ns.map U.int) vs → vs = ns.map V.int
  | [], vs, h => reps_nil.1 h
  | n :: ns, vs, h => by
    obtain ⟨v, r, rfl, h1, h2⟩ := reps_cons.1 h
    rw [rep_int.1 h1, reps_ints' h2]
    rfl
end

/-! ### the state of a body -/
/-- fixed through a body: the slots that hold lists of their own; the known part of the heap at the entry, and the whole of it; the address of the list that the body may change -/
structure Cn where
  mu : List Nat
  G0 : Hp
  H0 : Hp
  da : Option Addr
  tr : Bool
def OwnAt (T : Tab) (G H : Hp) (a : Addr) : U → Prop
  | .lst us => ∃ vs, H a = some (.lst vs) ∧ Reps T G us vs
  | _ => False
def Cn.to (c : Cn) (mu : List Nat) : Cn := { c with mu := mu }
structure R (T : Tab) (c : Cn) (G : Hp) (ρ : Sl) (σ : L2.St) (H : Hp) : Prop where
  dk : ∀ a, c.da = some a → 0 ∈ c.mu ∧ σ[0]? = some (some (.ref a)) ∧ ∃ dl, ρ[0]? = some (some (.lst dl))
  ex : Ex G H
  g0 : Ex c.G0 G
  nw : ∀ a o, c.H0 a = some o → c.G0 a = none → G a = none
  fr : ∀ a o, c.H0 a = some o → c.da ≠ some a → H a = some o
  dd : ∀ a, c.da = some a → ∃ o, H a = some o
  len : ρ.length = σ.length
  sh : ∀ i u, ρ[i]? = some (some u) → i ∉ c.mu → ∃ v, σ[i]? = some (some v) ∧ Rep T G u v
  ow : ∀ i u, ρ[i]? = some (some u) → i ∈ c.mu → ∃ a, σ[i]? = some (some (.ref a)) ∧ G a = none ∧ (c.H0 a = none ∨ c.da = some a) ∧ OwnAt T G H a u
  ap : ∀ i j u w, ρ[i]? = some (some u) → ρ[j]? = some (some w) → i ∈ c.mu → j ∈ c.mu → i ≠ j → σ[i]? ≠ σ[j]?
  lv : ∀ i v, i ∈ c.mu → σ[i]? = some (some v) → ∃ u, ρ[i]? = some (some u)
/-- what grows: the known part and the heap; nothing that stood is changed, and nothing that stood outside the known part comes to be known -/
structure Grow (G H G' H' : Hp) : Prop where
  g : Ex G G'
  e : Ex G' H'
  h : Ex H H'
  n : ∀ a o, H a = some o → G a = none → G' a = none
section
variable {T : Tab} {c : Cn} {G G' H H' : Hp} {ρ : Sl} {σ : L2.St}
theorem OwnAt.mono {a : Addr} (e : Ex G G') (h : H' a = H a) : ∀ {u : U}, OwnAt T G H a u → OwnAt T G' H' a u
  | .lst us, ⟨vs, h1, h2⟩ => ⟨vs, h.trans h1, Reps.mono e _ _ h2⟩
theorem OwnAt.at : ∀ {u : U} {a : Addr}, OwnAt T G H a u → ∃ o, H a = some o
  | .lst us, a, ⟨vs, h1, h2⟩ => ⟨_, h1⟩
theorem Grow.refl (e : Ex G H) : Grow G H G H := ⟨Ex.refl _, e, Ex.refl _, fun _ _ _ h => h⟩
theorem Grow.new {p : Addr} {o : HO} (e : Ex G H) (h : H p = none) : Grow G H (upd G p o) (upd H p o) := by
  have hg : G p = none := Evl.fresh_back e h
  refine ⟨Ex.new hg, fun a x q => ?_, Ex.new h, fun a x q z => ?_⟩
  · by_cases ha : a = p
    · subst ha
      rw [upd_same] at q ⊢
      exact q
    · rw [upd_ne ha] at q ⊢
      exact e a x q
  · rw [upd_ne (ne_of_none q h)]
    exact z
theorem Grow.trans {G1 H1 G2 H2 : Hp} (a : Grow G H G1 H1) (b : Grow G1 H1 G2 H2) : Grow G H G2 H2 :=
  ⟨a.g.trans b.g, b.e, a.h.trans b.h, fun x o q z => b.n x o (a.h x o q) (a.n x o q z)⟩
theorem R.grow (r : R T c G ρ σ H) (w : Grow G H G' H') : R T c G' ρ σ H' where
  dk := r.dk
  ex := w.e
  g0 := r.g0.trans w.g
  nw := fun a o h z => by
    by_cases hd : c.da = some a
    · obtain ⟨o', h'⟩ := r.dd a hd
      exact w.n a o' h' (r.nw a o h z)
    · exact w.n a o (r.fr a o h hd) (r.nw a o h z)
  fr := fun a o h d => w.h a o (r.fr a o h d)
  dd := fun a h => by
    obtain ⟨o, q⟩ := r.dd a h
    exact ⟨o, w.h a o q⟩
  len := r.len
  sh := fun i u h m => by
    obtain ⟨v, e1, e2⟩ := r.sh i u h m
    exact ⟨v, e1, Rep.mono w.g _ _ e2⟩
  ow := fun i u h m => by
    obtain ⟨a, e1, e2, e3, e4⟩ := r.ow i u h m
    obtain ⟨o, ho⟩ := e4.at
    exact ⟨a, e1, w.n a o ho e2, e3, e4.mono w.g ((w.h a o ho).trans ho.symm)⟩
  ap := r.ap
  lv := r.lv
/-- a slot that holds a shared value is stored -/
theorem R.store {i : Nat} {u : U} {v : V} (r : R T c G ρ σ H) (hi : i ∉ c.mu) (h : Rep T G u v) : R T c G (ρ.set i (some u)) (σ.set i (some v)) H where
  dk := fun a h => by
    obtain ⟨h1, h2, dl, h3⟩ := r.dk a h
    have h0 : i ≠ 0 := fun z => hi (z ▸ h1)
    rw [List.getElem?_set_ne h0, List.getElem?_set_ne h0]
    exact ⟨h1, h2, dl, h3⟩
  ex := r.ex
  g0 := r.g0
  nw := r.nw
  fr := r.fr
  dd := r.dd
  len := by rw [List.length_set, List.length_set, r.len]
  sh := fun j w e m => by
    by_cases hj : i = j
    · subst hj
      have hl : i < ρ.length := by
        have := (List.getElem?_eq_some_iff.mp e).1
        rwa [List.length_set] at this
      rw [List.getElem?_set_self hl] at e
      cases e
      exact ⟨v, List.getElem?_set_self (by rw [← r.len]; exact hl), h⟩
    · rw [List.getElem?_set_ne hj] at e ⊢
      exact r.sh j w e m
  ow := fun j w e m => by
    have hj : i ≠ j := fun z => hi (z ▸ m)
    rw [List.getElem?_set_ne hj] at e ⊢
    exact r.ow j w e m
  ap := fun j k w x e1 e2 m1 m2 ne => by
    have hj : i ≠ j := fun z => hi (z ▸ m1)
    have hk : i ≠ k := fun z => hi (z ▸ m2)
    rw [List.getElem?_set_ne hj] at e1 ⊢
    rw [List.getElem?_set_ne hk] at e2 ⊢
    exact r.ap j k w x e1 e2 m1 m2 ne
  lv := fun j w m e => by
    have hj : i ≠ j := fun z => hi (z ▸ m)
    rw [List.getElem?_set_ne hj] at e ⊢
    exact r.lv j w m e
/-- a slot of its own is stored anew: a list that no other slot holds -/
theorem R.storeOwn {i : Nat} {us : List U} {vs : List V} {a : Addr} (r : R T c G ρ σ H) (hi : i ∈ c.mu) (h1 : G a = none) (h2 : c.H0 a = none ∨ c.da = some a) (h3 : H a = some (.lst vs)) (h4 : Reps T G us vs)
    (h5 : ∀ j u, ρ[j]? = some (some u) → j ∈ c.mu → j ≠ i → σ[j]? ≠ some (some (.ref a))) (h0 : c.da = none ∨ i ≠ 0) : R T c G (ρ.set i (some (.lst us))) (σ.set i (some (.ref a))) H where
  dk := fun b h => by
    obtain ⟨k1, k2, dl, k3⟩ := r.dk b h
    have h0 : i ≠ 0 := by
      rcases h0 with z | z
      · rw [h] at z
        cases z
      · exact z
    rw [List.getElem?_set_ne h0, List.getElem?_set_ne h0]
    exact ⟨k1, k2, dl, k3⟩
  ex := r.ex
  g0 := r.g0
  nw := r.nw
  fr := r.fr
  dd := r.dd
  len := by rw [List.length_set, List.length_set, r.len]
  sh := fun j w e m => by
    have hj : i ≠ j := fun z => m (z ▸ hi)
    rw [List.getElem?_set_ne hj] at e ⊢
    exact r.sh j w e m
  ow := fun j w e m => by
    by_cases hj : i = j
    · subst hj
      have hl : i < ρ.length := by
        have := (List.getElem?_eq_some_iff.mp e).1
        rwa [List.length_set] at this
      rw [List.getElem?_set_self hl] at e
      cases e
      exact ⟨a, List.getElem?_set_self (by rw [← r.len]; exact hl), h1, h2, vs, h3, h4⟩
    · rw [List.getElem?_set_ne hj] at e ⊢
      exact r.ow j w e m
  ap := fun j k w x e1 e2 m1 m2 ne => by
    by_cases hj : i = j
    · subst hj
      have hl : i < ρ.length := by
        have := (List.getElem?_eq_some_iff.mp e1).1
        rwa [List.length_set] at this
      rw [List.getElem?_set_ne ne] at e2
      rw [List.getElem?_set_self (by rw [← r.len]; exact hl), List.getElem?_set_ne ne]
      exact fun z => h5 k x e2 m2 (Ne.symm ne) z.symm
    · rw [List.getElem?_set_ne hj] at e1 ⊢
      by_cases hk : i = k
      · subst hk
        have hl : i < ρ.length := by
          have := (List.getElem?_eq_some_iff.mp e2).1
          rwa [List.length_set] at this
        rw [List.getElem?_set_self (by rw [← r.len]; exact hl)]
        exact h5 j w e1 m1 (Ne.symm hj)
      · rw [List.getElem?_set_ne hk] at e2 ⊢
        exact r.ap j k w x e1 e2 m1 m2 ne
  lv := fun j w m e => by
    by_cases hj : i = j
    · subst hj
      have hl : i < σ.length := by
        have := (List.getElem?_eq_some_iff.mp e).1
        rwa [List.length_set] at this
      exact ⟨_, List.getElem?_set_self (by rw [r.len]; exact hl)⟩
    · rw [List.getElem?_set_ne hj] at e ⊢
      exact r.lv j w m e
/-- the list of a slot of its own is changed in its place -/
theorem R.mut {i : Nat} {us : List U} {vs : List V} {a : Addr} {u0 : U} (r : R T c G ρ σ H) (hi : i ∈ c.mu) (h0 : ρ[i]? = some (some u0)) (hs : σ[i]? = some (some (.ref a))) (h4 : Reps T G us vs) : R T c G (ρ.set i (some (.lst us))) σ (upd H a (.lst vs)) := by
  obtain ⟨a', e1, e2, e3, e4⟩ := r.ow i u0 h0 hi
  rw [hs] at e1
  cases e1
  have hl : i < ρ.length := (List.getElem?_eq_some_iff.mp h0).1
  have nea : ∀ {b : Addr} {o : HO}, G b = some o → b ≠ a := fun q => ne_of_none q e2
  refine ⟨fun b q => ?_, fun b o q => by rw [upd_ne (nea q)]; exact r.ex b o q, r.g0, r.nw, fun b o q d => ?_, fun b q => ?_, by rw [List.length_set, r.len], fun j w e m => ?_, fun j w e m => ?_, fun j k w x f1 f2 m1 m2 ne => ?_, fun j w m e => ?_⟩
  · obtain ⟨k1, k2, dl, k3⟩ := r.dk b q
    refine ⟨k1, k2, ?_⟩
    by_cases hz : i = 0
    · subst hz
      exact ⟨us, List.getElem?_set_self hl⟩
    · rw [List.getElem?_set_ne hz]
      exact ⟨dl, k3⟩
  · have hb : b ≠ a := by
      rintro rfl
      rcases e3 with z | z
      · rw [z] at q
        cases q
      · exact d z
    rw [upd_ne hb]
    exact r.fr b o q d
  · by_cases hb : b = a
    · subst hb
      exact ⟨_, upd_same⟩
    · rw [upd_ne hb]
      exact r.dd b q
  · have hj : i ≠ j := fun z => m (z ▸ hi)
    rw [List.getElem?_set_ne hj] at e
    exact r.sh j w e m
  · by_cases hj : i = j
    · subst hj
      rw [List.getElem?_set_self hl] at e
      cases e
      exact ⟨a, hs, e2, e3, vs, upd_same, h4⟩
    · rw [List.getElem?_set_ne hj] at e
      obtain ⟨b, f1, f2, f3, f4⟩ := r.ow j w e m
      have hb : b ≠ a := by
        rintro rfl
        exact r.ap i j u0 w h0 e hi m hj (hs.trans f1.symm)
      exact ⟨b, f1, f2, f3, f4.mono (Ex.refl _) (upd_ne hb)⟩
  · have get : ∀ {l : Nat} {y : U}, (ρ.set i (some (.lst us)))[l]? = some (some y) → ∃ y', ρ[l]? = some (some y') := fun {l y} q => by
      by_cases hq : i = l
      · subst hq
        exact ⟨u0, h0⟩
      · rw [List.getElem?_set_ne hq] at q
        exact ⟨y, q⟩
    obtain ⟨w', g1⟩ := get f1
    obtain ⟨x', g2⟩ := get f2
    exact r.ap j k w' x' g1 g2 m1 m2 ne
  · obtain ⟨u, q⟩ := r.lv j w m e
    by_cases hj : i = j
    · subst hj
      exact ⟨_, List.getElem?_set_self hl⟩
    · rw [List.getElem?_set_ne hj]
      exact ⟨u, q⟩
theorem R.notOwn {a : Addr} (r : R T c G ρ σ H) (h : H a = none) : ∀ i ∈ c.mu, σ[i]? ≠ some (some (.ref a)) := fun i m e => by
  obtain ⟨u, q⟩ := r.lv i _ m e
  obtain ⟨b, e1, _, _, e4⟩ := r.ow i u q m
  rw [e] at e1
  cases e1
  obtain ⟨o, q2⟩ := e4.at
  rw [h] at q2
  cases q2
end

/-! ### how a body ends -/
structure Fin (T : Tab) (c : Cn) (G : Hp) (ρ : Sl) (H : Hp) : Prop where
  ex : Ex G H
  g0 : Ex c.G0 G
  nw : ∀ a o, c.H0 a = some o → c.G0 a = none → G a = none
  fr : ∀ a o, c.H0 a = some o → c.da ≠ some a → H a = some o
  dk : ∀ a, c.da = some a → ∃ dl dvs, ρ[0]? = some (some (.lst dl)) ∧ H a = some (.lst dvs) ∧ Reps T G dl dvs
theorem R.fin {T : Tab} {c : Cn} {G H : Hp} {ρ : Sl} {σ : L2.St} (r : R T c G ρ σ H) : Fin T c G ρ H where
  ex := r.ex
  g0 := r.g0
  nw := r.nw
  fr := r.fr
  dk := fun a h => by
    obtain ⟨h1, h2, dl, h3⟩ := r.dk a h
    obtain ⟨b, e1, _, _, vs, e4, e5⟩ := r.ow 0 _ h3 h1
    rw [h2] at e1
    cases e1
    exact ⟨dl, vs, h3, e4, e5⟩
theorem Fin.to {T : Tab} {c : Cn} {mu : List Nat} {G H : Hp} {ρ : Sl} (f : Fin T (c.to mu) G ρ H) : Fin T c G ρ H := ⟨f.ex, f.g0, f.nw, f.fr, f.dk⟩
/-- what is told with an exception: within a try the whole state, else how the body ends -/
def XR (T : Tab) (c : Cn) (G : Hp) (ρ : Sl) (σ : L2.St) (H : Hp) : Prop := match c.tr with
  | true => R T c G ρ σ H
  | false => Fin T c G ρ H
theorem R.xr {T : Tab} {c : Cn} {G H : Hp} {ρ : Sl} {σ : L2.St} (r : R T c G ρ σ H) : XR T c G ρ σ H := by
  unfold XR
  split
  · exact r
  · exact r.fin

theorem R.fresh0 {T : Tab} {c : Cn} {G H : Hp} {ρ : Sl} {σ : L2.St} {a : Addr} (r : R T c G ρ σ H) (ha : H a = none) : c.H0 a = none ∧ c.da ≠ some a := by
  constructor
  · cases e : c.H0 a with
    | none => rfl
    | some o =>
      by_cases d : c.da = some a
      · obtain ⟨o', q⟩ := r.dd a d
        rw [ha] at q
        cases q
      · rw [r.fr a o e d] at ha
        cases ha
  · intro d
    obtain ⟨o', q⟩ := r.dd a d
    rw [ha] at q
    cases q
/-! ### the wishes -/
/-- how a result lies: by the known part, the heap, the slots -/
abbrev Rel (α β : Type) := Hp → Hp → Sl → L2.St → α → β → Prop
/-- a step of an expression: the known part grows, by what is new; what stood stands, but the slots' own lists -/
structure Stp (c : Cn) (σ : L2.St) (G H G' H' : Hp) : Prop where
  g : Ex G G'
  k : ∀ a o, H a = some o → (∀ i ∈ c.mu, σ[i]? ≠ some (some (.ref a))) → H' a = some o
  n : ∀ a o, H a = some o → G a = none → G' a = none
  d : ∀ a o, H a = some o → ∃ o', H' a = some o'
theorem Stp.refl {c : Cn} {σ : L2.St} {G H : Hp} : Stp c σ G H G H := ⟨Ex.refl _, fun _ _ h _ => h, fun _ _ _ h => h, fun _ o h => ⟨o, h⟩⟩
theorem Stp.trans {c : Cn} {σ : L2.St} {G H G1 H1 G2 H2 : Hp} (a : Stp c σ G H G1 H1) (b : Stp c σ G1 H1 G2 H2) : Stp c σ G H G2 H2 :=
  ⟨a.g.trans b.g, fun x o h m => b.k x o (a.k x o h m) m, fun x o h z => by
    obtain ⟨o', h'⟩ := a.d x o h
    exact b.n x o' h' (a.n x o h z), fun x o h => by
    obtain ⟨o', h'⟩ := a.d x o h
    exact b.d x o' h'⟩
theorem Grow.stp {c : Cn} {σ : L2.St} {G H G' H' : Hp} (w : Grow G H G' H') : Stp c σ G H G' H' := ⟨w.g, fun a o h _ => w.h a o h, w.n, fun a o h => ⟨o, w.h a o h⟩⟩
def PQ (T : Tab) (c : Cn) (W : WX) {α β : Type} (rel : Rel α β) (G H : Hp) (σ : L2.St) (r : Rs α) (Q : β → Hp → Prop) : Prop := match r with
  | .ok u ρ' => ∀ v G' H', Stp c σ G H G' H' → R T c G' ρ' σ H' → rel G' H' ρ' σ u v → Q v H'
  | .exc C ρ' => ∀ G' H' d, Stp c σ G H G' H' → XR T c G' ρ' σ H' → T.mg C = some (.ref d) → W (.ref d) none σ H'
  | .stuck => False
def tq (T : Tab) (c : Cn) (W : WX) {α β : Type} (rel : Rel α β) (f : Sl → Rs α) : L2.St → Hp → (β → Hp → Prop) → Prop := fun σ H Q => ∃ G ρ, R T c G ρ σ H ∧ PQ T c W rel G H σ (f ρ) Q
abbrev relU (T : Tab) : Rel U V := fun G _ _ _ u v => Rep T G u v
abbrev relUs (T : Tab) : Rel (List U) (List V) := fun G _ _ _ us vs => Reps T G us vs
abbrev relB : Rel Bool Bool := fun _ _ _ _ a b => a = b
/-- a new list, known to none, new since Hs -/
def relF (T : Tab) (c : Cn) (Hs : Hp) : Rel U V := fun G H ρ σ u v => ∃ a us vs, v = .ref a ∧ u = .lst us ∧ G a = none ∧ c.H0 a = none ∧ c.da ≠ some a ∧ H a = some (.lst vs) ∧ Reps T G us vs ∧ Hs a = none ∧ ∀ j ∈ c.mu, σ[j]? ≠ some (some (.ref a))
def tqF (T : Tab) (c : Cn) (W : WX) (f : EF) : TE := fun σ H Q => ∃ G ρ, R T c G ρ σ H ∧ PQ T c W (relF T c H) G H σ (f ρ) Q
section
variable {T : Tab} {c : Cn} {W : WX} {α β γ δ : Type} {rel : Rel α β} {rel' : Rel γ δ} {G G1 H H1 : Hp} {σ : L2.St} {r : Rs α}
theorem PQ.mono {Q : β → Hp → Prop} (e : Stp c σ G H G1 H1) (h : PQ T c W rel G H σ r Q) : PQ T c W rel G1 H1 σ r Q := by
  cases r with
  | ok u ρ => exact fun v G' H' e' => h v G' H' (e.trans e')
  | exc C ρ => exact fun G' H' d e' => h G' H' d (e.trans e')
  | stuck => exact h
theorem PQ.imp {Q Q' : β → Hp → Prop} (h : PQ T c W rel G H σ r Q) (k : ∀ v H, Q v H → Q' v H) : PQ T c W rel G H σ r Q' := by
  cases r with
  | ok u ρ => exact fun v G' H' e' r' l => k _ _ (h v G' H' e' r' l)
  | exc C ρ => exact h
  | stuck => exact h
/-- a first step taken out -/
theorem PQ.bind {k : α → Sl → Rs γ} {Q : δ → Hp → Prop} (h : PQ T c W rel' G H σ (r.bind k) Q) :
    PQ T c W rel G H σ r fun x H1 => ∃ G1 ρ1 u, Stp c σ G H G1 H1 ∧ R T c G1 ρ1 σ H1 ∧ rel G1 H1 ρ1 σ u x ∧ PQ T c W rel' G1 H1 σ (k u ρ1) Q := by
  cases r with
  | ok u ρ => exact fun v G' H' e r' l => ⟨G', ρ, u, e, r', l, PQ.mono e h⟩
  | exc C ρ => exact h
  | stuck => exact h
end

/-! ### weaker readings -/
section
variable {X : Cx}
theorem PE.weak {e : Expr} {t t' : TE} (h : PE X e t) (w : ∀ σ H Q, t' σ H Q → t σ H Q) : PE X e t' := ⟨fun pins s σ H Q I q => h.run pins s σ H Q I (w _ _ _ q)⟩
theorem PT.weak {e : Expr} {t t' : TT} (h : PT X e t) (w : ∀ σ H Q, t' σ H Q → t σ H Q) : PT X e t' := ⟨fun pins s σ H Q I q => h.run pins s σ H Q I (w _ _ _ q)⟩
theorem PW.weak {e : Expr} {t t' : TT} (h : PW X e t) (w : ∀ σ H Q, t' σ H Q → t σ H Q) : PW X e t' := ⟨fun wh pins s σ H Q I q => h.run wh pins s σ H Q I (w _ _ _ q)⟩
theorem PTs.weak {e : List Expr} {t t' : TT} (h : PTs X e t) (w : ∀ σ H Q, t' σ H Q → t σ H Q) : PTs X e t' := ⟨fun pins s σ H Q I q => h.run pins s σ H Q I (w _ _ _ q)⟩
theorem PA.weak {e : List Expr} {t t' : TA} (h : PA X e t) (w : ∀ σ H Q, t' σ H Q → t σ H Q) : PA X e t' := ⟨fun pos pins s σ H Q I q => h.run pos pins s σ H Q I (w _ _ _ q)⟩
theorem PO.weak {e : Option Expr} {t t' : TO} (h : PO X e t) (w : ∀ σ H Q, t' σ H Q → t σ H Q) : PO X e t' := ⟨fun pins s σ H Q I q => h.run pins s σ H Q I (w _ _ _ q)⟩
theorem PS.weak {e : Stmt} {t t' : TS} (h : PS X e t) (w : ∀ D σ H, t' D σ H → t D σ H) : PS X e t' := ⟨fun pins s σ H D I q => h.run pins s σ H D I (w _ _ _ q)⟩
theorem PSs.weak {e : List Stmt} {t t' : TS} (h : PSs X e t) (w : ∀ D σ H, t' D σ H → t D σ H) : PSs X e t' := ⟨fun pins s σ H D I q => h.run pins s σ H D I (w _ _ _ q)⟩
theorem PI.weak {tg e : Expr} {t t' : TI} (h : PI X tg e t) (w : ∀ σ H Q, t' σ H Q → t σ H Q) : PI X tg e t' := ⟨fun pins s σ H Q I q => h.run pins s σ H Q I (w _ _ _ q)⟩
theorem PG.weak {tg : Expr} {t t' : TG} (h : PG X tg t) (w : ∀ v σ H Q, t' v σ H Q → t v σ H Q) : PG X tg t' := ⟨fun pins s σ H v u Q I r q => h.run pins s σ H v u Q I r (w _ _ _ _ q)⟩
end
abbrev Cx.T (X : Cx) : Tab := ⟨X.K, X.mg⟩
/-- what a body's rules lean on -/
structure OkX (X : Cx) (CX : CXT) (W : WX) (k : Nat) : Prop where
  nd : X.N.Nodup
  calm : X.calm = true
  room : Room k X.A
  pa : ∀ σ, PassesAt CX X σ (WE W σ)
  own : PassesOwn (model X.prog X.w) X.A X.env X.xe
  tk : Takes X W

section
variable (X : Cx) (c : Cn) (W : WX)
def QE (e : Expr) (f : EF) : Prop := PE X e (tq (Cx.T X) c W (relU (Cx.T X)) f)
def QF (e : Expr) (f : EF) : Prop := PE X e (tqF (Cx.T X) c W f)
def QT (e : Expr) (f : BF) : Prop := PT X e (tq (Cx.T X) c W relB f)
def QW (e : Expr) (f : BF) : Prop := PW X e (tq (Cx.T X) c W relB f)
def QA (es : List Expr) (f : AF) : Prop := PA X es (tq (Cx.T X) c W (relUs (Cx.T X)) f)
end
end Q
set_option maxRecDepth 100000
set_option maxHeartbeats 1000000
/-! QExpr: the rules of expressions -/
namespace Q
open PySem PySem.Spec PyProof.Rows L2
open Evl (Ex)

section
variable {X : Cx} {c : Cn} {W : WX} {k : Nat} {pos : Pos}
/-! ### names, constants -/
theorem notIn {i : Nat} {l : List Nat} (h : l.contains i = false) : i ∉ l := fun m => by
  rw [List.contains_iff_mem.mpr m] at h
  cases h
theorem isIn {i : Nat} {l : List Nat} (h : l.contains i = true) : i ∈ l := List.contains_iff_mem.mp h
theorem tq_pure {T : Tab} {α β : Type} {rel : Rel α β} {f : Sl → Rs α} {u : α} {v : β} {σ : L2.St} {H : Hp} {Q : β → Hp → Prop} (hf : ∀ ρ, f ρ = .ok u ρ) (hr : ∀ G ρ, R T c G ρ σ H → rel G H ρ σ u v) (h : tq T c W rel f σ H Q) : Q v H := by
  obtain ⟨G, ρ, r, h⟩ := h
  rw [hf] at h
  exact h v G H Stp.refl r (hr G ρ r)
theorem qe_var (i : Nat) {x : Str} (hm : c.mu.contains i = false := by rfl) (hN : X.N[i]? = some x := by rfl) (hv : Vis X.env.scope x := by first | exact Or.inl rfl | exact Or.inr (Or.inl rfl) | exact Or.inr (Or.inr rfl)) (hd : (x == ("__debug__" : Str)) = false := by decide)
    (hcd : (x == ("__classdict__" : Str)) = false := by decide) : QE X c W (.Name x pos) (eV i) :=
  PE.weak (pe_var hN hv hd hcd) fun σ H Q ⟨G, ρ, r, h⟩ => by
    unfold eV at h
    split at h
    · rename_i u e
      obtain ⟨v, e1, e2⟩ := r.sh i u e (notIn hm)
      exact ⟨v, e1, h v G H Stp.refl r e2⟩
    · exact h.elim
theorem qe_c {e : Expr} {v : V} {u : U} (h : PE X e (tC v)) (hr : ∀ G, Rep (Cx.T X) G u v) : QE X c W e (eC u) := PE.weak h fun σ H Q q => tq_pure (fun _ => rfl) (fun G ρ _ => hr G) q
theorem qe_int {i : Int} {j : Nat} : QE X c W (.Constant (.int i) j pos) (eC (.int i)) := qe_c pe_int fun _ => rep_int.2 rfl
theorem qe_bl {b : Bool} {j : Nat} : QE X c W (.Constant (.bool b) j pos) (eC (.bl b)) := qe_c pe_bl fun _ => rep_bl.2 rfl
theorem qe_non {j : Nat} : QE X c W (.Constant .none j pos) (eC .non) := qe_c pe_non fun _ => rep_non.2 rfl
theorem qe_str {x : Str} {j : Nat} (y : List Nat) (h : x = ⟨y.toArray⟩ := by decide +kernel) : QE X c W (.Constant (.str x) j pos) (eC (.str y)) := qe_c pe_str fun _ => rep_str.2 (by rw [h])
/-- a whole number of the module -/
theorem qe_globI {x : Str} (i : Int) (hm : ∃ t, X.mg x = some (.int i t)) (hg : Gl X x := by rfl) (hd : (x == ("__debug__" : Str)) = false := by decide) : QE X c W (.Name x pos) (eC (.int i)) := by
  obtain ⟨t, hm⟩ := hm
  exact qe_c (pe_glob hg hm (v := .int i) ⟨t, rfl⟩ hd) fun _ => rep_int.2 rfl
/-- a def of the module, as a value -/
theorem qe_fn {x : Str} (hm : ∃ a, X.mg x = some (.ref a)) (hg : Gl X x := by rfl) (hd : (x == ("__debug__" : Str)) = false := by decide) : QE X c W (.Name x pos) (eC (.fn x)) := by
  obtain ⟨a, hm⟩ := hm
  exact qe_c (pe_glob hg hm (v := .ref a) rfl hd) fun _ => rep_fn.2 ⟨a, rfl, hm⟩
/-- a type's name, as a value -/
theorem qe_ty {x : Str} (n : String) (hm : X.mg x = none) (hv : bootBuiltins x = some (.type n)) (hg : Gl X x := by rfl) (hn : x ≠ "__name__" := by decide) (hd : (x == ("__debug__" : Str)) = false := by decide) : QE X c W (.Name x pos) (eC (.ty n)) :=
  qe_c (pe_bltn hg hm hv (v := .ty n) rfl hn hd) fun _ => rep_ty.2 rfl

/-! ### a new list is known from now on -/
theorem R.freezeF {T : Tab} {G H Hs : Hp} {ρ : Sl} {σ : L2.St} {u : U} {v : V} (r : R T c G ρ σ H) (h : relF T c Hs G H ρ σ u v) : ∃ a us vs, v = .ref a ∧ u = .lst us ∧ Hs a = none ∧ Ex G (upd G a (.lst vs)) ∧ R T c (upd G a (.lst vs)) ρ σ H ∧ Reps T (upd G a (.lst vs)) us vs := by
  obtain ⟨a, us, vs, rfl, rfl, h1, h2, h3, h4, h5, hs, h6⟩ := h
  have ex : Ex G (upd G a (.lst vs)) := Ex.new h1
  refine ⟨a, us, vs, rfl, rfl, hs, ex, ⟨r.dk, fun b o q => ?_, r.g0.trans ex, fun b o q z => ?_, r.fr, r.dd, r.len, fun i w e m => ?_, fun i w e m => ?_, r.ap, r.lv⟩, Reps.mono ex _ _ h5⟩
  · by_cases hb : b = a
    · subst hb
      rw [upd_same] at q
      cases q
      exact h4
    · rw [upd_ne hb] at q
      exact r.ex b o q
  · have hb : b ≠ a := by
      rintro rfl
      rw [h2] at q
      cases q
    rw [upd_ne hb]
    exact r.nw b o q z
  · obtain ⟨x, e1, e2⟩ := r.sh i w e m
    exact ⟨x, e1, Rep.mono ex _ _ e2⟩
  · obtain ⟨b, e1, e2, e3, e4⟩ := r.ow i w e m
    have hb : b ≠ a := by
      rintro rfl
      exact h6 i m e1
    exact ⟨b, e1, by rw [upd_ne hb]; exact e2, e3, e4.mono ex rfl⟩
theorem PQ.freeze {T : Tab} {z : Rs U} {G H : Hp} {σ : L2.St} {Q : VK} (h : PQ T c W (relU T) G H σ z Q) : PQ T c W (relF T c H) G H σ z Q := by
  cases z with
  | ok u ρ' =>
    intro v G' H' e r' l
    obtain ⟨a, us, vs, rfl, rfl, ha, ex, r2, rp⟩ := r'.freezeF l
    refine h _ _ _ ⟨e.g.trans ex, e.k, fun b o q z => ?_, e.d⟩ r2 (rep_lst.2 ⟨a, vs, rfl, .inl (.inl upd_same), rp⟩)
    rw [upd_ne (ne_of_none q ha)]
    exact e.n b o q z
  | exc C ρ' => exact h
  | stuck => exact h
theorem qe_of {e : Expr} {f : EF} (h : QF X c W e f) : QE X c W e f := PE.weak h fun _ _ _ ⟨G, ρ, r, q⟩ => ⟨G, ρ, r, q.freeze⟩
/-- new since an earlier state -/
theorem PQ.since {T : Tab} {z : Rs U} {G H G1 H1 : Hp} {σ : L2.St} {Q : VK} (e : Stp c σ G H G1 H1) (h : PQ T c W (relF T c H) G1 H1 σ z Q) : PQ T c W (relF T c H1) G1 H1 σ z Q := by
  cases z with
  | ok u ρ' =>
    intro v G' H' e' r' ⟨a, us, vs, h0, h1, h2, h3, h4, h5, h6, h7, h8⟩
    refine h v G' H' e' r' ⟨a, us, vs, h0, h1, h2, h3, h4, h5, h6, ?_, h8⟩
    cases q : H a with
    | none => rfl
    | some o =>
      obtain ⟨o', q'⟩ := e.d a o q
      rw [h7] at q'
      cases q'
  | exc C ρ' => exact h
  | stuck => exact h

/-! ### what an operation gives -/
/-- a value that may stand in what was known, or new but no list -/
def nuS (T : Tab) (G H : Hp) (z : U) (Q : VK) : Prop := ∀ v G' H', Grow G H G' H' → Rep T G' z v → Q v H'
/-- a list is new -/
def nuN (T : Tab) (G H : Hp) (z : U) (Q : VK) : Prop := match z with
  | .lst us => ∀ a vs, H a = none → Reps T G us vs → Q (.ref a) (upd H a (.lst vs))
  | z => nuS T G H z Q
theorem nuS_of {T : Tab} {G H G0 : Hp} {ρ : Sl} {σ : L2.St} {z : U} {Q : VK} (r : R T c G ρ σ H) (h : PQ T c W (relU T) G H σ (.ok z ρ) Q) : nuS T G H z Q := fun v G' H' w q => h v G' H' w.stp (r.grow w) q
theorem relF_new {T : Tab} {G H Hs : Hp} {ρ : Sl} {σ : L2.St} {us : List U} {vs : List V} {a : Addr} (r : R T c G ρ σ H) (ha : H a = none) (hr : Reps T G us vs) (hs : ∀ b o, Hs b = some o → ∃ o', H b = some o') :
    R T c G ρ σ (upd H a (.lst vs)) ∧ Stp c σ G H G (upd H a (.lst vs)) ∧ relF T c Hs G (upd H a (.lst vs)) ρ σ (.lst us) (.ref a) := by
  have h0 : c.H0 a = none := by
    cases e : c.H0 a with
    | none => rfl
    | some o =>
      by_cases d : c.da = some a
      · obtain ⟨o', q⟩ := r.dd a d
        rw [ha] at q
        cases q
      · rw [r.fr a o e d] at ha
        cases ha
  have hd : c.da ≠ some a := fun d => by
    obtain ⟨o', q⟩ := r.dd a d
    rw [ha] at q
    cases q
  have hg : G a = none := Evl.fresh_back r.ex ha
  have ne : ∀ {b : Addr} {o : HO}, H b = some o → b ≠ a := fun q => ne_of_none q ha
  refine ⟨⟨r.dk, fun b o q => ?_, r.g0, r.nw, fun b o q d => ?_, fun b q => ?_, r.len, r.sh, fun i w e m => ?_, r.ap, r.lv⟩, ⟨Ex.refl _, fun b o q _ => ?_, fun _ _ _ z => z, fun b o q => ⟨o, ?_⟩⟩, a, us, vs, rfl, rfl, hg, h0, hd, upd_same, hr, ?_, r.notOwn ha⟩
  · rw [upd_ne (ne (r.ex b o q))]
    exact r.ex b o q
  · rw [upd_ne (ne (r.fr b o q d))]
    exact r.fr b o q d
  · obtain ⟨o, q⟩ := r.dd b q
    exact ⟨o, by rw [upd_ne (ne q)]; exact q⟩
  · obtain ⟨b, e1, e2, e3, e4⟩ := r.ow i w e m
    obtain ⟨o, q⟩ := e4.at
    exact ⟨b, e1, e2, e3, e4.mono (Ex.refl _) (upd_ne (ne q))⟩
  · rw [upd_ne (ne q)]
    exact q
  · rw [upd_ne (ne q)]
    exact q
  · cases q : Hs a with
    | none => rfl
    | some o =>
      obtain ⟨o', q'⟩ := hs a o q
      rw [ha] at q'
      cases q'
theorem nuN_F {T : Tab} {G H Hs : Hp} {ρ : Sl} {σ : L2.St} {us : List U} {Q : VK} (r : R T c G ρ σ H) (hs : ∀ b o, Hs b = some o → ∃ o', H b = some o') (h : PQ T c W (relF T c Hs) G H σ (.ok (.lst us) ρ) Q) : nuN T G H (.lst us) Q := fun a vs ha hr =>
  let ⟨r2, st, l⟩ := relF_new r ha hr hs
  h _ G _ st r2 l
theorem nuN_S {T : Tab} {G H : Hp} {ρ : Sl} {σ : L2.St} {z : U} {Q : VK} (r : R T c G ρ σ H) (h : PQ T c W (relU T) G H σ (.ok z ρ) Q) : nuN T G H z Q := by
  cases z with
  | lst us =>
    intro a vs ha hr
    have gn := Grow.new (o := .lst vs) r.ex ha
    exact h _ (upd G a (.lst vs)) _ gn.stp (r.grow gn) (rep_lst.2 ⟨a, vs, rfl, .inl (.inl upd_same), Reps.mono gn.g _ _ hr⟩)
  | _ => exact fun v G' H' w q => h v G' H' w.stp (r.grow w) q

/-! ### operators -/
abbrev NU := Tab → Hp → Hp → U → VK → Prop
def r2 (nu : NU) (T : Tab) (op : U → U → Option U) : R2 := fun x y H Q => ∃ G u w z, Ex G H ∧ Rep T G u x ∧ Rep T G w y ∧ op u w = some z ∧ nu T G H z Q
def r1 (nu : NU) (T : Tab) (op : U → Option U) : V → Hp → VK → Prop := fun x H Q => ∃ G u z, Ex G H ∧ Rep T G u x ∧ op u = some z ∧ nu T G H z Q
theorem rs_ok {T : Tab} {rel : Rel U V} {G H : Hp} {σ : L2.St} {o : Option U} {ρ : Sl} {Q : VK} (h : PQ T c W rel G H σ (rs o ρ) Q) : ∃ z, o = some z ∧ PQ T c W rel G H σ (.ok z ρ) Q := by
  cases o with
  | none => exact h.elim
  | some z => exact ⟨z, rfl, h⟩
/-- two operands -/
theorem tq2 {nu : NU} {op : U → U → Option U} {fa fb : EF} {rel : Rel U V} {σ : L2.St} {H : Hp} {Q : VK}
    (hn : ∀ {G H : Hp} {ρ : Sl} {z : U}, R (Cx.T X) c G ρ σ H → PQ (Cx.T X) c W rel G H σ (.ok z ρ) Q → nu (Cx.T X) G H z Q) (h : tq (Cx.T X) c W rel (e2 op fa fb) σ H Q) :
    tOp (r2 nu (Cx.T X) op) (tq (Cx.T X) c W (relU (Cx.T X)) fa) (tq (Cx.T X) c W (relU (Cx.T X)) fb) σ H Q := by
  obtain ⟨G, ρ, r, h⟩ := h
  refine ⟨G, ρ, r, (PQ.bind (rel := relU (Cx.T X)) h).imp fun x H1 ⟨G1, ρ1, u, e1, r1, l1, h1⟩ => ?_⟩
  refine ⟨G1, ρ1, r1, (PQ.bind (rel := relU (Cx.T X)) h1).imp fun y H2 ⟨G2, ρ2, w, e2, r2, l2, h2⟩ => ?_⟩
  obtain ⟨z, hz, h3⟩ := rs_ok h2
  exact ⟨G2, u, w, z, r2.ex, Rep.mono e2.g _ _ l1, l2, hz, hn r2 h3⟩
theorem qe_bin {a b : Expr} {op : Operator} {f : U → U → Option U} {fa fb : EF} (ho : OpR X (binaryOp op) (r2 nuN (Cx.T X) f)) (ha : QE X c W a fa) (hb : QE X c W b fb) : QE X c W (.BinOp a op b pos) (e2 f fa fb) :=
  PE.weak (pe_op ho ha hb) fun _ _ _ q => tq2 nuN_S q
/-- .. whose value is a new list -/
theorem qf_bin {a b : Expr} {op : Operator} {f : U → U → Option U} {fa fb : EF} (ho : OpR X (binaryOp op) (r2 nuN (Cx.T X) f)) (ha : QE X c W a fa) (hb : QE X c W b fb) : QF X c W (.BinOp a op b pos) (e2 (lo f) fa fb) :=
  PE.weak (pe_op ho ha hb) fun σ H Q ⟨G, ρ, r, h⟩ => by
    refine ⟨G, ρ, r, (PQ.bind (rel := relU (Cx.T X)) h).imp fun x H1 ⟨G1, ρ1, u, e1, r1, l1, h1⟩ => ?_⟩
    refine ⟨G1, ρ1, r1, (PQ.bind (rel := relU (Cx.T X)) h1).imp fun y H2 ⟨G2, ρ2, w, e2, r2, l2, h2⟩ => ?_⟩
    obtain ⟨z, hz, h3⟩ := rs_ok h2
    unfold lo at hz
    split at hz
    · rename_i us e
      cases hz
      exact ⟨G2, u, w, _, r2.ex, Rep.mono e2.g _ _ l1, l2, e, nuN_F r2 (fun b o q => (e1.trans e2).d b o q) h3⟩
    · cases hz
theorem qe_un {a : Expr} {op : UnaryOp} {f : U → Option U} {fa : EF} (ho : UnR X (unaryOp op) (r1 nuN (Cx.T X) f)) (ha : QE X c W a fa) : QE X c W (.UnaryOp op a pos) (e1 f fa) :=
  PE.weak (pe_un ho ha) fun σ H Q ⟨G, ρ, r, h⟩ => by
    refine ⟨G, ρ, r, (PQ.bind (rel := relU (Cx.T X)) h).imp fun x H1 ⟨G1, ρ1, u, e1, r1, l1, h1⟩ => ?_⟩
    obtain ⟨z, hz, h3⟩ := rs_ok h1
    exact ⟨G1, u, z, r1.ex, l1, hz, nuN_S r1 h3⟩
theorem qe_cmp {a b : Expr} {op : CmpOp} {f : U → U → Option U} {fa fb : EF} (ho : OpR X (compareOp op) (r2 nuS (Cx.T X) f)) (ha : QE X c W a fa) (hb : QE X c W b fb) (hm : behindInMarks op b = false := by first | exact nomark _ | rfl) : QE X c W (.Compare a [op] [b] pos) (e2 f fa fb) :=
  PE.weak (pe_cmpR ho ha hb hm) fun _ _ _ q => tq2 (fun r h => nuS_of (G0 := c.G0) r h) q
/-- a truth value as a test -/
theorem tq_test {T : Tab} {f : EF} {σ : L2.St} {H : Hp} {Q : Bool → Hp → Prop} (h : tq T c W relB (tB f) σ H Q) : tq T c W (relU T) f σ H fun x H1 => ∃ b, x = .bl b ∧ Q b H1 := by
  obtain ⟨G, ρ, r, h⟩ := h
  refine ⟨G, ρ, r, (PQ.bind (rel := relU T) h).imp fun x H1 ⟨G1, ρ1, u, e1, r1, l1, h1⟩ => ?_⟩
  cases u with
  | bl b =>
    have l2 : x = .bl b := rep_bl.1 l1
    exact ⟨b, l2, h1 b G1 H1 Stp.refl r1 rfl⟩
  | _ => exact h1.elim
theorem qt_cmp {a b : Expr} {op : CmpOp} {f : U → U → Option U} {fa fb : EF} (ho : OpR X (compareOp op) (r2 nuS (Cx.T X) f)) (ha : QE X c W a fa) (hb : QE X c W b fb) (hm : behindInMarks op b = false := by first | exact nomark _ | rfl) : QT X c W (.Compare a [op] [b] pos) (tB (e2 f fa fb)) :=
  PT.weak (pt_cmpR ho ha hb hm) fun σ H Q q => tq2 (fun r h => nuS_of (G0 := c.G0) r h) (tq_test q)
/-- any other truth value as a test -/
theorem qt_val {e : Expr} {f : EF} (h : QE X c W e f) (he : ∀ whole, isTrue e X.env whole = (do let v ← whole; standAt e.pos; holding [v] (truthy v)) := by intro _; rfl) : QT X c W e (tB f) :=
  PT.weak (pt_val h he) fun σ H Q q => by
    show tq _ _ _ _ _ _ _ _
    exact tq_test q
/-- a op b op' c -/
theorem tqC {f f' : U → U → Option U} {fa fb fc : EF} {σ : L2.St} {H : Hp} {Q : VK} (h : tq (Cx.T X) c W (relU (Cx.T X)) (eChain f f' fa fb fc) σ H Q) :
    tChain (r2 nuS (Cx.T X) f) (r2 nuS (Cx.T X) f') (tq (Cx.T X) c W (relU (Cx.T X)) fa) (tq (Cx.T X) c W (relU (Cx.T X)) fb) (tq (Cx.T X) c W (relU (Cx.T X)) fc) σ H Q := by
  obtain ⟨G, ρ, r, h⟩ := h
  refine ⟨G, ρ, r, (PQ.bind (rel := relU (Cx.T X)) h).imp fun x H1 ⟨G1, ρ1, u, e1, r1, l1, h1⟩ => ?_⟩
  refine ⟨G1, ρ1, r1, (PQ.bind (rel := relU (Cx.T X)) h1).imp fun y H2 ⟨G2, ρ2, w, e2, r2, l2, h2⟩ => ?_⟩
  split at h2
  · rename_i hz
    refine ⟨G2, u, w, _, r2.ex, Rep.mono e2.g _ _ l1, l2, hz, fun v G' H' gw rv => ?_⟩
    have rv' : v = .bl true := rep_bl.1 rv
    subst rv'
    refine ⟨true, rfl, ?_⟩
    show tq _ _ _ _ _ _ _ _
    refine ⟨G', ρ2, r2.grow gw, (PQ.bind (rel := relU (Cx.T X)) (PQ.mono gw.stp h2)).imp fun v3 H3 ⟨G3, ρ3, x3, e3, r3, l3, h3⟩ => ?_⟩
    obtain ⟨z, hz', h4⟩ := rs_ok h3
    exact ⟨G3, w, x3, z, r3.ex, Rep.mono (gw.g.trans e3.g) _ _ l2, l3, hz', nuS_of (G0 := c.G0) r3 h4⟩
  · rename_i hz
    refine ⟨G2, u, w, _, r2.ex, Rep.mono e2.g _ _ l1, l2, hz, fun v G' H' gw rv => ?_⟩
    have rv' : v = .bl false := rep_bl.1 rv
    subst rv'
    refine ⟨false, rfl, ?_⟩
    exact h2 _ _ _ gw.stp (r2.grow gw) (rep_bl.2 rfl)
  · exact h2.elim
theorem qe_chain {a b d : Expr} {op op' : CmpOp} {f f' : U → U → Option U} {fa fb fd : EF} (ho : OpR X (compareOp op) (r2 nuS (Cx.T X) f)) (ho' : OpR X (compareOp op') (r2 nuS (Cx.T X) f')) (ha : QE X c W a fa) (hb : QE X c W b fb) (hd : QE X c W d fd)
    (hm : lastMarks [op, op'] [b, d] = false := by with_unfolding_all rfl) : QE X c W (.Compare a [op, op'] [b, d] pos) (eChain f f' fa fb fd) := PE.weak (pe_chain ho ho' ha hb hd hm) fun _ _ _ q => tqC q
theorem qt_chain {a b d : Expr} {op op' : CmpOp} {f f' : U → U → Option U} {fa fb fd : EF} (ho : OpR X (compareOp op) (r2 nuS (Cx.T X) f)) (ho' : OpR X (compareOp op') (r2 nuS (Cx.T X) f')) (ha : QE X c W a fa) (hb : QE X c W b fb) (hd : QE X c W d fd)
    (hm : lastMarks [op, op'] [b, d] = false := by with_unfolding_all rfl) : QT X c W (.Compare a [op, op'] [b, d] pos) (tB (eChain f f' fa fb fd)) := PT.weak (pt_chain ho ho' ha hb hd hm) fun _ _ _ q => tqC (tq_test q)
/-! ### and, or, not, if -/
variable {a b : Expr} {rest : List Expr} {fa fb : EF} {ta tb : BF}
theorem qe_one {op : BoolOp} (h : QE X c W a fa) : QE X c W (.BoolOp op [a] pos) fa := pe_one h
theorem qe_and (ha : QE X c W a fa) (hb : QE X c W (.BoolOp .And (b :: rest) pos) fb) : QE X c W (.BoolOp .And (a :: b :: rest) pos) (eAnd fa fb) :=
  PE.weak (pe_and ha hb) fun σ H Q ⟨G, ρ, r, h⟩ => by
    refine ⟨G, ρ, r, (PQ.bind (rel := relU (Cx.T X)) h).imp fun x H1 ⟨G1, ρ1, u, e1, r1, l1, h1⟩ => ?_⟩
    cases u with
    | bl b =>
      have l2 : x = .bl b := rep_bl.1 l1
      subst l2
      cases b with
      | true => exact ⟨true, rfl, (⟨G1, ρ1, r1, h1⟩ : tq _ _ _ _ _ _ _ _)⟩
      | false => exact ⟨false, rfl, h1 _ G1 H1 Stp.refl r1 l1⟩
    | _ => exact h1.elim
theorem qe_or (ha : QE X c W a fa) (hb : QE X c W (.BoolOp .Or (b :: rest) pos) fb) : QE X c W (.BoolOp .Or (a :: b :: rest) pos) (eOr fa fb) :=
  PE.weak (pe_or ha hb) fun σ H Q ⟨G, ρ, r, h⟩ => by
    refine ⟨G, ρ, r, (PQ.bind (rel := relU (Cx.T X)) h).imp fun x H1 ⟨G1, ρ1, u, e1, r1, l1, h1⟩ => ?_⟩
    cases u with
    | bl b =>
      have l2 : x = .bl b := rep_bl.1 l1
      subst l2
      cases b with
      | true => exact ⟨true, rfl, h1 _ G1 H1 Stp.refl r1 l1⟩
      | false => exact ⟨false, rfl, (⟨G1, ρ1, r1, h1⟩ : tq _ _ _ _ _ _ _ _)⟩
    | _ => exact h1.elim
theorem qe_not (ha : QE X c W a fa) : QE X c W (.UnaryOp .Not a pos) (eNot fa) :=
  PE.weak (pe_not ha) fun σ H Q ⟨G, ρ, r, h⟩ => by
    refine ⟨G, ρ, r, (PQ.bind (rel := relU (Cx.T X)) h).imp fun x H1 ⟨G1, ρ1, u, e1, r1, l1, h1⟩ => ?_⟩
    cases u with
    | bl b =>
      have l2 : x = .bl b := rep_bl.1 l1
      exact ⟨b, l2, h1 _ G1 H1 Stp.refl r1 (rep_bl.2 rfl)⟩
    | _ => exact h1.elim
theorem qw_and1 (ha : QT X c W a ta) : QW X c W (.BoolOp .And [a] pos) ta := pw_and1 ha
theorem qw_or1 (ha : QT X c W a ta) : QW X c W (.BoolOp .Or [a] pos) ta := pw_or1 ha
theorem qw_and (ha : QT X c W a ta) (hb : QW X c W (.BoolOp .And (b :: rest) pos) tb) : QW X c W (.BoolOp .And (a :: b :: rest) pos) (tAnd ta tb) :=
  PW.weak (pw_and ha hb) fun σ H Q ⟨G, ρ, r, h⟩ => by
    refine ⟨G, ρ, r, (PQ.bind (rel := relB) h).imp fun x H1 ⟨G1, ρ1, u, e1, r1, l1, h1⟩ => ?_⟩
    subst l1
    cases u with
    | true => exact (⟨G1, ρ1, r1, h1⟩ : tq _ _ _ _ _ _ _ _)
    | false => exact h1 false G1 H1 Stp.refl r1 rfl
theorem qw_or (ha : QT X c W a ta) (hb : QW X c W (.BoolOp .Or (b :: rest) pos) tb) : QW X c W (.BoolOp .Or (a :: b :: rest) pos) (tOr ta tb) :=
  PW.weak (pw_or ha hb) fun σ H Q ⟨G, ρ, r, h⟩ => by
    refine ⟨G, ρ, r, (PQ.bind (rel := relB) h).imp fun x H1 ⟨G1, ρ1, u, e1, r1, l1, h1⟩ => ?_⟩
    subst l1
    cases u with
    | true => exact h1 true G1 H1 Stp.refl r1 rfl
    | false => exact (⟨G1, ρ1, r1, h1⟩ : tq _ _ _ _ _ _ _ _)
theorem qt_of {e : Expr} (h : QW X c W e ta) : QT X c W e ta := h.pt
theorem qt_not (ha : QT X c W a ta) : QT X c W (.UnaryOp .Not a pos) (tNot ta) :=
  PT.weak (pt_not ha) fun σ H Q ⟨G, ρ, r, h⟩ => by
    refine ⟨G, ρ, r, (PQ.bind (rel := relB) h).imp fun x H1 ⟨G1, ρ1, u, e1, r1, l1, h1⟩ => ?_⟩
    subst l1
    exact h1 _ G1 H1 Stp.refl r1 rfl
theorem qe_if {d : Expr} (hc : QT X c W d ta) (ha : QE X c W a fa) (hb : QE X c W b fb) : QE X c W (.IfExp d a b pos) (eIf ta fa fb) :=
  PE.weak (pe_ifExp hc ha hb) fun σ H Q ⟨G, ρ, r, h⟩ => by
    refine ⟨G, ρ, r, (PQ.bind (rel := relB) h).imp fun x H1 ⟨G1, ρ1, u, e1, r1, l1, h1⟩ => ?_⟩
    subst l1
    cases u with
    | true => exact (⟨G1, ρ1, r1, h1⟩ : tq _ _ _ _ _ _ _ _)
    | false => exact (⟨G1, ρ1, r1, h1⟩ : tq _ _ _ _ _ _ _ _)
/-! ### argument lists, displays -/
variable {es : List Expr} {as : AF}
theorem qa_nil : QA X c W [] aNil := PA.weak pa_nil fun σ H Q q => tq_pure (fun _ => rfl) (fun G ρ _ => .nil) q
theorem qa_cons (ha : QE X c W a fa) (hr : QA X c W es as) (hs : starEach (a :: es) X.env = (false, eval a X.env) :: starEach es X.env := by rfl) : QA X c W (a :: es) (aCons fa as) :=
  PA.weak (pa_cons ha hr hs) fun σ H Q ⟨G, ρ, r, h⟩ => by
    refine ⟨G, ρ, r, (PQ.bind (rel := relU (Cx.T X)) h).imp fun x H1 ⟨G1, ρ1, u, e1, r1, l1, h1⟩ => ?_⟩
    refine ⟨G1, ρ1, r1, (PQ.bind (rel := relUs (Cx.T X)) h1).imp fun y H2 ⟨G2, ρ2, w, e2, r2, l2, h2⟩ => ?_⟩
    exact h2 _ G2 H2 Stp.refl r2 (.cons (Rep.mono e2.g _ _ l1) l2)
theorem small100 {n : Nat} (h : n ≤ 100000) : n ≤ sizeLine := Nat.le_trans h (by decide)
theorem qe_tup {j : Nat} (h : QA X c W es as) : QE X c W (.Tuple es j pos) (eTup as) :=
  PE.weak (pe_tup h) fun σ H Q ⟨G, ρ, r, h⟩ => by
    refine ⟨G, ρ, r, (PQ.bind (rel := relUs (Cx.T X)) h).imp fun xs H1 ⟨G1, ρ1, us, e1, r1, l1, h1⟩ => ?_⟩
    split at h1
    · rename_i hl
      rw [l1.length] at hl
      refine ⟨small100 hl, fun p hp => ?_⟩
      have gn := Grow.new (o := .tup xs) r1.ex hp
      exact h1 _ _ _ gn.stp (r1.grow gn) (rep_tup.2 ⟨p, xs, rfl, .inl (.inl upd_same), Reps.mono gn.g _ _ l1⟩)
    · exact h1.elim
theorem qf_lst (h : QA X c W es as) : QF X c W (.List es pos) (eLst as) :=
  PE.weak (pe_lst h) fun σ H Q ⟨G, ρ, r, h⟩ => by
    refine ⟨G, ρ, r, (PQ.bind (rel := relUs (Cx.T X)) h).imp fun xs H1 ⟨G1, ρ1, us, e1, r1, l1, h1⟩ => ?_⟩
    split at h1
    · rename_i hl
      rw [l1.length] at hl
      refine ⟨small100 hl, fun p hp => ?_⟩
      obtain ⟨r2, st, l2⟩ := relF_new r1 hp l1 (fun b o q => e1.d b o q)
      exact h1 _ G1 _ st r2 l2
    · exact h1.elim
theorem qe_lst (h : QA X c W es as) : QE X c W (.List es pos) (eLst as) := qe_of (qf_lst h)
/-! ### built-ins -/
def rc (nu : NU) (T : Tab) (op : List U → Option U) : List V → Hp → VK → Prop := fun xs H Q => ∃ G us z, Ex G H ∧ Reps T G us xs ∧ op us = some z ∧ nu T G H z Q
theorem tqB {nu : NU} {op : List U → Option U} {rel : Rel U V} {σ : L2.St} {H : Hp} {Q : VK} (hn : ∀ {G H : Hp} {ρ : Sl} {z : U}, R (Cx.T X) c G ρ σ H → PQ (Cx.T X) c W rel G H σ (.ok z ρ) Q → nu (Cx.T X) G H z Q)
    (h : tq (Cx.T X) c W rel (eB op as) σ H Q) : tCB (rc nu (Cx.T X) op) (tq (Cx.T X) c W (relUs (Cx.T X)) as) σ H Q := by
  obtain ⟨G, ρ, r, h⟩ := h
  refine ⟨G, ρ, r, (PQ.bind (rel := relUs (Cx.T X)) h).imp fun x H1 ⟨G1, ρ1, u, e1, r1, l1, h1⟩ => ?_⟩
  obtain ⟨z, hz, h3⟩ := rs_ok h1
  exact ⟨G1, u, z, r1.ex, l1, hz, hn r1 h3⟩
variable {x : Str} {p : Pos} {id : String} {op : List U → Option U}
theorem qe_B (hc : CallR X (.builtin id) (rc nuS (Cx.T X) op)) (hm : X.mg x = none) (hv : bootBuiltins x = some (.builtin id)) (ha : QA X c W (a :: es) as) (hg : Gl X x := by rfl) (hn : x ≠ "__name__" := by decide) (hdb : (x == ("__debug__" : Str)) = false := by decide)
    (he : starEach (a :: es) X.env = (false, eval a X.env) :: starEach es X.env := by rfl) (hpl : (backTo pos (starEach es X.env)).any (·.1) = false := by rfl) : QE X c W (.Call (.Name x p) (a :: es) [] pos) (eB op as) :=
  PE.weak (pe_callB hc hg hm hv ha hn hdb he hpl) fun _ _ _ q => tqB (fun r h => nuS_of (G0 := c.G0) r h) q
theorem qe_Ty (hc : CallR X (.type id) (rc nuN (Cx.T X) op)) (hm : X.mg x = none) (hv : bootBuiltins x = some (.type id)) (ha : QA X c W (a :: es) as) (hg : Gl X x := by rfl) (hn : x ≠ "__name__" := by decide) (hdb : (x == ("__debug__" : Str)) = false := by decide)
    (he : starEach (a :: es) X.env = (false, eval a X.env) :: starEach es X.env := by rfl) (hpl : (backTo pos (starEach es X.env)).any (·.1) = false := by rfl) : QE X c W (.Call (.Name x p) (a :: es) [] pos) (eB op as) :=
  PE.weak (pe_callTy hc hg hm hv ha hn hdb he hpl) fun _ _ _ q => tqB nuN_S q
/-- a built-in that gives a new list: sorted -/
theorem qe_BN (hc : CallR X (.builtin id) (rc nuN (Cx.T X) op)) (hm : X.mg x = none) (hv : bootBuiltins x = some (.builtin id)) (ha : QA X c W (a :: es) as) (hg : Gl X x := by rfl) (hn : x ≠ "__name__" := by decide) (hdb : (x == ("__debug__" : Str)) = false := by decide)
    (he : starEach (a :: es) X.env = (false, eval a X.env) :: starEach es X.env := by rfl) (hpl : (backTo pos (starEach es X.env)).any (·.1) = false := by rfl) : QE X c W (.Call (.Name x p) (a :: es) [] pos) (eB op as) :=
  PE.weak (pe_callB hc hg hm hv ha hn hdb he hpl) fun _ _ _ q => tqB nuN_S q
end
end Q
set_option maxRecDepth 100000
set_option maxHeartbeats 1000000
/-! QOpS: the operations are what Python does -/
namespace Q
open PySem PySem.Spec PyProof.Rows L2
open Evl (Ex)

/-! ### data -/
mutual
def toD : U → PyData
  | .non => .none
  | .bl b => .bool b
  | .int i => .int i
  | .str x => .str ⟨x.toArray⟩
  | .tup xs => .tuple (toDs xs)
  | .lst xs => .list (toDs xs)
  | _ => .dict []
def toDs : List U → List PyData
  | [] => []
  | x :: xs => toD x :: toDs xs
end
theorem toDs_map : ∀ xs : List U, toDs xs = xs.map toD
  | [] => by rw [toDs]; rfl
  | x :: xs => by rw [toDs, toDs_map xs]; rfl
theorem str_eq (x y : List Nat) : ((⟨x.toArray⟩ : Str) == ⟨y.toArray⟩) = (x == y) := by
  rw [Bool.eq_iff_iff]
  simp
mutual
theorem eqv_D : ∀ a b : U, PyData.eqv (toD a) (toD b) = eqvU a b
  | .non, b => by cases b <;> simp [toD, PyData.eqv, eqvU]
  | .bl _, b => by cases b <;> simp [toD, PyData.eqv, eqvU]
  | .int _, b => by cases b <;> simp [toD, PyData.eqv, eqvU]
  | .str x, b => by
    cases b with
    | str y => rw [toD, toD, PyData.eqv, eqvU]; exact str_eq x y
    | _ => simp [toD, PyData.eqv, eqvU]
  | .tup xs, b => by
    cases b with
    | tup ys => rw [toD, toD, PyData.eqv, eqvU]; exact eqv_Ds xs ys
    | _ => simp [toD, PyData.eqv, eqvU]
  | .lst xs, b => by
    cases b with
    | lst ys => rw [toD, toD, PyData.eqv, eqvU]; exact eqv_Ds xs ys
    | _ => simp [toD, PyData.eqv, eqvU]
  | .dct _ _, b => by cases b <;> simp [toD, PyData.eqv, eqvU]
  | .fn _, b => by cases b <;> simp [toD, PyData.eqv, eqvU]
  | .ty _, b => by cases b <;> simp [toD, PyData.eqv, eqvU]
  | .obj _ _ _, b => by cases b <;> simp [toD, PyData.eqv, eqvU]
theorem eqv_Ds : ∀ xs ys : List U, PyData.eqvAll (toDs xs) (toDs ys) = eqvUs xs ys
  | [], [] => by simp [toDs, PyData.eqvAll, eqvUs]
  | [], _ :: _ => by simp [toDs, PyData.eqvAll, eqvUs]
  | _ :: _, [] => by simp [toDs, PyData.eqvAll, eqvUs]
  | x :: xs, y :: ys => by rw [toDs, toDs, PyData.eqvAll, eqvUs, eqv_D x y, eqv_Ds xs ys]
end
mutual
theorem lay_D : ∀ a : U, plU a = true → PyData.canLay0 (toD a) = true
  | .non, _ => by simp [toD, PyData.canLay0]
  | .bl _, _ => by simp [toD, PyData.canLay0]
  | .int _, _ => by simp [toD, PyData.canLay0]
  | .str x, h => by
    rw [plU] at h
    rw [toD, PyData.canLay0]
    simpa [PyData.strOk] using h
  | .tup xs, h => by
    rw [plU] at h
    rw [toD, PyData.canLay0]
    exact lay_Ds xs h
  | .lst xs, h => by
    rw [plU] at h
    rw [toD, PyData.canLay0]
    exact lay_Ds xs h
  | .dct _ _, h => by simp [plU] at h
  | .fn _, h => by simp [plU] at h
  | .ty _, h => by simp [plU] at h
  | .obj _ _ _, h => by simp [plU] at h
theorem lay_Ds : ∀ xs : List U, plUs xs = true → PyData.canLayAll0 (toDs xs) = true
  | [], _ => by simp [toDs, PyData.canLayAll0]
  | x :: xs, h => by
    rw [plUs, Bool.and_eq_true] at h
    rw [toDs, PyData.canLayAll0, lay_D x h.1, lay_Ds xs h.2]
    rfl
end
mutual
theorem dep_D : ∀ a : U, plU a = true → PyData.depth (toD a) ≤ depU a
  | .non, _ => by simp [toD, PyData.depth]
  | .bl _, _ => by simp [toD, PyData.depth]
  | .int _, _ => by simp [toD, PyData.depth]
  | .str x, _ => by simp [toD, PyData.depth]
  | .tup xs, h => by
    rw [plU] at h
    rw [toD, PyData.depth, depU]
    have := dep_Ds xs h
    omega
  | .lst xs, h => by
    rw [plU] at h
    rw [toD, PyData.depth, depU]
    have := dep_Ds xs h
    omega
  | .dct _ _, h => by simp [plU] at h
  | .fn _, h => by simp [plU] at h
  | .ty _, h => by simp [plU] at h
  | .obj _ _ _, h => by simp [plU] at h
theorem dep_Ds : ∀ xs : List U, plUs xs = true → PyData.depthAll (toDs xs) ≤ depUs xs
  | [], _ => by simp [toDs, PyData.depthAll]
  | x :: xs, h => by
    rw [plUs, Bool.and_eq_true] at h
    rw [toDs, PyData.depthAll, depUs]
    have h1 := dep_D x h.1
    have h2 := dep_Ds xs h.2
    omega
end
mutual
theorem dp_D {T : Tab} {G : Hp} : ∀ (a : U) (v : V), plU a = true → Rep T G a v → Dp T.K G v (toD a)
  | .non, v, _, h => by rw [rep_non] at h; subst h; rw [toD]; exact .non
  | .bl b, v, _, h => by rw [rep_bl] at h; subst h; rw [toD]; exact .bl b
  | .int i, v, _, h => by rw [rep_int] at h; subst h; rw [toD]; exact .int i
  | .str x, v, _, h => by rw [rep_str] at h; subst h; rw [toD]; exact .str _
  | .tup xs, v, p, h => by
    rw [plU] at p
    obtain ⟨a, vs, rfl, h1, h2⟩ := rep_tup.1 h
    rw [toD]
    exact .tup h1 (dp_Ds xs vs p h2)
  | .lst xs, v, p, h => by
    rw [plU] at p
    obtain ⟨a, vs, rfl, h1, h2⟩ := rep_lst.1 h
    rw [toD]
    exact .lst h1 (dp_Ds xs vs p h2)
  | .dct _ _, _, p, _ => by simp [plU] at p
  | .fn _, _, p, _ => by simp [plU] at p
  | .ty _, _, p, _ => by simp [plU] at p
  | .obj _ _ _, _, p, _ => by simp [plU] at p
theorem dp_Ds {T : Tab} {G : Hp} : ∀ (xs : List U) (vs : List V), plUs xs = true → Reps T G xs vs → DpAll T.K G vs (toDs xs)
  | [], vs, _, h => by rw [reps_nil] at h; subst h; rw [toDs]; exact .nil
  | x :: xs, vs, p, h => by
    rw [plUs, Bool.and_eq_true] at p
    obtain ⟨v, r, rfl, h1, h2⟩ := reps_cons.1 h
    rw [toDs]
    exact .cons (dp_D x v p.1 h1) (dp_Ds xs r p.2 h2)
end
theorem ok_shaped {a : U} (h : okU a = true) : plU a = true ∧ SeqAt.shaped (toD a) = true := by
  unfold okU at h
  rw [Bool.and_eq_true, decide_eq_true_eq] at h
  refine ⟨h.1, ?_⟩
  unfold SeqAt.shaped
  rw [lay_D a h.1, Bool.true_and, decide_eq_true_eq]
  have := dep_D a h.1
  omega

section
variable {X : Cx} {k : Nat}
theorem hu64 {A : Around} (r : Room k A) : A.units + 65 < cLine := by have := r.un; omega
/-! ### == -/
theorem fin {pins : List (Addr × Obj)} {σ : L2.St} {s : Shared} {H : Hp} {Q : VK} {u : Value} {v : V} (I : Inv X pins σ H s) (r : RelV v u) (q : Q v H) : EP X pins σ Q u s := ⟨v, H, I, r, q⟩
theorem nuS_bl {T : Tab} {G H : Hp} {b : Bool} {Q : VK} (e : Ex G H) (h : nuS T G H (.bl b) Q) : Q (.bl b) H := h _ G H (Grow.refl e) (rep_bl.2 rfl)
theorem nuS_int {T : Tab} {G H : Hp} {b : Int} {Q : VK} (e : Ex G H) (h : nuS T G H (.int b) Q) : Q (.int b) H := h _ G H (Grow.refl e) (rep_int.2 rfl)
theorem op_uEq (hr : Room k X.A) : OpR X (compareOp .Eq) (r2 nuS (Cx.T X) uEq) := by
  intro pins s σ H x y v u Q I rx ry ⟨G, a, b, z, e, ra, rb, hz, q⟩
  have gen : okU a = true → okU b = true → Q (.bl (eqvU a b)) H → wpAny (model X.prog X.w) X.A (compareOp .Eq v u) (EP X pins σ Q) X.xe s := fun ha hb q => by
    obtain ⟨pa, sa⟩ := ok_shaped ha
    obtain ⟨pb, sb⟩ := ok_shaped hb
    refine op_eqD (by have := hu64 hr; omega) pins s σ H x y v u Q I rx ry ⟨toD a, toD b, dp_D a x pa (Rep.mono e _ _ ra), dp_D b y pb (Rep.mono e _ _ rb), sa, sb, ?_⟩
    rw [eqv_D]
    exact q
  unfold uEq at hz
  split at hz
  · rename_i i j
    cases hz
    have e1 : x = .str ⟨i.toArray⟩ := rep_str.1 ra
    have e2 : y = .str ⟨j.toArray⟩ := rep_str.1 rb
    subst e1 e2
    refine op_eq pins s σ H _ _ v u Q I rx ry ⟨rfl, ?_⟩
    rw [dec_str, str_eq]
    exact nuS_bl e q
  · split at hz
    · rename_i h
      rw [Bool.and_eq_true] at h
      cases hz
      exact gen h.1 h.2 (nuS_bl e q)
    · cases hz
theorem op_uNe (hr : Room k X.A) : OpR X (compareOp .NotEq) (r2 nuS (Cx.T X) uNe) := by
  intro pins s σ H x y v u Q I rx ry ⟨G, a, b, z, e, ra, rb, hz, q⟩
  have gen : okU a = true → okU b = true → Q (.bl (!eqvU a b)) H → wpAny (model X.prog X.w) X.A (compareOp .NotEq v u) (EP X pins σ Q) X.xe s := fun ha hb q => by
    obtain ⟨pa, sa⟩ := ok_shaped ha
    obtain ⟨pb, sb⟩ := ok_shaped hb
    refine op_neD (by have := hu64 hr; omega) pins s σ H x y v u Q I rx ry ⟨toD a, toD b, dp_D a x pa (Rep.mono e _ _ ra), dp_D b y pb (Rep.mono e _ _ rb), sa, sb, ?_⟩
    rw [eqv_D]
    exact q
  unfold uNe at hz
  split at hz
  · rename_i i j
    cases hz
    have e1 : x = .str ⟨i.toArray⟩ := rep_str.1 ra
    have e2 : y = .str ⟨j.toArray⟩ := rep_str.1 rb
    subst e1 e2
    refine op_ne pins s σ H _ _ v u Q I rx ry ⟨rfl, ?_⟩
    rw [dec_str, str_eq]
    exact nuS_bl e q
  · split at hz
    · rename_i h
      rw [Bool.and_eq_true] at h
      cases hz
      exact gen h.1 h.2 (nuS_bl e q)
    · cases hz
/-! ### in -/
theorem any_D (x : U) : ∀ xs : List U, (toDs xs).any (fun z => PyData.eqv z (toD x)) = xs.any fun z => eqvU z x
  | [] => by rw [toDs]; rfl
  | y :: ys => by rw [toDs, List.any_cons, List.any_cons, any_D x ys, eqv_D]
theorem in_core (hr : Room k X.A) {pins : List (Addr × Obj)} {s : Shared} {σ : L2.St} {H : Hp} {x y : V} {v u : Value} {a b : U} {t : Bool} (I : Inv X pins σ H s) (rx : RelV x v) (ry : RelV y u) (ra : Rep (Cx.T X) H a x) (rb : Rep (Cx.T X) H b y) (h : uInB a b = some t) :
    (∀ Q : Value → Shared → Prop, Q (.bool t) s → wpAny (model X.prog X.w) X.A (compareOp .In v u) Q X.xe s) ∧ ∀ Q : Value → Shared → Prop, Q (.bool (!t)) s → wpAny (model X.prog X.w) X.A (compareOp .NotIn v u) Q X.xe s := by
  have hu := hu64 hr
  unfold uInB at h
  split at h
  · rename_i xs
    split at h
    · rename_i hk
      rw [Bool.and_eq_true] at hk
      cases h
      obtain ⟨pa, sa⟩ := ok_shaped hk.1
      obtain ⟨pb, sb⟩ := ok_shaped hk.2
      obtain ⟨as, r1⟩ := Dp.reads I (toD a) x v (dp_D a x pa ra) rx
      obtain ⟨bs, r2⟩ := Dp.reads I (toD (.lst xs)) y u (dp_D _ y pb rb) ry
      rw [toD] at r2 sb
      exact ⟨fun Q q => SeqAt.in_list_reads r2 r1 (SeqAt.canLay_of_shaped sb) (SeqAt.canLay_of_shaped sa) (room_in_shaped sa hu) (by rw [any_D]; exact q),
        fun Q q => SeqAt.notIn_list_reads r2 r1 (SeqAt.canLay_of_shaped sb) (SeqAt.canLay_of_shaped sa) (room_in_shaped sa hu) (by rw [any_D]; exact q)⟩
    · cases h
  · rename_i xs
    split at h
    · rename_i hk
      rw [Bool.and_eq_true] at hk
      cases h
      obtain ⟨pa, sa⟩ := ok_shaped hk.1
      obtain ⟨pb, sb⟩ := ok_shaped hk.2
      obtain ⟨as, r1⟩ := Dp.reads I (toD a) x v (dp_D a x pa ra) rx
      obtain ⟨bs, r2⟩ := Dp.reads I (toD (.tup xs)) y u (dp_D _ y pb rb) ry
      rw [toD] at r2 sb
      exact ⟨fun Q q => SeqAt.in_tuple_reads r2 r1 (SeqAt.canLay_of_shaped sb) (SeqAt.canLay_of_shaped sa) (room_in_shaped sa hu) (by rw [any_D]; exact q),
        fun Q q => SeqAt.notIn_tuple_reads r2 r1 (SeqAt.canLay_of_shaped sb) (SeqAt.canLay_of_shaped sa) (room_in_shaped sa hu) (by rw [any_D]; exact q)⟩
    · cases h
  · cases h
theorem op_uIn (hr : Room k X.A) : OpR X (compareOp .In) (r2 nuS (Cx.T X) uIn) := by
  intro pins s σ H x y v u Q I rx ry ⟨G, a, b, z, e, ra, rb, hz, q⟩
  unfold uIn at hz
  obtain ⟨t, ht, rfl⟩ := Option.map_eq_some_iff.mp hz
  exact (in_core hr I rx ry (Rep.mono e _ _ ra) (Rep.mono e _ _ rb) ht).1 _ (fin (v := .bl t) I rfl (nuS_bl e q))
theorem op_uNotIn (hr : Room k X.A) : OpR X (compareOp .NotIn) (r2 nuS (Cx.T X) uNotIn) := by
  intro pins s σ H x y v u Q I rx ry ⟨G, a, b, z, e, ra, rb, hz, q⟩
  unfold uNotIn at hz
  obtain ⟨t, ht, rfl⟩ := Option.map_eq_some_iff.mp hz
  exact (in_core hr I rx ry (Rep.mono e _ _ ra) (Rep.mono e _ _ rb) ht).2 _ (fin (v := .bl !t) I rfl (nuS_bl e q))
/-! ### arithmetic -/
theorem nuN_int {T : Tab} {G H : Hp} {b : Int} {Q : VK} (e : Ex G H) (h : nuN T G H (.int b) Q) : Q (.int b) H := nuS_int e h
theorem nuN_tup {T : Tab} {G H : Hp} {us : List U} {vs : List V} {Q : VK} (e : Ex G H) (h : nuN T G H (.tup us) Q) (hr : Reps T G us vs) : ∀ p, H p = none → Q (.ref p) (upd H p (.tup vs)) := fun p hp => by
  have gn := Grow.new (o := .tup vs) e hp
  exact h _ _ _ gn (rep_tup.2 ⟨p, vs, rfl, .inl (.inl upd_same), Reps.mono gn.g _ _ hr⟩)
theorem nuN_old {T : Tab} {G H : Hp} {us : List U} {v : V} {Q : VK} (e : Ex G H) (h : nuN T G H (.tup us) Q) (hr : Rep T G (.tup us) v) : Q v H := h _ G H (Grow.refl e) hr
theorem op_catS : OpR X (binaryOp .Add) (fun x y H Q => ∃ l b xs zs, x = .ref l ∧ y = .ref b ∧ SqL X.K H l xs ∧ SqL X.K H b zs ∧ xs.length + zs.length ≤ sizeLine ∧ ∀ p, H p = none → Q (.ref p) (upd H p (.lst (xs ++ zs)))) := by
  intro pins s σ H x y v u Q I rx ry h
  obtain ⟨l, b, xs, zs, rfl, rfl, hH, hB, hz, q⟩ := h
  cases rx
  cases ry
  obtain ⟨its, r, pl, _⟩ := I.list hH
  obtain ⟨its2, r2, pl2, _⟩ := I.list hB
  obtain ⟨⟨cls, dd, data, sl⟩, ho, hc, n, hd⟩ := pl.isList
  obtain ⟨⟨cls2, dd2, data2, sl2⟩, ho2, hc2, n2, hd2⟩ := pl2.isList
  simp only at hc hd hc2 hd2
  subst hc hd hc2 hd2
  have hl := r.length
  have hl2 := r2.length
  have e : its.toArray ++ its2.toArray = (its ++ its2).toArray := by simp
  refine concat_meets ⟨_, ho, rfl⟩ ⟨_, ho2, rfl⟩ noFill_list_add seq_list_add PySem.F.slot_list_add PySem.F.entry_list_add (PySem.F.args_list_add_2 _ _) (list_addW l b its.toArray its2.toArray n n2 dd dd2 sl sl2 (by simp; omega)) ⟨ho, ho2, ?_⟩
  rw [e]
  exact ⟨.ref _, _, I.lnew (t' := s.toks) (r.append r2) (by rw [List.length_append]; omega), rfl, q _ I.fresh⟩
theorem op_uAdd : OpR X (binaryOp .Add) (r2 nuN (Cx.T X) uAdd) := by
  intro pins s σ H x y v u Q I rx ry ⟨G, a, b, z, e, ra, rb, hz, q⟩
  unfold uAdd at hz
  split at hz
  · rename_i i j
    cases hz
    exact op_add pins s σ H x y v u Q I rx ry ⟨i, j, rep_int.1 ra, rep_int.1 rb, nuN_int e q⟩
  · rename_i xs ys
    split at hz
    · rename_i hl
      cases hz
      obtain ⟨p, vs, e1, h1, h2⟩ := rep_lst.1 ra
      obtain ⟨p', vs', e2, h1', h2'⟩ := rep_lst.1 rb
      rw [h2.length, h2'.length] at hl
      exact op_catS pins s σ H x y v u Q I rx ry ⟨p, p', vs, vs', e1, e2, Evl.ex_l e h1, Evl.ex_l e h1', small100 hl, fun d hd => q d _ hd (h2.append h2')⟩
    · cases hz
  · rename_i xs ys
    split at hz
    · rename_i hl
      cases hz
      obtain ⟨p, vs, e1, h1, h2⟩ := rep_tup.1 ra
      obtain ⟨p', vs', e2, h1', h2'⟩ := rep_tup.1 rb
      rw [h2.length, h2'.length] at hl
      refine op_catA pins s σ H x y v u Q I rx ry ⟨p, p', vs, vs', e1, e2, Evl.ex_t e h1, Evl.ex_t e h1', small100 hl, fun z => ?_, fun z z' => ?_, fun z z' => nuN_tup e q (h2.append h2')⟩
      · have hx : xs = [] := by
          rw [z] at h2
          have := h2.length
          exact List.eq_nil_of_length_eq_zero this
        subst hx
        rw [← e2]
        exact nuN_old e q rb
      · have hy : ys = [] := by
          rw [z'] at h2'
          have := h2'.length
          exact List.eq_nil_of_length_eq_zero this
        subst hy
        rw [List.append_nil] at q
        rw [← e1]
        exact nuN_old e q ra
    · cases hz
  · rename_i i j
    split at hz
    · rename_i hl
      cases hz
      have e1 := rep_str.1 ra
      have e2 := rep_str.1 rb
      refine op_add_str pins s σ H x y v u Q I rx ry ⟨_, _, e1, e2, by simp [Str.length]; exact small100 hl, ?_⟩
      have e3 : (⟨i.toArray⟩ : Str) ++ (⟨j.toArray⟩ : Str) = ⟨(i ++ j).toArray⟩ := by
        show Str.mk _ = _
        simp
      rw [e3]
      exact q _ G H (Grow.refl e) (rep_str.2 rfl)
    · cases hz
  · cases hz
theorem op_uSub : OpR X (binaryOp .Sub) (r2 nuN (Cx.T X) uSub) := by
  intro pins s σ H x y v u Q I rx ry ⟨G, a, b, z, e, ra, rb, hz, q⟩
  unfold uSub at hz
  split at hz
  · rename_i i j
    cases hz
    exact op_sub pins s σ H x y v u Q I rx ry ⟨i, j, rep_int.1 ra, rep_int.1 rb, nuN_int e q⟩
  · cases hz
theorem op_uMul : OpR X (binaryOp .Mult) (r2 nuN (Cx.T X) uMul) := by
  intro pins s σ H x y v u Q I rx ry ⟨G, a, b, z, e, ra, rb, hz, q⟩
  unfold uMul at hz
  split at hz
  · rename_i i j
    split at hz
    · rename_i hc
      cases hz
      exact op_mul pins s σ H x y v u Q I rx ry ⟨i, j, rep_int.1 ra, rep_int.1 rb, hc, nuN_int e q⟩
    · cases hz
  · cases hz
theorem op_uMod : OpR X (binaryOp .Mod) (r2 nuN (Cx.T X) uMod) := by
  intro pins s σ H x y v u Q I rx ry ⟨G, a, b, z, e, ra, rb, hz, q⟩
  unfold uMod at hz
  split at hz
  · rename_i i j
    split at hz
    · rename_i hc
      cases hz
      exact op_mod pins s σ H x y v u Q I rx ry ⟨i, j, rep_int.1 ra, rep_int.1 rb, hc, nuN_int e q⟩
    · cases hz
  · cases hz
theorem op_uFdiv : OpR X (binaryOp .FloorDiv) (r2 nuN (Cx.T X) uFdiv) := by
  intro pins s σ H x y v u Q I rx ry ⟨G, a, b, z, e, ra, rb, hz, q⟩
  unfold uFdiv at hz
  split at hz
  · rename_i i j
    split at hz
    · rename_i hc
      cases hz
      exact op_fdiv pins s σ H x y v u Q I rx ry ⟨i, j, rep_int.1 ra, rep_int.1 rb, hc, nuN_int e q⟩
    · cases hz
  · cases hz
theorem op_uPow : OpR X (binaryOp .Pow) (r2 nuN (Cx.T X) uPow) := by
  intro pins s σ H x y v u Q I rx ry ⟨G, a, b, z, e, ra, rb, hz, q⟩
  unfold uPow at hz
  split at hz
  · rename_i i j
    split at hz
    · rename_i hc
      cases hz
      exact op_pow pins s σ H x y v u Q I rx ry ⟨i, j, rep_int.1 ra, rep_int.1 rb, hc, nuN_int e q⟩
    · cases hz
  · cases hz
theorem un_uNeg : UnR X (unaryOp .USub) (r1 nuN (Cx.T X) uNeg) := by
  intro pins s σ H x v Q I rx ⟨G, a, z, e, ra, hz, q⟩
  unfold uNeg at hz
  split at hz
  · rename_i i
    cases hz
    exact un_neg pins s σ H x v Q I rx ⟨i, rep_int.1 ra, nuN_int e q⟩
  · cases hz
theorem op_uLtI : OpR X (compareOp .Lt) (r2 nuS (Cx.T X) uLtI) := by
  intro pins s σ H x y v u Q I rx ry ⟨G, a, b, z, e, ra, rb, hz, q⟩
  unfold uLtI at hz
  split at hz
  · rename_i i j
    cases hz
    exact op_lt pins s σ H x y v u Q I rx ry ⟨i, j, rep_int.1 ra, rep_int.1 rb, nuS_bl e q⟩
  · cases hz
theorem op_uLeI : OpR X (compareOp .LtE) (r2 nuS (Cx.T X) uLeI) := by
  intro pins s σ H x y v u Q I rx ry ⟨G, a, b, z, e, ra, rb, hz, q⟩
  unfold uLeI at hz
  split at hz
  · rename_i i j
    cases hz
    exact op_le pins s σ H x y v u Q I rx ry ⟨i, j, rep_int.1 ra, rep_int.1 rb, nuS_bl e q⟩
  · cases hz
theorem op_uGtI : OpR X (compareOp .Gt) (r2 nuS (Cx.T X) uGtI) := by
  intro pins s σ H x y v u Q I rx ry ⟨G, a, b, z, e, ra, rb, hz, q⟩
  unfold uGtI at hz
  split at hz
  · rename_i i j
    cases hz
    exact op_gt pins s σ H x y v u Q I rx ry ⟨i, j, rep_int.1 ra, rep_int.1 rb, nuS_bl e q⟩
  · cases hz
theorem op_uGeI : OpR X (compareOp .GtE) (r2 nuS (Cx.T X) uGeI) := by
  intro pins s σ H x y v u Q I rx ry ⟨G, a, b, z, e, ra, rb, hz, q⟩
  unfold uGeI at hz
  split at hz
  · rename_i i j
    cases hz
    exact op_ge pins s σ H x y v u Q I rx ry ⟨i, j, rep_int.1 ra, rep_int.1 rb, nuS_bl e q⟩
  · cases hz
theorem op_uIsB : OpR X (compareOp .Is) (r2 nuS (Cx.T X) uIsB) := by
  intro pins s σ H x y v u Q I rx ry ⟨G, a, b, z, e, ra, rb, hz, q⟩
  unfold uIsB at hz
  split at hz
  · rename_i i j
    cases hz
    exact op_isBl pins s σ H x y v u Q I rx ry ⟨i, j, rep_bl.1 ra, rep_bl.1 rb, nuS_bl e q⟩
  · cases hz
theorem op_uNotB : OpR X (compareOp .IsNot) (r2 nuS (Cx.T X) uNotB) := by
  intro pins s σ H x y v u Q I rx ry ⟨G, a, b, z, e, ra, rb, hz, q⟩
  unfold uNotB at hz
  split at hz
  · rename_i i j
    cases hz
    exact op_notBl pins s σ H x y v u Q I rx ry ⟨i, j, rep_bl.1 ra, rep_bl.1 rb, nuS_bl e q⟩
  · cases hz
end
end Q
set_option maxRecDepth 100000
set_option maxHeartbeats 1000000
/-! QOpT: subscripts, slices, built-ins are what Python does -/
namespace Q
open PySem PySem.Spec PyProof.Rows L2
open Evl (Ex)

theorem bls_of : ∀ {xs : List U} {bs : List Bool}, blsOf xs = some bs → xs = bs.map U.bl
  | [], bs, h => by
    rw [blsOf] at h
    cases h
    rfl
  | x :: xs, bs, h => by
    cases x with
    | bl b =>
      rw [blsOf] at h
      obtain ⟨r, hr, rfl⟩ := Option.map_eq_some_iff.mp h
      rw [bls_of hr]
      rfl
    | _ => simp [blsOf] at h
theorem ints_of : ∀ {xs : List U} {bs : List Int}, intsOf xs = some bs → xs = bs.map U.int
  | [], bs, h => by
    rw [intsOf] at h
    cases h
    rfl
  | x :: xs, bs, h => by
    cases x with
    | int b =>
      rw [intsOf] at h
      obtain ⟨r, hr, rfl⟩ := Option.map_eq_some_iff.mp h
      rw [ints_of hr]
      rfl
    | _ => simp [intsOf] at h
theorem maxL_fold : ∀ (xs : List Int) (x : Int), (xs.foldl (fun a y => if a < y then y else a) x = x ∨ xs.foldl (fun a y => if a < y then y else a) x ∈ xs) ∧ x ≤ xs.foldl (fun a y => if a < y then y else a) x ∧ ∀ y ∈ xs, y ≤ xs.foldl (fun a y => if a < y then y else a) x
  | [], x => ⟨.inl rfl, Int.le_refl _, fun y h => by cases h⟩
  | z :: xs, x => by
    rw [List.foldl_cons]
    obtain ⟨h1, h2, h3⟩ := maxL_fold xs (if x < z then z else x)
    refine ⟨?_, ?_, fun y hy => ?_⟩
    · rcases h1 with h1 | h1
      · by_cases c : x < z
        · right
          rw [h1, if_pos c]
          exact List.mem_cons_self
        · left
          rw [h1, if_neg c]
      · exact .inr (List.mem_cons_of_mem _ h1)
    · refine Int.le_trans ?_ h2
      split <;> omega
    · rcases List.mem_cons.mp hy with rfl | hy
      · refine Int.le_trans ?_ h2
        split <;> omega
      · exact h3 y hy
theorem minL_fold : ∀ (xs : List Int) (x : Int), (xs.foldl (fun a y => if y < a then y else a) x = x ∨ xs.foldl (fun a y => if y < a then y else a) x ∈ xs) ∧ xs.foldl (fun a y => if y < a then y else a) x ≤ x ∧ ∀ y ∈ xs, xs.foldl (fun a y => if y < a then y else a) x ≤ y
  | [], x => ⟨.inl rfl, Int.le_refl _, fun y h => by cases h⟩
  | z :: xs, x => by
    rw [List.foldl_cons]
    obtain ⟨h1, h2, h3⟩ := minL_fold xs (if z < x then z else x)
    refine ⟨?_, ?_, fun y hy => ?_⟩
    · rcases h1 with h1 | h1
      · by_cases c : z < x
        · right
          rw [h1, if_pos c]
          exact List.mem_cons_self
        · left
          rw [h1, if_neg c]
      · exact .inr (List.mem_cons_of_mem _ h1)
    · refine Int.le_trans h2 ?_
      split <;> omega
    · rcases List.mem_cons.mp hy with rfl | hy
      · refine Int.le_trans h2 ?_
        split <;> omega
      · exact h3 y hy
theorem maxL_mem {ns : List Int} (h : ns ≠ []) : maxL ns ∈ ns := by
  cases ns with
  | nil => exact absurd rfl h
  | cons x xs =>
    rcases (maxL_fold xs x).1 with e | e
    · show xs.foldl (fun a y => if a < y then y else a) x ∈ _
      rw [e]
      exact List.mem_cons_self
    · exact List.mem_cons_of_mem _ e
theorem le_maxL {ns : List Int} {y : Int} (h : y ∈ ns) : y ≤ maxL ns := by
  cases ns with
  | nil => cases h
  | cons x xs =>
    rcases List.mem_cons.mp h with rfl | h
    · exact (maxL_fold xs y).2.1
    · exact (maxL_fold xs x).2.2 y h
theorem minL_mem {ns : List Int} (h : ns ≠ []) : minL ns ∈ ns := by
  cases ns with
  | nil => exact absurd rfl h
  | cons x xs =>
    rcases (minL_fold xs x).1 with e | e
    · show xs.foldl (fun a y => if y < a then y else a) x ∈ _
      rw [e]
      exact List.mem_cons_self
    · exact List.mem_cons_of_mem _ e
theorem minL_le {ns : List Int} {y : Int} (h : y ∈ ns) : minL ns ≤ y := by
  cases ns with
  | nil => cases h
  | cons x xs =>
    rcases List.mem_cons.mp h with rfl | h
    · exact (minL_fold xs y).2.1
    · exact (minL_fold xs x).2.2 y h

section
variable {X : Cx} {c : Cn} {W : WX} {k : Nat} {pos : Pos}
/-! ### subscripts -/
theorem reps_at {T : Tab} {G : Hp} {us : List U} {vs : List V} {i : Int} {z : U} (h : Reps T G us vs) (e : atU us i = some z) : ∃ v, atI vs i = some v ∧ Rep T G z v := by
  unfold atU at e
  unfold atI ixN
  have hl := h.length
  by_cases h0 : 0 ≤ i
  · rw [if_pos h0] at e ⊢
    obtain ⟨v, e1, e2⟩ := h.get e
    have hlt := (List.getElem?_eq_some_iff.mp e1).1
    rw [if_pos (by omega)]
    exact ⟨v, e1, e2⟩
  · rw [if_neg h0] at e ⊢
    by_cases h1 : -(us.length : Int) ≤ i
    · rw [if_pos h1] at e
      obtain ⟨v, e1, e2⟩ := h.get e
      rw [hl] at e1 h1
      rw [if_pos h1]
      exact ⟨v, e1, e2⟩
    · rw [if_neg h1] at e
      cases e
theorem ix_u : IxR X (r2 nuS (Cx.T X) uIx) := by
  intro value slice pins s σ H x y v u Q I rx ry ⟨G, a, b, z, e, ra, rb, hz, q⟩ hs
  unfold uIx at hz
  split at hz
  · rename_i xs i
    obtain ⟨p, vs, e1, h1, h2⟩ := rep_lst.1 ra
    obtain ⟨w, e3, e4⟩ := reps_at h2 hz
    exact ix_list value slice pins s σ H x y v u Q I rx ry ⟨p, vs, i, w, e1, rep_int.1 rb, Evl.ex_l e h1, e3, q w G H (Grow.refl e) e4⟩ hs
  · rename_i xs i
    obtain ⟨p, vs, e1, h1, h2⟩ := rep_tup.1 ra
    obtain ⟨w, e3, e4⟩ := reps_at h2 hz
    exact ix_tup value slice pins s σ H x y v u Q I rx ry ⟨p, vs, i, w, e1, rep_int.1 rb, Evl.ex_t e h1, e3, q w G H (Grow.refl e) e4⟩ hs
  · cases hz
theorem qe_ix {a b : Expr} {fa fb : EF} (ha : QE X c W a fa) (hb : QE X c W b fb) (hs : PlainIx b := by exact fun _ _ => rfl) : QE X c W (.Subscript a b pos) (e2 uIx fa fb) :=
  PE.weak (pe_ix ix_u ha hb hs) fun _ _ _ q => tq2 (fun r h => nuS_of (G0 := c.G0) r h) q
/-! ### slices -/
theorem sx_eq (n d : Nat) (o : Option Int) : HT.sIx n d o = sxU n d o := by cases o <;> rfl
theorem reps_cut {T : Tab} {G : Hp} {us : List U} {vs : List V} (h : Reps T G us vs) (lo hi : Option Int) : Reps T G (cutU us lo hi) (cutV vs lo hi) := by
  unfold cutU cutV
  rw [sx_eq, sx_eq, h.length]
  exact (h.drop _).take _
def rSlU (T : Tab) : V → Option Int → Option Int → Hp → VK → Prop := fun x lo hi H Q => ∃ G u z, Ex G H ∧ Rep T G u x ∧ uSl u lo hi = some z ∧ nuN T G H z Q
theorem sl_u : SlR X (rSlU (Cx.T X)) := by
  intro pins s σ H x v vl vu lo hi sl Q I rx hs pl pu ⟨G, a, z, e, ra, hz, q⟩
  unfold uSl at hz
  split at hz
  · rename_i xs
    cases hz
    obtain ⟨p, vs, e1, h1, h2⟩ := rep_lst.1 ra
    exact sl_list pins s σ H x v vl vu lo hi sl Q I rx hs pl pu ⟨p, vs, e1, Evl.ex_l e h1, fun d hd => q d _ hd (reps_cut h2 lo hi)⟩
  · rename_i xs
    cases hz
    obtain ⟨p, vs, e1, h1, h2⟩ := rep_tup.1 ra
    refine sl_tupA pins s σ H x v vl vu lo hi sl Q I rx hs pl pu ⟨p, vs, e1, Evl.ex_t e h1, fun w => ?_, fun w => nuN_tup e q (reps_cut h2 lo hi)⟩
    have hc : cutU xs lo hi = xs := by
      unfold cutU
      rw [← sx_eq, ← sx_eq, h2.length, w.1, w.2]
      rw [List.drop_zero, ← h2.length]
      exact List.take_of_length_le (by omega)
    rw [hc] at q
    rw [← e1]
    exact nuN_old e q ra
  · cases hz
abbrev relO : Rel (Option Int) (Option Int) := fun _ _ _ _ a b => a = b
def QO (X : Cx) (c : Cn) (W : WX) (e : Option Expr) (f : OF) : Prop := PO X e (tq (Cx.T X) c W relO f)
theorem qo_no : QO X c W none oNo := PO.weak po_none fun σ H Q q => tq_pure (fun _ => rfl) (fun G ρ _ => rfl) q
theorem qo_some {e : Expr} {f : EF} (h : QE X c W e f) : QO X c W (some e) (oSome f) :=
  PO.weak (po_some h) fun σ H Q ⟨G, ρ, r, h⟩ => by
    refine ⟨G, ρ, r, (PQ.bind (rel := relU (Cx.T X)) h).imp fun x H1 ⟨G1, ρ1, u, e1, r1, l1, h1⟩ => ?_⟩
    cases u with
    | int i => exact ⟨i, rep_int.1 l1, h1 _ G1 H1 Stp.refl r1 rfl⟩
    | _ => exact h1.elim
theorem qe_sl {e : Expr} {lo hi : Option Expr} {f : EF} {l h : OF} {p2 : Pos} (he : QE X c W e f) (hl : QO X c W lo l) (hh : QO X c W hi h) : QE X c W (.Subscript e (.Slice lo hi none p2) pos) (eSl f l h) :=
  PE.weak (pe_slice sl_u he hl hh) fun σ H Q ⟨G, ρ, r, h⟩ => by
    refine ⟨G, ρ, r, (PQ.bind (rel := relU (Cx.T X)) h).imp fun x H1 ⟨G1, ρ1, u, e1, r1, l1, h1⟩ => ?_⟩
    refine ⟨G1, ρ1, r1, (PQ.bind (rel := relO) h1).imp fun x2 H2 ⟨G2, ρ2, u2, e2, r2, l2, h2⟩ => ?_⟩
    refine ⟨G2, ρ2, r2, (PQ.bind (rel := relO) h2).imp fun x3 H3 ⟨G3, ρ3, u3, e3, r3, l3, h3⟩ => ?_⟩
    subst l2 l3
    obtain ⟨z, hz, h4⟩ := rs_ok h3
    exact ⟨G3, u, z, r3.ex, Rep.mono (e2.g.trans e3.g) _ _ l1, hz, nuN_S r3 h4⟩
/-! ### built-ins -/
theorem reps1 {T : Tab} {G : Hp} {u : U} {vs : List V} (h : Reps T G [u] vs) : ∃ v, vs = [v] ∧ Rep T G u v := by
  obtain ⟨v, r, e, h1, h2⟩ := reps_cons.1 h
  rw [reps_nil] at h2
  subst h2
  exact ⟨v, e, h1⟩
theorem reps2 {T : Tab} {G : Hp} {u w : U} {vs : List V} (h : Reps T G [u, w] vs) : ∃ v x, vs = [v, x] ∧ Rep T G u v ∧ Rep T G w x := by
  obtain ⟨v, r, e, h1, h2⟩ := reps_cons.1 h
  obtain ⟨x, rfl, h3⟩ := reps1 h2
  exact ⟨v, x, e, h1, h3⟩
theorem c_len : CallR X (.builtin "len") (rc nuS (Cx.T X) bLen) := by
  intro pins s σ H xs us Q I r ⟨G, ws, z, e, hr, hz, q⟩
  unfold bLen at hz
  split at hz
  · cases hz
    obtain ⟨v, e1, h1⟩ := reps1 hr
    obtain ⟨p, vs, e2, h2, h3⟩ := rep_lst.1 h1
    subst e1 e2
    rw [h3.length] at q
    exact call_len_seq pins s σ H _ us Q I r ⟨p, vs, rfl, .inl (Evl.ex_l e h2), nuS_int e q⟩
  · cases hz
    obtain ⟨v, e1, h1⟩ := reps1 hr
    obtain ⟨p, vs, e2, h2, h3⟩ := rep_tup.1 h1
    subst e1 e2
    rw [h3.length] at q
    exact call_len_seq pins s σ H _ us Q I r ⟨p, vs, rfl, .inr (Evl.ex_t e h2), nuS_int e q⟩
  · cases hz
theorem tyX_of {T : Tab} {G H : Hp} (e : Ex G H) {u : U} {v : V} {t : String} (h : Rep T G u v) (ht : tyOf u = some t) : TyX T.K H v (.type t) := by
  cases u with
  | non =>
    cases ht
    rw [rep_non.1 h]
    exact .base .non
  | bl b =>
    cases ht
    rw [rep_bl.1 h]
    exact .base (.bl b)
  | int i =>
    cases ht
    rw [rep_int.1 h]
    exact .base (.int i)
  | str x =>
    cases ht
    rw [rep_str.1 h]
    exact .base (.str _)
  | tup us =>
    cases ht
    obtain ⟨a, vs, rfl, h1, _⟩ := rep_tup.1 h
    rcases h1 with (h1 | ⟨o, h1⟩) | ⟨o, its, n, hk, hc, _⟩
    · exact .base (.tup (e _ _ h1))
    · exact .fTuple (e _ _ h1)
    · exact .kTuple hk hc
  | lst us =>
    cases ht
    obtain ⟨a, vs, rfl, h1, _⟩ := rep_lst.1 h
    rcases h1 with (h1 | ⟨o, h1⟩) | ⟨o, its, n, hk, hc, _⟩
    · exact .base (.lst (e _ _ h1))
    · exact .base (.frz (e _ _ h1))
    · exact .kList hk hc
  | _ => cases ht
theorem kit_all : (["NoneType", "bool", "int", "str", "tuple", "list"].all fun t => ["int", "bool", "str", "list", "tuple"].all fun T => kitB t T == some (t == T || (t == "bool" && T == "int"))) = true := by decide +kernel
theorem kit_at {t T : String} (ht : t ∈ ["NoneType", "bool", "int", "str", "tuple", "list"]) (hT : T ∈ ["int", "bool", "str", "list", "tuple"]) : kitB t T = some (t == T || (t == "bool" && T == "int")) := by
  have h := kit_all
  rw [List.all_eq_true] at h
  have h2 := h t ht
  rw [List.all_eq_true] at h2
  exact beq_iff_eq.mp (h2 T hT)
theorem ty_in {u : U} {t : String} (h : tyOf u = some t) : t ∈ ["NoneType", "bool", "int", "str", "tuple", "list"] := by
  cases u <;> simp [tyOf] at h <;> subst h <;> decide
theorem c_isInst : CallR X (.builtin "isinstance") (rc nuS (Cx.T X) bIsInst) := by
  intro pins s σ H xs us Q I r ⟨G, ws, z, e, hr, hz, q⟩
  unfold bIsInst at hz
  split at hz
  · rename_i x T
    obtain ⟨t, ht, h2⟩ := Option.bind_eq_some_iff.mp hz
    split at h2
    · rename_i hT
      cases h2
      obtain ⟨v, w, e1, h1, h3⟩ := reps2 hr
      rw [rep_ty] at h3
      subst e1 h3
      have hT' : T ∈ ["int", "bool", "str", "list", "tuple"] := by simpa using hT
      exact call_isi pins s σ H _ us Q I r ⟨v, .ty T, .type t, .type T, _, rfl, .ty T, tyX_of e h1 ht, kit_ty (kit_at (ty_in ht) hT'), nuS_bl e q⟩
    · cases h2
  · cases hz
theorem reps_bls {T : Tab} {G : Hp} : ∀ {bs : List Bool} {vs : List V}, Reps T G (bs.map U.bl) vs → vs = bs.map V.bl
  | [], vs, h => reps_nil.1 h
  | n :: ns, vs, h => by
    obtain ⟨v, r, rfl, h1, h2⟩ := reps_cons.1 h
    rw [rep_bl.1 h1, reps_bls h2]
    rfl
theorem c_all (hc : X.calm = true) : CallR X (.builtin "all") (rc nuS (Cx.T X) bAll) := by
  intro pins s σ H xs us Q I r ⟨G, ws, z, e, hr, hz, q⟩
  unfold bAll at hz
  split at hz
  · rename_i ys
    obtain ⟨bs, hb, rfl⟩ := Option.map_eq_some_iff.mp hz
    obtain ⟨v, e1, h1⟩ := reps1 hr
    rw [bls_of hb] at h1
    obtain ⟨p, vs, e2, h2, h3⟩ := rep_lst.1 h1
    subst e1 e2
    rw [reps_bls h3] at h2
    exact cr_all hc pins s σ H _ us Q I r ⟨p, bs, rfl, Evl.ex_l e h2, nuS_bl e q⟩
  · cases hz
theorem c_any (hc : X.calm = true) : CallR X (.builtin "any") (rc nuS (Cx.T X) bAny) := by
  intro pins s σ H xs us Q I r ⟨G, ws, z, e, hr, hz, q⟩
  unfold bAny at hz
  split at hz
  · rename_i ys
    obtain ⟨bs, hb, rfl⟩ := Option.map_eq_some_iff.mp hz
    obtain ⟨v, e1, h1⟩ := reps1 hr
    rw [bls_of hb] at h1
    obtain ⟨p, vs, e2, h2, h3⟩ := rep_lst.1 h1
    subst e1 e2
    rw [reps_bls h3] at h2
    exact cr_any hc pins s σ H _ us Q I r ⟨p, bs, rfl, Evl.ex_l e h2, nuS_bl e q⟩
  · cases hz
theorem c_sum (hc : X.calm = true) : CallR X (.builtin "sum") (rc nuS (Cx.T X) bSum) := by
  intro pins s σ H xs us Q I r ⟨G, ws, z, e, hr, hz, q⟩
  unfold bSum at hz
  split at hz
  · rename_i ys
    obtain ⟨bs, hb, rfl⟩ := Option.map_eq_some_iff.mp hz
    obtain ⟨v, e1, h1⟩ := reps1 hr
    rw [ints_of hb] at h1
    obtain ⟨p, vs, e2, h2, h3⟩ := rep_lst.1 h1
    subst e1 e2
    rw [reps_ints' h3] at h2
    exact cr_sum hc pins s σ H _ us Q I r ⟨p, bs, rfl, Evl.ex_l e h2, nuS_int e q⟩
  · rename_i ys
    obtain ⟨bs, hb, rfl⟩ := Option.map_eq_some_iff.mp hz
    obtain ⟨v, e1, h1⟩ := reps1 hr
    rw [ints_of hb] at h1
    obtain ⟨p, vs, e2, h2, h3⟩ := rep_tup.1 h1
    subst e1 e2
    rw [reps_ints' h3] at h2
    obtain ⟨its, rv, ht, _⟩ := I.tuple (Evl.ex_t e h2)
    rw [Vals.ref1 r]
    obtain ⟨ys', hx⟩ := rv.ints.allInts.items
    have hn : numsOf (intItems ys').toList = bs := by rw [← hx]; exact rv.ints.numsOf
    rw [nums_intItems] at hn
    rw [hx] at ht
    refine PySem.W.ktm_sumG (I.ok.hd hc) ht fun h' tk t' hk => ?_
    rw [preSum_eq, List.take_of_length_le (by simp), hn]
    exact ⟨.int bs.sum, H, I.kept hk, ⟨_, rfl⟩, nuS_int e q⟩
  · cases hz
theorem holds_ints {h : Heap} : ∀ {us : List Value} {ns : List Int}, IntsAre us ns → PySem.W.HoldAll h us ns := by
  intro us ns hi
  induction hi with
  | nil => exact ⟨_, ReadsAll.nil⟩
  | cons n t _ ih =>
    obtain ⟨as, q⟩ := ih
    exact ⟨_, ReadsAll.cons (Reads.int n t) q⟩
theorem c_max (hc : X.calm = true) (hr : Room k X.A) : CallR X (.builtin "max") (rc nuS (Cx.T X) bMax1) := by
  intro pins s σ H xs us Q I r ⟨G, ws, z, e, hrr, hz, q⟩
  unfold bMax1 at hz
  split at hz
  · rename_i ys
    obtain ⟨bs, hb, h2⟩ := Option.bind_eq_some_iff.mp hz
    split at h2
    · cases h2
    · rename_i h0
      cases h2
      obtain ⟨v, e1, h1⟩ := reps1 hrr
      rw [ints_of hb] at h1
      obtain ⟨p, vs, e2, h2, h3⟩ := rep_lst.1 h1
      subst e1 e2
      rw [reps_ints' h3] at h2
      have hne : bs ≠ [] := fun z => h0 (by rw [z]; rfl)
      refine cr_max hc pins s σ H _ us Q I r ⟨p, bs, rfl, Evl.ex_l e h2, Nat.pos_of_ne_zero h0, fun m hm1 hm2 => ?_⟩
      have : m = maxL bs := Int.le_antisymm (le_maxL hm1) (hm2 _ (maxL_mem hne))
      subst this
      exact nuS_int e q
  · rename_i ys
    obtain ⟨bs, hb, h2⟩ := Option.bind_eq_some_iff.mp hz
    split at h2
    · cases h2
    · rename_i h0
      cases h2
      obtain ⟨v, e1, h1⟩ := reps1 hrr
      rw [ints_of hb] at h1
      obtain ⟨p, vs, e2, h2, h3⟩ := rep_tup.1 h1
      subst e1 e2
      rw [reps_ints' h3] at h2
      obtain ⟨its, rv, ht, _⟩ := I.tuple (Evl.ex_t e h2)
      rw [Vals.ref1 r]
      cases bs with
      | nil => exact absurd rfl h0
      | cons b bs =>
        refine PySem.W.max_tuple_datum (α := Int) (x := b) (xs := bs) (I.ok.hd hc) ht (holds_ints rv.ints) (by have := hu64 hr; show X.A.units + 1 + 0 < _; omega) fun i v h' tk hi ⟨as, hv⟩ hk => ?_
        have e3 : PySem.W.maxOf b bs = maxL (b :: bs) := by
          unfold PySem.W.maxOf maxL
          congr 1
          funext a y
          show (if decide (a < y) = true then y else a) = _
          simp
        rw [e3] at hv
        cases hv with
        | int _ t => exact ⟨.int _, H, I.kept hk, ⟨_, rfl⟩, nuS_int e q⟩
  · cases hz
theorem c_min (hc : X.calm = true) (hr : Room k X.A) : CallR X (.builtin "min") (rc nuS (Cx.T X) bMin1) := by
  intro pins s σ H xs us Q I r ⟨G, ws, z, e, hrr, hz, q⟩
  unfold bMin1 at hz
  split at hz
  · rename_i ys
    obtain ⟨bs, hb, h2⟩ := Option.bind_eq_some_iff.mp hz
    split at h2
    · cases h2
    · rename_i h0
      cases h2
      obtain ⟨v, e1, h1⟩ := reps1 hrr
      rw [ints_of hb] at h1
      obtain ⟨p, vs, e2, h2, h3⟩ := rep_lst.1 h1
      subst e1 e2
      rw [reps_ints' h3] at h2
      have hne : bs ≠ [] := fun z => h0 (by rw [z]; rfl)
      refine cr_min hc pins s σ H _ us Q I r ⟨p, bs, rfl, Evl.ex_l e h2, Nat.pos_of_ne_zero h0, fun m hm1 hm2 => ?_⟩
      have : m = minL bs := Int.le_antisymm (hm2 _ (minL_mem hne)) (minL_le hm1)
      subst this
      exact nuS_int e q
  · rename_i ys
    obtain ⟨bs, hb, h2⟩ := Option.bind_eq_some_iff.mp hz
    split at h2
    · cases h2
    · rename_i h0
      cases h2
      obtain ⟨v, e1, h1⟩ := reps1 hrr
      rw [ints_of hb] at h1
      obtain ⟨p, vs, e2, h2, h3⟩ := rep_tup.1 h1
      subst e1 e2
      rw [reps_ints' h3] at h2
      obtain ⟨its, rv, ht, _⟩ := I.tuple (Evl.ex_t e h2)
      rw [Vals.ref1 r]
      cases bs with
      | nil => exact absurd rfl h0
      | cons b bs =>
        refine PySem.W.min_tuple_datum (α := Int) (x := b) (xs := bs) (I.ok.hd hc) ht (holds_ints rv.ints) (by have := hu64 hr; show X.A.units + 1 + 0 < _; omega) fun i v h' tk hi ⟨as, hv⟩ hk => ?_
        have e3 : PySem.W.minOf b bs = minL (b :: bs) := by
          unfold PySem.W.minOf minL
          congr 1
          funext a y
          show (if decide (y < a) = true then y else a) = _
          simp
        rw [e3] at hv
        cases hv with
        | int _ t => exact ⟨.int _, H, I.kept hk, ⟨_, rfl⟩, nuS_int e q⟩
  · cases hz
theorem c_max2 (hc : X.calm = true) : CallR X (.builtin "max") (rc nuS (Cx.T X) bMax2) := by
  intro pins s σ H xs us Q I r ⟨G, ws, z, e, hr, hz, q⟩
  unfold bMax2 at hz
  split at hz
  · rename_i i j
    cases hz
    obtain ⟨v, w, e1, h1, h3⟩ := reps2 hr
    rw [rep_int] at h1 h3
    subst e1 h1 h3
    exact call_max2 hc pins s σ H _ us Q I r ⟨i, j, rfl, nuS_int e q⟩
  · cases hz
theorem c_min2 (hc : X.calm = true) : CallR X (.builtin "min") (rc nuS (Cx.T X) bMin2) := by
  intro pins s σ H xs us Q I r ⟨G, ws, z, e, hr, hz, q⟩
  unfold bMin2 at hz
  split at hz
  · rename_i i j
    cases hz
    obtain ⟨v, w, e1, h1, h3⟩ := reps2 hr
    rw [rep_int] at h1 h3
    subst e1 h1 h3
    exact call_min2 hc pins s σ H _ us Q I r ⟨i, j, rfl, nuS_int e q⟩
  · cases hz
theorem c_int : CallR X (.type "int") (rc nuN (Cx.T X) bInt) := by
  intro pins s σ H xs us Q I r ⟨G, ws, z, e, hr, hz, q⟩
  unfold bInt at hz
  split at hz
  · rename_i i
    cases hz
    obtain ⟨v, e1, h1⟩ := reps1 hr
    rw [rep_int] at h1
    subst e1 h1
    exact call_int1 pins s σ H _ us Q I r (.inl ⟨i, rfl, nuN_int e q⟩)
  · rename_i b
    cases hz
    obtain ⟨v, e1, h1⟩ := reps1 hr
    rw [rep_bl] at h1
    subst e1 h1
    exact call_int1 pins s σ H _ us Q I r (.inr ⟨b, rfl, nuN_int e q⟩)
  · cases hz
theorem c_list : CallR X (.type "list") (rc nuN (Cx.T X) bList) := by
  intro pins s σ H xs us Q I r ⟨G, ws, z, e, hr, hz, q⟩
  unfold bList at hz
  split at hz
  · cases hz
    obtain ⟨v, e1, h1⟩ := reps1 hr
    obtain ⟨p, vs, e2, h2, h3⟩ := rep_lst.1 h1
    subst e1 e2
    exact call_list_of pins s σ H _ us Q I r ⟨p, vs, rfl, .inl (Evl.ex_l e h2), fun d hd => q d _ hd h3⟩
  · cases hz
    obtain ⟨v, e1, h1⟩ := reps1 hr
    obtain ⟨p, vs, e2, h2, h3⟩ := rep_tup.1 h1
    subst e1 e2
    exact call_list_of pins s σ H _ us Q I r ⟨p, vs, rfl, .inr (Evl.ex_t e h2), fun d hd => q d _ hd h3⟩
  · cases hz
theorem c_tuple : CallR X (.type "tuple") (rc nuN (Cx.T X) bTuple) := by
  intro pins s σ H xs us Q I r ⟨G, ws, z, e, hr, hz, q⟩
  unfold bTuple at hz
  split at hz
  · cases hz
    obtain ⟨v, e1, h1⟩ := reps1 hr
    obtain ⟨p, vs, e2, h2, h3⟩ := rep_lst.1 h1
    subst e1 e2
    exact call_tuple_of pins s σ H _ us Q I r ⟨p, vs, rfl, .inl ⟨Evl.ex_l e h2, nuN_tup e q h3⟩⟩
  · cases hz
    obtain ⟨v, e1, h1⟩ := reps1 hr
    obtain ⟨p, vs, e2, h2, h3⟩ := rep_tup.1 h1
    subst e1
    have q' := nuN_old e q h1
    subst e2
    exact call_tuple_of pins s σ H _ us Q I r ⟨p, vs, rfl, .inr ⟨Evl.ex_t e h2, q'⟩⟩
  · cases hz
end
end Q
set_option maxRecDepth 100000
set_option maxHeartbeats 1000000
/-! QStmt: statements, loops, comprehensions, calls, defs -/
namespace Q
open PySem PySem.Spec PyProof.Rows L2
open Evl (Ex)

/-- the slots' own lists, but those of mu', are known from now on -/
theorem R.freeze {T : Tab} {c : Cn} {G H : Hp} {ρ : Sl} {σ : L2.St} (r : R T c G ρ σ H) (mu' : List Nat) (hs : ∀ i ∈ mu', i ∈ c.mu) (h0 : c.da = none ∨ 0 ∈ mu') : ∃ G', Ex G G' ∧ R T (c.to mu') G' ρ σ H ∧ ∀ a o, G' a = some o → G a = none → ∃ i u, i ∈ c.mu ∧ ρ[i]? = some (some u) ∧ σ[i]? = some (some (.ref a)) := by
  classical
  let S : Addr → Prop := fun a => ∃ i u, i ∈ c.mu ∧ i ∉ mu' ∧ ρ[i]? = some (some u) ∧ σ[i]? = some (some (.ref a))
  let G' : Hp := fun a => if S a then H a else G a
  have hS : ∀ a, S a → G a = none ∧ c.H0 a = none := fun a ⟨i, u, m, m', e, e'⟩ => by
    obtain ⟨b, f1, f2, f3, f4⟩ := r.ow i u e m
    rw [e'] at f1
    cases f1
    refine ⟨f2, ?_⟩
    rcases f3 with z | z
    · exact z
    · exfalso
      obtain ⟨k1, k2, dl, k3⟩ := r.dk a z
      have h00 : 0 ∈ mu' := by
        rcases h0 with q | q
        · rw [z] at q
          cases q
        · exact q
      have hi : i ≠ 0 := fun q => m' (q ▸ h00)
      exact r.ap i 0 u _ e k3 m k1 hi (e'.trans k2.symm)
  have gs : ∀ a, S a → G' a = H a := fun a s => if_pos s
  have gn : ∀ a, ¬ S a → G' a = G a := fun a s => if_neg s
  have ex : Ex G G' := fun a o q => by
    by_cases s : S a
    · rw [(hS a s).1] at q
      cases q
    · rw [gn a s]
      exact q
  refine ⟨G', ex, ⟨fun a h => ?_, fun a o q => ?_, r.g0.trans ex, fun a o q z => ?_, r.fr, r.dd, r.len, fun i u e m => ?_, fun i u e m => ?_, fun i j u w e1 e2 m1 m2 ne => r.ap i j u w e1 e2 (hs i m1) (hs j m2) ne, fun i v m e => r.lv i v (hs i m) e⟩, fun a o q z => ?_⟩
  · obtain ⟨h1, h2, dl, h3⟩ := r.dk a h
    refine ⟨?_, h2, dl, h3⟩
    rcases h0 with q | q
    · exact absurd ((show c.da = some a from h).symm.trans q) (by simp)
    · exact q
  · by_cases s : S a
    · rw [gs a s] at q
      exact q
    · rw [gn a s] at q
      exact r.ex a o q
  · by_cases s : S a
    · have := (hS a s).2
      have q' : c.H0 a = some o := q
      rw [this] at q'
      cases q'
    · rw [gn a s]
      exact r.nw a o q z
  · by_cases m2 : i ∈ c.mu
    · obtain ⟨b, f1, f2, f3, f4⟩ := r.ow i u e m2
      have s : S b := ⟨i, u, m2, m, e, f1⟩
      cases u with
      | lst us =>
        obtain ⟨vs, g1, g2⟩ := f4
        exact ⟨.ref b, f1, rep_lst.2 ⟨b, vs, rfl, .inl (.inl ((gs b s).trans g1)), Reps.mono ex _ _ g2⟩⟩
      | _ => exact f4.elim
    · obtain ⟨v, f1, f2⟩ := r.sh i u e m2
      exact ⟨v, f1, Rep.mono ex _ _ f2⟩
  · obtain ⟨b, f1, f2, f3, f4⟩ := r.ow i u e (hs i m)
    have s : ¬ S b := fun ⟨j, w, n1, n2, e1, e2⟩ => by
      have ne : j ≠ i := fun q => n2 (q ▸ m)
      exact r.ap j i w u e1 e n1 (hs i m) ne (e2.trans f1.symm)
    exact ⟨b, f1, by rw [gn b s]; exact f2, f3, f4.mono ex rfl⟩
  · by_cases s : S a
    · obtain ⟨i, u, m, _, e, e'⟩ := s
      exact ⟨i, u, m, e, e'⟩
    · rw [gn a s, z] at q
      cases q
/-- back to the wider list of own slots: not possible; a result in the narrower context serves a return -/
def retR (T : Tab) (fr : Bool) (H0 : Hp) (da : Option Addr) (G H : Hp) (u : U) (v : V) : Prop := match fr with
  | false => Rep T G u v
  | true => ∃ a us vs, v = .ref a ∧ u = .lst us ∧ G a = none ∧ H0 a = none ∧ da ≠ some a ∧ H a = some (.lst vs) ∧ Reps T G us vs
def PFl (T : Tab) (c : Cn) (W : WX) (fr : Bool) (G : Hp) (f : Fl) (D : Ends) : Prop := match f with
  | .next ρ' => ∀ σ' G' H', Ex G G' → R T c G' ρ' σ' H' → D.nx σ' H'
  | .brk ρ' => ∀ σ' G' H', Ex G G' → R T c G' ρ' σ' H' → D.bk σ' H'
  | .cont ρ' => ∀ σ' G' H', Ex G G' → R T c G' ρ' σ' H' → D.ct σ' H'
  | .ret u ρ' => ∀ v G' H', Ex G G' → Fin T c G' ρ' H' → retR T fr c.H0 c.da G' H' u v → D.rt v H'
  | .exc C ρ' => ∀ σ' G' H' d, Ex G G' → XR T c G' ρ' σ' H' → T.mg C = some (.ref d) → W (.ref d) none σ' H'
  | .stuck => False
def tqs (T : Tab) (c : Cn) (W : WX) (fr : Bool) (f : SF) : TS := fun D σ H => ∃ G ρ, R T c G ρ σ H ∧ PFl T c W fr G (f ρ) D
section
variable {T : Tab} {c : Cn} {W : WX} {fr : Bool} {G G1 : Hp} {f : Fl} {D D' : Ends}
theorem PFl.mono (e : Ex G G1) (h : PFl T c W fr G f D) : PFl T c W fr G1 f D := by
  cases f with
  | next ρ => exact fun σ' G' H' e' => h σ' G' H' (e.trans e')
  | brk ρ => exact fun σ' G' H' e' => h σ' G' H' (e.trans e')
  | cont ρ => exact fun σ' G' H' e' => h σ' G' H' (e.trans e')
  | ret u ρ => exact fun v G' H' e' => h v G' H' (e.trans e')
  | exc C ρ => exact fun σ' G' H' d e' => h σ' G' H' d (e.trans e')
  | stuck => exact h
/-- an expression first -/
theorem PFl.of {α β : Type} {rel : Rel α β} {r : Rs α} {k : α → Sl → Fl} {σ : L2.St} {H : Hp} (h : PFl T c W fr G (.of r k) D) :
    PQ T c W rel G H σ r fun x H1 => ∃ G1 ρ1 u, Stp c σ G H G1 H1 ∧ R T c G1 ρ1 σ H1 ∧ rel G1 H1 ρ1 σ u x ∧ PFl T c W fr G1 (k u ρ1) D := by
  cases r with
  | ok u ρ => exact fun v G' H' e r' l => ⟨G', ρ, u, e, r', l, PFl.mono e.g h⟩
  | exc C ρ => exact fun G' H' d e r' => h σ G' H' d e.g r'
  | stuck => exact h
end
section
variable (X : Cx) (c : Cn) (W : WX) (fr : Bool)
def QS (st : Stmt) (f : SF) : Prop := PS X st (tqs (Cx.T X) c W fr f)
def QSs (st : List Stmt) (f : SF) : Prop := PSs X st (tqs (Cx.T X) c W fr f)
/-- a target: sl its slots -/
def tqg (T : Tab) (c : Cn) (sl : List Nat) (g : TgF) : TG := fun v σ H Q => ∃ G ρ u ρ', R T c G ρ σ H ∧ Rep T G u v ∧ g u ρ = some ρ' ∧ ∀ σ', R T c G ρ' σ' H → σ'.length = σ.length → (∀ i, i ∉ sl → σ'[i]? = σ[i]?) → Q σ' H
def tqgs (T : Tab) (c : Cn) (sl : List Nat) (g : TgsF) : TGs := fun vs σ H Q => ∃ G ρ us ρ', R T c G ρ σ H ∧ Reps T G us vs ∧ g us ρ = some ρ' ∧ ∀ σ', R T c G ρ' σ' H → σ'.length = σ.length → (∀ i, i ∉ sl → σ'[i]? = σ[i]?) → Q σ' H
def QG (sl : List Nat) (tg : Expr) (g : TgF) : Prop := PG X tg (tqg (Cx.T X) c sl g)
def QGs (sl : List Nat) (tgs : List Expr) (g : TgsF) : Prop := PGs X tgs (tqgs (Cx.T X) c sl g)
end
section
variable {X : Cx} {c : Cn} {W : WX} {k : Nat} {fr : Bool} {pos : Pos} {st : Stmt} {rest : List Stmt} {f g : SF} {e : Expr} {fe : EF}
theorem qs_nil : QSs X c W fr [] sNil := PSs.weak pss_nil fun D σ H ⟨G, ρ, r, h⟩ => h σ G H (Ex.refl _) r
theorem tqs_seq {D : Ends} {σ : L2.St} {H : Hp} (h : tqs (Cx.T X) c W fr (sSeq f g) D σ H) : tSeq (tqs (Cx.T X) c W fr f) (tqs (Cx.T X) c W fr g) D σ H := by
  obtain ⟨G, ρ, r, h⟩ := h
  refine ⟨G, ρ, r, ?_⟩
  unfold sSeq at h
  generalize f ρ = z at h ⊢
  cases z with
  | next ρ1 => exact fun σ' G' H' e r' => ⟨G', ρ1, r', PFl.mono e h⟩
  | brk ρ1 => exact h
  | cont ρ1 => exact h
  | ret u ρ1 => exact h
  | exc C ρ1 => exact h
  | stuck => exact h
theorem qs_cons (h1 : QS X c W fr st f) (h2 : QSs X c W fr rest g) : QSs X c W fr (st :: rest) (sSeq f g) := PSs.weak (pss_cons h1 h2) fun D σ H h => tqs_seq h
theorem qs_one (h1 : QS X c W fr st f) : QSs X c W fr [st] f := pss_one h1
theorem qs_pass : QS X c W fr (.Pass pos) sNil := PS.weak ps_pass fun D σ H ⟨G, ρ, r, h⟩ => h σ G H (Ex.refl _) r
theorem qs_break : QS X c W fr (.Break pos) sBreak := PS.weak ps_break fun D σ H ⟨G, ρ, r, h⟩ => h σ G H (Ex.refl _) r
theorem qs_cont : QS X c W fr (.Continue pos) sCont := PS.weak ps_continue fun D σ H ⟨G, ρ, r, h⟩ => h σ G H (Ex.refl _) r
theorem qs_expr (he : QE X c W e fe) (hs : swapsWith e none pos.line X.env = pure false := by rfl) : QS X c W fr (.Expr e pos) (sExpr fe) :=
  PS.weak (ps_expr he hs) fun D σ H ⟨G, ρ, r, h⟩ => ⟨G, ρ, r, (PFl.of (rel := relU (Cx.T X)) h).imp fun x H1 ⟨G1, ρ1, u, e1, r1, l1, h1⟩ => h1 σ G1 H1 (Ex.refl _) r1⟩
/-! ### return -/
/-- return e: the lists of its own are known from now on -/
theorem qs_ret (mu' : List Nat) (he : QE X (c.to mu') W e fe) (ht : c.tr = false := by rfl) (hs : (mu'.all fun i => c.mu.contains i) = true := by rfl) (h0 : c.da = none ∨ (0 : Nat) ∈ mu' := by first | exact .inr (by decide) | exact .inl rfl | assumption) : QS X c W false (.Return (some e) pos) (sRet fe) :=
  PS.weak (ps_ret he) fun D σ H ⟨G, ρ, r, h⟩ => by
    have hs' : ∀ i ∈ mu', i ∈ c.mu := fun i hi => isIn (List.all_eq_true.mp hs i hi)
    obtain ⟨G', eg, r', _⟩ := r.freeze mu' hs' h0
    refine ⟨G', ρ, r', ?_⟩
    unfold sRet at h
    generalize fe ρ = z at h ⊢
    cases z with
    | ok u ρ' => exact fun v G2 H2 e2 r2 l => h v G2 H2 (eg.trans e2.g) r2.fin.to l
    | exc C ρ' =>
      intro G2 H2 d e2 r2 hm
      refine h σ G2 H2 d (eg.trans e2.g) ?_ hm
      unfold XR at r2 ⊢
      rw [show (c.to mu').tr = false from ht] at r2
      rw [ht]
      exact r2.to
    | stuck => exact h
/-- return e, e a new list -/
theorem qs_retF (he : QF X c W e fe) : QS X c W true (.Return (some e) pos) (sRet fe) :=
  PS.weak (ps_ret he) fun D σ H ⟨G, ρ, r, h⟩ => by
    refine ⟨G, ρ, r, ?_⟩
    unfold sRet at h
    generalize fe ρ = z at h ⊢
    cases z with
    | ok u ρ' => exact fun v G2 H2 e2 r2 ⟨a, us, vs, h1, h2, h3, h4, h5, h6, h7, h8, h9⟩ => h v G2 H2 e2.g r2.fin ⟨a, us, vs, h1, h2, h3, h4, h5, h6, h7⟩
    | exc C ρ' => exact fun G2 H2 d e2 r2 hm => h σ G2 H2 d e2.g r2 hm
    | stuck => exact h
/-- return x, x a list of its own -/
theorem qs_retM (i : Nat) {x : Str} {p : Pos} (hm : c.mu.contains i = true := by rfl) (h0 : c.da = none ∨ i ≠ 0 := by first | exact .inr (by decide) | exact .inl rfl | assumption) (hN : X.N[i]? = some x := by rfl)
    (hv : Vis X.env.scope x := by first | exact Or.inl rfl | exact Or.inr (Or.inl rfl) | exact Or.inr (Or.inr rfl)) (hd : (x == ("__debug__" : Str)) = false := by decide) (hcd : (x == ("__classdict__" : Str)) = false := by decide) :
    QS X c W true (.Return (some (.Name x p)) pos) (sRet (eV i)) :=
  PS.weak (ps_ret (pe_var hN hv hd hcd)) fun D σ H ⟨G, ρ, r, h⟩ => by
    unfold sRet eV at h
    split at h
    · rename_i u e
      obtain ⟨a, e1, e2, e3, e4⟩ := r.ow i u e (isIn hm)
      cases u with
      | lst us =>
        obtain ⟨vs, e5, e6⟩ := e4
        have hn : c.da ≠ some a := fun q => by
          obtain ⟨k1, k2, dl, k3⟩ := r.dk a q
          have hi : i ≠ 0 := by
            rcases h0 with z | z
            · rw [z] at q
              cases q
            · exact z
          exact r.ap i 0 _ _ e k3 (isIn hm) k1 hi (e1.trans k2.symm)
        have hz : c.H0 a = none := by
          rcases e3 with z | z
          · exact z
          · exact absurd z hn
        exact ⟨.ref a, e1, h (.ref a) G H (Ex.refl _) r.fin ⟨a, us, vs, rfl, rfl, e2, hz, hn, e5, e6⟩⟩
      | _ => exact e4.elim
    · exact h.elim
theorem qs_retN : QS X c W false (.Return none pos) sRetN := PS.weak ps_retN fun D σ H ⟨G, ρ, r, h⟩ => h .non G H (Ex.refl _) r.fin (rep_non.2 rfl : Rep (Cx.T X) G .non .non)
/-! ### targets, assignments -/
theorem qg_name (ok : X.N.Nodup) (i : Nat) {x : Str} (hm : c.mu.contains i = false := by rfl) (hi : X.N[i]? = some x := by rfl) (hx : Loc X.env.scope x := by first | exact Or.inl rfl | exact Or.inr rfl) (hf : X.fn x = true ∨ X.env.scope.names.lookup x = some .local := by first | exact .inl rfl | exact .inr rfl) :
    QG X c [i] (.Name x pos) (gN i) :=
  PG.weak (pg_name ok hi hx hf) fun v σ H Q ⟨G, ρ, u, ρ', r, l, e, h⟩ => by
    cases e
    exact h _ (r.store (notIn hm) l) (List.length_set ..) fun j hj => List.getElem?_set_ne (fun z => hj (by simp [z]))
theorem qgs_nil : QGs X c [] [] gsNil :=
  show PGs _ _ _ from ⟨fun pins s σ H vs us Q I r h => pgs_nil.run pins s σ H vs us Q I r (by
    obtain ⟨G, ρ, ws, ρ', rr, l, e, h⟩ := h
    cases ws with
    | nil =>
      cases e
      exact ⟨reps_nil.1 l, h σ rr rfl fun _ _ => rfl⟩
    | cons w ws => cases e)⟩
theorem qgs_cons {s1 s2 : List Nat} {e : Expr} {es : List Expr} {g : TgF} {gs : TgsF} (h1 : QG X c s1 e g) (h2 : QGs X c s2 es gs) (hs : (assignEach (e :: es) X.env).map (·.2) = assign e X.env :: (assignEach es X.env).map (·.2) := by rfl) : QGs X c (s1 ++ s2) (e :: es) (gsCons g gs) :=
  show PGs _ _ _ from ⟨fun pins s σ H vs us Q I r h => (pgs_cons h1 h2 hs).run pins s σ H vs us Q I r (by
    obtain ⟨G, ρ, ws, ρ', rr, l, e, h⟩ := h
    unfold gsCons at e
    cases ws with
    | nil => cases e
    | cons w ws =>
      obtain ⟨v, vr, rfl, l1, l2⟩ := reps_cons.1 l
      simp only at e
      split at e
      · rename_i ρ1 e1
        refine ⟨v, vr, rfl, G, ρ, w, ρ1, rr, l1, e1, fun σ' r' hl ha => ?_⟩
        refine ⟨G, ρ1, ws, ρ', r', l2, e, fun σ2 r2 hl2 ha2 => h σ2 r2 (hl2.trans hl) fun i hi => ?_⟩
        rw [List.mem_append, not_or] at hi
        exact (ha2 i hi.2).trans (ha i hi.1)
      · cases e)⟩
theorem gs_len {s : List Nat} : True := trivial
theorem qg_tup {sl : List Nat} {es : List Expr} {k : Nat} {n : Nat} {gs : TgsF} (hc : X.calm = true) (h : QGs X c sl es gs) (hg : ∀ us ρ ρ', gs us ρ = some ρ' → us.length = n) (hn : (assignEach es X.env).length = n := by rfl) (hst : (assignEach es X.env).findIdx? (·.1) = none := by rfl) :
    QG X c sl (.Tuple es k pos) (gT gs) :=
  PG.weak (pg_tup hc h hn hst) fun v σ H Q ⟨G, ρ, u, ρ', r, l, e, h⟩ => by
    unfold gT at e
    split at e
    · rename_i us
      obtain ⟨a, vs, rfl, h1, h2⟩ := rep_tup.1 l
      exact ⟨a, vs, rfl, Evl.ex_t r.ex h1, h2.length.symm.trans (hg _ _ _ e), G, ρ, us, ρ', r, h2, e, h⟩
    · cases e
theorem gl_nil : ∀ us ρ ρ', gsNil us ρ = some ρ' → us.length = 0 := fun us ρ ρ' h => by
  cases us with
  | nil => rfl
  | cons a b => cases h
theorem gl_cons {n : Nat} {g : TgF} {gs : TgsF} (h : ∀ us ρ ρ', gs us ρ = some ρ' → us.length = n) : ∀ us ρ ρ', gsCons g gs us ρ = some ρ' → us.length = n + 1 := fun us ρ ρ' e => by
  unfold gsCons at e
  cases us with
  | nil => cases e
  | cons a b =>
    simp only at e
    split at e
    · rw [List.length_cons, h _ _ _ e]
    · cases e
/-- target = e -/
theorem qs_asg {tg : Expr} {sl : List Nat} {g : TgF} (he : QE X c W e fe) (hg : QG X c sl tg g) (hs : swapsWithSole [tg] e pos.line X.env = pure false := by rfl) (hw : swappedStores [tg] e X.env = pure none := by rfl)
    (h1 : (assignEach [tg] X.env).map (·.2) = [assign tg X.env] := by rfl) : QS X c W fr (.Assign [tg] e pos) (sAsg fe g) :=
  PS.weak (ps_asg he hg hs hw h1) fun D σ H ⟨G, ρ, r, h⟩ => by
    refine ⟨G, ρ, r, (PFl.of (rel := relU (Cx.T X)) h).imp fun x H1 ⟨G1, ρ1, u, e1, r1, l1, h1⟩ => ?_⟩
    split at h1
    · rename_i ρ2 e2
      exact ⟨G1, ρ1, u, ρ2, r1, l1, e2, fun σ' r' _ _ => h1 σ' G1 H1 (Ex.refl _) r'⟩
    · exact h1.elim
/-- x = e -/
theorem qs_set (ok : X.N.Nodup) (i : Nat) {x : Str} {p : Pos} (he : QE X c W e fe) (hm : c.mu.contains i = false := by rfl) (hi : X.N[i]? = some x := by rfl) (hx : Loc X.env.scope x := by first | exact Or.inl rfl | exact Or.inr rfl)
    (hs : swapsWith e (some (.Name x p)) pos.line X.env = pure false := by rfl) (hf : X.fn x = true ∨ X.env.scope.names.lookup x = some .local := by first | exact .inl rfl | exact .inr rfl) : QS X c W fr (.Assign [.Name x p] e pos) (sSet i fe) :=
  PS.weak (ps_set ok hi hx he hs hf) fun D σ H ⟨G, ρ, r, h⟩ => by
    refine ⟨G, ρ, r, (PFl.of (rel := relU (Cx.T X)) h).imp fun x H1 ⟨G1, ρ1, u, e1, r1, l1, h1⟩ => ?_⟩
    exact h1 _ G1 H1 (Ex.refl _) (r1.store (notIn hm) l1)
/-- x = e, e a new list, x a slot of its own -/
theorem tqF_set {i : Nat} {D : Ends} {σ : L2.St} {H : Hp} (hm : c.mu.contains i = true) (h0 : c.da = none ∨ i ≠ 0) (h : tqs (Cx.T X) c W fr (sSet i fe) D σ H) : tAsg (tqF (Cx.T X) c W fe) (gName i) D σ H := by
  obtain ⟨G, ρ, r, h⟩ := h
  refine ⟨G, ρ, r, (PFl.of (rel := relF (Cx.T X) c H) h).imp fun x H1 ⟨G1, ρ1, u, e1, r1, ⟨a, us, vs, q1, q2, l1, l2, l3, l4, l5, l6, l7⟩, h1⟩ => ?_⟩
  subst q1 q2
  exact h1 _ G1 H1 (Ex.refl _) (r1.storeOwn (isIn hm) l1 (.inl l2) l4 l5 (fun j u q m ne => l7 j m) h0)
theorem qs_setF (ok : X.N.Nodup) (i : Nat) {x : Str} {p : Pos} (he : QF X c W e fe) (hm : c.mu.contains i = true := by rfl) (h0 : c.da = none ∨ i ≠ 0 := by first | exact .inr (by decide) | exact .inl rfl | assumption) (hi : X.N[i]? = some x := by rfl) (hx : Loc X.env.scope x := by first | exact Or.inl rfl | exact Or.inr rfl)
    (hs : swapsWith e (some (.Name x p)) pos.line X.env = pure false := by rfl) (hf : X.fn x = true ∨ X.env.scope.names.lookup x = some .local := by first | exact .inl rfl | exact .inr rfl) : QS X c W fr (.Assign [.Name x p] e pos) (sSet i fe) :=
  PS.weak (ps_set ok hi hx he hs hf) fun D σ H h => tqF_set hm h0 h
/-- x op= e -/
theorem qs_aug (ok : X.N.Nodup) (i : Nat) {x : Str} {p : Pos} {op : Operator} {o : U → U → Option U} (ho : OpR X (inplaceOp op) (r2 nuN (Cx.T X) o)) (he : QE X c W e fe) (hm : c.mu.contains i = false := by rfl) (hi : X.N[i]? = some x := by rfl) (hx : Loc X.env.scope x := by first | exact Or.inl rfl | exact Or.inr rfl)
    (hf : X.fn x = true ∨ X.env.scope.names.lookup x = some .local := by first | exact .inl rfl | exact .inr rfl) : QS X c W fr (.AugAssign (.Name x p) op e pos) (sAug i o fe) :=
  PS.weak (ps_aug ok hi hx he ho hf) fun D σ H ⟨G, ρ, r, h⟩ => by
    unfold sAug at h
    split at h
    · rename_i u e
      obtain ⟨v, e1, e2⟩ := r.sh i u e (notIn hm)
      refine ⟨v, e1, G, ρ, r, (PFl.of (rel := relU (Cx.T X)) h).imp fun x H1 ⟨G1, ρ1, w, e3, r1, l1, h1⟩ => ?_⟩
      split at h1
      · rename_i z ez
        exact ⟨G1, u, w, z, r1.ex, Rep.mono e3.g _ _ e2, l1, ez, nuN_S (c := c) (W := fun _ _ _ _ => False) (ρ := ρ1) (σ := σ) r1 fun v2 G2 H2 s2 r2 l2 => h1 _ G2 H2 s2.g (r2.store (notIn hm) l2)⟩
      · exact h1.elim
    · exact h.elim
theorem iop_uAddI : OpR X (inplaceOp .Add) (r2 nuN (Cx.T X) uAddI) := by
  intro pins s σ H x y v u Q I rx ry ⟨G, a, b, z, e, ra, rb, hz, q⟩
  unfold uAddI at hz
  split at hz
  · rename_i i j
    cases hz
    exact iop_add pins s σ H x y v u Q I rx ry ⟨i, j, rep_int.1 ra, rep_int.1 rb, nuN_int e q⟩
  · cases hz
theorem iop_uSub : OpR X (inplaceOp .Sub) (r2 nuN (Cx.T X) uSub) := by
  intro pins s σ H x y v u Q I rx ry ⟨G, a, b, z, e, ra, rb, hz, q⟩
  unfold uSub at hz
  split at hz
  · rename_i i j
    cases hz
    exact iop_sub pins s σ H x y v u Q I rx ry ⟨i, j, rep_int.1 ra, rep_int.1 rb, nuN_int e q⟩
  · cases hz
/-! ### a list of its own is changed, read -/
/-- x.append(e) -/
theorem qs_append (i : Nat) {x : Str} {p apos cpos : Pos} (he : QE X c W e fe) (hm : c.mu.contains i = true := by rfl) (hN : X.N[i]? = some x := by rfl)
    (hv : Vis X.env.scope x := by first | exact Or.inl rfl | exact Or.inr (Or.inl rfl) | exact Or.inr (Or.inr rfl)) (hd : (x == ("__debug__" : Str)) = false := by decide) (hcd : (x == ("__classdict__" : Str)) = false := by decide)
    (hst : starEach [e] X.env = [(false, eval e X.env)] := by rfl)
    (hfew : ((backTo cpos (starEach [e] X.env)).all (fun x => !x.1) && (backToKw cpos (keywordEach [] X.env)).all (fun x => x.1.isSome)
      && decide ([e].length + ([] : List Keyword).length + (if ([] : List Keyword).isEmpty then 0 else 1) < 30)) = true := by rfl)
    (hbase : attributeBase (.Name x p) "append" X.env (eval (.Name x p) X.env) = eval (.Name x p) X.env := by rfl)
    (hline : (apos.endLine == cpos.line) = true := by rfl) (hplain : (backTo cpos (starEach [] X.env)).any (·.1) = false := by rfl)
    (hsw : swapsWith (.Call (.Attribute (.Name x p) "append" apos) [e] [] cpos) none pos.line X.env = pure false := by rfl) :
    QS X c W fr (.Expr (.Call (.Attribute (.Name x p) "append" apos) [e] [] cpos) pos) (sAppend i fe) :=
  PS.weak (ps_expr (pe_bm PySem.F.plainAttrs_list PySem.F.slot_list_append PySem.F.type_list_append mt_append (pe_var hN hv hd hcd) (pa_cons he pa_nil hst) hbase hfew hline hst hplain) hsw) fun D σ H ⟨G, ρ, r, h⟩ => by
    unfold sAppend at h
    split at h
    · rename_i u0 e0
      obtain ⟨a, e1, e2, e3, e4⟩ := r.ow i u0 e0 (isIn hm)
      cases u0 with
      | lst us0 =>
        obtain ⟨vs0, e5, e6⟩ := e4
        refine ⟨.ref a, e1, .inl ⟨rfl, vs0, .inl (.inl e5)⟩, ?_⟩
        refine ⟨G, ρ, r, (PFl.of (rel := relU (Cx.T X)) h).imp fun y H1 ⟨G1, ρ1, w, s1, r1, l1, h1⟩ => ?_⟩
        split at h1
        · rename_i xs ex
          obtain ⟨a', f1, f2, f3, vs, f5, f6⟩ := r1.ow i _ ex (isIn hm)
          rw [e1] at f1
          cases f1
          split at h1
          · rename_i hl
            refine ⟨a, vs, y, rfl, rfl, f5, ?_, ?_⟩
            · rw [f6.length] at hl
              exact Nat.lt_of_le_of_lt hl (by decide)
            · exact h1 σ G1 _ (Ex.refl _) (r1.mut (isIn hm) ex e1 (f6.append (.cons l1 .nil)))
          · exact h1.elim
        · exact h1.elim
      | _ => exact e4.elim
    · exact h.elim
/-- x[k] = e -/
theorem qs_put (i : Nat) {x : Str} {p p2 : Pos} {ix : Expr} {fk : EF} (he : QE X c W e fe) (hk : QE X c W ix fk) (hm : c.mu.contains i = true := by rfl) (hN : X.N[i]? = some x := by rfl)
    (hv : Vis X.env.scope x := by first | exact Or.inl rfl | exact Or.inr (Or.inl rfl) | exact Or.inr (Or.inr rfl)) (hd : (x == ("__debug__" : Str)) = false := by decide) (hcd : (x == ("__classdict__" : Str)) = false := by decide)
    (ha : ∀ v, assign (.Subscript (.Name x p) ix p2) X.env v = (do
      let ov ← holding [v] (eval (.Name x p) X.env)
      let iv ← holding [v, ov] (eval ix X.env)
      standAt p2
      holding [v, ov, iv] (setItem ov iv v)
      release [v, ov, iv] []) := by intro _; rfl)
    (hs : swapsWithSole [.Subscript (.Name x p) ix p2] e pos.line X.env = pure false := by rfl) (hw : swappedStores [.Subscript (.Name x p) ix p2] e X.env = pure none := by rfl)
    (h1 : (assignEach [.Subscript (.Name x p) ix p2] X.env).map (·.2) = [assign (.Subscript (.Name x p) ix p2) X.env] := by rfl) :
    QS X c W fr (.Assign [.Subscript (.Name x p) ix p2] e pos) (sPut i fk fe) :=
  PS.weak (ps_asg he (pg_sub (pe_var hN hv hd hcd) hk set_list ha) hs hw h1) fun D σ H ⟨G, ρ, r, h⟩ => by
    refine ⟨G, ρ, r, (PFl.of (rel := relU (Cx.T X)) h).imp fun y H1 ⟨G1, ρ1, w, s1, r1, l1, h1⟩ => ?_⟩
    split at h1
    · rename_i u0 e0
      obtain ⟨a, e1, e2, e3, e4⟩ := r1.ow i u0 e0 (isIn hm)
      refine ⟨.ref a, e1, G1, ρ1, r1, (PFl.of (rel := relU (Cx.T X)) h1).imp fun z H2 ⟨G2, ρ2, j, s2, r2, l2, h2⟩ => ?_⟩
      split at h2
      · rename_i xs n ex
        obtain ⟨a', f1, f2, f3, vs, f5, f6⟩ := r2.ow i _ ex (isIn hm)
        rw [e1] at f1
        cases f1
        split at h2
        · rename_i hl
          refine ⟨a, vs, n, n.toNat, rfl, rep_int.1 l2, f5, ?_, ?_⟩
          · unfold ixN
            rw [if_pos hl.1, if_pos (by rw [← f6.length]; exact hl.2)]
          · exact h2 σ G2 _ (Ex.refl _) (r2.mut (isIn hm) ex e1 (f6.set _ (Rep.mono s2.g _ _ l1)))
        · exact h2.elim
      · exact h2.elim
    · exact h1.elim
/-- x[k], x a list of its own -/
theorem qe_ixM (i : Nat) {x : Str} {p : Pos} {ix : Expr} {fk : EF} (hk : QE X c W ix fk) (hm : c.mu.contains i = true := by rfl) (hN : X.N[i]? = some x := by rfl)
    (hv : Vis X.env.scope x := by first | exact Or.inl rfl | exact Or.inr (Or.inl rfl) | exact Or.inr (Or.inr rfl)) (hd : (x == ("__debug__" : Str)) = false := by decide) (hcd : (x == ("__classdict__" : Str)) = false := by decide) (hs : PlainIx ix := by exact fun _ _ => rfl) :
    QE X c W (.Subscript (.Name x p) ix pos) (eIxM i uIx fk) :=
  PE.weak (pe_ix ix_list (pe_var hN hv hd hcd) hk hs) fun σ H Q ⟨G, ρ, r, h⟩ => by
    unfold eIxM at h
    split at h
    · rename_i u0 e0
      obtain ⟨a, e1, e2, e3, e4⟩ := r.ow i u0 e0 (isIn hm)
      refine ⟨.ref a, e1, G, ρ, r, (PQ.bind (rel := relU (Cx.T X)) h).imp fun z H2 ⟨G2, ρ2, j, s2, r2, l2, h2⟩ => ?_⟩
      split at h2
      · rename_i d ex
        obtain ⟨a', f1, f2, f3, f4⟩ := r2.ow i _ ex (isIn hm)
        rw [e1] at f1
        cases f1
        obtain ⟨w, hw, h3⟩ := rs_ok h2
        unfold uIx at hw
        split at hw
        · rename_i xs n
          obtain ⟨vs, f5, f6⟩ := f4
          obtain ⟨v, e5, e6⟩ := reps_at f6 hw
          exact ⟨a, vs, n, v, rfl, rep_int.1 l2, .inl (.inl f5), e5, h3 v G2 H2 Stp.refl r2 e6⟩
        · exact f4.elim
        · cases hw
      · exact h2.elim
    · exact h.elim
end
end Q
set_option maxRecDepth 100000
set_option maxHeartbeats 1000000
/-! QFlow: tests, loops, comprehensions, calls, defs -/
namespace Q
open PySem PySem.Spec PyProof.Rows L2
open Evl (Ex)

section
variable {X : Cx} {c : Cn} {W : WX} {k : Nat} {fr : Bool} {pos : Pos} {st : Stmt} {rest : List Stmt} {f g : SF} {e : Expr} {fe : EF}
/-! ### if -/
theorem qs_if {d : Expr} {a b : List Stmt} {t : BF} (hd : QT X c W d t) (ha : QSs X c W fr a f) (hb : QSs X c W fr b g) : QS X c W fr (.If d a b pos) (sIf t f g) :=
  PS.weak (ps_if hd ha hb) fun D σ H ⟨G, ρ, r, h⟩ => by
    refine ⟨G, ρ, r, (PFl.of (rel := relB) h).imp fun x H1 ⟨G1, ρ1, u, e1, r1, l1, h1⟩ => ?_⟩
    subst l1
    cases u with
    | true => exact ⟨G1, ρ1, r1, h1⟩
    | false => exact ⟨G1, ρ1, r1, h1⟩
/-! ### what is walked -/
def ItOk (T : Tab) (G : Hp) (J : It) (us : List U) : Prop :=
  ∀ G' H', Ex G G' → Ex G' H' → ∀ i : Nat, (us.length ≤ i → i ≤ us.length → J.stop i H') ∧ ∀ u, us[i]? = some u → J.go i H' ∧ ∀ x H'', J.yld i H' x H'' → ∃ G'', Grow G' H' G'' H'' ∧ Rep T G'' u x
abbrev relI (T : Tab) : Rel (List U) It := fun G _ _ _ us J => ItOk T G J us
theorem ItOk.mono {T : Tab} {G G' : Hp} {J : It} {us : List U} (e : Ex G G') (h : ItOk T G J us) : ItOk T G' J us := fun G2 H2 e2 => h G2 H2 (e.trans e2)
def QI (X : Cx) (c : Cn) (W : WX) (tg it : Expr) (f : AF) : Prop := PI X tg it (tq (Cx.T X) c W (relI (Cx.T X)) f)
theorem it_list {T : Tab} {G : Hp} {a : Addr} {us : List U} {vs : List V} (h : SqL T.K G a vs) (hr : Reps T G us vs) : ItOk T G (Itl T.K a) us := fun G' H' e1 e2 i => by
  have hl := hr.length
  have hs := Evl.ex_l (e1.trans e2) h
  refine ⟨fun q _ => ⟨vs, hs, by omega⟩, fun u hu => ?_⟩
  obtain ⟨v, hv, rv⟩ := hr.get hu
  refine ⟨⟨vs, v, hs, hv⟩, fun x H'' y => ?_⟩
  obtain ⟨q1, q2⟩ := y
  subst q1
  have := q2 vs hs
  rw [hv] at this
  cases this
  exact ⟨G', Grow.refl e2, Rep.mono e1 _ _ rv⟩
theorem it_tup {T : Tab} {G : Hp} {a : Addr} {us : List U} {vs : List V} (h : SqT T.K G a vs) (hr : Reps T G us vs) : ItOk T G (Itt T.K a) us := fun G' H' e1 e2 i => by
  have hl := hr.length
  have hs := Evl.ex_t (e1.trans e2) h
  refine ⟨fun q _ => ⟨vs, hs, by omega⟩, fun u hu => ?_⟩
  obtain ⟨v, hv, rv⟩ := hr.get hu
  refine ⟨⟨vs, v, hs, hv⟩, fun x H'' y => ?_⟩
  obtain ⟨q1, q2⟩ := y
  subst q1
  have := q2 vs hs
  rw [hv] at this
  cases this
  exact ⟨G', Grow.refl e2, Rep.mono e1 _ _ rv⟩
theorem rangeU_len : ∀ (n : Nat) (lo : Int), (rangeU lo n).length = n
  | 0, _ => rfl
  | n + 1, lo => by rw [rangeU, List.length_cons, rangeU_len n]
theorem rangeU_get : ∀ (n : Nat) (lo : Int) (i : Nat), i < n → (rangeU lo n)[i]? = some (.int (lo + i))
  | n + 1, lo, 0, _ => by simp [rangeU]
  | n + 1, lo, i + 1, h => by
    rw [rangeU, List.getElem?_cons_succ, rangeU_get n (lo + 1) i (by omega)]
    congr 2
    omega
theorem it_range {T : Tab} {G : Hp} {lo : Int} {n : Nat} : ItOk T G (Itr lo n) (rangeU lo n) := fun G' H' e1 e2 i => by
  rw [rangeU_len]
  refine ⟨fun q _ => q, fun u hu => ?_⟩
  have hi : i < n := by
    have := (List.getElem?_eq_some_iff.mp hu).1
    rwa [rangeU_len] at this
  rw [rangeU_get n lo i hi] at hu
  cases hu
  refine ⟨hi, fun x H'' y => ?_⟩
  obtain ⟨q1, q2⟩ := y
  subst q1 q2
  exact ⟨G', Grow.refl e2, rep_int.2 rfl⟩
theorem rep_pair {T : Tab} {G' H' : Hp} {a : Addr} {x y : V} {u w : U} (e2 : Ex G' H') (hT : H' a = none) (h1 : Rep T G' u x) (h2 : Rep T G' w y) : ∃ G'', Grow G' H' G'' (upd H' a (.tup [x, y])) ∧ Rep T G'' (.tup [u, w]) (.ref a) := by
  have gn := Grow.new (o := .tup [x, y]) e2 hT
  exact ⟨_, gn, rep_tup.2 ⟨a, _, rfl, .inl (.inl upd_same), .cons (Rep.mono gn.g _ _ h1) (.cons (Rep.mono gn.g _ _ h2) .nil)⟩⟩
theorem zipU_len (xs ys : List U) : (zipU xs ys).length = min xs.length ys.length := by simp [zipU]
theorem zipU_get {xs ys : List U} {i : Nat} {u : U} (h : (zipU xs ys)[i]? = some u) : ∃ x y, xs[i]? = some x ∧ ys[i]? = some y ∧ u = .tup [x, y] := by
  unfold zipU at h
  rw [List.getElem?_zipWith] at h
  split at h
  · rename_i x y h1 h2
    exact ⟨x, y, h1, h2, (Option.some.inj h).symm⟩
  · cases h
theorem it_zip {T : Tab} {G : Hp} {a b : Addr} {us ws : List U} {vs xs : List V} (h : SqL T.K G a vs) (hr : Reps T G us vs) (h' : SqL T.K G b xs) (hr' : Reps T G ws xs) : ItOk T G (Itz T.K a b) (zipU us ws) := fun G' H' e1 e2 i => by
  have hl := hr.length
  have hl' := hr'.length
  have hs := Evl.ex_l (e1.trans e2) h
  have hs' := Evl.ex_l (e1.trans e2) h'
  rw [zipU_len]
  refine ⟨fun q _ => ⟨vs, xs, hs, hs', by omega⟩, fun u hu => ?_⟩
  obtain ⟨x, y, hx, hy, rfl⟩ := zipU_get hu
  obtain ⟨v, hv, rv⟩ := hr.get hx
  obtain ⟨v', hv', rv'⟩ := hr'.get hy
  refine ⟨⟨vs, xs, v, v', hs, hs', hv, hv'⟩, fun z H'' y => ?_⟩
  obtain ⟨t, p, q, rfl, hT, rfl, q1, q2⟩ := y
  have e3 := q1 vs hs
  have e4 := q2 xs hs'
  rw [hv] at e3
  rw [hv'] at e4
  cases e3
  cases e4
  exact rep_pair e2 hT (Rep.mono e1 _ _ rv) (Rep.mono e1 _ _ rv')
theorem it_zipT {T : Tab} {G : Hp} {a b : Addr} {us ws : List U} {vs xs : List V} (h : SqT T.K G a vs) (hr : Reps T G us vs) (h' : SqT T.K G b xs) (hr' : Reps T G ws xs) : ItOk T G (RZ.ItzT T.K a b) (zipU us ws) := fun G' H' e1 e2 i => by
  have hl := hr.length
  have hl' := hr'.length
  have hs := Evl.ex_t (e1.trans e2) h
  have hs' := Evl.ex_t (e1.trans e2) h'
  rw [zipU_len]
  refine ⟨fun q _ => ⟨vs, xs, hs, hs', by omega⟩, fun u hu => ?_⟩
  obtain ⟨x, y, hx, hy, rfl⟩ := zipU_get hu
  obtain ⟨v, hv, rv⟩ := hr.get hx
  obtain ⟨v', hv', rv'⟩ := hr'.get hy
  refine ⟨⟨vs, xs, v, v', hs, hs', hv, hv'⟩, fun z H'' y => ?_⟩
  obtain ⟨t, p, q, rfl, hT, rfl, q1, q2⟩ := y
  have e3 := q1 vs hs
  have e4 := q2 xs hs'
  rw [hv] at e3
  rw [hv'] at e4
  cases e3
  cases e4
  exact rep_pair e2 hT (Rep.mono e1 _ _ rv) (Rep.mono e1 _ _ rv')
theorem it_enum {T : Tab} {G : Hp} {a : Addr} {us : List U} {vs : List V} (h : SqL T.K G a vs) (hr : Reps T G us vs) : ItOk T G (Ite T.K a) (enumU us) := fun G' H' e1 e2 i => by
  have hl := hr.length
  have hs := Evl.ex_l (e1.trans e2) h
  have hlen : (enumU us).length = us.length := by
    unfold enumU
    rw [zipU_len, rangeU_len, Nat.min_self]
  rw [hlen]
  refine ⟨fun q _ => ⟨vs, hs, by omega⟩, fun u hu => ?_⟩
  obtain ⟨x, y, hx, hy, rfl⟩ := zipU_get hu
  obtain ⟨v, hv, rv⟩ := hr.get hy
  have hi : i < us.length := (List.getElem?_eq_some_iff.mp hy).1
  rw [rangeU_get _ _ _ hi] at hx
  cases hx
  refine ⟨⟨vs, v, hs, hv⟩, fun z H'' y => ?_⟩
  obtain ⟨t, p, rfl, hT, rfl, q1⟩ := y
  have e3 := q1 vs hs
  rw [hv] at e3
  cases e3
  refine rep_pair e2 hT ?_ (Rep.mono e1 _ _ rv)
  rw [Int.zero_add]
  exact rep_int.2 rfl
/-- a list or a tuple -/
def iSeqV (K : PySem.W.Frag) (te : TE) : TI := fun σ H R => te σ H fun x H1 => ∃ a, x = .ref a ∧ ((∃ xs, SqL K H1 a xs ∧ R (Itl K a) H1) ∨ (∃ xs, SqT K H1 a xs ∧ R (Itt K a) H1))
theorem pi_seq {tg l : Expr} {tl : TE} (hl : PE X l tl) : PI X tg l (iSeqV X.K tl) := by
  refine ⟨fun pins s σ H R I h => ?_⟩
  refine thn (hl.run pins s σ H _ I h) fun v s1 ⟨x, H1, I1, r1, q1⟩ => ?_
  obtain ⟨a, e, q⟩ := q1
  subst e
  cases r1
  rcases q with ⟨xs, hq, q⟩ | ⟨xs, hq, q⟩
  · obtain ⟨its, rv, p, hz⟩ := I1.list hq
    refine wpAny_pyIter_list p.isList ?_
    refine ⟨s1.heap.objs.size, [s1.heap.objs.size], _, _, H1, rfl, I1.kept (t' := s1.toks) fun b o e => Heap.get?_push_of_some _ e, turn_list a _, ⟨_, Heap.get?_push_size _ rfl, rfl, rfl⟩, fun b hb => ?_, q⟩
    have e : b = s1.heap.objs.size := by simpa using hb
    subst e
    exact I1.fpOk (Nat.le_refl _) (I1.hok.fresh (Nat.le_refl _))
  · obtain ⟨its, rv, p, hz⟩ := I1.tuple hq
    refine wpAny_pyIter_tuple (show s1.heap.IsTuple a its.toArray from p) ?_
    refine ⟨s1.heap.objs.size, [s1.heap.objs.size], _, _, H1, rfl, I1.kept (t' := s1.toks) fun b o e => Heap.get?_push_of_some _ e, turn_tuple a _, ⟨_, Heap.get?_push_size _ rfl, rfl, rfl⟩, fun b hb => ?_, q⟩
    have e : b = s1.heap.objs.size := by simpa using hb
    subst e
    exact I1.fpOk (Nat.le_refl _) (I1.hok.fresh (Nat.le_refl _))
theorem qi_seq {tg l : Expr} (hl : QE X c W l fe) : QI X c W tg l (iSeq fe) :=
  PI.weak (pi_seq hl) fun σ H Rk ⟨G, ρ, r, h⟩ => by
    refine ⟨G, ρ, r, (PQ.bind (rel := relU (Cx.T X)) h).imp fun x H1 ⟨G1, ρ1, u, e1, r1, l1, h1⟩ => ?_⟩
    cases u with
    | lst us =>
      obtain ⟨a, vs, rfl, h2, h3⟩ := rep_lst.1 l1
      exact ⟨a, rfl, .inl ⟨vs, Evl.ex_l r1.ex h2, h1 _ G1 H1 Stp.refl r1 (it_list h2 h3)⟩⟩
    | tup us =>
      obtain ⟨a, vs, rfl, h2, h3⟩ := rep_tup.1 l1
      exact ⟨a, rfl, .inr ⟨vs, Evl.ex_t r1.ex h2, h1 _ G1 H1 Stp.refl r1 (it_tup h2 h3)⟩⟩
    | _ => exact h1.elim
theorem qi_range1 {tg a : Expr} {as : AF} {p : Pos} (hm : X.mg "range" = none) (ha : QA X c W [a] as) (hg : Gl X "range" := by rfl) (hs : starEach [a] X.env = [(false, eval a X.env)] := by rfl) : QI X c W tg (.Call (.Name "range" p) [a] [] pos) (iRange1 as) :=
  PI.weak (pi_range1 hg hm ha hs) fun σ H Rk ⟨G, ρ, r, h⟩ => by
    refine ⟨G, ρ, r, (PQ.bind (rel := relUs (Cx.T X)) h).imp fun x H1 ⟨G1, ρ1, u, e1, r1, l1, h1⟩ => ?_⟩
    split at h1
    · rename_i j
      split at h1
      · rename_i hj
        obtain ⟨v, e2, l2⟩ := reps1 l1
        rw [rep_int] at l2
        subst e2 l2
        exact ⟨j, rfl, hj.1, hj.2, h1 _ G1 H1 Stp.refl r1 it_range⟩
      · exact h1.elim
    · exact h1.elim
theorem qi_range2 {tg a b : Expr} {as : AF} {p : Pos} (hm : X.mg "range" = none) (ha : QA X c W [a, b] as) (hg : Gl X "range" := by rfl) (hs : starEach [a, b] X.env = [(false, eval a X.env), (false, eval b X.env)] := by rfl) (hs2 : starEach [b] X.env = [(false, eval b X.env)] := by rfl) :
    QI X c W tg (.Call (.Name "range" p) [a, b] [] pos) (iRange2 as) :=
  PI.weak (pi_range2 hg hm ha hs hs2) fun σ H Rk ⟨G, ρ, r, h⟩ => by
    refine ⟨G, ρ, r, (PQ.bind (rel := relUs (Cx.T X)) h).imp fun x H1 ⟨G1, ρ1, u, e1, r1, l1, h1⟩ => ?_⟩
    split at h1
    · rename_i i j
      split at h1
      · rename_i hj
        obtain ⟨v, w, e2, l2, l3⟩ := reps2 l1
        rw [rep_int] at l2 l3
        subst e2 l2 l3
        exact ⟨i, j, rfl, hj, h1 _ G1 H1 Stp.refl r1 it_range⟩
      · exact h1.elim
    · exact h1.elim
theorem qi_zip {a b : Expr} {as : AF} {p tpos : Pos} {elts : List Expr} {kk : Nat} (hm : X.mg "zip" = none) (ha : QA X c W [a, b] as) (hg : Gl X "zip" := by rfl)
    (hs : starEach [a, b] X.env = (false, eval a X.env) :: starEach [b] X.env := by rfl) (hs2 : (backTo pos (starEach [b] X.env)).any (·.1) = false := by rfl) : QI X c W (.Tuple elts kk tpos) (.Call (.Name "zip" p) [a, b] [] pos) (iZip as) :=
  PI.weak (RZ.pi_zipA hg hm ha hs hs2) fun σ H Rk ⟨G, ρ, r, h⟩ => by
    refine ⟨G, ρ, r, (PQ.bind (rel := relUs (Cx.T X)) h).imp fun x H1 ⟨G1, ρ1, u, e1, r1, l1, h1⟩ => ?_⟩
    split at h1
    · obtain ⟨v, w, e2, l2, l3⟩ := reps2 l1
      obtain ⟨p1, vs1, rfl, k1, k2⟩ := rep_lst.1 l2
      obtain ⟨p2, vs2, rfl, k3, k4⟩ := rep_lst.1 l3
      exact ⟨p1, p2, vs1, vs2, e2, .inl ⟨Evl.ex_l r1.ex k1, Evl.ex_l r1.ex k3, h1 _ G1 H1 Stp.refl r1 (it_zip k1 k2 k3 k4)⟩⟩
    · obtain ⟨v, w, e2, l2, l3⟩ := reps2 l1
      obtain ⟨p1, vs1, rfl, k1, k2⟩ := rep_tup.1 l2
      obtain ⟨p2, vs2, rfl, k3, k4⟩ := rep_tup.1 l3
      exact ⟨p1, p2, vs1, vs2, e2, .inr ⟨Evl.ex_t r1.ex k1, Evl.ex_t r1.ex k3, h1 _ G1 H1 Stp.refl r1 (it_zipT k1 k2 k3 k4)⟩⟩
    · exact h1.elim
/-! ### for -/
theorem qs_for {tg it : Expr} {body : List Stmt} {fi : AF} {sl : List Nat} {gt : TgF} (own : PassesOwn (model X.prog X.w) X.A X.env X.xe) (calm : X.calm = true) (hi : QI X c W tg it fi) (hg : QG X c sl tg gt) (hb : QSs X c W fr body f)
    (hs : ∀ x, foldedSetIterable it X.env x = pure x := by intro _; rfl) : QS X c W fr (.For tg it body [] pos) (sFor fi gt f) :=
  PS.weak (ps_for own calm hi hg hb hs) fun D σ H ⟨G, ρ, r, h⟩ => by
    refine ⟨G, ρ, r, (PFl.of (rel := relI (Cx.T X)) h).imp fun J H1 ⟨G1, ρ1, us, e1, r1, l1, h1⟩ => ?_⟩
    refine ⟨fun i m σ H => ∃ G ρ, Ex G1 G ∧ R (Cx.T X) c G ρ σ H ∧ i ≤ us.length ∧ m = us.length - i ∧ PFl (Cx.T X) c W fr G (forL gt f (us.drop i) ρ) D,
      ⟨_, G1, ρ1, Ex.refl _, r1, Nat.zero_le _, rfl, h1⟩, ?_⟩
    rintro i m σ H ⟨G, ρ, ex, r, hi, rfl, h⟩
    obtain ⟨q1, q2⟩ := l1 G H ex r.ex i
    by_cases hlt : i < us.length
    · right
      have hd : us.drop i = us[i] :: us.drop (i + 1) := List.drop_eq_getElem_cons hlt
      rw [hd, forL] at h
      obtain ⟨q3, q4⟩ := q2 us[i] (by simp [hlt])
      refine ⟨q3, fun σ' H' => ∃ G ρ, Ex G1 G ∧ R (Cx.T X) c G ρ σ' H' ∧ PFl (Cx.T X) c W fr G (forL gt f (us.drop (i + 1)) ρ) D, fun σ' H' ⟨G', ρ', k1, k2, k3⟩ => ⟨us.length - (i + 1), by omega, G', ρ', k1, k2, hlt, rfl, k3⟩, fun x H' y => ?_⟩
      obtain ⟨G2, gw, rx⟩ := q4 x H' y
      split at h
      · rename_i ρ2 e2
        refine ⟨G2, ρ, us[i], ρ2, r.grow gw, rx, e2, fun σ' r' _ _ => ⟨G2, ρ2, r', ?_⟩⟩
        have ex2 := ex.trans gw.g
        generalize f ρ2 = z at h ⊢
        cases z with
        | next ρ3 => exact fun σ3 G3 H3 e3 r3 => ⟨G3, ρ3, ex2.trans e3, r3, PFl.mono (gw.g.trans e3) h⟩
        | cont ρ3 => exact fun σ3 G3 H3 e3 r3 => ⟨G3, ρ3, ex2.trans e3, r3, PFl.mono (gw.g.trans e3) h⟩
        | brk ρ3 => exact fun σ3 G3 H3 e3 r3 => h σ3 G3 H3 (gw.g.trans e3) r3
        | ret u ρ3 => exact fun v G3 H3 e3 => h v G3 H3 (gw.g.trans e3)
        | exc C ρ3 => exact fun σ3 G3 H3 d e3 => h σ3 G3 H3 d (gw.g.trans e3)
        | stuck => exact h
      · exact h.elim
    · left
      have e : i = us.length := by omega
      subst e
      rw [List.drop_length, forL] at h
      exact ⟨q1 (Nat.le_refl _) (Nat.le_refl _), h σ G H (Ex.refl _) r⟩
/-! ### while -/
theorem qs_while (n : Nat) {d : Expr} {body : List Stmt} {t : BF} (own : PassesOwn (model X.prog X.w) X.A X.env X.xe) (hd : QT X c W d t) (hb : QSs X c W fr body f) : QS X c W fr (.While d body [] pos) (sWhile n t f) :=
  PS.weak (ps_while own hd hb) fun D σ H ⟨G, ρ, r, h⟩ => by
    refine ⟨fun m σ H => ∃ G ρ, R (Cx.T X) c G ρ σ H ∧ PFl (Cx.T X) c W fr G (whileL t f m ρ) D, ⟨n, G, ρ, r, h⟩, ?_⟩
    rintro m σ H ⟨G, ρ, r, h⟩
    cases m with
    | zero => exact h.elim
    | succ m =>
      rw [whileL] at h
      refine ⟨G, ρ, r, (PFl.of (rel := relB) h).imp fun x H1 ⟨G1, ρ1, u, e1, r1, l1, h1⟩ => ?_⟩
      subst l1
      cases u with
      | false => exact h1 σ G1 H1 (Ex.refl _) r1
      | true =>
        refine ⟨fun σ' H' => ∃ G ρ, R (Cx.T X) c G ρ σ' H' ∧ PFl (Cx.T X) c W fr G (whileL t f m ρ) D, fun σ' H' q => ⟨m, Nat.lt_succ_self _, q⟩, G1, ρ1, r1, ?_⟩
        simp only [if_true] at h1
        generalize f ρ1 = z at h1 ⊢
        cases z with
        | next ρ3 => exact fun σ3 G3 H3 e3 r3 => ⟨G3, ρ3, r3, PFl.mono e3 h1⟩
        | cont ρ3 => exact fun σ3 G3 H3 e3 r3 => ⟨G3, ρ3, r3, PFl.mono e3 h1⟩
        | brk ρ3 => exact h1
        | ret u ρ3 => exact h1
        | exc C ρ3 => exact h1
        | stuck => exact h1
/-! ### comprehensions -/
abbrev W0 : WX := fun _ _ _ _ => False
def QTs (X : Cx) (c : Cn) (W : WX) (es : List Expr) (f : BF) : Prop := PTs X es (tq (Cx.T X) c W relB f)
theorem qts_nil : QTs X c W [] tTrue := PTs.weak pts_nil fun σ H Q q => tq_pure (fun _ => rfl) (fun G ρ _ => rfl) q
theorem qts_one {t : BF} (h : QT X c W e t) : QTs X c W [e] t := pts_one h
theorem wipeU_len (ρ : Sl) : ∀ vs, (wipeU ρ vs).length = ρ.length
  | [] => rfl
  | v :: vs => by rw [wipeU, List.length_set, wipeU_len ρ vs]
theorem wipeU_some {ρ : Sl} {i : Nat} {u : U} : ∀ {vs : List Nat}, (wipeU ρ vs)[i]? = some (some u) → ρ[i]? = some (some u) ∧ i ∉ vs
  | [], h => ⟨h, by simp⟩
  | v :: vs, h => by
    unfold wipeU at h
    by_cases hi : v = i
    · subst hi
      by_cases hv : v < (wipeU ρ vs).length
      · rw [List.getElem?_set_self hv] at h
        cases h
      · rw [List.getElem?_eq_none (by simpa using hv)] at h
        cases h
    · rw [List.getElem?_set_ne hi] at h
      obtain ⟨h1, h2⟩ := wipeU_some h
      exact ⟨h1, by simp only [List.mem_cons, not_or]; exact ⟨fun e => hi e.symm, h2⟩⟩
theorem wipeU_out {ρ : Sl} {i : Nat} : ∀ {vs : List Nat}, i ∉ vs → (wipeU ρ vs)[i]? = ρ[i]?
  | [], _ => rfl
  | v :: vs, h => by
    rw [List.mem_cons, not_or] at h
    rw [wipeU, List.getElem?_set_ne (fun e => h.1 e.symm), wipeU_out h.2]
theorem wipe_out' {σ : L2.St} {i : Nat} : ∀ {vs : List Nat}, i ∉ vs → (wipe σ vs)[i]? = σ[i]?
  | [], _ => rfl
  | v :: vs, h => by
    rw [List.mem_cons, not_or] at h
    rw [wipe, List.getElem?_set_ne (fun e => h.1 e.symm), wipe_out' h.2]
theorem backU_len (ρ0 ρ : Sl) : ∀ vs, (backU ρ0 ρ vs).length = ρ.length
  | [] => rfl
  | v :: vs => by rw [backU, List.length_set, backU_len ρ0 ρ vs]
theorem backU_out {ρ0 ρ : Sl} {i : Nat} : ∀ {vs : List Nat}, i ∉ vs → (backU ρ0 ρ vs)[i]? = ρ[i]?
  | [], _ => rfl
  | v :: vs, h => by
    rw [List.mem_cons, not_or] at h
    rw [backU, List.getElem?_set_ne (fun e => h.1 e.symm), backU_out h.2]
theorem backU_in {ρ0 ρ : Sl} {i : Nat} {u : U} : ∀ {vs : List Nat}, i ∈ vs → (backU ρ0 ρ vs)[i]? = some (some u) → ρ0[i]? = some (some u)
  | v :: vs, h, e => by
    rw [backU] at e
    by_cases hv : v = i
    · subst hv
      have hl : v < (backU ρ0 ρ vs).length := by
        have := (List.getElem?_eq_some_iff.mp e).1
        rwa [List.length_set] at this
      rw [List.getElem?_set_self hl] at e
      rw [List.getD_eq_getElem?_getD] at e
      cases q : ρ0[v]? with
      | none =>
        rw [q] at e
        cases e
      | some o =>
        rw [q] at e
        exact e
    · rw [List.getElem?_set_ne hv] at e
      exact backU_in ((List.mem_cons.mp h).resolve_left fun z => hv z.symm) e
theorem R.wipe {T : Tab} {G H : Hp} {ρ : Sl} {σ : L2.St} (r : R T c G ρ σ H) {vs : List Nat} (hv : ∀ i ∈ vs, i ∉ c.mu) : R T c G (wipeU ρ vs) (wipe σ vs) H where
  dk := fun a h => by
    obtain ⟨h1, h2, dl, h3⟩ := r.dk a h
    have h0 : (0 : Nat) ∉ vs := fun z => hv 0 z h1
    rw [wipeU_out h0, wipe_out' h0]
    exact ⟨h1, h2, dl, h3⟩
  ex := r.ex
  g0 := r.g0
  nw := r.nw
  fr := r.fr
  dd := r.dd
  len := by rw [wipeU_len, wipe_length, r.len]
  sh := fun i u h m => by
    obtain ⟨h1, h2⟩ := wipeU_some h
    rw [wipe_out' h2]
    exact r.sh i u h1 m
  ow := fun i u h m => by
    obtain ⟨h1, h2⟩ := wipeU_some h
    rw [wipe_out' h2]
    exact r.ow i u h1 m
  ap := fun i j u w h1 h2 m1 m2 ne => by
    obtain ⟨k1, k2⟩ := wipeU_some h1
    obtain ⟨k3, k4⟩ := wipeU_some h2
    rw [wipe_out' k2, wipe_out' k4]
    exact r.ap i j u w k1 k3 m1 m2 ne
  lv := fun i v m e => by
    have hi : i ∉ vs := fun z => hv i z m
    rw [wipe_out' hi] at e
    rw [wipeU_out hi]
    exact r.lv i v m e
theorem wipe_same {σ σ' : L2.St} (hl : σ'.length = σ.length) : ∀ {vs : List Nat}, (∀ i, i ∉ vs → σ'[i]? = σ[i]?) → wipe σ' vs = wipe σ vs := fun {vs} h => by
  apply List.ext_getElem?
  intro i
  by_cases hi : i ∈ vs
  · have key : ∀ (τ : L2.St), τ.length = σ.length → (wipe τ vs)[i]? = if i < σ.length then some none else none := fun τ hτ => by
      by_cases hlt : i < σ.length
      · rw [if_pos hlt]
        have hlt' : i < (wipe τ vs).length := by rw [wipe_length, hτ]; exact hlt
        rw [List.getElem?_eq_getElem hlt']
        congr 1
        cases q : (wipe τ vs)[i] with
        | none => rfl
        | some v =>
          have : (wipe τ vs)[i]? = some (some v) := by rw [List.getElem?_eq_getElem hlt', q]
          exact absurd hi (wipe_some this).2
      · rw [if_neg hlt]
        exact List.getElem?_eq_none (by rw [wipe_length, hτ]; omega)
    rw [key σ' hl, key σ rfl]
  · rw [wipe_out' hi, wipe_out' hi, h i hi]
end
end Q
set_option maxRecDepth 100000
set_option maxHeartbeats 2000000
/-! QDef: comprehensions, calls, defs -/
namespace Q
open PySem PySem.Spec PyProof.Rows L2
open Evl (Ex)

theorem Stp.cong {c : Cn} {σ τ : L2.St} {G H G' H' : Hp} (e : ∀ i ∈ c.mu, τ[i]? = σ[i]?) (s : Stp c τ G H G' H') : Stp c σ G H G' H' :=
  ⟨s.g, fun a o h m => s.k a o h fun i hi => by rw [e i hi]; exact m i hi, s.n, s.d⟩
/-- an object outside all that is told is changed -/
theorem R.free {T : Tab} {c : Cn} {G H : Hp} {ρ : Sl} {σ : L2.St} {D : Addr} {o : HO} (r : R T c G ρ σ H) (h1 : G D = none) (h2 : c.H0 D = none) (h3 : ∀ i ∈ c.mu, σ[i]? ≠ some (some (.ref D))) : R T c G ρ σ (upd H D o) where
  dk := r.dk
  ex := fun a x q => by rw [upd_ne (ne_of_none q h1)]; exact r.ex a x q
  g0 := r.g0
  nw := r.nw
  fr := fun a x q d => by rw [upd_ne (ne_of_none q h2)]; exact r.fr a x q d
  dd := fun a h => by
    by_cases hb : a = D
    · subst hb
      exact ⟨_, upd_same⟩
    · rw [upd_ne hb]
      exact r.dd a h
  len := r.len
  sh := r.sh
  ow := fun i u e m => by
    obtain ⟨b, e1, e2, e3, e4⟩ := r.ow i u e m
    have hb : b ≠ D := fun z => h3 i m (z ▸ e1)
    exact ⟨b, e1, e2, e3, e4.mono (Ex.refl _) (upd_ne hb)⟩
  ap := r.ap
  lv := r.lv
/-- behind a comprehension: its own slots as they stood -/
theorem R.back {T : Tab} {c : Cn} {G G1 H H1 : Hp} {ρ ρ1 : Sl} {σ : L2.St} {vs : List Nat} (hv : ∀ i ∈ vs, i ∉ c.mu) (r1 : R T c G1 ρ1 σ H1) (ex : Ex G1 G) (r : R T c G (wipeU ρ vs) (L2.wipe σ vs) H) : R T c G (backU ρ1 ρ vs) σ H where
  dk := fun a h => by
    obtain ⟨h1, h2, dl, h3⟩ := r.dk a h
    have h0 : (0 : Nat) ∉ vs := fun z => hv 0 z h1
    rw [wipeU_out h0] at h3
    rw [wipe_out' h0] at h2
    rw [backU_out h0]
    exact ⟨h1, h2, dl, h3⟩
  ex := r.ex
  g0 := r.g0
  nw := r.nw
  fr := r.fr
  dd := r.dd
  len := by
    have := r.len
    rw [wipeU_len, wipe_length] at this
    rw [backU_len, this]
  sh := fun i u e m => by
    by_cases hi : i ∈ vs
    · obtain ⟨v, e1, e2⟩ := r1.sh i u (backU_in hi e) m
      exact ⟨v, e1, Rep.mono ex _ _ e2⟩
    · rw [backU_out hi] at e
      obtain ⟨v, e1, e2⟩ := r.sh i u (by rw [wipeU_out hi]; exact e) m
      rw [wipe_out' hi] at e1
      exact ⟨v, e1, e2⟩
  ow := fun i u e m => by
    have hi : i ∉ vs := fun z => hv i z m
    rw [backU_out hi] at e
    obtain ⟨a, e1, e2⟩ := r.ow i u (by rw [wipeU_out hi]; exact e) m
    rw [wipe_out' hi] at e1
    exact ⟨a, e1, e2⟩
  ap := fun i j u w e1 e2 m1 m2 ne => by
    have hi : i ∉ vs := fun z => hv i z m1
    have hj : j ∉ vs := fun z => hv j z m2
    rw [backU_out hi] at e1
    rw [backU_out hj] at e2
    have := r.ap i j u w (by rw [wipeU_out hi]; exact e1) (by rw [wipeU_out hj]; exact e2) m1 m2 ne
    rw [wipe_out' hi, wipe_out' hj] at this
    exact this
  lv := fun i v m e => by
    have hi : i ∉ vs := fun z => hv i z m
    obtain ⟨u, q⟩ := r.lv i v m (by rw [wipe_out' hi]; exact e)
    rw [wipeU_out hi] at q
    rw [backU_out hi]
    exact ⟨u, q⟩

section
variable {X : Cx} {c : Cn} {W : WX} {k : Nat} {fr : Bool} {pos : Pos} {e : Expr} {fe : EF}
/-- the loop of a comprehension: from the walk's start to the new list -/
theorem lc_all {us : List U} {J : It} {sl vs : List Nat} {gt : TgF} {ft : BF} {D : Addr} {σ : L2.St} {G1 H0 H1 : Hp} {ρ1 ρF : Sl} {accF : List U} {Qd : Hp → Prop} {T : Tab}
    (hsl : ∀ i ∈ sl, i ∈ vs) (hvm : ∀ i ∈ vs, i ∉ c.mu) (r1 : R T c G1 ρ1 σ H1) (l1 : ItOk T G1 J us) (hz : us.length ≤ 100000) (hD : H1 D = none) (h00 : ∀ b o, H0 b = some o → ∃ o', H1 b = some o')
    (hF : compL vs gt ft fe us ρ1 [] = .ok accF ρF)
    (h : ∀ H2 G2, Stp c σ G1 H1 G2 H2 → R T c G2 (backU ρ1 ρF vs) σ H2 → relF T c H0 G2 H2 (backU ρ1 ρF vs) σ (.lst accF) (.ref D) → Qd H2) :
    ∃ W : Nat → Nat → Hp → Prop, (∃ m, W 0 m (upd H1 D (.lst []))) ∧ ∀ i m H, W i m H → (J.stop i H ∧ Qd H) ∨ (J.go i H ∧ ∃ Nx : Hp → Prop, (∀ H', Nx H' → ∃ m', m' < m ∧ W (i + 1) m' H') ∧
      ∀ x H', J.yld i H x H' → tqg T c sl gt x (wipe σ vs) H' fun σ2 H2 => wipe σ2 vs = wipe σ vs ∧ tq T c W0 relB ft σ2 H2 fun b H3 =>
        if b = true then tq T c W0 (relU T) fe σ2 H3 fun y H4 => ∃ acc, H4 D = some (.lst acc) ∧ acc.length < sizeLine ∧ Nx (upd H4 D (.lst (acc ++ [y]))) else Nx H3) := by
  obtain ⟨rN, stN, a0, us0, vs0, z1, z2, n1, n2, n3, n4, n5, n6, n7⟩ := relF_new (Hs := H0) r1 hD .nil h00
  cases z1
  cases z2
  have muv : ∀ i ∈ c.mu, i ∉ vs := fun i hi z => hvm i z hi
  refine ⟨fun i m H => ∃ G ρ accU accV, Stp c σ G1 H1 G H ∧ R T c G (wipeU ρ vs) (wipe σ vs) H ∧ H D = some (.lst accV) ∧ Reps T G accU.reverse accV ∧ G D = none ∧ accV.length ≤ i ∧ i ≤ us.length ∧ m = us.length - i ∧
      compL vs gt ft fe (us.drop i) ρ accU = .ok accF ρF, ⟨_, G1, ρ1, [], [], stN, rN.wipe hvm, upd_same, .nil, n1, Nat.zero_le _, Nat.zero_le _, rfl, hF⟩, ?_⟩
  rintro i m H ⟨G, ρ, accU, accV, st, r, hHD, hacc, hGD, hle, hi, rfl, hc⟩
  obtain ⟨q1, q2⟩ := l1 G H st.g r.ex i
  by_cases hlt : i < us.length
  · right
    have hd : us.drop i = us[i] :: us.drop (i + 1) := List.drop_eq_getElem_cons hlt
    rw [hd, compL] at hc
    obtain ⟨q3, q4⟩ := q2 us[i] (by simp [hlt])
    refine ⟨q3, fun H' => ∃ G ρ accU accV, Stp c σ G1 H1 G H' ∧ R T c G (wipeU ρ vs) (wipe σ vs) H' ∧ H' D = some (.lst accV) ∧ Reps T G accU.reverse accV ∧ G D = none ∧ accV.length ≤ i + 1 ∧
      compL vs gt ft fe (us.drop (i + 1)) ρ accU = .ok accF ρF, fun H' ⟨G', ρ', aU, aV, k1, k2, k3, k4, k5, k6, k7⟩ => ⟨us.length - (i + 1), by omega, G', ρ', aU, aV, k1, k2, k3, k4, k5, k6, hlt, rfl, k7⟩, fun x H' y => ?_⟩
    obtain ⟨G', gw, rx⟩ := q4 x H' y
    split at hc
    · rename_i ρa ea
      refine ⟨G', wipeU ρ vs, us[i], ρa, r.grow gw, rx, ea, fun σ2 ra hlen hag => ?_⟩
      have hag2 : ∀ j, j ∉ vs → σ2[j]? = σ[j]? := fun j hj => (hag j fun z => hj (hsl j z)).trans (wipe_out' hj)
      have hmu : ∀ j ∈ c.mu, σ2[j]? = σ[j]? := fun j hj => hag2 j (muv j hj)
      have hw : wipe σ2 vs = wipe σ vs := wipe_same (by rw [hlen, wipe_length]) hag2
      have noD : ∀ j ∈ c.mu, σ2[j]? ≠ some (some (.ref D)) := fun j hj => by
        rw [hmu j hj]
        exact n7 j hj
      have noDw : ∀ j ∈ c.mu, (wipe σ vs)[j]? ≠ some (some (.ref D)) := fun j hj => by
        rw [wipe_out' (muv j hj)]
        exact n7 j hj
      have hD1 : H' D = some (.lst accV) := gw.h _ _ hHD
      have hG1 : G' D = none := gw.n _ _ hHD hGD
      have st1 : Stp c σ G1 H1 G' H' := st.trans gw.stp
      refine ⟨hw, G', ρa, ra, ?_⟩
      split at hc
      · rename_i ρb eb
        rw [eb]
        intro b' Gb Hb sb rb lb
        subst lb
        rw [if_pos rfl]
        have hD2 : Hb D = some (.lst accV) := sb.k _ _ hD1 noD
        have hG2 : Gb D = none := sb.n _ _ hD1 hG1
        split at hc
        · rename_i xv ρc ec
          refine ⟨Gb, ρb, rb, ?_⟩
          rw [ec]
          intro y Gc Hc sc rc lc
          have hD3 : Hc D = some (.lst accV) := sc.k _ _ hD2 noD
          have hG3 : Gc D = none := sc.n _ _ hD2 hG2
          have rw1 : R T c Gc (wipeU ρc vs) (wipe σ vs) Hc := hw ▸ rc.wipe hvm
          have stt : Stp c σ G1 H1 Gc Hc := st1.trans ((sb.trans sc).cong hmu)
          refine ⟨accV, hD3, Nat.lt_of_le_of_lt (Nat.le_trans hle (Nat.le_trans hi hz)) (by decide), Gc, ρc, xv :: accU, accV ++ [y], ⟨stt.g, fun a o q m => ?_, stt.n, fun a o q => ?_⟩, rw1.free hG3 n2 noDw, upd_same, ?_, hG3, ?_, hc⟩
          · rw [upd_ne (ne_of_none q hD)]
            exact stt.k a o q m
          · rw [upd_ne (ne_of_none q hD)]
            exact stt.d a o q
          · rw [List.reverse_cons]
            exact (Reps.mono (gw.g.trans (sb.g.trans sc.g)) _ _ hacc).append (.cons lc .nil)
          · rw [List.length_append]
            exact Nat.succ_le_succ hle
        · cases hc
      · rename_i ρb eb
        rw [eb]
        intro b' Gb Hb sb rb lb
        subst lb
        rw [if_neg Bool.false_ne_true]
        refine ⟨Gb, ρb, accU, accV, st1.trans (sb.cong hmu), hw ▸ rb.wipe hvm, sb.k _ _ hD1 noD, Reps.mono (gw.g.trans sb.g) _ _ hacc, sb.n _ _ hD1 hG1, Nat.le_succ_of_le hle, hc⟩
      · cases hc
    · cases hc
  · left
    have e : i = us.length := by omega
    subst e
    rw [List.drop_length, compL] at hc
    cases hc
    refine ⟨q1 (Nat.le_refl _) (Nat.le_refl _), h H G st (R.back hvm r1 st.g r) ?_⟩
    exact ⟨D, accU.reverse, accV, rfl, rfl, hGD, n2, n3, hHD, hacc, n6, n7⟩
theorem compL_noexc (vs : List Nat) (gt : TgF) (ft : BF) (fe : EF) : ∀ (us : List U) (ρ : Sl) (acc : List U) (C : Str) (ρ' : Sl), compL vs gt ft fe us ρ acc ≠ .exc C ρ'
  | [], ρ, acc, C, ρ' => by
    rw [compL]
    intro h
    cases h
  | u :: us, ρ, acc, C, ρ' => by
    rw [compL]
    split
    · split
      · split
        · exact compL_noexc vs gt ft fe us _ _ C ρ'
        · intro h
          cases h
      · exact compL_noexc vs gt ft fe us _ _ C ρ'
      · intro h
        cases h
    · intro h
      cases h
/-- [elt for tg in it if ..] -/
theorem tq_lc {sl : List Nat} {own : List (Str × Nat)} {fi : AF} {gt : TgF} {ft : BF} {σ : L2.St} {H : Hp} {Q : VK} (hsl : (sl.all fun i => (own.map (·.2)).contains i) = true) (hvm : ((own.map (·.2)).all fun i => !c.mu.contains i) = true)
    (h : tqF (Cx.T X) c W (eComp (own.map (·.2)) fi gt ft fe) σ H Q) : tLc (tq (Cx.T X) c W (relI (Cx.T X)) fi) (tqg (Cx.T X) c sl gt) (tq (Cx.T X) c W0 relB ft) (tq (Cx.T X) c W0 (relU (Cx.T X)) fe) (own.map (·.2)) σ H Q := by
  have hsl' : ∀ i ∈ sl, i ∈ own.map (·.2) := fun i hi => isIn (List.all_eq_true.mp hsl i hi)
  have hvm' : ∀ i ∈ own.map (·.2), i ∉ c.mu := fun i hi => notIn (by
    have := List.all_eq_true.mp hvm i hi
    simpa using this)
  obtain ⟨G, ρ, r, h⟩ := h
  refine ⟨G, ρ, r, (PQ.bind (rel := relI (Cx.T X)) h).imp fun J H1 ⟨G1, ρ1, us, s1, r1, l1, h1⟩ => ?_⟩
  intro D hD
  split at h1
  · rename_i hz
    cases hF : compL (own.map (·.2)) gt ft fe us ρ1 [] with
    | ok accF ρF =>
      rw [hF] at h1
      exact lc_all hsl' hvm' r1 l1 hz hD (fun b o q => s1.d b o q) hF fun H2 G2 s2 r2 l2 => h1 _ G2 H2 s2 r2 l2
    | exc C ρF =>
      exact (compL_noexc _ _ _ _ _ _ _ _ _ hF).elim
    | stuck =>
      rw [hF] at h1
      exact h1.elim
  · exact h1.elim
/-- what a comprehension's block asks: its target, tests and element in the block's context -/
theorem qf_lc {elt tg it : Expr} {ifs : List Expr} {scope : Scope} {own : List (Str × Nat)} {sl : List Nat} {fi : AF} {gt : TgF} {ft : BF} (calm : X.calm = true) (nd : X.N.Nodup) (hi : QI X c W tg it fi) (ok : blkC X.N X.env.scope scope own = true)
    (hg : ∀ (s : Shared) (H : Hp) (C : Addr) (cl : List (Str × Addr)) (fp : List Addr), QG (X.blk s H scope (compEnvC scope cl C X.env) fp) c sl tg gt) (ht : ∀ (s : Shared) (H : Hp) (C : Addr) (cl : List (Str × Addr)) (fp : List Addr), QTs (X.blk s H scope (compEnvC scope cl C X.env) fp) c W0 ifs ft)
    (he : ∀ (s : Shared) (H : Hp) (C : Addr) (cl : List (Str × Addr)) (fp : List Addr), QE (X.blk s H scope (compEnvC scope cl C X.env) fp) c W0 elt fe) (hsl : (sl.all fun i => (own.map (·.2)).contains i) = true := by rfl) (hvm : ((own.map (·.2)).all fun i => !c.mu.contains i) = true := by rfl)
    (hs : ∀ x, foldedSetIterable it X.env x = pure x := by intro _; rfl) : QF X c W (.ListComp elt [⟨tg, it, ifs, 0⟩] scope pos) (eComp (own.map (·.2)) fi gt ft fe) :=
  PE.weak (pe_lc (g := tqg (Cx.T X) c sl gt) (tt := tq (Cx.T X) c W0 relB ft) (te := tq (Cx.T X) c W0 (relU (Cx.T X)) fe) calm nd hi (blkOk_by ok) hg ht he hs) fun _ _ _ q => tq_lc hsl hvm q
/-- x = [..] -/
theorem qs_setLc {st : Stmt} {elt tg it : Expr} {ifs : List Expr} {scope : Scope} {own : List (Str × Nat)} {sl : List Nat} {fi : AF} {gt : TgF} {ft : BF} {i : Nat} {y : Str} {py : Pos} {spos : Pos} (calm : X.calm = true) (nd : X.N.Nodup) (hi : QI X c W tg it fi) (ok : blkC X.N X.env.scope scope own = true)
    (hg : ∀ (s : Shared) (H : Hp) (C : Addr) (cl : List (Str × Addr)) (fp : List Addr), QG (X.blk s H scope (compEnvC scope cl C X.env) fp) c sl tg gt) (ht : ∀ (s : Shared) (H : Hp) (C : Addr) (cl : List (Str × Addr)) (fp : List Addr), QTs (X.blk s H scope (compEnvC scope cl C X.env) fp) c W0 ifs ft)
    (he : ∀ (s : Shared) (H : Hp) (C : Addr) (cl : List (Str × Addr)) (fp : List Addr), QE (X.blk s H scope (compEnvC scope cl C X.env) fp) c W0 elt fe) (hm : c.mu.contains i = false := by rfl) (hsl : (sl.all fun i => (own.map (·.2)).contains i) = true := by rfl) (hvm : ((own.map (·.2)).all fun i => !c.mu.contains i) = true := by rfl)
    (hy : X.N[i]? = some y := by rfl) (hyl : X.env.scope.names.lookup y = some .local := by rfl) (hsw : swapsWith (.ListComp elt [⟨tg, it, ifs, 0⟩] scope pos) (some (.Name y py)) spos.line X.env = pure true := by exact sw_true rfl rfl rfl (by decide +kernel))
    (hs : ∀ x, foldedSetIterable it X.env x = pure x := by intro _; rfl) : QS X c W fr (.Assign [.Name y py] (.ListComp elt [⟨tg, it, ifs, 0⟩] scope pos) spos) (sSet i (eComp (own.map (·.2)) fi gt ft fe)) :=
  PS.weak (ps_setLc (g := tqg (Cx.T X) c sl gt) (tt := tq (Cx.T X) c W0 relB ft) (te := tq (Cx.T X) c W0 (relU (Cx.T X)) fe) calm nd hy hyl hsw hi (blkOk_by ok) hg ht he hs) fun D σ H ⟨G, ρ, r, h⟩ => by
    show tLc _ _ _ _ _ σ H (fun x H1 => gName i x σ H1 D.nx)
    refine tq_lc (X := X) (fe := fe) (Q := fun x H1 => gName i x σ H1 D.nx) hsl hvm ⟨G, ρ, r, PQ.freeze ((PFl.of (rel := relU (Cx.T X)) h).imp fun x H1 ⟨G1, ρ1, u, e1, r1, l1, h1⟩ => ?_)⟩
    exact h1 _ G1 H1 (Ex.refl _) (r1.store (notIn hm) l1)
/-- .. a slot of its own -/
theorem qs_setLcF {elt tg it : Expr} {ifs : List Expr} {scope : Scope} {own : List (Str × Nat)} {sl : List Nat} {fi : AF} {gt : TgF} {ft : BF} {i : Nat} {y : Str} {py : Pos} {spos : Pos} (calm : X.calm = true) (nd : X.N.Nodup) (hi : QI X c W tg it fi) (ok : blkC X.N X.env.scope scope own = true)
    (hg : ∀ (s : Shared) (H : Hp) (C : Addr) (cl : List (Str × Addr)) (fp : List Addr), QG (X.blk s H scope (compEnvC scope cl C X.env) fp) c sl tg gt) (ht : ∀ (s : Shared) (H : Hp) (C : Addr) (cl : List (Str × Addr)) (fp : List Addr), QTs (X.blk s H scope (compEnvC scope cl C X.env) fp) c W0 ifs ft)
    (he : ∀ (s : Shared) (H : Hp) (C : Addr) (cl : List (Str × Addr)) (fp : List Addr), QE (X.blk s H scope (compEnvC scope cl C X.env) fp) c W0 elt fe) (hm : c.mu.contains i = true := by rfl) (h0 : c.da = none ∨ i ≠ 0 := by first | exact .inr (by decide) | exact .inl rfl | assumption) (hsl : (sl.all fun i => (own.map (·.2)).contains i) = true := by rfl) (hvm : ((own.map (·.2)).all fun i => !c.mu.contains i) = true := by rfl)
    (hy : X.N[i]? = some y := by rfl) (hyl : X.env.scope.names.lookup y = some .local := by rfl) (hsw : swapsWith (.ListComp elt [⟨tg, it, ifs, 0⟩] scope pos) (some (.Name y py)) spos.line X.env = pure true := by exact sw_true rfl rfl rfl (by decide +kernel))
    (hs : ∀ x, foldedSetIterable it X.env x = pure x := by intro _; rfl) : QS X c W fr (.Assign [.Name y py] (.ListComp elt [⟨tg, it, ifs, 0⟩] scope pos) spos) (sSet i (eComp (own.map (·.2)) fi gt ft fe)) :=
  PS.weak (ps_setLc (g := tqg (Cx.T X) c sl gt) (tt := tq (Cx.T X) c W0 relB ft) (te := tq (Cx.T X) c W0 (relU (Cx.T X)) fe) calm nd hy hyl hsw hi (blkOk_by ok) hg ht he hs) fun D σ H ⟨G, ρ, r, h⟩ => by
    show tLc _ _ _ _ _ σ H (fun x H1 => gName i x σ H1 D.nx)
    refine tq_lc (X := X) (fe := fe) (Q := fun x H1 => gName i x σ H1 D.nx) hsl hvm ⟨G, ρ, r, (PFl.of (rel := relF (Cx.T X) c H) h).imp fun x H1 ⟨G1, ρ1, u, e1, r1, ⟨a, us, vs, q1, q2, l1, l2, l3, l4, l5, l6, l7⟩, h1⟩ => ?_⟩
    subst q1 q2
    exact h1 _ G1 H1 (Ex.refl _) (r1.storeOwn (isIn hm) l1 (.inl l2) l4 l5 (fun j u q m ne => l7 j m) h0)
end

/-! ### what a def promises -/
def daOf (io : Bool) (vs : List V) : Option Addr := match io, vs with
  | true, .ref a :: _ => some a
  | _, _ => none
/-- the arguments: known values; or a list that the def may change, ahead of known values -/
def argR (T : Tab) (io : Bool) (G H : Hp) (us : List U) (vs : List V) : Prop := match io with
  | false => Reps T G us vs
  | true => ∃ a dl dvs us' vs', vs = .ref a :: vs' ∧ us = .lst dl :: us' ∧ G a = none ∧ H a = some (.lst dvs) ∧ Reps T G dl dvs ∧ Reps T G us' vs'
/-- what stood stands, but at da; it is known then as before, or new -/
structure Frm (da : Option Addr) (G H G' H' : Hp) : Prop where
  g : Ex G G'
  e : Ex G' H'
  n : ∀ a o, H a = some o → G a = none → G' a = none
  k : ∀ a o, H a = some o → da ≠ some a → H' a = some o
def deckR (T : Tab) (da : Option Addr) (G' H' : Hp) (d : U) : Prop := ∀ a, da = some a → ∃ dl dvs, d = .lst dl ∧ H' a = some (.lst dvs) ∧ Reps T G' dl dvs
def spQ (T : Tab) (io fr : Bool) (p : Nat) (φ : List U → FR) : Sp := fun vs H Q E => vs.length = p ∧ ∃ G us, Ex G H ∧ argR T io G H us vs ∧ match φ us with
  | .ok u d => ∀ v G' H', Frm (daOf io vs) G H G' H' → deckR T (daOf io vs) G' H' d → retR T fr H (daOf io vs) G' H' u v → Q v H'
  | .exc C d => ∀ G' H' x, Frm (daOf io vs) G H G' H' → deckR T (daOf io vs) G' H' d → T.mg C = some (.ref x) → E (.ref x) none H'
  | .stuck => False
/-- a def of the module, with its promise -/
structure Cal (P : Program) (w : World) (K : PySem.W.Frag) (mg : Str → Option Value) (base : Heap) (CX : CXT) (x : Str) (io fr : Bool) (p : Nat) (φ : List U → FR) (j : Nat) : Prop where
  ex : ∃ (f : Addr) (fd : FuncData) (ps : List Str), mg x = some (.ref f) ∧ PySem.W.keepIn K (.ref f) = true ∧ Binds K fd ps [] ∧ FnOk P w K mg base CX j f fd ps (spQ ⟨K, mg⟩ io fr p φ)
/-- a def whose value is a new list, used for its value -/
theorem spQ_weak {T : Tab} {io : Bool} {p : Nat} {φ : List U → FR} {vs : List V} {H : Hp} {Q : VK} {E : XK} (h : spQ T io false p φ vs H Q E) : spQ T io true p φ vs H Q E := by
  obtain ⟨h1, G, us, h2, h3, h4⟩ := h
  refine ⟨h1, G, us, h2, h3, ?_⟩
  generalize φ us = z at h4 ⊢
  cases z with
  | ok u d =>
    intro v G' H' w hd ⟨a, us', vs', e1, e2, k1, k2, k3, k4, k5⟩
    subst e1 e2
    refine h4 (.ref a) (upd G' a (.lst vs')) H' ⟨w.g.trans (Ex.new k1), fun b o q => ?_, fun b o q z => ?_, w.k⟩ (fun b q => ?_) (rep_lst.2 ⟨a, vs', rfl, .inl (.inl upd_same), Reps.mono (Ex.new k1) _ _ k5⟩)
    · by_cases hb : b = a
      · subst hb
        rw [upd_same] at q
        cases q
        exact k4
      · rw [upd_ne hb] at q
        exact w.e b o q
    · rw [upd_ne (ne_of_none q k2)]
      exact w.n b o q z
    · obtain ⟨dl, dvs, e1, e2, e3⟩ := hd b q
      exact ⟨dl, dvs, e1, e2, Reps.mono (Ex.new k1) _ _ e3⟩
  | exc C d => exact h4
  | stuck => exact h4
section
variable {X : Cx} {c : Cn} {W : WX} {k j p : Nat} {fr io : Bool} {pos : Pos} {e : Expr} {fe : EF} {CX : CXT} {x : Str} {φ : List U → FR} {a : Expr} {es : List Expr} {as : AF} {q : Pos}
theorem Frm.grow {G H G' H' : Hp} (w : Frm none G H G' H') : Grow G H G' H' := ⟨w.g, w.e, fun a o h => w.k a o h (by simp), w.n⟩
theorem tq_call {σ : L2.St} {H : Hp} {Q : VK} (h : tq (Cx.T X) c W (relU (Cx.T X)) (eCall φ as) σ H Q) (hl : ∀ ρ us ρ', as ρ = .ok us ρ' → us.length = p) :
    tCallS (spQ (Cx.T X) false false p φ) (WE W) (tq (Cx.T X) c W (relUs (Cx.T X)) as) σ H Q := by
  obtain ⟨G, ρ, r, h⟩ := h
  refine ⟨G, ρ, r, ?_⟩
  unfold eCall at h
  cases ha : as ρ with
  | ok us ρ1 =>
    rw [ha] at h
    intro vs G1 H1 s1 r1 l1
    refine ⟨l1.length.symm.trans (hl _ _ _ ha), G1, us, r1.ex, l1, ?_⟩
    replace h := PQ.mono s1 h
    simp only [Rs.bind] at h
    generalize φ us = z at h ⊢
    cases z with
    | ok u d => exact fun v G' H' w _ rv => h v G' H' w.grow.stp (r1.grow w.grow) rv
    | exc C d => exact fun G' H' x w _ hx => h G' H' x w.grow.stp (r1.grow w.grow).xr hx
    | stuck => exact h
  | exc C ρ1 =>
    rw [ha] at h
    exact h
  | stuck =>
    rw [ha] at h
    exact h
theorem al_nil : ∀ ρ us ρ', aNil ρ = .ok us ρ' → us.length = 0 := fun ρ us ρ' h => by
  cases h
  rfl
theorem al_cons {n : Nat} {fa : EF} (h : ∀ ρ us ρ', as ρ = .ok us ρ' → us.length = n) : ∀ ρ us ρ', aCons fa as ρ = .ok us ρ' → us.length = n + 1 := fun ρ us ρ' e => by
  unfold aCons at e
  cases h1 : fa ρ with
  | ok u ρ1 =>
    rw [h1] at e
    simp only [Rs.bind] at e
    cases h2 : as ρ1 with
    | ok ws ρ2 =>
      rw [h2] at e
      cases e
      rw [List.length_cons, h _ _ _ h2]
    | exc C ρ2 =>
      rw [h2] at e
      cases e
    | stuck =>
      rw [h2] at e
      cases e
  | exc C ρ1 =>
    rw [h1] at e
    cases e
  | stuck =>
    rw [h1] at e
    cases e
/-- f(a, ..) -/
theorem qe_call (C : Cal X.prog X.w X.K X.mg X.base CX x false fr p φ j) (ok : OkX X CX W k) (hj : j ≤ k) (ha : QA X c W (a :: es) as) (hl : ∀ ρ us ρ', as ρ = .ok us ρ' → us.length = p) (hg : Gl X x := by rfl) (hdb : (x == ("__debug__" : Str)) = false := by decide)
    (he : starEach (a :: es) X.env = (false, eval a X.env) :: starEach es X.env := by rfl) (hpl : (backTo pos (starEach es X.env)).any (·.1) = false := by rfl) : QE X c W (.Call (.Name x q) (a :: es) [] pos) (eCall φ as) := by
  obtain ⟨f, fd, ps, h1, h2, h3, h4⟩ := C.ex
  have F : FnOk X.prog X.w X.K X.mg X.base CX j f fd ps (spQ (Cx.T X) false false p φ) := by
    cases fr with
    | false => exact h4
    | true => exact h4.imp fun vs H Q E h => spQ_weak h
  exact PE.weak (pe_callS F (ok.room.mono hj) hg h1 h2 h3 ok.pa ha hdb he hpl) fun σ H Q h => tq_call h hl
end
end Q
set_option maxRecDepth 100000
set_option maxHeartbeats 2000000
/-! QDefs: calls that change a list, borrowed reading, a def's rule -/
namespace Q
open PySem PySem.Spec PyProof.Rows L2
open Evl (Ex)

section
variable {X : Cx} {c : Cn} {W : WX} {k j p : Nat} {fr io : Bool} {pos : Pos} {e : Expr} {fe : EF} {CX : CXT} {x : Str} {φ : List U → FR} {a : Expr} {es : List Expr} {as : AF} {q : Pos}
/-! ### a call whose value is a new list -/
theorem tq_callF {σ : L2.St} {H : Hp} {Q : VK} (h : tqF (Cx.T X) c W (eCall φ as) σ H Q) (hl : ∀ ρ us ρ', as ρ = .ok us ρ' → us.length = p) :
    tCallS (spQ (Cx.T X) false true p φ) (WE W) (tq (Cx.T X) c W (relUs (Cx.T X)) as) σ H Q := by
  obtain ⟨G, ρ, r, h⟩ := h
  refine ⟨G, ρ, r, ?_⟩
  unfold eCall at h
  cases ha : as ρ with
  | ok us ρ1 =>
    rw [ha] at h
    intro vs G1 H1 s1 r1 l1
    refine ⟨l1.length.symm.trans (hl _ _ _ ha), G1, us, r1.ex, l1, ?_⟩
    replace h := PQ.since s1 (PQ.mono s1 h)
    simp only [Rs.bind] at h
    generalize φ us = z at h ⊢
    cases z with
    | ok u d =>
      intro v G' H' w _ ⟨b, us', vs', e1, e2, k1, k2, k3, k4, k5⟩
      have r2 := r1.grow w.grow
      obtain ⟨n2, n3⟩ := r1.fresh0 k2
      exact h v G' H' w.grow.stp r2 ⟨b, us', vs', e1, e2, k1, n2, n3, k4, k5, k2, r1.notOwn k2⟩
    | exc C d => exact fun G' H' x w _ hx => h G' H' x w.grow.stp (r1.grow w.grow).xr hx
    | stuck => exact h
  | exc C ρ1 =>
    rw [ha] at h
    exact h
  | stuck =>
    rw [ha] at h
    exact h
theorem qf_call (C : Cal X.prog X.w X.K X.mg X.base CX x false true p φ j) (ok : OkX X CX W k) (hj : j ≤ k) (ha : QA X c W (a :: es) as) (hl : ∀ ρ us ρ', as ρ = .ok us ρ' → us.length = p) (hg : Gl X x := by rfl) (hdb : (x == ("__debug__" : Str)) = false := by decide)
    (he : starEach (a :: es) X.env = (false, eval a X.env) :: starEach es X.env := by rfl) (hpl : (backTo pos (starEach es X.env)).any (·.1) = false := by rfl) : QF X c W (.Call (.Name x q) (a :: es) [] pos) (eCall φ as) := by
  obtain ⟨f, fd, ps, h1, h2, h3, h4⟩ := C.ex
  exact PE.weak (pe_callS h4 (ok.room.mono hj) hg h1 h2 h3 ok.pa ha hdb he hpl) fun σ H Q h => tq_callF h hl
/-! ### a call that may change the list in the slot i -/
theorem R.called {T : Tab} {G G' H H' : Hp} {ρ : Sl} {σ : L2.St} {i : Nat} {b : Addr} {d d' : U} (r : R T c G ρ σ H) (hm : i ∈ c.mu) (h0 : ρ[i]? = some (some d)) (hs : σ[i]? = some (some (.ref b))) (w : Frm (some b) G H G' H') (hd : deckR T (some b) G' H' d') :
    R T c G' (ρ.set i (some d')) σ H' ∧ Stp c σ G H G' H' := by
  obtain ⟨b', e1, e2, e3, e4⟩ := r.ow i d h0 hm
  rw [hs] at e1
  cases e1
  obtain ⟨dl, dvs, rfl, hb, hrp⟩ := hd b rfl
  have hl : i < ρ.length := (List.getElem?_eq_some_iff.mp h0).1
  obtain ⟨ob, hob⟩ := e4.at
  have kb : ∀ a o, H a = some o → a ≠ b → H' a = some o := fun a o h n => w.k a o h (fun z => n (Option.some.inj z).symm)
  have dn : ∀ a o, H a = some o → ∃ o', H' a = some o' := fun a o h => by
    by_cases ha : a = b
    · subst ha
      exact ⟨_, hb⟩
    · exact ⟨o, kb a o h ha⟩
  refine ⟨⟨fun a q => ?_, w.e, r.g0.trans w.g, fun a o h z => ?_, fun a o h dd => ?_, fun a h => ?_, by rw [List.length_set, r.len], fun l u e m => ?_, fun l u e m => ?_, fun l m u v f1 f2 m1 m2 ne => ?_, fun l v m e => ?_⟩, ⟨w.g, fun a o h m => ?_, w.n, dn⟩⟩
  · obtain ⟨k1, k2, dl0, k3⟩ := r.dk a q
    refine ⟨k1, k2, ?_⟩
    by_cases hz : i = 0
    · subst hz
      exact ⟨dl, List.getElem?_set_self hl⟩
    · rw [List.getElem?_set_ne hz]
      exact ⟨dl0, k3⟩
  · by_cases hd : c.da = some a
    · obtain ⟨o', h'⟩ := r.dd a hd
      exact w.n a o' h' (r.nw a o h z)
    · exact w.n a o (r.fr a o h hd) (r.nw a o h z)
  · have ha : a ≠ b := by
      rintro rfl
      rcases e3 with z | z
      · rw [z] at h
        cases h
      · exact dd z
    exact kb a o (r.fr a o h dd) ha
  · obtain ⟨o, q⟩ := r.dd a h
    exact dn a o q
  · have hj : i ≠ l := fun z => m (z ▸ hm)
    rw [List.getElem?_set_ne hj] at e
    obtain ⟨v, e1, e2⟩ := r.sh l u e m
    exact ⟨v, e1, Rep.mono w.g _ _ e2⟩
  · by_cases hj : i = l
    · subst hj
      rw [List.getElem?_set_self hl] at e
      cases e
      exact ⟨b, hs, w.n b ob hob e2, e3, dvs, hb, hrp⟩
    · rw [List.getElem?_set_ne hj] at e
      obtain ⟨a, f1, f2, f3, f4⟩ := r.ow l u e m
      have ha : a ≠ b := by
        rintro rfl
        exact r.ap i l d u h0 e hm m hj (hs.trans f1.symm)
      obtain ⟨o, q⟩ := f4.at
      exact ⟨a, f1, w.n a o q f2, f3, f4.mono w.g ((kb a o q ha).trans q.symm)⟩
  · have get : ∀ {l : Nat} {y : U}, (ρ.set i (some (.lst dl)))[l]? = some (some y) → ∃ y', ρ[l]? = some (some y') := fun {l y} q => by
      by_cases hq : i = l
      · subst hq
        exact ⟨d, h0⟩
      · rw [List.getElem?_set_ne hq] at q
        exact ⟨y, q⟩
    obtain ⟨u', g1⟩ := get f1
    obtain ⟨v', g2⟩ := get f2
    exact r.ap l m u' v' g1 g2 m1 m2 ne
  · obtain ⟨u, q⟩ := r.lv l v m e
    by_cases hj : i = l
    · subst hj
      exact ⟨_, List.getElem?_set_self hl⟩
    · rw [List.getElem?_set_ne hj]
      exact ⟨u, q⟩
  · have ha : a ≠ b := by
      rintro rfl
      exact m i hm hs
    exact kb a o h ha
theorem qe_callD (i : Nat) {y : Str} {py : Pos} (C : Cal X.prog X.w X.K X.mg X.base CX x true false (p + 1) φ j) (ok : OkX X CX W k) (hj : j ≤ k) (ha : QA X c W es as) (hl : ∀ ρ us ρ', as ρ = .ok us ρ' → us.length = p) (hm : c.mu.contains i = true := by rfl) (hN : X.N[i]? = some y := by rfl)
    (hv : Vis X.env.scope y := by first | exact Or.inl rfl | exact Or.inr (Or.inl rfl) | exact Or.inr (Or.inr rfl)) (hd : (y == ("__debug__" : Str)) = false := by decide) (hcd : (y == ("__classdict__" : Str)) = false := by decide)
    (hg : Gl X x := by rfl) (hdb : (x == ("__debug__" : Str)) = false := by decide) (hst : starEach (.Name y py :: es) X.env = (false, eval (.Name y py) X.env) :: starEach es X.env := by rfl)
    (he : starEach (.Name y py :: es) X.env = (false, eval (.Name y py) X.env) :: starEach es X.env := by rfl) (hpl : (backTo pos (starEach es X.env)).any (·.1) = false := by rfl) : QE X c W (.Call (.Name x q) (.Name y py :: es) [] pos) (eCallD i φ as) := by
  obtain ⟨f, fd, ps, h1, h2, h3, h4⟩ := C.ex
  refine PE.weak (pe_callS h4 (ok.room.mono hj) hg h1 h2 h3 ok.pa (pa_cons (pe_var hN hv hd hcd) ha hst) hdb he hpl) fun σ H Q ⟨G, ρ, r, h⟩ => ?_
  unfold eCallD at h
  split at h
  · rename_i d0 e0
    obtain ⟨b, e1, _, _, _⟩ := r.ow i d0 e0 (isIn hm)
    refine ⟨.ref b, e1, G, ρ, r, ?_⟩
    cases ha : as ρ with
    | ok us ρ1 =>
      rw [ha] at h
      intro vs G1 H1 s1 r1 l1
      replace h := PQ.mono s1 h
      simp only [Rs.bind] at h
      split at h
      · rename_i d ed
        obtain ⟨b', f1, f2, f3, f4⟩ := r1.ow i d ed (isIn hm)
        rw [e1] at f1
        cases f1
        cases d with
        | lst dl =>
          obtain ⟨dvs, f5, f6⟩ := f4
          refine ⟨by rw [List.length_cons, ← l1.length, hl _ _ _ ha], G1, .lst dl :: us, r1.ex, ⟨b, dl, dvs, us, vs, rfl, rfl, f2, f5, f6, l1⟩, ?_⟩
          generalize φ (.lst dl :: us) = z at h ⊢
          cases z with
          | ok u d' =>
            intro v G' H' w hd rv
            obtain ⟨r2, s2⟩ := r1.called (isIn hm) ed e1 w hd
            exact h v G' H' s2 r2 rv
          | exc C d' =>
            intro G' H' x w hd hx
            obtain ⟨r2, s2⟩ := r1.called (isIn hm) ed e1 w hd
            exact h G' H' x s2 r2.xr hx
          | stuck => exact h
        | _ => exact f4.elim
      · exact h.elim
    | exc C ρ1 =>
      rw [ha] at h
      exact h
    | stuck =>
      rw [ha] at h
      exact h
  · exact h.elim
/-! ### borrowed reading -/
theorem scal_rep {T : Tab} {G G' : Hp} {u : U} {v : V} (hs : scalU u = true) (h : Rep T G u v) : Rep T G' u v := by
  cases u with
  | tup _ => cases hs
  | lst _ => cases hs
  | dct _ _ => cases hs
  | obj _ _ _ => cases hs
  | non => exact rep_non.2 (rep_non.1 h)
  | bl b => exact rep_bl.2 (rep_bl.1 h)
  | int b => exact rep_int.2 (rep_int.1 h)
  | str b => exact rep_str.2 (rep_str.1 h)
  | ty b => exact rep_ty.2 (rep_ty.1 h)
  | fn b => exact rep_fn.2 (rep_fn.1 h)
/-- the slots' lists, known for a while, are the slots' own again -/
theorem R.thaw {T : Tab} {G Gf G' H H' : Hp} {ρ ρ' : Sl} {σ : L2.St} (r : R T c G ρ σ H) (hd : c.da = none) (ef : Ex G Gf) (hf : ∀ a o, Gf a = some o → G a = none → ∃ i u, i ∈ c.mu ∧ ρ[i]? = some (some u) ∧ σ[i]? = some (some (.ref a))) (s : Stp (c.to []) σ Gf H G' H') (r' : R T (c.to []) G' ρ' σ H') : ∃ G2, R T c G2 ρ σ H' ∧ Stp c σ G H G2 H' ∧ ∀ a, G' a = none → G2 a = none := by
  classical
  let S : Addr → Prop := fun a => G a = none ∧ ∃ i u, i ∈ c.mu ∧ ρ[i]? = some (some u) ∧ σ[i]? = some (some (.ref a))
  let G2 : Hp := fun a => if S a then none else G' a
  have gs : ∀ a, S a → G2 a = none := fun a h => if_pos h
  have gn : ∀ a, ¬ S a → G2 a = G' a := fun a h => if_neg h
  have ex : Ex G G2 := fun a o q => by
    have hn : ¬ S a := fun z => by
      rw [z.1] at q
      cases q
    rw [gn a hn]
    exact s.g a o (ef a o q)
  have kp : ∀ a o, H a = some o → H' a = some o := fun a o q => s.k a o q fun i hi => absurd hi (by simp [Cn.to])
  refine ⟨G2, ⟨fun a q => ?_, fun a o q => ?_, r.g0.trans ex, fun a o q z => ?_, fun a o q d => kp a o (r.fr a o q d), fun a q => ?_, r.len.trans rfl, fun i u e m => ?_, fun i u e m => ?_, r.ap, r.lv⟩, ⟨ex, fun a o q _ => kp a o q, fun a o q z => ?_, fun a o q => ⟨o, kp a o q⟩⟩, fun a q => ?_⟩
  · rw [hd] at q
    cases q
  · by_cases hS : S a
    · rw [gs a hS] at q
      cases q
    · rw [gn a hS] at q
      exact r'.ex a o q
  · by_cases hS : S a
    · exact gs a hS
    · rw [gn a hS]
      exact r'.nw a o q z
  · rw [hd] at q
    cases q
  · obtain ⟨v, e1, e2⟩ := r.sh i u e m
    exact ⟨v, e1, Rep.mono ex _ _ e2⟩
  · obtain ⟨a, e1, e2, e3, e4⟩ := r.ow i u e m
    obtain ⟨o, q⟩ := e4.at
    exact ⟨a, e1, gs a ⟨e2, i, u, m, e, e1⟩, e3, e4.mono ex ((kp a o q).trans q.symm)⟩
  · by_cases hS : S a
    · exact gs a hS
    · rw [gn a hS]
      have hf' : Gf a = none := by
        cases q2 : Gf a with
        | none => rfl
        | some o' => exact absurd ⟨z, hf a o' q2 z⟩ hS
      exact s.n a o q hf'
  · by_cases hS : S a
    · exact gs a hS
    · rw [gn a hS]
      exact q
theorem qe_borrow (hd : c.da = none) (he : QE X (c.to []) W e fe) : QE X c W e (eBorrow fe) :=
  PE.weak he fun σ H Q ⟨G, ρ, r, h⟩ => by
    obtain ⟨Gf, ef, rf, hf⟩ := r.freeze [] (by simp) (.inl hd)
    refine ⟨Gf, ρ, rf, ?_⟩
    unfold eBorrow at h
    generalize fe ρ = z at h ⊢
    cases z with
    | ok u ρ' =>
      simp only at h
      split at h
      · rename_i hs
        intro v G' H' s r' l
        obtain ⟨G2, r2, s2, _⟩ := r.thaw hd ef hf s r'
        exact h v G2 H' s2 r2 (scal_rep hs l)
      · exact h.elim
    | exc C ρ' => exact h.elim
    | stuck => exact h.elim
theorem scal_reps {T : Tab} {G G' : Hp} : ∀ {us : List U} {vs : List V}, us.all scalU = true → Reps T G us vs → Reps T G' us vs
  | [], vs, _, h => by
    rw [reps_nil] at h ⊢
    exact h
  | u :: us, vs, hs, h => by
    rw [List.all_cons, Bool.and_eq_true] at hs
    obtain ⟨v, r, rfl, h1, h2⟩ := reps_cons.1 h
    exact .cons (scal_rep hs.1 h1) (scal_reps hs.2 h2)
theorem qf_borrow (hd : c.da = none) (he : QF X (c.to []) W e fe) : QF X c W e (eBorrowF fe) :=
  PE.weak he fun σ H Q ⟨G, ρ, r, h⟩ => by
    obtain ⟨Gf, ef, rf, hf⟩ := r.freeze [] (by simp) (.inl hd)
    refine ⟨Gf, ρ, rf, ?_⟩
    unfold eBorrowF at h
    generalize fe ρ = z at h ⊢
    cases z with
    | ok u ρ' =>
      cases u with
      | lst us =>
        simp only at h
        split at h
        · rename_i hs
          intro v G' H' s r' ⟨a, us', vs, e1, e2, h1, h2, h3, h4, h5, h6, h7⟩
          obtain ⟨G2, r2, s2, hg⟩ := r.thaw hd ef hf s r'
          cases e2
          exact h v G2 H' s2 r2 ⟨a, us, vs, e1, rfl, hg a h1, h2, h3, h4, scal_reps hs h5, h6, r.notOwn h6⟩
        · exact h.elim
      | _ => exact h.elim
    | exc C ρ' => exact h.elim
    | stuck => exact h.elim
end
end Q
set_option maxRecDepth 100000
set_option maxHeartbeats 2000000
/-! QPar: several names at once; a list repeated; raise; a def -/
namespace Q
open PySem PySem.Spec PyProof.Rows L2
open Evl (Ex)

/-! ### values, some of them new lists -/
def freshOf : List Bool → List V → List V
  | true :: ks, v :: vs => v :: freshOf ks vs
  | false :: ks, _ :: vs => freshOf ks vs
  | _, _ => []
def relK (T : Tab) (c : Cn) (Hs : Hp) : List Bool → Hp → Hp → L2.St → List U → List V → Prop
  | [], _, _, _, us, vs => us = [] ∧ vs = []
  | false :: ks, G, H, σ, us, vs => ∃ u ur v vr, us = u :: ur ∧ vs = v :: vr ∧ Rep T G u v ∧ relK T c Hs ks G H σ ur vr
  | true :: ks, G, H, σ, us, vs => ∃ u ur v vr, us = u :: ur ∧ vs = v :: vr ∧ relF T c Hs G H [] σ u v ∧ v ∉ freshOf ks vr ∧ relK T c Hs ks G H σ ur vr
abbrev relKs (T : Tab) (c : Cn) (Hs : Hp) (ks : List Bool) : Rel (List U) (List V) := fun G H _ σ us vs => relK T c Hs ks G H σ us vs
def tqK (T : Tab) (c : Cn) (W : WX) (ks : List Bool) (f : AF) : TA := fun σ H Q => ∃ G ρ, R T c G ρ σ H ∧ PQ T c W (relKs T c H ks) G H σ (f ρ) Q
def QK (X : Cx) (c : Cn) (W : WX) (ks : List Bool) (es : List Expr) (f : AF) : Prop := PA X es (tqK (Cx.T X) c W ks f)
section
variable {T : Tab} {c : Cn}
theorem relF.step {Hs G H G' H' : Hp} {σ : L2.St} {ρ ρ' : Sl} {u : U} {v : V} (h : relF T c Hs G H ρ σ u v) (s : Stp c σ G H G' H') : relF T c Hs G' H' ρ' σ u v := by
  obtain ⟨a, us, vs, e1, e2, h1, h2, h3, h4, h5, h6, h7⟩ := h
  exact ⟨a, us, vs, e1, e2, s.n a _ h4 h1, h2, h3, s.k a _ h4 h7, Reps.mono s.g _ _ h5, h6, h7⟩
theorem relF.since {Hs Hs' G H : Hp} {σ : L2.St} {ρ : Sl} {u : U} {v : V} (h : relF T c Hs G H ρ σ u v) (s : ∀ a o, Hs' a = some o → ∃ o', Hs a = some o') : relF T c Hs' G H ρ σ u v := by
  obtain ⟨a, us, vs, e1, e2, h1, h2, h3, h4, h5, h6, h7⟩ := h
  refine ⟨a, us, vs, e1, e2, h1, h2, h3, h4, h5, ?_, h7⟩
  cases q : Hs' a with
  | none => rfl
  | some o =>
    obtain ⟨o', q'⟩ := s a o q
    rw [h6] at q'
    cases q'
/-- the new lists are new since Hs -/
theorem relK.fresh {Hs G H : Hp} {σ : L2.St} : ∀ {ks : List Bool} {us : List U} {vs : List V} {v : V}, relK T c Hs ks G H σ us vs → v ∈ freshOf ks vs → ∃ a, v = .ref a ∧ Hs a = none
  | [], us, vs, v, ⟨_, e⟩, m => by
    subst e
    simp [freshOf] at m
  | false :: ks, us, vs, v, ⟨u, ur, w, vr, e1, e2, h1, h2⟩, m => by
    subst e1 e2
    exact relK.fresh h2 m
  | true :: ks, us, vs, v, ⟨u, ur, w, vr, e1, e2, h1, hn, h2⟩, m => by
    subst e1 e2
    rcases List.mem_cons.mp m with e | m
    · subst e
      obtain ⟨a, _, _, e1, _, _, _, _, _, _, h6, _⟩ := h1
      exact ⟨a, e1, h6⟩
    · exact relK.fresh h2 m
theorem relK.since {Hs Hs' G H : Hp} {σ : L2.St} (s : ∀ a o, Hs' a = some o → ∃ o', Hs a = some o') : ∀ {ks : List Bool} {us : List U} {vs : List V}, relK T c Hs ks G H σ us vs → relK T c Hs' ks G H σ us vs
  | [], us, vs, h => h
  | false :: ks, us, vs, ⟨u, ur, w, vr, e1, e2, h1, h2⟩ => ⟨u, ur, w, vr, e1, e2, h1, relK.since s h2⟩
  | true :: ks, us, vs, ⟨u, ur, w, vr, e1, e2, h1, hn, h2⟩ => ⟨u, ur, w, vr, e1, e2, h1.since s, hn, relK.since s h2⟩
end
section
variable {X : Cx} {c : Cn} {W : WX} {k : Nat} {fr : Bool} {pos : Pos} {e : Expr} {es : List Expr} {fe : EF} {as : AF} {ks : List Bool}
theorem qk_nil : QK X c W [] [] aNil := PA.weak pa_nil fun σ H Q ⟨G, ρ, r, h⟩ => h [] G H Stp.refl r ⟨rfl, rfl⟩
theorem PQ.sinceK {T : Tab} {z : Rs (List U)} {G H G1 H1 : Hp} {σ : L2.St} {Q : List V → Hp → Prop} (e : Stp c σ G H G1 H1) (h : PQ T c W (relKs T c H ks) G1 H1 σ z Q) : PQ T c W (relKs T c H1 ks) G1 H1 σ z Q := by
  cases z with
  | ok u ρ' => exact fun v G' H' e' r' l => h v G' H' e' r' (relK.since e.d l)
  | exc C ρ' => exact h
  | stuck => exact h
theorem qk_s (ha : QE X c W e fe) (hr : QK X c W ks es as) (hs : starEach (e :: es) X.env = (false, eval e X.env) :: starEach es X.env := by rfl) : QK X c W (false :: ks) (e :: es) (aCons fe as) :=
  PA.weak (pa_cons ha hr hs) fun σ H Q ⟨G, ρ, r, h⟩ => by
    refine ⟨G, ρ, r, (PQ.bind (rel := relU (Cx.T X)) h).imp fun x H1 ⟨G1, ρ1, u, e1, r1, l1, h1⟩ => ?_⟩
    refine ⟨G1, ρ1, r1, PQ.imp (PQ.sinceK e1 (PQ.imp (PQ.bind (rel := relKs (Cx.T X) c H ks) h1) fun y H2 q => q)) fun y H2 ⟨G2, ρ2, w, e2, r2, l2, h2⟩ => ?_⟩
    exact h2 _ G2 H2 Stp.refl r2 ⟨u, w, x, y, rfl, rfl, Rep.mono e2.g _ _ l1, l2⟩
theorem qk_f (ha : QF X c W e fe) (hr : QK X c W ks es as) (hs : starEach (e :: es) X.env = (false, eval e X.env) :: starEach es X.env := by rfl) : QK X c W (true :: ks) (e :: es) (aCons fe as) :=
  PA.weak (pa_cons ha hr hs) fun σ H Q ⟨G, ρ, r, h⟩ => by
    refine ⟨G, ρ, r, (PQ.bind (rel := relF (Cx.T X) c H) h).imp fun x H1 ⟨G1, ρ1, u, e1, r1, l1, h1⟩ => ?_⟩
    refine ⟨G1, ρ1, r1, (PQ.bind (rel := relKs (Cx.T X) c H1 ks) h1).imp fun y H2 ⟨G2, ρ2, w, e2, r2, l2, h2⟩ => ?_⟩
    refine h2 _ G2 H2 Stp.refl r2 ⟨u, w, x, y, rfl, rfl, l1.step e2, fun m => ?_, relK.since e1.d l2⟩
    obtain ⟨a, ea, ha⟩ := relK.fresh l2 m
    obtain ⟨a', us, vs, q1, q2, l1, l2, l3, l4, l5, l6, l7⟩ := l1
    rw [ea] at q1
    cases q1
    rw [ha] at l4
    cases l4
/-! ### stored -/
def setV (σ : L2.St) : List Nat → List V → L2.St
  | i :: is, v :: vs => setV (σ.set i (some v)) is vs
  | _, _ => σ
/-- the kinds fit the slots; the slots are apart -/
def fitK (mu : List Nat) : List Bool → List Nat → Bool
  | [], [] => true
  | k :: ks, i :: is => (mu.contains i == k) && !is.contains i && fitK mu ks is
  | _, _ => false
theorem h0_tail {da : Option Addr} {i : Nat} {is : List Nat} (h : da = none ∨ (i :: is).contains 0 = false) : (da = none ∨ i ≠ 0) ∧ (da = none ∨ is.contains 0 = false) := by
  rcases h with h | h
  · exact ⟨.inl h, .inl h⟩
  · have h' := notIn h
    simp only [List.mem_cons, not_or] at h'
    refine ⟨.inr (Ne.symm h'.1), .inr ?_⟩
    cases q : is.contains 0 with
    | false => rfl
    | true => exact absurd (isIn q) h'.2
theorem store_all {T : Tab} {Hs G H : Hp} {ρ' : Sl} : ∀ {ks : List Bool} {is : List Nat} {us : List U} {vs : List V} {ρ : Sl} {σ σ0 : L2.St}, (c.da = none ∨ is.contains 0 = false) → fitK c.mu ks is = true → R T c G ρ σ H → relK T c Hs ks G H σ0 us vs → (∀ j ∈ c.mu, ∀ v ∈ freshOf ks vs, σ[j]? ≠ some (some v)) → gNs is us ρ = some ρ' → R T c G ρ' (setV σ is vs) H
  | [], [], us, vs, ρ, σ, σ0, h0, _, r, ⟨e1, e2⟩, _, h => by
    subst e1 e2
    cases h
    exact r
  | false :: ks, i :: is, us, vs, ρ, σ, σ0, h0, hf, r, ⟨u, ur, v, vr, e1, e2, h1, h2⟩, hn, h => by
    subst e1 e2
    simp only [fitK, Bool.and_eq_true, beq_iff_eq, Bool.not_eq_true'] at hf
    obtain ⟨⟨f1, f2⟩, f3⟩ := hf
    have hi := notIn f1
    show R T c G ρ' (setV (σ.set i (some v)) is vr) H
    refine store_all (h0_tail h0).2 f3 (r.store hi h1) h2 (fun j hj w hw => ?_) (show gNs is ur (ρ.set i (some u)) = some ρ' from h)
    have hij : i ≠ j := fun z => hi (z ▸ hj)
    rw [List.getElem?_set_ne hij]
    exact hn j hj w hw
  | true :: ks, i :: is, us, vs, ρ, σ, σ0, h0, hf, r, ⟨u, ur, v, vr, e1, e2, h1, hv, h2⟩, hn, h => by
    subst e1 e2
    simp only [fitK, Bool.and_eq_true, beq_iff_eq, Bool.not_eq_true'] at hf
    obtain ⟨⟨f1, f2⟩, f3⟩ := hf
    obtain ⟨a, us, vs, e1, e2, g1, g2, g3, g4, g5, g6, g7⟩ := h1
    subst e1 e2
    show R T c G ρ' (setV (σ.set i (some (.ref a))) is vr) H
    refine store_all (h0_tail h0).2 f3 (r.storeOwn (isIn f1) g1 (.inl g2) g4 g5 (fun j u q m ne => hn j m _ (.head _)) (h0_tail h0).1) h2 (fun j hj w hw => ?_) (show gNs is ur (ρ.set i (some (.lst us))) = some ρ' from h)
    by_cases hji : i = j
    · subst hji
      intro q
      have hl : i < σ.length := by
        have := (List.getElem?_eq_some_iff.mp q).1
        rwa [List.length_set] at this
      rw [List.getElem?_set_self hl] at q
      cases q
      exact hv hw
    · rw [List.getElem?_set_ne hji]
      exact hn j hj w (.tail _ hw)
theorem relK.off {T : Tab} {Hs G H : Hp} {σ : L2.St} : ∀ {ks : List Bool} {us : List U} {vs : List V}, relK T c Hs ks G H σ us vs → ∀ j ∈ c.mu, ∀ v ∈ freshOf ks vs, σ[j]? ≠ some (some v)
  | [], us, vs, ⟨_, e⟩, j, hj, v, m => by
    subst e
    simp [freshOf] at m
  | false :: ks, us, vs, ⟨u, ur, w, vr, e1, e2, h1, h2⟩, j, hj, v, m => by
    subst e1 e2
    exact relK.off h2 j hj v m
  | true :: ks, us, vs, ⟨u, ur, w, vr, e1, e2, h1, hn, h2⟩, j, hj, v, m => by
    subst e1 e2
    rcases List.mem_cons.mp m with e | m
    · subst e
      obtain ⟨a, _, _, e1, _, _, _, _, _, _, _, h7⟩ := h1
      rw [e1]
      exact h7 j hj
    · exact relK.off h2 j hj v m
theorem relK.len {T : Tab} {Hs G H : Hp} {σ : L2.St} : ∀ {ks : List Bool} {us : List U} {vs : List V}, relK T c Hs ks G H σ us vs → vs.length = ks.length
  | [], us, vs, ⟨_, e⟩ => by
    subst e
    rfl
  | false :: ks, us, vs, ⟨u, ur, w, vr, e1, e2, h1, h2⟩ => by
    subst e1 e2
    rw [List.length_cons, List.length_cons, relK.len h2]
  | true :: ks, us, vs, ⟨u, ur, w, vr, e1, e2, h1, hn, h2⟩ => by
    subst e1 e2
    rw [List.length_cons, List.length_cons, relK.len h2]
theorem tq_par {is : List Nat} {D : Ends} {σ : L2.St} {H : Hp} (h0 : c.da = none ∨ is.contains 0 = false) (hf : fitK c.mu ks is = true) (h : tqs (Cx.T X) c W fr (sPar (gNs is) as) D σ H) :
    tqK (Cx.T X) c W ks as σ H fun vs H1 => vs.length = ks.length ∧ D.nx (setV σ is vs) H1 := by
  obtain ⟨G, ρ, r, h⟩ := h
  refine ⟨G, ρ, r, (PFl.of (rel := relKs (Cx.T X) c H ks) h).imp fun vs H1 ⟨G1, ρ1, us, e1, r1, l1, h1⟩ => ⟨relK.len l1, ?_⟩⟩
  split at h1
  · rename_i ρ2 e2
    exact h1 _ G1 H1 (Ex.refl _) (store_all h0 hf r1 l1 (relK.off l1) e2)
  · exact h1.elim
/-- x, y = a, b -/
theorem qs_par2 (i j : Nat) {k1 k2 : Bool} {x y : Str} {a b : Expr} {px py pt pt2 : Pos} {kt kt2 : Nat} (calm : X.calm = true) (nd : X.N.Nodup) (ha : QK X c W [k1, k2] [a, b] as) (h0 : c.da = none ∨ [i, j].contains 0 = false := by first | exact .inl rfl | exact .inr rfl | exact .inl (by assumption)) (hf : fitK c.mu [k1, k2] [i, j] = true := by rfl)
    (hi : X.N[i]? = some x := by rfl) (hj : X.N[j]? = some y := by rfl) (hij : i ≠ j := by decide) (hx : X.env.scope.names.lookup x = some .local := by rfl) (hy : X.env.scope.names.lookup y = some .local := by rfl)
    (hw : swappedStores [.Tuple [.Name x px, .Name y py] kt pt] (.Tuple [a, b] kt2 pt2) X.env = pure (some [x, y]) := by rfl)
    (hs : swapsWithSole [.Tuple [.Name x px, .Name y py] kt pt] (.Tuple [a, b] kt2 pt2) pos.line X.env = pure false := by rfl) :
    QS X c W fr (.Assign [.Tuple [.Name x px, .Name y py] kt pt] (.Tuple [a, b] kt2 pt2) pos) (sPar (gNs [i, j]) as) :=
  PS.weak (ps_par calm nd hi hj hij hx hy ha hw hs) fun D σ H h => by
    obtain ⟨G, ρ, r, h⟩ := tq_par h0 hf h
    refine ⟨G, ρ, r, h.imp fun vs H1 ⟨hl, q⟩ => ?_⟩
    match vs, hl, q with
    | [v, w], _, q => exact ⟨v, w, rfl, q⟩
theorem qs_par3 (i j l : Nat) {k1 k2 k3 : Bool} {x y z : Str} {a b d : Expr} {px py pz pt pt2 : Pos} {kt kt2 : Nat} (calm : X.calm = true) (nd : X.N.Nodup) (ha : QK X c W [k1, k2, k3] [a, b, d] as) (h0 : c.da = none ∨ [i, j, l].contains 0 = false := by first | exact .inl rfl | exact .inr rfl | exact .inl (by assumption)) (hf : fitK c.mu [k1, k2, k3] [i, j, l] = true := by rfl)
    (hi : X.N[i]? = some x := by rfl) (hj : X.N[j]? = some y := by rfl) (hl : X.N[l]? = some z := by rfl) (hij : i ≠ j := by decide) (hil : i ≠ l := by decide) (hjl : j ≠ l := by decide) (hx : X.env.scope.names.lookup x = some .local := by rfl) (hy : X.env.scope.names.lookup y = some .local := by rfl) (hz : X.env.scope.names.lookup z = some .local := by rfl)
    (hw : swappedStores [.Tuple [.Name x px, .Name y py, .Name z pz] kt pt] (.Tuple [a, b, d] kt2 pt2) X.env = pure (some [x, y, z]) := by rfl)
    (hs : swapsWithSole [.Tuple [.Name x px, .Name y py, .Name z pz] kt pt] (.Tuple [a, b, d] kt2 pt2) pos.line X.env = pure false := by rfl) :
    QS X c W fr (.Assign [.Tuple [.Name x px, .Name y py, .Name z pz] kt pt] (.Tuple [a, b, d] kt2 pt2) pos) (sPar (gNs [i, j, l]) as) :=
  PS.weak (ps_par3 calm nd hi hj hl hij hil hjl hx hy hz ha hw hs) fun D σ H h => by
    obtain ⟨G, ρ, r, h⟩ := tq_par h0 hf h
    refine ⟨G, ρ, r, h.imp fun vs H1 ⟨hl, q⟩ => ?_⟩
    match vs, hl, q with
    | [v, w, u], _, q => exact ⟨v, w, u, rfl, q⟩
/-! ### a list repeated -/
theorem qf_rep {a b : Expr} {fa fb : EF} (ha : QF X c W a fa) (hb : QE X c W b fb) : QF X c W (.BinOp a .Mult b pos) (e2 uRep fa fb) :=
  PE.weak (pe_op op_rep ha hb) fun σ H Q ⟨G, ρ, r, h⟩ => by
    refine ⟨G, ρ, r, (PQ.bind (rel := relF (Cx.T X) c H) h).imp fun x H1 ⟨G1, ρ1, u, e1, r1, l1, h1⟩ => ?_⟩
    refine ⟨G1, ρ1, r1, (PQ.bind (rel := relU (Cx.T X)) h1).imp fun y H2 ⟨G2, ρ2, w, e2, r2, l2, h2⟩ => ?_⟩
    obtain ⟨z, hz, h3⟩ := rs_ok h2
    obtain ⟨p, us, vs, rfl, rfl, g1, g2, g3, g4, g5, g6, g7⟩ := l1.step (ρ' := ρ2) e2
    unfold uRep at hz
    split at hz
    · rename_i us' i q1
      cases q1
      split at hz
      · rename_i hk
        cases hz
        rw [g5.length] at hk
        refine ⟨p, i, vs, rfl, rep_int.1 l2, g4, by omega, by omega, Nat.le_trans hk.2.2 (by decide), fun l hl => ?_⟩
        have e3 := e1.trans e2
        exact nuN_F r2 (fun b o q => e3.d b o q) h3 l _ hl (g5.rep _)
      · cases hz
    · cases hz
/-! ### raise -/
theorem qs_raise {x m : Str} {j : Nat} {p p2 : Pos} {C : Addr} {bmB : List Value} {B newId initId : String} (calm : X.calm = true) (tk : Takes X W) (F : ExcBaseFacts B newId initId bmB) (q : PySem.W.excIn X.K C bmB newId = true) (gC : X.mg x = some (.ref C)) (kC : PySem.W.keepIn X.K (.ref C) = true) (rr : Raises X (.ref C)) (hg : Gl X x := by rfl)
    (hdb : (x == ("__debug__" : Str)) = false := by decide) : QS X c W fr (.Raise (some (.Call (.Name x p) [.Constant (.str m) j p2] [] pos)) none pos) (sRaise x) :=
  PS.weak (L2.ps_raise calm tk (pmk_own F q gC kC rr hg hdb)) fun D σ H ⟨G, ρ, r, h⟩ => h σ G H C (Ex.refl _) r.xr gC
end
end Q
set_option maxRecDepth 100000
set_option maxHeartbeats 2000000
/-! QCal: a def keeps its promise -/
namespace Q
open PySem PySem.Spec PyProof.Rows L2
open Evl (Ex)

def daF (io : Bool) (a : Addr) : Option Addr := match io with
  | true => some a
  | false => none
def muOk (io : Bool) (p : Nat) (mu : List Nat) : Bool := match io with
  | true => mu.contains 0 && decide (0 < p) && mu.all fun i => i == 0 || decide (p ≤ i)
  | false => mu.all fun i => decide (p ≤ i)
section
variable {P : Program} {w : World} {K : PySem.W.Frag} {mg : Str → Option Value} {base : Heap}
theorem okx_of {N ps : List Str} {qual : Str} {sc : Scope} {f : Addr} {cdv : Value} {A : Around} {outer : List Env} {s : Shared} {H : Hp} {E : XK} {k : Nat} (S : FnScope N ps sc) (hr : Room k (A.deeper (envOfC qual sc s.heap.objs.size f cdv))) :
    OkX (cxOf (L2.CX P w) P w K mg base N qual sc f cdv A outer s H E) (L2.CX P w) (fun cls d _ H => E cls d H) k :=
  ⟨S.nd, rfl, hr, passAt (takes_of rfl rfl rfl rfl), passes_of rfl, takes_of rfl rfl rfl rfl⟩
theorem OkX.blk {X : Cx} {W : WX} {k : Nat} (ok : OkX X (L2.CX X.prog X.w) W k) {s : Shared} {H : Hp} {scope : Scope} {cenv : Env} {fp : List Addr} : OkX (X.blk s H scope cenv fp) (L2.CX X.prog X.w) W0 k :=
  ⟨ok.nd, ok.calm, ok.room, fun σ pins H s e s' _ h => by
    obtain ⟨_, _, _, _, _, _, _, _, _, _, _, _, z⟩ := h
    exact z.elim, .never, takes0⟩
theorem startU_get {n : Nat} {us : List U} {i : Nat} {u : U} (h : (startU n us)[i]? = some (some u)) : us[i]? = some u := by
  unfold startU at h
  by_cases hi : i < us.length
  · rw [List.getElem?_append_left (by simpa using hi), List.getElem?_map] at h
    cases e : us[i]? with
    | none =>
      rw [e] at h
      cases h
    | some a =>
      rw [e] at h
      cases h
      rfl
  · rw [List.getElem?_append_right (by simpa using hi), List.getElem?_replicate] at h
    split at h <;> cases h
theorem start_get {N : List Str} {vs : List V} {i : Nat} {v : V} (h : (L2.start N vs)[i]? = some (some v)) : vs[i]? = some v := by
  unfold L2.start at h
  by_cases hi : i < vs.length
  · rw [List.getElem?_append_left (by simpa using hi), List.getElem?_map] at h
    cases e : vs[i]? with
    | none =>
      rw [e] at h
      cases h
    | some a =>
      rw [e] at h
      cases h
      rfl
  · rw [List.getElem?_append_right (by simpa using hi), List.getElem?_replicate] at h
    split at h <;> cases h
theorem start_at {N : List Str} {vs : List V} {i : Nat} {v : V} (h : vs[i]? = some v) : (L2.start N vs)[i]? = some (some v) := by
  have hi := (List.getElem?_eq_some_iff.mp h).1
  unfold L2.start
  rw [List.getElem?_append_left (by simpa using hi), List.getElem?_map, h]
  rfl
theorem startU_at {n : Nat} {us : List U} {i : Nat} {v : U} (h : us[i]? = some v) : (startU n us)[i]? = some (some v) := by
  have hi := (List.getElem?_eq_some_iff.mp h).1
  unfold startU
  rw [List.getElem?_append_left (by simpa using hi), List.getElem?_map, h]
  rfl
theorem muOk_f {p : Nat} {mu : List Nat} (h : muOk false p mu = true) {i : Nat} (hi : i ∈ mu) : p ≤ i := of_decide_eq_true (List.all_eq_true.mp h i hi)
theorem muOk_t {p : Nat} {mu : List Nat} (h : muOk true p mu = true) : 0 ∈ mu ∧ 0 < p ∧ ∀ i ∈ mu, i = 0 ∨ p ≤ i := by
  unfold muOk at h
  simp only [Bool.and_eq_true, decide_eq_true_eq, List.all_eq_true, Bool.or_eq_true, beq_iff_eq] at h
  exact ⟨isIn h.1.1, h.1.2, h.2⟩
/-- the state at the entry -/
theorem R.start {T : Tab} {io : Bool} {N : List Str} {G H : Hp} {us : List U} {vs : List V} {p : Nat} {mu : List Nat} (e : Ex G H) (hp : vs.length = p) (ha : argR T io G H us vs) (hm : muOk io p mu = true) :
    ∃ a, daF io a = daOf io vs ∧ us.length = p ∧ R T ⟨mu, G, H, daF io a, false⟩ G (startU N.length us) (L2.start N vs) H := by
  cases io with
  | false =>
    have ha : Reps T G us vs := ha
    have hl := ha.length
    have hle : us.length = p := hl.trans hp
    refine ⟨0, rfl, hle, ?_⟩
    have out : ∀ i ∈ mu, ∀ u, us[i]? ≠ some u := fun i hi u q => by
      have := (List.getElem?_eq_some_iff.mp q).1
      have := muOk_f hm hi
      omega
    refine ⟨fun a q => (by cases q), e, Ex.refl _, fun _ _ _ q => q, fun _ _ q _ => q, fun a q => (by cases q), ?_, fun i u q m => ?_, fun i u q m => ?_, fun i j u w q1 q2 m1 m2 _ => ?_, fun i v m q => ?_⟩
    · unfold startU L2.start
      simp [hl]
    · obtain ⟨v, h1, h2⟩ := ha.get (startU_get q)
      exact ⟨v, start_at h1, h2⟩
    · exact absurd (startU_get q) (out i m u)
    · exact absurd (startU_get q1) (out i m1 u)
    · obtain ⟨u, q1, _⟩ := ha.get' (start_get q)
      exact absurd q1 (out i m u)
  | true =>
    obtain ⟨a, dl, dvs, us', vs', rfl, rfl, h1, h2, h3, h4⟩ := (show ∃ a dl dvs us' vs', vs = .ref a :: vs' ∧ us = .lst dl :: us' ∧ G a = none ∧ H a = some (.lst dvs) ∧ Reps T G dl dvs ∧ Reps T G us' vs' from ha)
    obtain ⟨m0, p0, mm⟩ := muOk_t hm
    have hl := h4.length
    rw [List.length_cons] at hp
    refine ⟨a, rfl, by rw [List.length_cons, hl, hp], ?_⟩
    have out : ∀ i ∈ mu, ∀ u, (U.lst dl :: us')[i]? = some u → i = 0 := fun i hi u q => by
      have := (List.getElem?_eq_some_iff.mp q).1
      rw [List.length_cons] at this
      rcases mm i hi with z | z
      · exact z
      · omega
    refine ⟨fun b q => ?_, e, Ex.refl _, fun _ _ _ q => q, fun _ _ q _ => q, fun b q => ?_, ?_, fun i u q m => ?_, fun i u q m => ?_, fun i j u w q1 q2 m1 m2 ne => ?_, fun i v m q => ?_⟩
    · cases q
      exact ⟨m0, start_at rfl, dl, startU_at rfl⟩
    · cases q
      exact ⟨_, h2⟩
    · unfold startU L2.start
      simp [hl]
    · have q' := startU_get q
      cases i with
      | zero => exact absurd m0 m
      | succ i =>
        obtain ⟨v, f1, f2⟩ := h4.get (i := i) (u := u) (by simpa using q')
        exact ⟨v, start_at (by simpa using f1), f2⟩
    · have q' := startU_get q
      have hi := out i m u q'
      subst hi
      simp at q'
      subst q'
      exact ⟨a, start_at rfl, h1, .inr rfl, dvs, h2, h3⟩
    · have e1 := out i m1 u (startU_get q1)
      have e2 := out j m2 w (startU_get q2)
      exact absurd (e1.trans e2.symm) ne
    · have q' := start_get q
      have hlt := (List.getElem?_eq_some_iff.mp q').1
      rw [List.length_cons, ← hl] at hlt
      have hlt2 : i < (U.lst dl :: us').length := by rw [List.length_cons]; exact hlt
      exact ⟨_, startU_at (List.getElem?_eq_getElem hlt2)⟩
/-- THE RULE for a def -/
theorem fnok_of {x qual : Str} {st : Stmt} {f : Addr} {fd : FuncData} {N ps : List Str} {mu : List Nat} {b : SF} {io fr : Bool} {k : Nat} (F : Fun K x qual st f fd) (S : FnScope N ps (defScope st))
    (hm : muOk io ps.length mu = true)
    (hb : ∀ (cdv : Value) (A : Around) (outer : List Env) (s : Shared) (H : Hp) (E : XK) (G : Hp) (a : Addr), Room k (A.deeper (envOfC qual (defScope st) s.heap.objs.size f cdv)) →
      QSs (cxOf (L2.CX P w) P w K mg base N qual (defScope st) f cdv A outer s H E) ⟨mu, G, H, daF io a, false⟩ (fun cls d _ H => E cls d H) fr (defBody st) b) :
    FnOk P w K mg base (L2.CX P w) (k + 1) f fd ps (spQ ⟨K, mg⟩ io fr ps.length (fnOf io fr N.length ps.length b)) := by
  refine F.okX S (fun vs H Q E h => h.1) fun cdv A outer s H vs Q E hr hsp => ?_
  obtain ⟨hl, G, us, e, ha, h⟩ := hsp
  obtain ⟨a, hd, hu, r⟩ := R.start (N := N) e hl ha hm
  refine ⟨_, hb cdv A outer s H E G a hr, G, startU N.length us, r, ?_⟩
  unfold fnOf at h
  rw [if_pos hu] at h
  have frm : ∀ {G' H' : Hp} {ρ' : Sl}, Ex G G' → Fin ⟨K, mg⟩ ⟨mu, G, H, daF io a, false⟩ G' ρ' H' → Frm (daOf io vs) G H G' H' ∧ deckR ⟨K, mg⟩ (daOf io vs) G' H' (if io then slot0 ρ' else .non) := fun {G' H' ρ'} e' fi => by
    rw [← hd]
    refine ⟨⟨e', fi.ex, fi.nw, fi.fr⟩, fun b q => ?_⟩
    obtain ⟨dl, dvs, e1, e2, e3⟩ := fi.dk b q
    cases io with
    | false => cases q
    | true =>
      refine ⟨dl, dvs, ?_, e2, e3⟩
      show slot0 ρ' = _
      unfold slot0
      rw [e1]
  show PFl ⟨K, mg⟩ _ _ fr G _ _
  generalize b (startU N.length us) = z at h ⊢
  cases z with
  | next ρ' =>
    intro σ' G' H' e' r'
    cases fr with
    | true => exact h.elim
    | false =>
      obtain ⟨f1, f2⟩ := frm e' r'.fin
      exact h .non G' H' f1 f2 (rep_non.2 rfl : Rep ⟨K, mg⟩ G' .non .non)
  | brk ρ' => exact h.elim
  | cont ρ' => exact h.elim
  | ret u ρ' =>
    intro v G' H' e' fi hr
    obtain ⟨f1, f2⟩ := frm e' fi
    refine h v G' H' f1 f2 ?_
    rw [← hd]
    exact hr
  | exc C ρ' =>
    intro σ' G' H' d e' xr hm
    obtain ⟨f1, f2⟩ := frm e' xr
    exact h G' H' d f1 f2 hm
  | stuck => exact h
theorem cal_of {x qual : Str} {st : Stmt} {f : Addr} {fd : FuncData} {N ps : List Str} {mu : List Nat} {b : SF} {io fr : Bool} {k : Nat} (F : Fun K x qual st f fd) (hx : mg x = some (.ref f)) (S : FnScope N ps (defScope st)) (bd : Binds K fd ps [])
    (hm : muOk io ps.length mu = true)
    (hb : ∀ (cdv : Value) (A : Around) (outer : List Env) (s : Shared) (H : Hp) (E : XK) (G : Hp) (a : Addr), Room k (A.deeper (envOfC qual (defScope st) s.heap.objs.size f cdv)) →
      QSs (cxOf (L2.CX P w) P w K mg base N qual (defScope st) f cdv A outer s H E) ⟨mu, G, H, daF io a, false⟩ (fun cls d _ H => E cls d H) fr (defBody st) b) :
    Cal P w K mg base (L2.CX P w) x io fr ps.length (fnOf io fr N.length ps.length b) (k + 1) := ⟨⟨f, fd, ps, hx, F.kp, bd, fnok_of F S hm hb⟩⟩
theorem stuck_cal {x : Str} {io fr : Bool} {n p j : Nat} (C : Cal P w K mg base (L2.CX P w) x io fr p (fnOf io fr n p fun _ => .stuck) j) : Cal P w K mg base (L2.CX P w) x io fr p (fun _ => .stuck) j := by
  have e : (fnOf io fr n p fun _ => .stuck) = fun _ => FR.stuck := by
    funext us
    unfold fnOf
    split
    · rfl
    · rfl
  rw [e] at C
  exact C
theorem qss_stuck {X : Cx} {c : Cn} {W : WX} {fr : Bool} {b : List Stmt} : QSs X c W fr b fun _ => .stuck :=
  show PSs _ _ _ from ⟨fun pins s σ H D I ⟨G, ρ, r, h⟩ => h.elim⟩
/-- an own exception's class -/
structure XCls (K : PySem.W.Frag) (mg : Str → Option Value) (x : Str) : Prop where
  ex : ∃ (C : Addr) (bmB : List Value) (B newId initId : String), mg x = some (.ref C) ∧ PySem.W.keepIn K (.ref C) = true ∧ ExcBaseFacts B newId initId bmB ∧ PySem.W.excIn K C bmB newId = true ∧
    PySem.W.subIn K (.ref C) (.type "BaseException") = some true ∧ PySem.W.typeIn K (.ref C) = some (.type "type")
theorem qs_raiseM {X : Cx} {CX : CXT} {W : WX} {c : Cn} {k : Nat} {fr : Bool} {x m : Str} {j : Nat} {p p2 pos pos2 : Pos} (ok : OkX X CX W k) (h : XCls X.K X.mg x) (hg : Gl X x := by rfl) (hdb : (x == ("__debug__" : Str)) = false := by decide) :
    QS X c W fr (.Raise (some (.Call (.Name x p) [.Constant (.str m) j p2] [] pos)) none pos2) (sRaise x) := by
  obtain ⟨C, bmB, B, newId, initId, h1, h2, h3, h4, h5, h6⟩ := h.ex
  exact PS.weak (L2.ps_raise ok.calm ok.tk (pmk_own h3 h4 h1 h2 (raises_own h5 h6) hg hdb)) fun D σ H ⟨G, ρ, r, h⟩ => h σ G H C (Ex.refl _) r.xr h1
end
end Q
set_option maxRecDepth 100000
set_option maxHeartbeats 2000000
/-! QZip: list(zip(t, u)) of two tuples -/
namespace QZ
open PySem PySem.Calls PyProof.Rows PyProof.V PySem.Spec
section
variable {prog : Program} {w : World} {A : Around} {E : Value → Shared → Prop} {s : Shared}
theorem next_item_held {z TI TO T i1 i2 l1 l2 : Addr} {f : Bool} {oT : Obj} {k1 k2 : Nat} {xs ys : Array Value} {x y : Value} {Q : Value → Shared → Prop} (D : ZipApart z TI TO i1 i2 l1 l2)
    (hz : IsZipHeld s.heap z TI TO T f) (hT : s.heap.get? T = some oT) (hTI : IsPair s.heap TI (.ref i1) (.ref i2))
    (h1 : s.heap.IsTupleIter i1 l1 k1) (h2 : s.heap.IsTupleIter i2 l2 k2) (hl1 : s.heap.IsTuple l1 xs) (hl2 : s.heap.IsTuple l2 ys) (hx : xs[k1]? = some x) (hy : ys[k2]? = some y)
    (hQ : ∀ h', IsZipHeld h' z TI TO T true → h'.IsTupleIter i1 l1 (k1 + 1) → h'.IsTupleIter i2 l2 (k2 + 1) → IsPair h' s.heap.objs.size x y → h'.objs.size = s.heap.objs.size + 1 →
      (∀ c o, c ≠ z → c ≠ i1 → c ≠ i2 → s.heap.get? c = some o → h'.get? c = some o) → Q (.ref s.heap.objs.size) { s with heap := h' }) :
    wpAny (model prog w) A (Builtin.«zip.__next__» ⟨[.ref z], []⟩) (fun fin s' => ∃ v, fin = .done (.ret v) ∧ Q v s') E s := by
  show wpAny _ _ (field (.ref z) 2 >>= _) _ _ _
  refine wpAny_bind (wpAny_field hz rfl (x := .bool false) rfl ?_)
  show wpAny _ _ (field (.ref z) 3 >>= _) _ _ _
  refine wpAny_bind (wpAny_field hz rfl (x := .ref TI) rfl ?_)
  refine wpAny_bind (wpAny_seqItems hTI rfl ?_)
  show wpAny _ _ (Builtin.SmallTypes.ownedTupleIsFree (.ref z) >>= _) _ _ _
  refine wpAny_bind (wpAny_tupleHeld_zip hz hT fun h₁ hz₁ hs₁ => ?_)
  simp only [Bool.false_eq_true, if_false]
  refine wpAny_bind ?_
  rw [← Array.forIn_toList]
  simp only [List.forIn_cons, List.forIn_nil]
  refine wpAny_bind (wpAny_bind (wpAny_holding ?_))
  show wpAny _ _ (Builtin.SmallTypes.nextOf (.ref i1) >>= _) _ _ _
  refine wpAny_bind (RZ.nextOf_tuple_item (s := { s with heap := h₁ }) (h1.extBut hs₁.extBut D.i1z) (hl1.extBut hs₁.extBut D.l1z) hx fun h₂ h1₂ hs₂ => wpAny_pure ?_)
  refine wpAny_pure ?_
  refine wpAny_bind (wpAny_bind (wpAny_holding ?_))
  show wpAny _ _ (Builtin.SmallTypes.nextOf (.ref i2) >>= _) _ _ _
  refine wpAny_bind (RZ.nextOf_tuple_item (s := { s with heap := h₂ }) ((h2.extBut hs₁.extBut D.i2z).extBut hs₂.extBut D.i12.symm) ((hl2.extBut hs₁.extBut D.l2z).extBut hs₂.extBut D.l2i1) hy fun h₃ h2₃ hs₃ => wpAny_pure ?_)
  refine wpAny_pure (wpAny_pure ?_)
  show wpAny _ _ (newTuple [x, y] >>= _) _ _ _
  refine wpAny_bind (wpAny_newTuple ?_)
  have hsz : h₃.objs.size = s.heap.objs.size := by rw [hs₃.1, hs₂.1, hs₁.1]
  have hz₃ : IsZipHeld h₃ z TI TO T true := hs₃.extBut _ _ D.i2z.symm (hs₂.extBut _ _ D.i1z.symm hz₁)
  have hk : ∀ c o, c ≠ z → c ≠ i1 → c ≠ i2 → s.heap.get? c = some o → h₃.get? c = some o := fun c o c1 c2 c3 e => hs₃.extBut _ _ c3 (hs₂.extBut _ _ c2 (hs₁.extBut _ _ c1 e))
  have h1₃ : h₃.IsTupleIter i1 l1 (k1 + 1) := h1₂.extBut hs₃.extBut D.i12
  refine wpAny_pure ⟨_, rfl, ?_⟩
  show Q (.ref h₃.objs.size) _
  have hp : IsPair (h₃.push { cls := .type "tuple", data := .seq #[x, y] }) h₃.objs.size x y := Heap.get?_push_size _ rfl
  have hz4 : (h₃.push { cls := .type "tuple", data := .seq #[x, y] }).objs.size = h₃.objs.size + 1 := Heap.size_push ..
  rw [hsz] at hp hz4 ⊢
  exact hQ _ (Heap.get?_push_of_some _ hz₃) (h1₃.at fun o e => Heap.get?_push_of_some _ e) (h2₃.at fun o e => Heap.get?_push_of_some _ e) hp hz4 fun c o c1 c2 c3 e => Heap.get?_push_of_some _ (hk c o c1 c2 c3 e)

theorem next_end_held {z TI TO T i1 i2 l1 l2 : Addr} {f : Bool} {oT : Obj} {k1 k2 : Nat} {xs ys : Array Value} {Q : Fin → Shared → Prop} (hh : A.handled = none) (D : ZipApart z TI TO i1 i2 l1 l2)
    (hz : IsZipHeld s.heap z TI TO T f) (hT : s.heap.get? T = some oT) (hTI : IsPair s.heap TI (.ref i1) (.ref i2))
    (h1 : s.heap.IsTupleIter i1 l1 k1) (h2 : s.heap.IsTupleIter i2 l2 k2) (hl1 : s.heap.IsTuple l1 xs) (hl2 : s.heap.IsTuple l2 ys) (hend : xs[k1]? = none ∨ ys[k2]? = none)
    (hE : ∀ h' e, (∀ c o, c ≠ z → c ≠ i1 → c ≠ i2 → s.heap.get? c = some o → h'.get? c = some o) → (∃ o, h'.get? e = some o ∧ o.cls = .type "StopIteration") → E (.ref e) { s with heap := h' }) :
    wpAny (model prog w) A (Builtin.«zip.__next__» ⟨[.ref z], []⟩) Q E s := by
  show wpAny _ _ (field (.ref z) 2 >>= _) _ _ _
  refine wpAny_bind (wpAny_field hz rfl (x := .bool false) rfl ?_)
  show wpAny _ _ (field (.ref z) 3 >>= _) _ _ _
  refine wpAny_bind (wpAny_field hz rfl (x := .ref TI) rfl ?_)
  refine wpAny_bind (wpAny_seqItems hTI rfl ?_)
  show wpAny _ _ (Builtin.SmallTypes.ownedTupleIsFree (.ref z) >>= _) _ _ _
  refine wpAny_bind (wpAny_tupleHeld_zip hz hT fun h₁ hz₁ hs₁ => ?_)
  simp only [Bool.false_eq_true, if_false]
  refine wpAny_bind ?_
  rw [← Array.forIn_toList]
  simp only [List.forIn_cons, List.forIn_nil]
  refine wpAny_bind (wpAny_bind (wpAny_holding ?_))
  show wpAny _ _ (Builtin.SmallTypes.nextOf (.ref i1) >>= _) _ _ _
  cases hx : xs[k1]? with
  | none =>
    refine wpAny_bind (RZ.nextOf_tuple_end (s := { s with heap := h₁ }) hh (h1.extBut hs₁.extBut D.i1z) (hl1.extBut hs₁.extBut D.l1z) hx fun h₂ e hs₂ he => ?_)
    exact hE h₂ e (fun c o c1 c2 _ x => hs₂ _ _ c2 (hs₁.extBut _ _ c1 x)) he
  | some x =>
    have hy : ys[k2]? = none := by rcases hend with h | h; rw [hx] at h; cases h; exact h
    refine wpAny_bind (RZ.nextOf_tuple_item (s := { s with heap := h₁ }) (h1.extBut hs₁.extBut D.i1z) (hl1.extBut hs₁.extBut D.l1z) hx fun h₂ h1₂ hs₂ => wpAny_pure ?_)
    refine wpAny_pure ?_
    refine wpAny_bind (wpAny_bind (wpAny_holding ?_))
    show wpAny _ _ (Builtin.SmallTypes.nextOf (.ref i2) >>= _) _ _ _
    refine wpAny_bind (RZ.nextOf_tuple_end (s := { s with heap := h₂ }) hh ((h2.extBut hs₁.extBut D.i2z).extBut hs₂.extBut D.i12.symm) ((hl2.extBut hs₁.extBut D.l2z).extBut hs₂.extBut D.l2i1) hy fun h₃ e hs₃ he => ?_)
    exact hE h₃ e (fun c o c1 c2 c3 x => hs₃ _ _ c3 (hs₂.extBut _ _ c2 (hs₁.extBut _ _ c1 x))) he
theorem pyNext_item_held {z TI TO T i1 i2 l1 l2 : Addr} {f : Bool} {oT : Obj} {k1 k2 : Nat} {xs ys : Array Value} {x y : Value} {Q : Option Value → Shared → Prop} (D : ZipApart z TI TO i1 i2 l1 l2)
    (hz : IsZipHeld s.heap z TI TO T f) (hT : s.heap.get? T = some oT) (hTI : IsPair s.heap TI (.ref i1) (.ref i2))
    (h1 : s.heap.IsTupleIter i1 l1 k1) (h2 : s.heap.IsTupleIter i2 l2 k2) (hl1 : s.heap.IsTuple l1 xs) (hl2 : s.heap.IsTuple l2 ys) (hx : xs[k1]? = some x) (hy : ys[k2]? = some y)
    (hQ : ∀ h', IsZipHeld h' z TI TO T true → h'.IsTupleIter i1 l1 (k1 + 1) → h'.IsTupleIter i2 l2 (k2 + 1) → IsPair h' s.heap.objs.size x y → h'.objs.size = s.heap.objs.size + 1 →
      (∀ c o, c ≠ z → c ≠ i1 → c ≠ i2 → s.heap.get? c = some o → h'.get? c = some o) → Q (some (.ref s.heap.objs.size)) { s with heap := h' }) :
    wpAny (model prog w) A (pyNext (.ref z)) Q E s := by
  have hTy : s.TypeIs (.ref z) "zip" := ⟨_, hz, rfl⟩
  unfold pyNext
  exact wpAny_bind (wpAny_attempt (wpAny_callSpecial?_slot (name := Str.ofString "__next__") hTy F.slot_zip_next
    (wpAny_call_entry F.slot_zip_next hTy F.entry_zip_next
      (next_item_held D hz hT hTI h1 h2 hl1 hl2 hx hy fun h' a1 a3 a4 a5 a6 a7 => wpAny_pure (hQ h' a1 a3 a4 a5 a6 a7)) (F.args_zip_next_1 _))))
theorem pyNext_end_held {z TI TO T i1 i2 l1 l2 : Addr} {f : Bool} {oT : Obj} {k1 k2 : Nat} {xs ys : Array Value} {Q : Option Value → Shared → Prop} (hh : A.handled = none) (D : ZipApart z TI TO i1 i2 l1 l2)
    (hz : IsZipHeld s.heap z TI TO T f) (hT : s.heap.get? T = some oT) (hTI : IsPair s.heap TI (.ref i1) (.ref i2))
    (h1 : s.heap.IsTupleIter i1 l1 k1) (h2 : s.heap.IsTupleIter i2 l2 k2) (hl1 : s.heap.IsTuple l1 xs) (hl2 : s.heap.IsTuple l2 ys) (hend : xs[k1]? = none ∨ ys[k2]? = none)
    (hQ : ∀ h', (∀ c o, c ≠ z → c ≠ i1 → c ≠ i2 → s.heap.get? c = some o → h'.get? c = some o) → Q none { s with heap := h' }) : wpAny (model prog w) A (pyNext (.ref z)) Q E s := by
  have hTy : s.TypeIs (.ref z) "zip" := ⟨_, hz, rfl⟩
  unfold pyNext
  refine wpAny_bind (wpAny_attempt (wpAny_callSpecial?_slot (name := Str.ofString "__next__") hTy F.slot_zip_next
    (wpAny_call_entry F.slot_zip_next hTy F.entry_zip_next (next_end_held hh D hz hT hTI h1 h2 hl1 hl2 hend fun h' e hk he => ?_) (F.args_zip_next_1 _))))
  obtain ⟨o, ho, hc⟩ := he
  refine wpAny_bind (wpAny_isInstance (T := "StopIteration") (b := true) ⟨o, ho, hc⟩ isSubtype_stop ?_)
  exact wpAny_pure (hQ _ hk)

/-- the zip z over the tuples at l1 and l2 at turn i; its tuples stay with the list at S -/
structure St (h : Heap) (z TI TO i1 i2 l1 l2 S : Addr) (xs ys : Array Value) (i : Nat) : Prop where
  fTI : IsPair h TI (.ref i1) (.ref i2)
  f1 : h.IsTupleIter i1 l1 i
  f2 : h.IsTupleIter i2 l2 i
  g1 : h.IsTuple l1 xs
  g2 : h.IsTuple l2 ys
  fz : (IsZip h z TI TO .none ∧ ∃ a b, IsPair h TO a b) ∨ ∃ T f oT, IsZipHeld h z TI TO T f ∧ h.get? T = some oT ∧ T ≠ z ∧ T ≠ i1 ∧ T ≠ i2 ∧ T ≠ S
/-- apart from the list -/
structure Off (z TI TO i1 i2 l1 l2 S : Addr) : Prop where
  z : z ≠ S
  TI : TI ≠ S
  TO : TO ≠ S
  i1 : i1 ≠ S
  i2 : i2 ≠ S
  l1 : l1 ≠ S
  l2 : l2 ≠ S
theorem St.keep {h h' : Heap} {z TI TO i1 i2 l1 l2 S : Addr} {xs ys : Array Value} {i : Nat} (F : Off z TI TO i1 i2 l1 l2 S) (x : St h z TI TO i1 i2 l1 l2 S xs ys i) (hk : ∀ b o, b ≠ S → h.get? b = some o → h'.get? b = some o) : St h' z TI TO i1 i2 l1 l2 S xs ys i where
  fTI := hk _ _ F.TI x.fTI
  f1 := x.f1.at fun o e => hk _ o F.i1 e
  f2 := x.f2.at fun o e => hk _ o F.i2 e
  g1 := x.g1.at fun o e => hk _ o F.l1 e
  g2 := x.g2.at fun o e => hk _ o F.l2 e
  fz := by
    rcases x.fz with ⟨hz, a, b, hTO⟩ | ⟨T, f, oT, hz, hT, r1, r2, r3, r4⟩
    · exact .inl ⟨hk _ _ F.z hz, a, b, hk _ _ F.TO hTO⟩
    · exact .inr ⟨T, f, oT, hk _ _ F.z hz, hk _ _ r4 hT, r1, r2, r3, r4⟩
theorem st_item {z TI TO i1 i2 l1 l2 S : Addr} {xs ys : Array Value} {i : Nat} {x y : Value} {Q : Option Value → Shared → Prop} (D : ZipApart z TI TO i1 i2 l1 l2) (st : St s.heap z TI TO i1 i2 l1 l2 S xs ys i) (hS : S < s.heap.objs.size) (hx : xs[i]? = some x) (hy : ys[i]? = some y)
    (hQ : ∀ h', St h' z TI TO i1 i2 l1 l2 S xs ys (i + 1) → h'.get? s.heap.objs.size = some { cls := .type "tuple", data := .seq #[x, y] } → h'.objs.size = s.heap.objs.size + 1 →
      (∀ b o, b ∉ [z, TO, i1, i2] → s.heap.get? b = some o → h'.get? b = some o) → Q (some (.ref s.heap.objs.size)) { s with heap := h' }) :
    wpAny (model prog w) A (pyNext (.ref z)) Q E s := by
  have lt : ∀ {c o}, s.heap.get? c = some o → s.heap.objs.size ≠ c := fun e => Nat.ne_of_gt (Heap.lt_size e)
  have n1 : s.heap.objs.size ≠ i1 := let ⟨_, e, _⟩ := st.f1; lt e
  have n2 : s.heap.objs.size ≠ i2 := let ⟨_, e, _⟩ := st.f2; lt e
  rcases st.fz with ⟨hz, a, b, hTO⟩ | ⟨T, f, oT, hz, hT, r1, r2, r3, r4⟩
  · refine RZ.pyNext_zipT_item D hz st.fTI hTO st.f1 st.f2 st.g1 st.g2 hx hy fun h' a1 a2 a3 a4 a5 a6 hk => ?_
    exact hQ h' ⟨hk _ _ D.TIz D.TITO D.TIi1 D.TIi2 st.fTI, a3, a4, st.g1.at fun o e => hk _ o D.l1z D.l1TO D.l1i1 D.l1i2 e, st.g2.at fun o e => hk _ o D.l2z D.l2TO D.l2i1 D.l2i2 e,
      .inr ⟨s.heap.objs.size, false, _, a1, a5, lt hz, n1, n2, Nat.ne_of_gt hS⟩⟩ a5 a6 fun c o hc e => hk c o (fun x => hc (by simp [x])) (fun x => hc (by simp [x])) (fun x => hc (by simp [x])) (fun x => hc (by simp [x])) e
  · refine pyNext_item_held D hz hT st.fTI st.f1 st.f2 st.g1 st.g2 hx hy fun h' a1 a3 a4 a5 a6 hk => ?_
    exact hQ h' ⟨hk _ _ D.TIz D.TIi1 D.TIi2 st.fTI, a3, a4, st.g1.at fun o e => hk _ o D.l1z D.l1i1 D.l1i2 e, st.g2.at fun o e => hk _ o D.l2z D.l2i1 D.l2i2 e,
      .inr ⟨T, true, oT, a1, hk _ _ r1 r2 r3 hT, r1, r2, r3, r4⟩⟩ a5 a6 fun c o hc e => hk c o (fun x => hc (by simp [x])) (fun x => hc (by simp [x])) (fun x => hc (by simp [x])) e
theorem st_done {z TI TO i1 i2 l1 l2 S : Addr} {xs ys : Array Value} {i : Nat} {Q : Option Value → Shared → Prop} (hh : A.handled = none) (D : ZipApart z TI TO i1 i2 l1 l2) (st : St s.heap z TI TO i1 i2 l1 l2 S xs ys i) (hend : xs[i]? = none ∨ ys[i]? = none)
    (hQ : ∀ h', (∀ b o, b ∉ [z, TO, i1, i2] → s.heap.get? b = some o → h'.get? b = some o) → Q none { s with heap := h' }) : wpAny (model prog w) A (pyNext (.ref z)) Q E s := by
  rcases st.fz with ⟨hz, a, b, hTO⟩ | ⟨T, f, oT, hz, hT, r1, r2, r3, r4⟩
  · exact RZ.pyNext_zipT_end hh D hz st.fTI hTO st.f1 st.f2 st.g1 st.g2 hend fun h' hk => hQ h' fun c o hc e => hk c o (fun x => hc (by simp [x])) (fun x => hc (by simp [x])) (fun x => hc (by simp [x])) (fun x => hc (by simp [x])) e
  · exact pyNext_end_held hh D hz hT st.fTI st.f1 st.f2 st.g1 st.g2 hend fun h' hk => hQ h' fun c o hc e => hk c o (fun x => hc (by simp [x])) (fun x => hc (by simp [x])) (fun x => hc (by simp [x])) e
end

/-- the pairs of xs and ys, as tuples at as -/
structure G (xs ys : Array Value) (lo : Addr) (h : Heap) (as : List Addr) : Prop where
  rise : as.Pairwise (· < ·)
  above : ∀ a ∈ as, lo < a
  pairs : ∀ (j : Nat) (a : Addr), as[j]? = some a → ∃ x y, xs[j]? = some x ∧ ys[j]? = some y ∧ h.get? a = some { cls := .type "tuple", data := .seq #[x, y] }
theorem G.there {xs ys : Array Value} {lo : Addr} {h : Heap} {as : List Addr} (g : G xs ys lo h as) {a : Addr} (ha : a ∈ as) : a < h.objs.size := by
  obtain ⟨j, hj⟩ := List.mem_iff_getElem?.mp ha
  obtain ⟨_, _, _, _, e⟩ := g.pairs j a hj
  exact Heap.lt_size e
theorem G.low {xs ys : Array Value} {lo lo' : Addr} {h : Heap} {as : List Addr} (g : G xs ys lo h as) (hl : lo' ≤ lo) : G xs ys lo' h as := ⟨g.rise, fun a ha => Nat.lt_of_le_of_lt hl (g.above a ha), g.pairs⟩
section
variable {prog : Program} {w : World} {A : Around} {s : Shared} {R : Result → Shared → Prop} {xs ys : Array Value}
/-- lo: above all that the walk changes -/
theorem zl_loop {S z TI TO i1 i2 l1 l2 lo : Addr} (hh : A.handled = none) (D : ZipApart z TI TO i1 i2 l1 l2) (F : Off z TI TO i1 i2 l1 l2 S) (hlo : S ≤ lo ∧ z ≤ lo ∧ TO ≤ lo ∧ i1 ≤ lo ∧ i2 ≤ lo) (hn : min xs.size ys.size ≤ sizeLine) (res : Value) {h₁ : Heap}
    (hR : ∀ h' tk acc c as, (∀ b o, b ≠ S → b ∉ [z, TO, i1, i2] → h₁.get? b = some o → h'.get? b = some o) → h'.get? S = some { cls := .type "list", dict := none, data := .seq acc c, slots := #[] } → as.length = min xs.size ys.size → G xs ys lo h' as →
      acc.toList = as.map Value.ref → R (.ok (.ret res)) { s with heap := h', toks := tk }) :
    ∀ (k i : Nat) (h : Heap) (tk c : Nat) (acc : Array Value) (as : List Addr), min xs.size ys.size - i = k → i ≤ min xs.size ys.size → St h z TI TO i1 i2 l1 l2 S xs ys i → (∀ b o, b ≠ S → b ∉ [z, TO, i1, i2] → h₁.get? b = some o → h.get? b = some o) →
      h.get? S = some { cls := .type "list", dict := none, data := .seq acc c, slots := #[] } → acc.toList = as.map Value.ref → as.length = i → G xs ys lo h as → lo < h.objs.size →
      codeAny (model prog w) A (.builtin "list.extend.loop" ⟨[.ref S, .ref z, res], []⟩) R { s with heap := h, toks := tk } := by
  have hSin : S ∉ [z, TO, i1, i2] := by
    simp only [List.mem_cons, List.not_mem_nil, or_false, not_or]
    exact ⟨F.z.symm, F.TO.symm, F.i1.symm, F.i2.symm⟩
  have hab : ∀ a, lo < a → a ∉ [z, TO, i1, i2] ∧ a ≠ S := fun a ha => by
    simp only [List.mem_cons, List.not_mem_nil, or_false, not_or]
    obtain ⟨q0, q1, q2, q3, q4⟩ := hlo
    exact ⟨⟨Nat.ne_of_gt (Nat.lt_of_le_of_lt q1 ha), Nat.ne_of_gt (Nat.lt_of_le_of_lt q2 ha), Nat.ne_of_gt (Nat.lt_of_le_of_lt q3 ha), Nat.ne_of_gt (Nat.lt_of_le_of_lt q4 ha)⟩, Nat.ne_of_gt (Nat.lt_of_le_of_lt q0 ha)⟩
  intro k
  induction k with
  | zero =>
    intro i h tk c acc as hk hi hst hkeep hS hacc hal hG hIs
    have hin : i = min xs.size ys.size := by omega
    have hend : xs[i]? = none ∨ ys[i]? = none := by
      rcases Nat.le_total xs.size ys.size with q | q
      · exact .inl (Array.getElem?_eq_none (by omega))
      · exact .inr (Array.getElem?_eq_none (by omega))
    refine codeAny_builtin PySem.F.entry_extend_loop ?_
    rw [Around.under_plainId PySem.F.plain_extend_loop _]
    show wpAny _ A.in1 (pyNext (.ref z) >>= _) _ _ _
    refine wpAny_bind (st_done (s := { s with heap := h, toks := tk }) (A := A.in1) hh D hst hend fun h' he => ?_)
    refine wpAny_pure (hR h' tk acc c as (fun b o h1 h2 e => he b o h2 (hkeep b o h1 h2 e)) (he S _ hSin hS) (by omega) ⟨hG.rise, hG.above, fun j a hj => ?_⟩ hacc)
    obtain ⟨x, y, e1, e2, e3⟩ := hG.pairs j a hj
    exact ⟨x, y, e1, e2, he a _ (hab a (hG.above a (List.mem_of_getElem? hj))).1 e3⟩
  | succ k ih =>
    intro i h tk c acc as hk hi hst hkeep hS hacc hal hG hIs
    have hlx : i < xs.size := by omega
    have hly : i < ys.size := by omega
    have hsz : acc.size = i := by rw [← Array.length_toList, hacc, List.length_map, hal]
    refine codeAny_builtin PySem.F.entry_extend_loop ?_
    rw [Around.under_plainId PySem.F.plain_extend_loop _]
    show wpAny _ A.in1 (pyNext (.ref z) >>= _) _ _ _
    refine wpAny_bind (st_item (s := { s with heap := h, toks := tk }) (S := S) D hst (Heap.lt_size hS) (Array.getElem?_eq_getElem hlx) (Array.getElem?_eq_getElem hly) fun h' hst' ht hz hkp => ?_)
    dsimp only at ht hz hkp ⊢
    have hS' := hkp S _ hSin hS
    have up : ∀ b o, b ≠ S → h'.get? b = some o → (h'.update S (Obj.mapSeq (·.push (Value.ref h.objs.size)))).get? b = some o := fun b o hb e => (Heap.get?_update_other _ _ (Ne.symm hb)).trans e
    have hSl : S < h.objs.size := Heap.lt_size hS
    show wpAny _ A.in1 (updateSeq S (·.push (Value.ref h.objs.size)) >>= _) _ _ _
    refine wpAny_bind ?_
    refine wpAny_updateSeq hS' rfl (wpAny_pure ⟨plainId_quiet PySem.F.plain_extend_loop _, ih (i + 1) _ tk _ (acc.push (Value.ref h.objs.size)) (as ++ [h.objs.size]) (by omega) (by omega) (hst'.keep F up)
      (fun b o h1 h2 e => up b o h1 (hkp b o h2 (hkeep b o h1 h2 e))) (Heap.get?_update_self _ hS' rfl) (by rw [Array.toList_push, hacc, List.map_append]; rfl) (by rw [List.length_append, hal]; rfl) ⟨?_, ?_, ?_⟩ ?_⟩) (by rw [hsz]; omega) (by show (acc.push (Value.ref h.objs.size)).size ≤ sizeLine + 1; rw [Array.size_push, hsz]; omega)
    · refine List.pairwise_append.mpr ⟨hG.rise, List.pairwise_singleton _ _, fun a ha b hb => ?_⟩
      rw [List.mem_singleton.mp hb]
      exact hG.there ha
    · intro a ha
      rcases List.mem_append.mp ha with ha | ha
      · exact hG.above a ha
      · rw [List.mem_singleton.mp ha]; exact hIs
    · intro j b hj
      rcases Nat.lt_trichotomy j as.length with h1 | h1 | h1
      · rw [List.getElem?_append_left h1] at hj
        obtain ⟨x, y, e1, e2, e3⟩ := hG.pairs j b hj
        obtain ⟨hb1, hb2⟩ := hab b (hG.above b (List.mem_of_getElem? hj))
        exact ⟨x, y, e1, e2, up b _ hb2 (hkp b _ hb1 e3)⟩
      · subst h1
        have hb : h.objs.size = b := by simpa using hj
        subst hb
        exact ⟨_, _, by rw [hal]; exact Array.getElem?_eq_getElem hlx, by rw [hal]; exact Array.getElem?_eq_getElem hly, up _ _ (Nat.ne_of_gt hSl) ht⟩
      · have hnone : (as ++ [h.objs.size])[j]? = none := List.getElem?_eq_none (by rw [List.length_append, List.length_singleton]; omega)
        rw [hnone] at hj; cases hj
    · have e : (h'.update S (Obj.mapSeq (·.push (Value.ref h.objs.size)))).get? h.objs.size = _ := up _ _ (Nat.ne_of_gt hSl) ht
      exact Nat.lt_trans hIs (Heap.lt_size e)
end
theorem zip_no_len : typeLookup (.type "zip") "__len__" = pure none := by rw [typeLookup_type, builtinLookup_eq_fast]; kernel_rfl
theorem zip_no_hint : typeLookup (.type "zip") "__length_hint__" = pure none := by rw [typeLookup_type, builtinLookup_eq_fast]; kernel_rfl
section
variable {prog : Program} {w : World} {A : Around} {E : Value → Shared → Prop} {s : Shared} {z TI TO i1 i2 l1 l2 : Addr} {xs ys : Array Value}
theorem zl_extend {R : Result → Shared → Prop} {lo : Addr} (hh : A.handled = none) (D : ZipApart z TI TO i1 i2 l1 l2) (S : Addr) (F : Off z TI TO i1 i2 l1 l2 S) (hlo : S ≤ lo ∧ z ≤ lo ∧ TO ≤ lo ∧ i1 ≤ lo ∧ i2 ≤ lo) (hls : lo < s.heap.objs.size) (st : St s.heap z TI TO i1 i2 l1 l2 S xs ys 0) (hty : s.TypeIs (.ref z) "zip")
    (hit : ∀ {A' : Around} {E' : Value → Shared → Prop} {Q' : Value → Shared → Prop}, Q' (.ref z) s → wpAny (model prog w) A' (pyIter (.ref z)) Q' E' s) (res : Value) (c₀ : Nat) (hS : s.heap.get? S = some { cls := .type "list", data := .seq #[] c₀ })
    (hR : ∀ h' tk acc c as, (∀ b o, b ≠ S → b ∉ [z, TO, i1, i2] → s.heap.get? b = some o → h'.get? b = some o) → h'.get? S = some { cls := .type "list", dict := none, data := .seq acc c, slots := #[] } → as.length = min xs.size ys.size → G xs ys lo h' as →
      acc.toList = as.map Value.ref → R (.ok (.ret res)) { s with heap := h', toks := tk }) (hn : min xs.size ys.size ≤ sizeLine) :
    wpAny (model prog w) A.in1 (Builtin.List.listExtendWith (.ref S) (.ref z) res)
      (fun fin s' => match fin with | .done f => R (.ok f) s' | .again c' => c'.quiet = true ∧ codeAny (model prog w) A c' R s') (fun e s' => R (.error e) s') s := by
  have key : ∀ (h : Heap) (c₁ tk : Nat), (∀ b o, b ≠ S → s.heap.get? b = some o → h.get? b = some o) → h.objs.size = s.heap.objs.size →
      h.get? S = some { cls := .type "list", data := .seq #[] c₁ } → codeAny (model prog w) A (.builtin "list.extend.loop" ⟨[.ref S, .ref z, res], []⟩) R { s with heap := h, toks := tk } := by
    intro h c₁ tk hk hsz hS₁
    exact zl_loop (s := s) (h₁ := s.heap) hh D F hlo hn res hR (min xs.size ys.size) 0 h tk c₁ #[] [] (Nat.sub_zero _) (Nat.zero_le _) (st.keep F hk) (fun b o hb _ e => hk b o hb e) hS₁ rfl rfl
      ⟨List.Pairwise.nil, (fun _ ha => nomatch ha), (fun j a hj => by simp at hj)⟩ (by rw [hsz]; exact hls)
  unfold Builtin.List.listExtendWith
  refine wpAny_bind (wpAny_typeOf (T := "zip") hty ?_)
  have h1 : Builtin.List.listSameRef (.ref S) (.ref z) = false := by simp [Builtin.List.listSameRef, F.z.symm]
  have h2 : (Value.type "zip" == Value.type "list") = false := by decide
  have h3 : (Value.type "zip" == Value.type "tuple") = false := by decide
  simp only [h1, h2, h3, Bool.or_false, Bool.false_eq_true, if_false]
  refine wpAny_bind (hit ?_)
  refine wpAny_bind (wpAny_holding ?_)
  unfold Builtin.List.listLengthHint
  refine wpAny_bind (wpAny_specialOf hty zip_no_len ?_)
  show wpAny _ A.in1 (specialOf (Value.ref z) (Str.ofString "__length_hint__") >>= _) _ _ _
  refine wpAny_bind (wpAny_specialOf hty zip_no_hint ?_)
  refine wpAny_pure ?_
  show wpAny _ A.in1 (rule "list.extend.makes-room" >>= fun _ => Builtin.List.listTouch (.ref S) >>= fun _ =>
    again (.builtin "list.extend.loop" ⟨[.ref S, .ref z, res], []⟩)) _ _ _
  refine wpAny_bind (wpAny_rule ?_)
  refine wpAny_bind ?_
  show wpAny _ _ (updateSeq S (·.push .none) >>= fun _ => updateSeq S (·.pop)) _ _ _
  refine wpAny_bind (wpAny_updateSeq hS rfl ?_)
  have hS₂ := Heap.get?_update_self (Obj.mapSeq (·.push Value.none)) hS rfl
  refine wpAny_updateSeq (hz := by seq_fits) hS₂ rfl ?_
  have hS₃ := Heap.get?_update_self (Obj.mapSeq (·.pop)) hS₂ rfl
  refine wpAny_pure ⟨plainId_quiet PySem.F.plain_extend_loop _, key _ _ _ (fun b o hb e => ?_) (by rw [Heap.size_update, Heap.size_update]) hS₃⟩
  exact (Heap.get?_update_other _ _ (Ne.symm hb)).trans ((Heap.get?_update_other _ _ (Ne.symm hb)).trans e)
end
end QZ
set_option maxRecDepth 100000
set_option maxHeartbeats 2000000
/-! QZipL: list(zip(t, u)), the rule -/
namespace QZ
open PySem PySem.Calls PyProof.Rows PyProof.V PySem.Spec
section
variable {prog : Program} {w : World} {A : Around} {E : Value → Shared → Prop} {s : Shared} {z TI TO i1 i2 l1 l2 : Addr} {xs ys : Array Value}
theorem zl_init {R : Result → Shared → Prop} {lo : Addr} (hh : A.handled = none) (D : ZipApart z TI TO i1 i2 l1 l2) (S : Addr) (F : Off z TI TO i1 i2 l1 l2 S) (hlo : S ≤ lo ∧ z ≤ lo ∧ TO ≤ lo ∧ i1 ≤ lo ∧ i2 ≤ lo) (hls : lo < s.heap.objs.size) (hz : IsZip s.heap z TI TO .none) (st : St s.heap z TI TO i1 i2 l1 l2 S xs ys 0)
    (hS : s.heap.get? S = some { cls := .type "list", data := .seq #[] })
    (hR : ∀ h' tk acc c as, (∀ b o, b ≠ S → b ∉ [z, TO, i1, i2] → s.heap.get? b = some o → h'.get? b = some o) → h'.get? S = some { cls := .type "list", dict := none, data := .seq acc c, slots := #[] } → as.length = min xs.size ys.size → G xs ys lo h' as →
      acc.toList = as.map Value.ref → R (.ok (.ret .none)) { s with heap := h', toks := tk }) (hn : min xs.size ys.size ≤ sizeLine) :
    wpAny (model prog w) A.in1 (Builtin.«list.__init__» ⟨[.ref S, .ref z], []⟩)
      (fun fin s' => match fin with | .done f => R (.ok f) s' | .again c' => c'.quiet = true ∧ codeAny (model prog w) A c' R s') (fun e s' => R (.error e) s') s := by
  show wpAny _ _ (do let old ← Builtin.List.listItems (.ref S); Builtin.List.listUpdate (.ref S) (fun _ => #[]); letGo old.toList.reverse; Builtin.List.listExtendWith (.ref S) (.ref z) .none) _ _ s
  refine wpAny_bind ?_
  unfold Builtin.List.listItems
  refine wpAny_bind (wpAny_seqItems hS rfl (wpAny_pure ?_))
  show wpAny _ _ (updateSeq S (fun _ => #[]) >>= fun _ => letGo (#[] : Array Value).toList.reverse >>= fun _ => Builtin.List.listExtendWith (.ref S) (.ref z) .none) _ _ s
  refine wpAny_bind (wpAny_updateSeq hS rfl ?_)
  have hS₂ := Heap.get?_update_self (Obj.mapSeq (fun _ => (#[] : Array Value))) hS rfl
  have oth : ∀ b o, b ≠ S → s.heap.get? b = some o → (s.heap.update S (Obj.mapSeq (fun _ => (#[] : Array Value)))).get? b = some o :=
    fun b o hb e => (Heap.get?_update_other _ _ (Ne.symm hb)).trans e
  refine wpAny_bind (wpAny_letGo ?_)
  have hz2 : IsZip (s.heap.update S (Obj.mapSeq (fun _ => (#[] : Array Value)))) z TI TO .none := oth z _ F.z hz
  refine zl_extend (s := { s with heap := s.heap.update S (Obj.mapSeq (fun _ => (#[] : Array Value))) }) hh D S F hlo (by show lo < (s.heap.update S _).objs.size; rw [Heap.size_update]; exact hls) (st.keep F oth) ⟨_, hz2, rfl⟩ (fun q => wpAny_pyIter_zip hz2 q) .none _ hS₂ (fun h' tk acc c as hk hS' hl hG hacc => ?_) hn
  exact hR h' tk acc c as (fun b o hb hb2 e => hk b o hb hb2 (oth b o hb e)) hS' hl hG hacc
/-- list(z) right behind z = zip(t, u), t and u tuples -/
theorem zl_call {Q : Value → Shared → Prop} (hh : A.handled = none) (D : ZipApart z TI TO i1 i2 l1 l2) (hzm : TI < s.heap.objs.size ∧ TO < s.heap.objs.size ∧ i1 < s.heap.objs.size ∧ i2 < s.heap.objs.size ∧ l1 < s.heap.objs.size ∧ l2 < s.heap.objs.size) (hz : IsZip s.heap z TI TO .none) (hTI : IsPair s.heap TI (.ref i1) (.ref i2)) (hTO : IsPair s.heap TO .none .none) (h1 : s.heap.IsTupleIter i1 l1 0) (h2 : s.heap.IsTupleIter i2 l2 0)
    (hl1 : s.heap.IsTuple l1 xs) (hl2 : s.heap.IsTuple l2 ys) (hn : min xs.size ys.size ≤ sizeLine)
    (hQ : ∀ h' tk acc c as, (∀ b o, b ∉ [z, TO, i1, i2] → s.heap.get? b = some o → h'.get? b = some o) → h'.get? s.heap.objs.size = some { cls := .type "list", dict := none, data := .seq acc c, slots := #[] } → as.length = min xs.size ys.size → G xs ys s.heap.objs.size h' as →
      acc.toList = as.map Value.ref → Q (.ref s.heap.objs.size) { s with heap := h', toks := tk }) :
    wpAny (model prog w) A (call (.type "list") [.ref z]) Q E s := by
  refine callType_codes (Q₁ := fun obj s₁ => obj = .ref s.heap.objs.size ∧ s₁ = { s with heap := s.heap.push { cls := .type "list", data := .seq #[] } }) PySem.F.called_list (PySem.F.typeCall_list_1 _) PySem.F.entry_list_init
    (code_list_new _ ⟨rfl, rfl⟩) fun obj s₁ h₁ => ?_
  obtain ⟨rfl, rfl⟩ := h₁
  have hS : (s.heap.push { cls := .type "list", data := .seq #[] }).get? s.heap.objs.size = some { cls := .type "list", data := .seq #[] } := Heap.get?_push_size _ rfl
  have hzl : z < s.heap.objs.size := Heap.lt_size hz
  obtain ⟨m1, m2, m3, m4, m5, m6⟩ := hzm
  have F : Off z TI TO i1 i2 l1 l2 s.heap.objs.size := ⟨Nat.ne_of_lt hzl, Nat.ne_of_lt m1, Nat.ne_of_lt m2, Nat.ne_of_lt m3, Nat.ne_of_lt m4, Nat.ne_of_lt m5, Nat.ne_of_lt m6⟩
  have kp : ∀ b o, s.heap.get? b = some o → (s.heap.push { cls := .type "list", data := .seq #[] }).get? b = some o := fun b o e => Heap.get?_push_of_some _ e
  have st : St (s.heap.push { cls := .type "list", data := .seq #[] }) z TI TO i1 i2 l1 l2 s.heap.objs.size xs ys 0 :=
    ⟨kp _ _ hTI, h1.at fun o e => kp _ o e, h2.at fun o e => kp _ o e, hl1.at fun o e => kp _ o e, hl2.at fun o e => kp _ o e, .inl ⟨kp _ _ hz, _, _, kp _ _ hTO⟩⟩
  refine ⟨⟨_, hS, rfl⟩, PySem.F.args_list_init_2 _ _, zl_init (lo := s.heap.objs.size) (A := A.in1) hh D _ F ⟨Nat.le_refl _, Nat.le_of_lt hzl, Nat.le_of_lt m2, Nat.le_of_lt m3, Nat.le_of_lt m4⟩ (by show s.heap.objs.size < (s.heap.push _).objs.size; rw [Heap.size_push]; exact Nat.lt_succ_self _) (kp _ _ hz) st hS (fun h' tk acc c as hk hS' hl hG hacc => ?_) hn⟩
  exact ⟨rfl, hQ h' tk acc c as (fun b o hb e => hk b o (Nat.ne_of_lt (Heap.lt_size e)) hb (kp b o e)) hS' hl hG hacc⟩
end
end QZ
namespace Q
open PySem PySem.Spec PyProof.Rows L2
open Evl (Ex)
/-- the tuples tracked at their addresses -/
def putP : Hp → List Addr → List (V × V) → Hp
  | H, a :: as, p :: kvs => putP (upd H a (.tup [p.1, p.2])) as kvs
  | H, _, _ => H
theorem putP_off {b : Addr} : ∀ (as : List Addr) (kvs : List (V × V)) (H : Hp), b ∉ as → putP H as kvs b = H b
  | [], _, _, _ => rfl
  | _ :: _, [], _, _ => rfl
  | a :: as, p :: kvs, H, h => by
    show putP (upd H a (.tup [p.1, p.2])) as kvs b = H b
    rw [putP_off as kvs _ (fun z => h (List.mem_cons_of_mem _ z)), upd_ne (fun z => h (by rw [z]; exact List.mem_cons_self))]
theorem putP_at : ∀ (as : List Addr) (kvs : List (V × V)) (H : Hp), as.length = kvs.length → as.Nodup → ∀ (j : Nat) (a : Addr), as[j]? = some a → ∃ p, kvs[j]? = some p ∧ putP H as kvs a = some (.tup [p.1, p.2])
  | [], _, _, _, _, j, a, h => by simp at h
  | _ :: _, [], _, h, _, _, _, _ => by cases h
  | a :: as, p :: kvs, H, h, hn, 0, b, e => by
    have hn' := List.nodup_cons.mp hn
    simp at e
    subst e
    refine ⟨p, rfl, ?_⟩
    show putP (upd H a (.tup [p.1, p.2])) as kvs a = _
    rw [putP_off as kvs _ hn'.1, upd_same]
  | a :: as, p :: kvs, H, h, hn, j + 1, b, e => by
    have hn' := List.nodup_cons.mp hn
    obtain ⟨q, e1, e2⟩ := putP_at as kvs (upd H a (.tup [p.1, p.2])) (Nat.succ.inj h) hn'.2 j b (by simpa using e)
    exact ⟨q, by simpa using e1, e2⟩
section
variable {X : Cx} {e : Expr} {te : TE} {p apos cpos pos : Pos}
theorem zip_laid {pins : List (Addr × Obj)} {σ : L2.St} {H : Hp} {s : Shared} {h' : Heap} {tk : Nat} {xs ys : List V} {us ws : List Value} {acc : Array Value} {c : Nat} {as : List Addr} {lo : Addr} (I : Inv X pins σ H s) (hz : xs.length ≤ sizeLine) (hx : Vals xs us) (hy : Vals ys ws) (hlo : s.heap.objs.size ≤ lo)
    (hk : ∀ b o, s.heap.get? b = some o → h'.get? b = some o) (hS : h'.get? lo = some { cls := .type "list", dict := none, data := .seq acc c, slots := #[] }) (hl : as.length = min us.length ws.length) (hG : QZ.G us.toArray ws.toArray lo h' as) (hacc : acc.toList = as.map Value.ref) :
    ∃ H' : Hp, (∀ b o, H b = some o → H' b = some o) ∧ H lo = none ∧ (∀ b, H b = none → b = lo ∨ b ∈ as ∨ H' b = none) ∧ (∀ t ∈ as, H t = none) ∧ lo ∉ as ∧ H' lo = some (.lst (as.map V.ref)) ∧ (∀ (j : Nat) (a : Addr), as[j]? = some a → ∃ x y, xs[j]? = some x ∧ ys[j]? = some y ∧ H' a = some (.tup [x, y])) ∧ Inv X pins σ H' { s with heap := h', toks := tk } := by
  have lx := hx.length
  have ly := hy.length
  have lz : as.length = (xs.zip ys).length := by
    rw [List.length_zip]
    omega
  have hSn : lo ∉ as := fun z => Nat.lt_irrefl _ (hG.above _ z)
  have nd : as.Nodup := List.Pairwise.imp (fun {a b} (h : a < b) => Nat.ne_of_lt h) hG.rise
  have new : ∀ t ∈ as, H t = none := fun t ht => I.hok.fresh (Nat.le_trans hlo (Nat.le_of_lt (hG.above t ht)))
  have newS : H lo = none := I.hok.fresh hlo
  have atP := putP_at as (xs.zip ys) (upd H lo (.lst (as.map V.ref))) lz nd
  have off : ∀ b, b ∉ as → b ≠ lo → putP (upd H lo (.lst (as.map V.ref))) as (xs.zip ys) b = H b := fun b h1 h2 => by rw [putP_off as _ _ h1, upd_ne h2]
  have low : ∀ b o, s.heap.get? b = some o → b ∉ as ∧ b ≠ lo := fun b o e => ⟨fun z => absurd (Heap.lt_size e) (Nat.not_lt.mpr (Nat.le_trans hlo (Nat.le_of_lt (hG.above b z)))), Nat.ne_of_lt (Nat.lt_of_lt_of_le (Heap.lt_size e) hlo)⟩
  have kp : ∀ b u, H b = some u → (putP (upd H lo (.lst (as.map V.ref))) as (xs.zip ys)) b = some u := fun b u e => by
    rw [off b (fun z => by rw [new b z] at e; cases e) (fun z => by rw [z, newS] at e; cases e)]
    exact e
  have eS : putP (upd H lo (.lst (as.map V.ref))) as (xs.zip ys) lo = some (.lst (as.map V.ref)) := by rw [putP_off as _ _ hSn, upd_same]
  have atQ : ∀ (j : Nat) (a : Addr), as[j]? = some a → ∃ x y, xs[j]? = some x ∧ ys[j]? = some y ∧ putP (upd H lo (.lst (as.map V.ref))) as (xs.zip ys) a = some (.tup [x, y]) := fun j a e => by
    obtain ⟨⟨x, y⟩, e1, e2⟩ := atP j a e
    rw [List.getElem?_zip_eq_some] at e1
    exact ⟨x, y, e1.1, e1.2, e2⟩
  refine ⟨putP (upd H lo (.lst (as.map V.ref))) as (xs.zip ys), kp, newS, fun b q => ?_, new, hSn, eS, atQ, ?_⟩
  · by_cases h1 : b = lo
    · exact .inl h1
    · by_cases h2 : b ∈ as
      · exact .inr (.inl h2)
      · exact .inr (.inr ((off b h2 h1).trans q))
  refine I.call' (ch := []) rfl ⟨fun b o q _ _ _ => hk b o q, fun b o q _ _ _ => ⟨o.slots, hk b o q⟩, fun b o q n _ => ?_, fun b o q _ => ⟨o, hk b o q⟩, fun b xs q => kp b _ q, fun b o u q => kp b _ q, fun b ps q => ⟨#[], by rw [kp b _ q]; simp⟩⟩ (fun b u q => ?_) I.bare fun b z => by simp at z
  · obtain ⟨z1, z2⟩ := low b o q
    rw [off b z1 z2]
    exact n
  · by_cases hb : b ∈ as
    · obtain ⟨j, e1⟩ := List.mem_iff_getElem?.mp hb
      obtain ⟨x, y, f1, f2, f3⟩ := atQ j b e1
      rw [f3] at q
      cases q
      obtain ⟨u, w, g1, g2, g3⟩ := hG.pairs j b e1
      obtain ⟨u', g4, g5⟩ := hx.get f1
      obtain ⟨w', g6, g7⟩ := hy.get f2
      have q1 : us[j]? = some u := by simpa using g1
      have q2 : ws[j]? = some w := by simpa using g2
      rw [g4] at q1
      rw [g6] at q2
      cases q1
      cases q2
      exact ⟨by show 2 ≤ sizeLine; decide, [u, w], .cons g5 (.cons g7 .nil), ⟨_, g3, rfl, _, rfl⟩⟩
    · by_cases hb2 : b = lo
      · rw [hb2] at q ⊢
        rw [eS] at q
        cases q
        refine ⟨by rw [List.length_map]; omega, acc.toList, c, by rw [hacc]; exact LiI.vals_refs as, ?_⟩
        rw [Array.toArray_toList]
        exact hS
      · rw [off b hb hb2] at q
        exact (I.hok b u q).stay (fun d v _ y => hk d v y) (fun d y => kp d _ y) fun d xs y => kp d _ y
/-- list(zip(a, b)) of two tuples -/
def tListZip (K : PySem.W.Frag) (ta : TA) : TE := fun σ H Q => ta σ H fun vs H1 => ∃ a b xs ys, vs = [.ref a, .ref b] ∧ SqT K H1 a xs ∧ SqT K H1 b ys ∧
  ∀ (H' : Hp) (p : Addr) (as : List Addr), (∀ b o, H1 b = some o → H' b = some o) → H1 p = none → (∀ b, H1 b = none → b = p ∨ b ∈ as ∨ H' b = none) → (∀ t ∈ as, H1 t = none) → p ∉ as → H' p = some (.lst (as.map V.ref)) → as.length = min xs.length ys.length →
    (∀ (j : Nat) (a : Addr), as[j]? = some a → ∃ x y, xs[j]? = some x ∧ ys[j]? = some y ∧ H' a = some (.tup [x, y])) → Q (.ref p) H'
theorem pe_listZip {a b : Expr} {ta : TA} {p p2 pos2 : Pos} (hc : X.calm = true) (ha : PA X [a, b] ta) (hml : X.mg "list" = none) (hmz : X.mg "zip" = none) (hgl : Gl X "list" := by rfl) (hgz : Gl X "zip" := by rfl)
    (hs : starEach [.Call (.Name "zip" p2) [a, b] [] pos2] X.env = (false, eval (.Call (.Name "zip" p2) [a, b] [] pos2) X.env) :: starEach [] X.env := by rfl)
    (hs2 : starEach [a, b] X.env = (false, eval a X.env) :: starEach [b] X.env := by rfl) (hpl : (backTo pos2 (starEach [b] X.env)).any (·.1) = false := by rfl) :
    PE X (.Call (.Name "list" p) [.Call (.Name "zip" p2) [a, b] [] pos2] [] pos) (tListZip X.K ta) := by
  refine ⟨fun pins s σ H Q I hq => ?_⟩
  refine wpAny_Call_Name_kw (ld_blt I hgl hml PyProof.Rows.boot_list ?_)
  refine PyProof.Rows.callWith_type1 ?_ hs rfl
  rw [hs]
  show wpAny _ _ (spliced ((false, eval (.Call (.Name "zip" p2) [a, b] [] pos2) X.env) :: backTo pos (starEach [] X.env))) _ _ s
  refine Calls.spliced_cons ?_
  refine wpAny_Call_Name_kw (ld_blt I hgz hmz PyProof.Rows.boot_zip ?_)
  refine PyProof.Rows.callWith_type1 (thn (ha.run pos2 pins s σ H _ I hq) fun us s1 ⟨vs, H1, I1, r1, q1⟩ => ?_) hs2 hpl
  obtain ⟨a, b, xs, ys, ex, hqx, hqy, q⟩ := q1
  subst ex
  cases r1 with
  | cons r rr =>
    cases rr with
    | cons r' rr =>
      cases rr
      cases r
      cases r'
      obtain ⟨its, rv, p1, hz1⟩ := I1.tuple hqx
      obtain ⟨its2, rv2, p3, hz2⟩ := I1.tuple hqy
      obtain ⟨o1, ho1, _⟩ := id p1
      obtain ⟨o2, ho2, _⟩ := id p3
      have la : a < s1.heap.objs.size := Heap.lt_size ho1
      have lb : b < s1.heap.objs.size := Heap.lt_size ho2
      refine RZ.call_zipT (show s1.heap.IsTuple a its.toArray from p1) (show s1.heap.IsTuple b its2.toArray from p3) fun h' hz hTI hTO h1 h2 hsz hk => ?_
      refine Calls.spliced_nil ?_
      have l1 := rv.length
      have l2 := rv2.length
      have mm : s1.heap.objs.size + 2 < h'.objs.size ∧ s1.heap.objs.size + 3 < h'.objs.size ∧ s1.heap.objs.size < h'.objs.size ∧ s1.heap.objs.size + 1 < h'.objs.size ∧ a < h'.objs.size ∧ b < h'.objs.size := by
        rw [hsz]
        refine ⟨?_, ?_, ?_, ?_, Nat.lt_of_lt_of_le la (Nat.le_add_right _ _), Nat.lt_of_lt_of_le lb (Nat.le_add_right _ _)⟩
        · exact Nat.add_lt_add_left (by decide) _
        · exact Nat.add_lt_add_left (by decide) _
        · exact Nat.lt_add_of_pos_right (by decide)
        · exact Nat.add_lt_add_left (by decide) _
      refine QZ.zl_call (z := s1.heap.objs.size + 4) (TI := s1.heap.objs.size + 2) (TO := s1.heap.objs.size + 3) (i1 := s1.heap.objs.size) (i2 := s1.heap.objs.size + 1) (l1 := a) (l2 := b) (s := { s1 with heap := h' }) (xs := its.toArray) (ys := its2.toArray) (I1.ok.hd hc) (PySem.W.ktu_apart s1.heap.objs.size a b la lb) mm hz hTI hTO h1 h2 ((show s1.heap.IsTuple a its.toArray from p1).at fun o e => hk _ o e) ((show s1.heap.IsTuple b its2.toArray from p3).at fun o e => hk _ o e) ?_ fun h'' tk acc c as hk2 hS hl hG hacc => ?_
      · rw [List.size_toArray, List.size_toArray]
        omega
      · have hk3 : ∀ b o, s1.heap.get? b = some o → h''.get? b = some o := fun b o e => by
          have hlt := Heap.lt_size e
          refine hk2 b o ?_ (hk b o e)
          simp only [List.mem_cons, List.not_mem_nil, or_false, not_or]
          exact ⟨Nat.ne_of_lt (Nat.lt_of_lt_of_le hlt (Nat.le_add_right _ _)), Nat.ne_of_lt (Nat.lt_of_lt_of_le hlt (Nat.le_add_right _ _)), Nat.ne_of_lt hlt, Nat.ne_of_lt (Nat.lt_of_lt_of_le hlt (Nat.le_add_right _ _))⟩
        rw [List.size_toArray, List.size_toArray] at hl
        obtain ⟨H', k1, k2, k3, k4, k5, k6, k7, J⟩ := zip_laid (tk := tk) (lo := h'.objs.size) I1 (by omega) rv rv2 (by rw [hsz]; omega) hk3 hS hl hG hacc
        exact ⟨.ref _, H', J, rfl, q H' _ as k1 k2 k3 k4 k5 k6 (by omega) k7⟩
end
section
variable {X : Cx} {c : Cn} {W : WX} {pos p p2 pos2 : Pos}
theorem reps_zip {T : Tab} {G : Hp} : ∀ {us ws : List U} {xs ys : List V} {as : List Addr}, Reps T G us xs → Reps T G ws ys → as.length = min xs.length ys.length → (∀ (j : Nat) (a : Addr), as[j]? = some a → ∃ x y, xs[j]? = some x ∧ ys[j]? = some y ∧ G a = some (.tup [x, y])) → Reps T G (zipU us ws) (as.map V.ref)
  | [], ws, xs, ys, as, h1, h2, hl, h => by
    rw [reps_nil] at h1
    subst h1
    have e : as = [] := List.eq_nil_of_length_eq_zero (by simpa using hl)
    subst e
    exact .nil
  | u :: us, [], xs, ys, as, h1, h2, hl, h => by
    rw [reps_nil] at h2
    subst h2
    have e : as = [] := List.eq_nil_of_length_eq_zero (by simpa using hl)
    subst e
    exact .nil
  | u :: us, w :: ws, xs, ys, as, h1, h2, hl, h => by
    obtain ⟨x, xr, rfl, r1, t1⟩ := reps_cons.1 h1
    obtain ⟨y, yr, rfl, r2, t2⟩ := reps_cons.1 h2
    cases as with
    | nil => simp at hl
    | cons a as =>
      obtain ⟨x', y', e1, e2, e3⟩ := h 0 a rfl
      simp at e1 e2
      subst e1 e2
      refine .cons (rep_tup.2 ⟨a, _, rfl, .inl (.inl e3), .cons r1 (.cons r2 .nil)⟩) (reps_zip t1 t2 (by simp at hl; omega) fun j b e => ?_)
      obtain ⟨x2, y2, f1, f2, f3⟩ := h (j + 1) b (by simpa using e)
      exact ⟨x2, y2, by simpa using f1, by simpa using f2, f3⟩
theorem qf_listZip {a b : Expr} {as : AF} (hc : X.calm = true) (ha : QA X c W [a, b] as) (hml : X.mg "list" = none) (hmz : X.mg "zip" = none) (hgl : Gl X "list" := by rfl) (hgz : Gl X "zip" := by rfl)
    (hs : starEach [.Call (.Name "zip" p2) [a, b] [] pos2] X.env = (false, eval (.Call (.Name "zip" p2) [a, b] [] pos2) X.env) :: starEach [] X.env := by rfl)
    (hs2 : starEach [a, b] X.env = (false, eval a X.env) :: starEach [b] X.env := by rfl) (hpl : (backTo pos2 (starEach [b] X.env)).any (·.1) = false := by rfl) :
    QF X c W (.Call (.Name "list" p) [.Call (.Name "zip" p2) [a, b] [] pos2] [] pos) (eListZip as) :=
  PE.weak (pe_listZip hc ha hml hmz hgl hgz hs hs2 hpl) fun σ H Q ⟨G, ρ, r, h⟩ => by
    classical
    refine ⟨G, ρ, r, (PQ.bind (rel := relUs (Cx.T X)) h).imp fun x H1 ⟨G1, ρ1, us, s1, r1, l1, h1⟩ => ?_⟩
    split at h1
    · obtain ⟨v, w, e2, l2, l3⟩ := reps2 l1
      obtain ⟨a1, vs1, rfl, k1, k2⟩ := rep_tup.1 l2
      obtain ⟨a2, vs2, rfl, k3, k4⟩ := rep_tup.1 l3
      refine ⟨a1, a2, vs1, vs2, e2, Evl.ex_t r1.ex k1, Evl.ex_t r1.ex k3, fun H' lp as m1 m2 m3 m4 m5 m6 m7 m8 => ?_⟩
      let G' : Hp := fun b => if b ∈ as then H' b else G1 b
      have gi : ∀ b, b ∈ as → G' b = H' b := fun b h => if_pos h
      have go : ∀ b, b ∉ as → G' b = G1 b := fun b h => if_neg h
      have g1n : ∀ b, b ∈ as → G1 b = none := fun b h => Evl.fresh_back r1.ex (m4 b h)
      have ex : Ex G1 G' := fun b o q => by
        by_cases hb : b ∈ as
        · rw [g1n b hb] at q
          cases q
        · rw [go b hb]
          exact q
      have gw : Grow G1 H1 G' H' := ⟨ex, fun b o q => by
        by_cases hb : b ∈ as
        · rw [gi b hb] at q
          exact q
        · rw [go b hb] at q
          exact m1 b o (r1.ex b o q), m1, fun b o q z => by
        have hb : b ∉ as := fun hb => by
          rw [m4 b hb] at q
          cases q
        rw [go b hb]
        exact z⟩
      have r2 := r1.grow gw
      obtain ⟨n1, n2⟩ := r1.fresh0 m2
      refine h1 _ G' H' gw.stp r2 ⟨lp, _, _, rfl, rfl, ?_, n1, n2, m6, reps_zip (Reps.mono ex _ _ k2) (Reps.mono ex _ _ k4) m7 fun j b e => ?_, ?_, r1.notOwn m2⟩
      · rw [go lp m5]
        exact Evl.fresh_back r1.ex m2
      · obtain ⟨x, y, f1, f2, f3⟩ := m8 j b e
        exact ⟨x, y, f1, f2, by rw [gi b (List.mem_of_getElem? e)]; exact f3⟩
      · cases q : H lp with
        | none => rfl
        | some o =>
          obtain ⟨o', q'⟩ := s1.d lp o q
          rw [m2] at q'
          cases q'
    · exact h1.elim
end
end Q
set_option maxRecDepth 100000
set_option maxHeartbeats 2000000
/-! QEnum: enumerate of a list, of a tuple -/
namespace PySem
open Sem (wp)
open AutoSeq1 (wpAny_loadPart')
theorem qmeets_enumerate_newT (l : Addr) (items : Array Value) :
    Meets (Builtin.«enumerate.__new__» ⟨[.type "enumerate", .ref l], []⟩) (fun _ R s => s.heap.IsTuple l items ∧
      R (.ok (.ret (.ref (s.heap.push { cls := .type "tuple_iterator", data := .fields #[.ref l, .int 0 0] }).objs.size)))
        { s with heap := (s.heap.push { cls := .type "tuple_iterator", data := .fields #[.ref l, .int 0 0] }).push { cls := .type "enumerate", data := .fields #[.none, .bool false, .ref s.heap.objs.size, rawInt 0, .none, .none] } }) :=
  .of_wp fun prog w A R s h => by
    obtain ⟨hp, g, d, tk, os⟩ := s; obtain ⟨hl, h⟩ := h
    have hsub := sub_enumerate
    have q1 : ∀ {A' : Around} {E : Value → Shared → Prop} {Q : Value → Shared → Prop}, Q (.ref hp.objs.size) ⟨hp.push { cls := .type "tuple_iterator", data := .fields #[.ref l, .int 0 0] }, g, d, tk, os⟩ → wpAny (model prog w) A' (pyIter (.ref l)) Q E ⟨hp, g, d, tk, os⟩ :=
      fun q => wpAny_pyIter_tuple hl q
    wp_walk using q1
    refine wpAny_stack_any fun st => wpAny_pure ?_
    split
    · rename_i c _ _ _ _ _
      cases (c == Value.type "enumerate")
      · wp_walk using q1
        exact ⟨_, rfl, h⟩
      · wp_walk using q1
        exact ⟨_, rfl, h⟩
    · wp_walk using q1
      exact ⟨_, rfl, h⟩
section
variable {prog : Program} {w : World} {A : Around} {E : Value → Shared → Prop} {s : Shared}
theorem qcall_enumerate_tuple {l : Addr} {items : Array Value} {Q : Value → Shared → Prop} (hL : s.heap.IsTuple l items)
    (h : ∀ h', IsEnum h' (s.heap.objs.size + 1) s.heap.objs.size 0 .none → h'.IsTupleIter s.heap.objs.size l 0 → h'.objs.size = s.heap.objs.size + 2 →
      (∀ b o, s.heap.get? b = some o → h'.get? b = some o) → Q (.ref (s.heap.objs.size + 1)) { s with heap := h' }) :
    wpAny (model prog w) A (call (.type "enumerate") [.ref l]) Q E s := by
  refine callType_new F.called_enumerate (by decide) (F.typeCall_enumerate_1 _) (F.newCall_enumerate_1 _) (fun obj => F.args_object_init_2 obj _) F.entry_enumerate_new
    (qmeets_enumerate_newT l items) ⟨hL, ?_⟩
  have hz : (s.heap.push { cls := .type "tuple_iterator", data := .fields #[.ref l, .int 0 0] }).objs.size = s.heap.objs.size + 1 := Heap.size_push ..
  show _ ∧ _
  rw [hz]
  have he : IsEnum ((s.heap.push { cls := .type "tuple_iterator", data := .fields #[.ref l, .int 0 0] }).push
      { cls := .type "enumerate", data := .fields #[.none, .bool false, .ref s.heap.objs.size, rawInt 0, .none, .none] }) (s.heap.objs.size + 1) s.heap.objs.size 0 .none := by
    have := Heap.get?_push_size (s.heap.push { cls := .type "tuple_iterator", data := .fields #[.ref l, .int 0 0] })
      (o := { cls := .type "enumerate", data := .fields #[.none, .bool false, .ref s.heap.objs.size, rawInt 0, .none, .none] }) rfl
    rw [hz] at this; exact this
  refine ⟨⟨_, he, rfl⟩, h _ he ⟨_, Heap.get?_push_of_some _ (Heap.get?_push_size _ rfl), rfl, rfl⟩ (by rw [Heap.size_push, hz]) fun b o x => Heap.get?_push_of_some _ (Heap.get?_push_of_some _ x)⟩
end
end PySem
namespace Q
open PySem PySem.Spec PyProof.Rows L2
open Evl (Ex)
/-- the tuple at a as it stands at each turn, each item in a new pair -/
def IteT (K : PySem.W.Frag) (a : Addr) : It :=
  ⟨fun i H => ∃ (xs : List V) (x : V), SqT K H a xs ∧ xs[i]? = some x, fun i H v H' => ∃ T x, v = .ref T ∧ H T = none ∧ H' = upd H T (.tup [.int (i : Nat), x]) ∧ ∀ xs, SqT K H a xs → xs[i]? = some x, fun i H => ∃ xs : List V, SqT K H a xs ∧ xs.length ≤ i⟩
theorem turn_enumT {P : Program} {w : World} {K : PySem.W.Frag} {elts : List Expr} {kk : Nat} {tpos : Pos} (a e it : Addr) :
    Turn P w K (.Tuple elts kk tpos) (IteT K a) [e, it] e (fun i h => (∃ old, IsEnum h e it ((i : Nat) : Int) old) ∧ h.IsTupleIter it a i ∧ e ≠ it ∧ a ≠ it ∧ a ≠ e) where
  mem := by simp
  obj := fun i h st b hb => by
    obtain ⟨⟨old, he⟩, ⟨o, ho, hc, hd⟩, _⟩ := st
    have e' : b = e ∨ b = it := by simpa using hb
    rcases e' with z | z
    · rw [z]; exact ⟨_, he, fun v q => nomatch q⟩
    · rw [z]; exact ⟨o, ho, fun v q => by rw [hd] at q; cases q⟩
  keep := fun i h h' st k => let ⟨⟨old, he⟩, hi, hne⟩ := st; ⟨⟨old, k e (by simp) _ he⟩, hi.at fun o q => k it (by simp) o q, hne⟩
  item := by
    intro X hP hw hK hc i pins s σ H E I hf st hg
    subst hP hw hK
    obtain ⟨⟨old, he⟩, hit, hne, hai, hae⟩ := st
    obtain ⟨xs, x, hq, hx⟩ := hg
    obtain ⟨its, rv, p, hz⟩ := I.tuple hq
    obtain ⟨u, hu, ru⟩ := rv.get hx
    have hel : e < s.heap.objs.size := Heap.lt_size he
    have hil : it < s.heap.objs.size := by obtain ⟨_, q, _⟩ := hit; exact Heap.lt_size q
    have hi : i < its.toArray.size := by
      have := (List.getElem?_eq_some_iff.mp hu).1
      rwa [List.size_toArray]
    have pt : s.heap.IsTuple a its.toArray := p
    refine wpAny_pyNext_enum_itemD (Draws.tuple (prog := X.prog) (w := X.w) (A := X.A.in1) (by first | exact I.ok.hd hc) it a hai its.toArray) he ⟨hit, pt⟩ hi hne (by
      simp only [List.mem_cons, List.not_mem_nil, or_false, not_or]
      exact ⟨hne, hae.symm⟩) fun x1 h' tk hP ho hst' hT hsz hk => ?_
    have hxu : x1 = u := by
      have q : its.toArray[i]? = some x1 := hP
      rw [List.getElem?_toArray, hu] at q
      exact (Option.some.inj q).symm
    subst hxu
    obtain ⟨hit', pt'⟩ := hst'
    refine ⟨_, rfl, wpAny_letOwnedTupleGo_enum (s := { s with heap := h', toks := tk + 1 }) ho fun h'' he' sb => ?_⟩
    have hT2 : h''.get? s.heap.objs.size = some { cls := .type "tuple", data := .seq #[.int i tk, x1] } := (sb.2 _ (Nat.ne_of_gt hel)).trans hT
    have new : ObjOk X.prog X.w (upd H s.heap.objs.size (.tup [.int (i : Nat), x])) h'' s.heap.objs.size (.tup [.int (i : Nat), x]) :=
      ⟨by show 2 ≤ sizeLine; decide, [.int i tk, x1], .cons ⟨_, rfl⟩ (.cons ru .nil), ⟨_, hT2, rfl, _, rfl⟩⟩
    have I1 : Inv X pins σ (upd H s.heap.objs.size (.tup [.int (i : Nat), x])) { s with heap := h'', toks := tk + 1 } :=
      I.turnedNew (ch := [e, it]) (fun b ob hb q => (sb.2 b (fun z => hb (by simp [z]))).trans (hk b ob (fun z => hb (by simp [z])) (fun z => hb (by simp [z])) q)) hf (Nat.le_refl _) new
    refine ⟨.ref s.heap.objs.size, _, I1, rfl, ⟨_, x, rfl, I.hok.fresh (Nat.le_refl _), rfl, fun ys hy => by rw [I.tuple_inj hy hq]; exact hx⟩, ⟨⟨x1, ?_⟩, hit'.at fun o q => (sb.2 it (Ne.symm hne)).trans q, hne, hai, hae⟩, fun b hb => ?_⟩
    · have e1 : ((i + 1 : Nat) : Int) = (i : Int) + 1 := by omega
      rw [e1]; exact he'
    · have hb' : b < s.heap.objs.size := by
        have e' : b = e ∨ b = it := by simpa using hb
        rcases e' with z | z
        · rw [z]; exact hel
        · rw [z]; exact hil
      rw [upd_ne (Nat.ne_of_lt hb')]
      exact (hf b hb).1
  done := by
    intro X hP hw hK hc i pins s σ H E I hf st hg
    subst hP hw hK
    obtain ⟨⟨old, he⟩, hit, hne, hai, hae⟩ := st
    obtain ⟨xs, hq, hx⟩ := hg
    obtain ⟨its, rv, p, hz⟩ := I.tuple hq
    obtain ⟨f0, f1, f2, f3, f4, f5⟩ := hf it (by simp)
    have hl := rv.length
    have pt : s.heap.IsTuple a its.toArray := p
    have hn : its.toArray[i]? = none := by
      rw [List.getElem?_toArray]
      exact List.getElem?_eq_none (by omega)
    have hT : s.TypeIs (.ref e) "enumerate" := ⟨_, he, rfl⟩
    unfold pyNext
    refine wpAny_bind (wpAny_attempt (wpAny_callSpecial?_slot (name := Str.ofString "__next__") hT F.slot_enumerate_next
      (wpAny_call_entry F.slot_enumerate_next hT F.entry_enumerate_next ?_ (F.args_enumerate_next_1 _))))
    show wpAny _ _ (field (.ref e) 2 >>= _) _ _ _
    refine wpAny_bind (wpAny_field he rfl (x := .ref it) rfl ?_)
    refine wpAny_bind (RZ.nextOf_tuple_end (by first | exact I.ok.hd hc) hit pt hn fun h' x he' hx' => ?_)
    obtain ⟨o, ho, hc'⟩ := hx'
    refine wpAny_bind (wpAny_isInstance (T := "StopIteration") (b := true) ⟨o, ho, hc'⟩ isSubtype_stop ?_)
    exact wpAny_pure ⟨rfl, I.turned (t' := s.toks) (fun b o hb q => he' b o hb q) f0 f1 f3 f4 f5⟩
  self := fun A i s Q E st h => let ⟨⟨_, he⟩, _⟩ := st; wpAny_pyIter_enum he h
def iEnumA (K : PySem.W.Frag) (ta : TA) : TI := fun σ H R => ta σ H fun vs H1 => ∃ a xs, vs = [.ref a] ∧ ((SqL K H1 a xs ∧ R (Ite K a) H1) ∨ (SqT K H1 a xs ∧ R (IteT K a) H1))
theorem pi_enumA {X : Cx} {e : Expr} {ta : TA} {p pos tpos : Pos} {elts : List Expr} {kk : Nat} (hg : Gl X "enumerate") (hm : X.mg "enumerate" = none) (ha : PA X [e] ta) (hs : starEach [e] X.env = [(false, eval e X.env)] := by rfl) :
    PI X (.Tuple elts kk tpos) (.Call (.Name "enumerate" p) [e] [] pos) (iEnumA X.K ta) := by
  refine ⟨fun pins s σ H R I h => ?_⟩
  refine Call_ (ld_blt I hg hm boot_enumerate (PyProof.Rows.callWith_type1 (thn (ha.run pos pins s σ H _ I h) fun us s1 ⟨vs, H1, I1, r1, q1⟩ => ?_) hs rfl))
  obtain ⟨a, xs, ex, q⟩ := q1
  subst ex
  cases r1 with
  | cons r rr =>
    cases rr
    cases r
    have fp : ∀ b ∈ [s1.heap.objs.size + 1, s1.heap.objs.size], FpOk X pins H1 b := fun b hb => by
      have e' : b = s1.heap.objs.size + 1 ∨ b = s1.heap.objs.size := by simpa using hb
      have hle : s1.heap.objs.size ≤ b := by
        rcases e' with z | z
        · rw [z]; exact Nat.le_add_right _ _
        · rw [z]; exact Nat.le_refl _
      exact I1.fpOk hle (I1.hok.fresh hle)
    rcases q with ⟨hq, q⟩ | ⟨hq, q⟩
    · obtain ⟨its, rv, p', hz⟩ := I1.list hq
      refine call_enumerate_list p'.isList fun h' he hit hsz hk => wpAny_pyIter_enum he ?_
      have I2 : Inv X pins σ H1 { s1 with heap := h' } := I1.kept (t' := s1.toks) hk
      exact ⟨s1.heap.objs.size + 1, [s1.heap.objs.size + 1, s1.heap.objs.size], _, _, H1, rfl, I2, turn_enum a (s1.heap.objs.size + 1) s1.heap.objs.size, ⟨⟨.none, he⟩, hit, Nat.succ_ne_self _⟩, fp, q⟩
    · obtain ⟨its, rv, p', hz⟩ := I1.tuple hq
      obtain ⟨o1, ho1, _⟩ := id p'
      have la : a < s1.heap.objs.size := Heap.lt_size ho1
      refine qcall_enumerate_tuple (show s1.heap.IsTuple a its.toArray from p') fun h' he hit hsz hk => wpAny_pyIter_enum he ?_
      have I2 : Inv X pins σ H1 { s1 with heap := h' } := I1.kept (t' := s1.toks) hk
      exact ⟨s1.heap.objs.size + 1, [s1.heap.objs.size + 1, s1.heap.objs.size], _, _, H1, rfl, I2, turn_enumT a (s1.heap.objs.size + 1) s1.heap.objs.size, ⟨⟨.none, he⟩, hit, Nat.succ_ne_self _, Nat.ne_of_lt la, Nat.ne_of_lt (Nat.lt_succ_of_lt la)⟩, fp, q⟩
theorem it_enumT {T : Tab} {G : Hp} {a : Addr} {us : List U} {vs : List V} (h : SqT T.K G a vs) (hr : Reps T G us vs) : ItOk T G (IteT T.K a) (enumU us) := fun G' H' e1 e2 i => by
  have hl := hr.length
  have hs := Evl.ex_t (e1.trans e2) h
  have hlen : (enumU us).length = us.length := by
    unfold enumU
    rw [zipU_len, rangeU_len, Nat.min_self]
  rw [hlen]
  refine ⟨fun q _ => ⟨vs, hs, by omega⟩, fun u hu => ?_⟩
  obtain ⟨x, y, hx, hy, rfl⟩ := zipU_get hu
  obtain ⟨v, hv, rv⟩ := hr.get hy
  have hi : i < us.length := (List.getElem?_eq_some_iff.mp hy).1
  rw [rangeU_get _ _ _ hi] at hx
  cases hx
  refine ⟨⟨vs, v, hs, hv⟩, fun z H'' y => ?_⟩
  obtain ⟨t, p, rfl, hT, rfl, q1⟩ := y
  have e3 := q1 vs hs
  rw [hv] at e3
  cases e3
  refine rep_pair e2 hT ?_ (Rep.mono e1 _ _ rv)
  rw [Int.zero_add]
  exact rep_int.2 rfl
section
variable {X : Cx} {c : Cn} {W : WX} {pos : Pos}
theorem qi_enum {a : Expr} {as : AF} {p tpos : Pos} {elts : List Expr} {kk : Nat} (hm : X.mg "enumerate" = none) (ha : QA X c W [a] as) (hg : Gl X "enumerate" := by rfl) (hs : starEach [a] X.env = [(false, eval a X.env)] := by rfl) :
    QI X c W (.Tuple elts kk tpos) (.Call (.Name "enumerate" p) [a] [] pos) (iEnum as) :=
  PI.weak (pi_enumA hg hm ha hs) fun σ H Rk ⟨G, ρ, r, h⟩ => by
    refine ⟨G, ρ, r, (PQ.bind (rel := relUs (Cx.T X)) h).imp fun x H1 ⟨G1, ρ1, u, e1, r1, l1, h1⟩ => ?_⟩
    split at h1
    · obtain ⟨v, e2, l2⟩ := reps1 l1
      obtain ⟨p1, vs1, rfl, k1, k2⟩ := rep_lst.1 l2
      exact ⟨p1, vs1, e2, .inl ⟨Evl.ex_l r1.ex k1, h1 _ G1 H1 Stp.refl r1 (it_enum k1 k2)⟩⟩
    · obtain ⟨v, e2, l2⟩ := reps1 l1
      obtain ⟨p1, vs1, rfl, k1, k2⟩ := rep_tup.1 l2
      exact ⟨p1, vs1, e2, .inr ⟨Evl.ex_t r1.ex k1, h1 _ G1 H1 Stp.refl r1 (it_enumT k1 k2)⟩⟩
    · exact h1.elim
end
end Q
set_option maxRecDepth 100000
set_option maxHeartbeats 2000000
/-! QZipM: zip of lists and tuples in any mix -/
namespace Q
open PySem PySem.Spec PyProof.Rows L2
open Evl (Ex)
/-- a tuple (true), a list (false) -/
def SqB (t : Bool) (K : PySem.W.Frag) (H : Hp) (a : Addr) (xs : List V) : Prop := match t with
  | true => SqT K H a xs
  | false => SqL K H a xs
def SeqB (t : Bool) (h : Heap) (a : Addr) (xs : Array Value) : Prop := match t with
  | true => h.IsTuple a xs
  | false => h.IsList a xs
def IterB (t : Bool) (h : Heap) (it a : Addr) (i : Nat) : Prop := match t with
  | true => h.IsTupleIter it a i
  | false => h.IsListIter it a i
def itO (t : Bool) (a : Addr) : Obj := match t with
  | true => { cls := .type "tuple_iterator", data := .fields #[.ref a, .int 0 0] }
  | false => { cls := .type "list_iterator", data := .fields #[.ref a, .int 0 0] }
theorem drawsB {prog : Program} {w : World} {A : Around} (hh : A.handled = none) (t : Bool) (it a : Addr) (hne : a ≠ it) (items : Array Value) :
    Draws prog w A it [it, a] items.size (fun i v => items[i]? = some v) (fun i h => IterB t h it a i ∧ SeqB t h a items) := by
  cases t with
  | true => exact Draws.tuple hh it a hne items
  | false => exact Draws.list hh it a hne items
theorem beginsB (t : Bool) (a : Addr) (items : Array Value) : Begins (.ref a) (itO t a) fun h => SeqB t h a items := by
  cases t with
  | true => exact begins_tuple a items
  | false => exact begins_list a items
theorem IterB.obj {t : Bool} {h : Heap} {it a : Addr} {i : Nat} (x : IterB t h it a i) : ∃ o, h.get? it = some o ∧ ∀ v n, o.data ≠ .seq v n ∧ ∃ fs, o.data = .fields fs := by
  cases t with
  | true =>
    obtain ⟨o, ho, hc, hd⟩ := x
    exact ⟨o, ho, fun v n => ⟨fun q => (by rw [hd] at q; cases q), _, hd⟩⟩
  | false =>
    obtain ⟨o, ho, hc, hd⟩ := x
    exact ⟨o, ho, fun v n => ⟨fun q => (by rw [hd] at q; cases q), _, hd⟩⟩
theorem IterB.at {t : Bool} {h h' : Heap} {it a : Addr} {i : Nat} (x : IterB t h it a i) (e : ∀ o, h.get? it = some o → h'.get? it = some o) : IterB t h' it a i := by
  cases t with
  | true => exact Heap.IsTupleIter.at x e
  | false => exact Heap.IsListIter.at x e
theorem iterB_new {t : Bool} {h : Heap} {it a : Addr} (e : h.get? it = some (itO t a)) : IterB t h it a 0 := by
  cases t with
  | true => exact ⟨_, e, rfl, rfl⟩
  | false => exact ⟨_, e, rfl, rfl⟩
theorem sqB_get {X : Cx} {pins : List (Addr × Obj)} {σ : L2.St} {H : Hp} {s : Shared} {t : Bool} {a : Addr} {xs : List V} (I : Inv X pins σ H s) (h : SqB t X.K H a xs) : ∃ its : List Value, Vals xs its ∧ SeqB t s.heap a its.toArray := by
  cases t with
  | true =>
    obtain ⟨its, rv, p, _⟩ := I.tuple h
    exact ⟨its, rv, p⟩
  | false =>
    obtain ⟨its, rv, p, _⟩ := I.list h
    exact ⟨its, rv, p.isList⟩
theorem sqB_inj {X : Cx} {pins : List (Addr × Obj)} {σ : L2.St} {H : Hp} {s : Shared} {t : Bool} {a : Addr} {xs ys : List V} (I : Inv X pins σ H s) (h : SqB t X.K H a xs) (h' : SqB t X.K H a ys) : xs = ys := by
  cases t with
  | true => exact I.tuple_inj h h'
  | false => exact I.list_inj h h'
theorem SeqB.lt {t : Bool} {h : Heap} {a : Addr} {xs : Array Value} (x : SeqB t h a xs) : a < h.objs.size := by
  cases t with
  | true =>
    obtain ⟨o, ho, _⟩ := x
    exact Heap.lt_size ho
  | false =>
    obtain ⟨o, ho, _⟩ := x
    exact Heap.lt_size ho
/-- the sequences at a and b as they stand at each turn, the items in new pairs -/
def ItzB (t u : Bool) (K : PySem.W.Frag) (a b : Addr) : It :=
  ⟨fun i H => ∃ (xs ys : List V) (x y : V), SqB t K H a xs ∧ SqB u K H b ys ∧ xs[i]? = some x ∧ ys[i]? = some y,
    fun i H v H' => ∃ T x y, v = .ref T ∧ H T = none ∧ H' = upd H T (.tup [x, y]) ∧ (∀ xs, SqB t K H a xs → xs[i]? = some x) ∧ ∀ ys, SqB u K H b ys → ys[i]? = some y,
    fun i H => ∃ xs ys : List V, SqB t K H a xs ∧ SqB u K H b ys ∧ i ≤ xs.length ∧ i ≤ ys.length ∧ (i = xs.length ∨ i = ys.length)⟩
/-- how the cells lie apart -/
structure SepB (z TI TO i1 i2 a b : Addr) : Prop where
  s : ZipSep2 z TI TO i1 i2 [i1, a] [i2, b]
  a1 : a ≠ i1
  b2 : b ≠ i2
theorem turn_zipB {P : Program} {w : World} {K : PySem.W.Frag} {elts : List Expr} {kk : Nat} {tpos : Pos} {a b z TI TO i1 i2 : Addr} (t u : Bool) (D : SepB z TI TO i1 i2 a b) :
    Turn P w K (.Tuple elts kk tpos) (ItzB t u K a b) [z, TI, TO, i1, i2] z (fun i h => IsZip h z TI TO .none ∧ IsTupOf2 h TI (.ref i1) (.ref i2) ∧ (∃ x y, IsTupOf2 h TO x y) ∧ IterB t h i1 a i ∧ IterB u h i2 b i) where
  mem := by simp
  obj := fun i h st c hc => by
    obtain ⟨hz, hTI, ⟨x, y, hTO⟩, h1, h2⟩ := st
    have e' : c = z ∨ c = TI ∨ c = TO ∨ c = i1 ∨ c = i2 := by simpa using hc
    rcases e' with q | q | q | q | q
    · rw [q]; exact ⟨_, hz, fun v q => nomatch q⟩
    · rw [q]; exact ⟨_, hTI, fun v q => nomatch q⟩
    · rw [q]; exact ⟨_, hTO, fun v q => nomatch q⟩
    · rw [q]
      obtain ⟨o, ho, hd⟩ := h1.obj
      obtain ⟨_, fs, hf⟩ := hd #[] 0
      exact ⟨o, ho, fun v q => by rw [hf] at q; cases q⟩
    · rw [q]
      obtain ⟨o, ho, hd⟩ := h2.obj
      obtain ⟨_, fs, hf⟩ := hd #[] 0
      exact ⟨o, ho, fun v q => by rw [hf] at q; cases q⟩
  keep := fun i h h' st k => by
    obtain ⟨hz, hTI, ⟨x, y, hTO⟩, h1, h2⟩ := st
    exact ⟨k z (by simp) _ hz, k TI (by simp) _ hTI, ⟨x, y, k TO (by simp) _ hTO⟩, h1.at fun o q => k i1 (by simp) o q, h2.at fun o q => k i2 (by simp) o q⟩
  item := by
    intro X hP hw hK hc i pins s σ H E I hf st hg
    subst hP hw hK
    obtain ⟨hz, hTI, ⟨x0, y0, hTO⟩, h1, h2⟩ := st
    obtain ⟨xs, ys, x, y, hqx, hqy, hx, hy⟩ := hg
    obtain ⟨its, rv, p⟩ := sqB_get I hqx
    obtain ⟨its2, rv2, p2⟩ := sqB_get I hqy
    obtain ⟨v1, hu, ru⟩ := rv.get hx
    obtain ⟨v2, hu2, ru2⟩ := rv2.get hy
    have hzl : z < s.heap.objs.size := Heap.lt_size hz
    have l1 : i < its.toArray.size := by
      have := (List.getElem?_eq_some_iff.mp hu).1
      rwa [List.size_toArray]
    have l2 : i < its2.toArray.size := by
      have := (List.getElem?_eq_some_iff.mp hu2).1
      rwa [List.size_toArray]
    refine wpAny_pyNext_zipD2_item D.s (drawsB (A := X.A.in1) (I.ok.hd hc) t i1 a D.a1 its.toArray) (drawsB (A := X.A.in1) (I.ok.hd hc) u i2 b D.b2 its2.toArray) hz hTI hTO ⟨h1, p⟩ ⟨h2, p2⟩ l1 l2 fun x1 x2 h' tk P1 P2 z' TO' h1' h2' hT hsz hk => ?_
    have q1 : its.toArray[i]? = some x1 := P1
    have q2 : its2.toArray[i]? = some x2 := P2
    rw [List.getElem?_toArray, hu] at q1
    rw [List.getElem?_toArray, hu2] at q2
    cases q1
    cases q2
    refine ⟨_, rfl, wpAny_letOwnedTupleGo_zip (s := { s with heap := h', toks := tk }) z' fun h'' z'' sb => ?_⟩
    have hT2 : h''.get? s.heap.objs.size = some { cls := .type "tuple", data := .seq #[v1, v2] } := (sb.2 _ (Nat.ne_of_gt hzl)).trans hT
    have new : ObjOk X.prog X.w (upd H s.heap.objs.size (.tup [x, y])) h'' s.heap.objs.size (.tup [x, y]) :=
      ⟨by show 2 ≤ sizeLine; decide, [v1, v2], .cons ru (.cons ru2 .nil), ⟨_, hT2, rfl, _, rfl⟩⟩
    have I1 : Inv X pins σ (upd H s.heap.objs.size (.tup [x, y])) { s with heap := h'', toks := tk } :=
      I.turnedNew (t' := tk) (ch := [z, TI, TO, i1, i2]) (fun c o hb q => (sb.2 c (fun q' => hb (by simp [q']))).trans (hk c o (fun q' => hb (by simp [q'])) (fun q' => hb (by simp [q'])) (fun q' => hb (by simp [q'])) (fun q' => hb (by simp [q'])) q)) hf (Nat.le_refl _) new
    refine ⟨.ref s.heap.objs.size, _, I1, rfl, ⟨_, x, y, rfl, I.hok.fresh (Nat.le_refl _), rfl, fun l hl => by rw [sqB_inj I hl hqx]; exact hx, fun l hl => by rw [sqB_inj I hl hqy]; exact hy⟩, ⟨z'', ?_, ⟨v1, v2, ?_⟩, ?_, ?_⟩, fun c hcm => ?_⟩
    · exact (sb.2 _ D.s.TIz).trans (hk _ _ D.s.TIz D.s.TITO D.s.TIi1 D.s.TIi2 hTI)
    · exact (sb.2 _ D.s.TOz).trans TO'
    · exact h1'.1.at fun o q => (sb.2 _ D.s.zi1.symm).trans q
    · exact h2'.1.at fun o q => (sb.2 _ D.s.zi2.symm).trans q
    · have hlt : c < s.heap.objs.size := by
        have e' : c = z ∨ c = TI ∨ c = TO ∨ c = i1 ∨ c = i2 := by simpa using hcm
        rcases e' with q | q | q | q | q
        · rw [q]; exact hzl
        · rw [q]; exact Heap.lt_size hTI
        · rw [q]; exact Heap.lt_size hTO
        · rw [q]; obtain ⟨_, e1, _⟩ := h1.obj; exact Heap.lt_size e1
        · rw [q]; obtain ⟨_, e2, _⟩ := h2.obj; exact Heap.lt_size e2
      rw [upd_ne (Nat.ne_of_lt hlt)]
      exact (hf c hcm).1
  done := by
    intro X hP hw hK hc i pins s σ H E I hf st hg
    subst hP hw hK
    obtain ⟨hz, hTI, ⟨x0, y0, hTO⟩, h1, h2⟩ := st
    obtain ⟨xs, ys, hqx, hqy, n1, n2, hend⟩ := hg
    obtain ⟨its, rv, p⟩ := sqB_get I hqx
    obtain ⟨its2, rv2, p2⟩ := sqB_get I hqy
    have l1 := rv.length
    have l2 := rv2.length
    refine wpAny_pyNext_zipD2_end D.s (drawsB (A := X.A.in1) (I.ok.hd hc) t i1 a D.a1 its.toArray) (drawsB (A := X.A.in1) (I.ok.hd hc) u i2 b D.b2 its2.toArray) hz hTI hTO ⟨h1, p⟩ ⟨h2, p2⟩ (by rw [List.size_toArray]; omega) (by rw [List.size_toArray]; omega) (by rw [List.size_toArray, List.size_toArray]; omega) fun h' tk hk => ⟨rfl, I.turnedL (t' := tk) (ch := [z, TI, TO, i1, i2]) (fun c o hb q =>
      hk c o (fun q' => hb (by simp [q'])) (fun q' => hb (by simp [q'])) (fun q' => hb (by simp [q'])) (fun q' => hb (by simp [q'])) q) hf⟩
  self := fun A i s Q E st h => wpAny_pyIter_zip st.1 h
theorem sepB_new {n : Nat} {a b : Addr} (ha : a < n) (hb : b < n) : SepB (n + 4) (n + 2) (n + 3) n (n + 1) a b := by
  have ne : ∀ {i j : Nat}, i ≠ j → n + i ≠ n + j := fun h e => h (Nat.add_left_cancel e)
  have la : ∀ {i : Nat}, a ≠ n + i := fun {i} => Nat.ne_of_lt (Nat.lt_of_lt_of_le ha (Nat.le_add_right _ _))
  have lb : ∀ {i : Nat}, b ≠ n + i := fun {i} => Nat.ne_of_lt (Nat.lt_of_lt_of_le hb (Nat.le_add_right _ _))
  have la0 : a ≠ n := Nat.ne_of_lt ha
  have lb0 : b ≠ n := Nat.ne_of_lt hb
  have n0 : ∀ {i : Nat}, n + (i + 1) ≠ n := fun {i} e => by omega
  refine ⟨⟨ne (by decide), ne (by decide), ne (by decide), n0, by simp, ?_, ?_, ne (by decide), by simp, ?_, ?_, ?_, ?_⟩, la0, lb⟩
  · simp only [List.mem_cons, List.not_mem_nil, or_false, not_or]
    exact ⟨n0, la.symm⟩
  · simp only [List.mem_cons, List.not_mem_nil, or_false, not_or]
    exact ⟨n0, la.symm⟩
  · simp only [List.mem_cons, List.not_mem_nil, or_false, not_or]
    exact ⟨ne (by decide), lb.symm⟩
  · simp only [List.mem_cons, List.not_mem_nil, or_false, not_or]
    exact ⟨ne (by decide), lb.symm⟩
  · simp only [List.mem_cons, List.not_mem_nil, or_false, not_or]
    exact ⟨Ne.symm n0, lb0.symm⟩
  · simp only [List.mem_cons, List.not_mem_nil, or_false, not_or]
    exact ⟨n0, la.symm⟩
def iZipB (K : PySem.W.Frag) (ta : TA) : TI := fun σ H R => ta σ H fun vs H1 => ∃ a b xs ys t u, vs = [.ref a, .ref b] ∧ SqB t K H1 a xs ∧ SqB u K H1 b ys ∧ R (ItzB t u K a b) H1
theorem pi_zipB {X : Cx} {e e2 : Expr} {ta : TA} {p pos tpos : Pos} {elts : List Expr} {kk : Nat} (hg : Gl X "zip") (hm : X.mg "zip" = none) (ha : PA X [e, e2] ta)
    (hs : starEach [e, e2] X.env = (false, eval e X.env) :: starEach [e2] X.env := by rfl) (hpl : (backTo pos (starEach [e2] X.env)).any (·.1) = false := by rfl) :
    PI X (.Tuple elts kk tpos) (.Call (.Name "zip" p) [e, e2] [] pos) (iZipB X.K ta) := by
  refine ⟨fun pins s σ H R I h => ?_⟩
  refine Call_ (ld_blt I hg hm PyProof.Rows.boot_zip (PyProof.Rows.callWith_type1 (thn (ha.run pos pins s σ H _ I h) fun us s1 ⟨vs, H1, I1, r1, q1⟩ => ?_) hs hpl))
  obtain ⟨a, b, xs, ys, t, u, ex, hqx, hqy, q⟩ := q1
  subst ex
  cases r1 with
  | cons r rr =>
    cases rr with
    | cons r' rr =>
      cases rr
      cases r
      cases r'
      have fresh5 : ∀ c, c ∈ [s1.heap.objs.size + 4, s1.heap.objs.size + 2, s1.heap.objs.size + 3, s1.heap.objs.size, s1.heap.objs.size + 1] → FpOk X pins H1 c := fun c hcm => by
        have e' : c = s1.heap.objs.size + 4 ∨ c = s1.heap.objs.size + 2 ∨ c = s1.heap.objs.size + 3 ∨ c = s1.heap.objs.size ∨ c = s1.heap.objs.size + 1 := by simpa using hcm
        have hle : s1.heap.objs.size ≤ c := by
          rcases e' with z | z | z | z | z
          · rw [z]; exact Nat.le_add_right _ _
          · rw [z]; exact Nat.le_add_right _ _
          · rw [z]; exact Nat.le_add_right _ _
          · rw [z]; exact Nat.le_refl _
          · rw [z]; exact Nat.le_add_right _ _
        exact I1.fpOk hle (I1.hok.fresh hle)
      obtain ⟨its, rv, p1⟩ := sqB_get I1 hqx
      obtain ⟨its2, rv2, p2⟩ := sqB_get I1 hqy
      refine zip_begins2 (beginsB t a its.toArray) (beginsB u b its2.toArray) p1 p2 fun h' hz hTI hTO h1 h2 hsz hk => wpAny_pyIter_zip hz ?_
      have I2 : Inv X pins σ H1 { s1 with heap := h' } := I1.kept (t' := s1.toks) hk
      exact ⟨s1.heap.objs.size + 4, [s1.heap.objs.size + 4, s1.heap.objs.size + 2, s1.heap.objs.size + 3, s1.heap.objs.size, s1.heap.objs.size + 1], _, _, H1, rfl, I2, turn_zipB t u (sepB_new p1.lt p2.lt), ⟨hz, hTI, ⟨_, _, hTO⟩, iterB_new h1, iterB_new h2⟩, fresh5, q⟩
theorem ex_b {t : Bool} {K : PySem.W.Frag} {G H : Hp} {a : Addr} {xs : List V} (e : Ex G H) (h : SqB t K G a xs) : SqB t K H a xs := by
  cases t with
  | true => exact Evl.ex_t e h
  | false => exact Evl.ex_l e h
theorem it_zipB {T : Tab} {G : Hp} {a b : Addr} {t u : Bool} {us ws : List U} {vs xs : List V} (h : SqB t T.K G a vs) (hr : Reps T G us vs) (h' : SqB u T.K G b xs) (hr' : Reps T G ws xs) : ItOk T G (ItzB t u T.K a b) (zipU us ws) := fun G' H' e1 e2 i => by
  have hl := hr.length
  have hl' := hr'.length
  have hs := ex_b (e1.trans e2) h
  have hs' := ex_b (e1.trans e2) h'
  rw [zipU_len]
  refine ⟨fun q q' => ⟨vs, xs, hs, hs', by omega, by omega, by omega⟩, fun u hu => ?_⟩
  obtain ⟨x, y, hx, hy, rfl⟩ := zipU_get hu
  obtain ⟨v, hv, rv⟩ := hr.get hx
  obtain ⟨v', hv', rv'⟩ := hr'.get hy
  refine ⟨⟨vs, xs, v, v', hs, hs', hv, hv'⟩, fun z H'' y => ?_⟩
  obtain ⟨t, p, q, rfl, hT, rfl, q1, q2⟩ := y
  have e3 := q1 vs hs
  have e4 := q2 xs hs'
  rw [hv] at e3
  rw [hv'] at e4
  cases e3
  cases e4
  exact rep_pair e2 hT (Rep.mono e1 _ _ rv) (Rep.mono e1 _ _ rv')
theorem rep_seqB {T : Tab} {G : Hp} {u : U} {v : V} {xs : List U} (h : seqU u = some xs) (r : Rep T G u v) : ∃ t a vs, v = .ref a ∧ SqB t T.K G a vs ∧ Reps T G xs vs := by
  unfold seqU at h
  split at h
  · cases h
    obtain ⟨a, vs, e1, h1, h2⟩ := rep_lst.1 r
    exact ⟨false, a, vs, e1, h1, h2⟩
  · cases h
    obtain ⟨a, vs, e1, h1, h2⟩ := rep_tup.1 r
    exact ⟨true, a, vs, e1, h1, h2⟩
  · cases h
section
variable {X : Cx} {c : Cn} {W : WX} {pos : Pos}
theorem qi_zip2 {a b : Expr} {as : AF} {p tpos : Pos} {elts : List Expr} {kk : Nat} (hm : X.mg "zip" = none) (ha : QA X c W [a, b] as) (hg : Gl X "zip" := by rfl)
    (hs : starEach [a, b] X.env = (false, eval a X.env) :: starEach [b] X.env := by rfl) (hs2 : (backTo pos (starEach [b] X.env)).any (·.1) = false := by rfl) : QI X c W (.Tuple elts kk tpos) (.Call (.Name "zip" p) [a, b] [] pos) (iZip2 as) :=
  PI.weak (pi_zipB hg hm ha hs hs2) fun σ H Rk ⟨G, ρ, r, h⟩ => by
    refine ⟨G, ρ, r, (PQ.bind (rel := relUs (Cx.T X)) h).imp fun x H1 ⟨G1, ρ1, u, e1, r1, l1, h1⟩ => ?_⟩
    split at h1
    · rename_i ua ub
      split at h1
      · rename_i us ws q1 q2
        obtain ⟨v, w, e2, l2, l3⟩ := reps2 l1
        obtain ⟨t, a1, vs1, rfl, k1, k2⟩ := rep_seqB q1 l2
        obtain ⟨t', a2, vs2, rfl, k3, k4⟩ := rep_seqB q2 l3
        exact ⟨a1, a2, vs1, vs2, t, t', e2, ex_b r1.ex k1, ex_b r1.ex k3, h1 _ G1 H1 Stp.refl r1 (it_zipB k1 k2 k3 k4)⟩
      · exact h1.elim
    · exact h1.elim
end
end Q
set_option maxRecDepth 100000
set_option maxHeartbeats 2000000
/-! QSort: sorted -/
namespace Q
open PySem PySem.Spec PyProof.Rows L2
open Evl (Ex)

theorem lexL_eq : ∀ a b : List Int, HT.lexLt a b = lexL a b
  | [], [] => rfl
  | [], _ :: _ => rfl
  | _ :: _, [] => rfl
  | x :: xs, y :: ys => by rw [HT.lexLt_cons, lexL, lexL_eq xs ys]
theorem sorted_uniq {α : Type} {lt : α → α → Bool} (an : ∀ a b, lt a b = false → lt b a = false → a = b) {l m : List α} (h1 : l.Pairwise fun a b => lt b a = false) (h2 : m.Pairwise fun a b => lt b a = false) (p : l.Perm m) : l = m :=
  List.Perm.eq_of_pairwise (le := fun a b => lt b a = false) (fun a b _ _ x y => an a b y x) h1 h2 p
theorem lexL_anti : ∀ a b : List Int, lexL a b = false → lexL b a = false → a = b
  | [], [], _, _ => rfl
  | [], _ :: _, h, _ => by simp [lexL] at h
  | _ :: _, [], _, h => by simp [lexL] at h
  | x :: xs, y :: ys, h1, h2 => by
    rw [lexL] at h1 h2
    by_cases e : x = y
    · rw [if_pos e] at h1
      rw [if_pos e.symm] at h2
      rw [e, lexL_anti xs ys h1 h2]
    · rw [if_neg e] at h1
      rw [if_neg (Ne.symm e)] at h2
      have a := of_decide_eq_false h1
      have b := of_decide_eq_false h2
      omega
/-! ### the model's sort of tuples, the first empty -/
section
variable {prog : Program} {w : World} {A : Around} {E : Value → Shared → Prop} {s : Shared}
theorem mapM_any {M : Model} {α β : Type} {f : α → Sem β} : ∀ (l : List α) {Q : List β → Shared → Prop}, (∀ v ∈ l, ∃ r, ∀ (Q' : β → Shared → Prop), Q' r s → wpAny M A (f v) Q' E s) → (∀ bs, Q bs s) → wpAny M A (l.mapM f) Q E s
  | [], _, _, h => by rw [List.mapM_nil]; exact wpAny_pure (h [])
  | x :: l, Q, hf, h => by
    rw [List.mapM_cons]
    obtain ⟨r, hr⟩ := hf x (.head _)
    exact wpAny_bind (hr _ (wpAny_bind (mapM_any l (Q := fun bs s' => wpAny M A (pure (r :: bs)) Q E s') (fun v hv => hf v (.tail _ hv)) fun bs => wpAny_pure (h _))))
theorem kind_emp {v1 : Value} {rest : List Value} {Q : SortKind → Shared → Prop} (h0 : ∃ a, v1 = .ref a ∧ s.heap.IsTuple a #[]) (hT : ∀ v ∈ v1 :: rest, ∃ a items, v = Value.ref a ∧ s.heap.IsTuple a items) (h : Q oneType' s) :
    wpAny (model prog w) A (keyKind' (v1 :: rest).toArray) Q E s := by
  have ty : ∀ v ∈ v1 :: rest, ∀ (Q' : Value → Shared → Prop), Q' (.type "tuple") s → wpAny (model prog w) A (typeOf v) Q' E s := fun v hv Q' hq => by
    obtain ⟨a, items, rfl, o, ho, hc, n, hd⟩ := hT v hv
    exact wpAny_typeOf (T := "tuple") ⟨o, ho, hc⟩ hq
  have fst : ∀ v a items, v = Value.ref a → s.heap.IsTuple a items → ∀ (Q' : Option Value → Shared → Prop), Q' items[0]? s → wpAny (model prog w) A (firstOfTuple' v) Q' E s := fun v a items e ht Q' hq => by
    subst e
    obtain ⟨o, ho, hc, n, hd⟩ := ht
    rw [PySem.W.kas_first_eq]
    refine wpAny_bind (wpAny_typeOf (T := "tuple") ⟨o, ho, hc⟩ ?_)
    rw [if_neg (by decide)]
    exact wpAny_bind (listItems_at ho hd (wpAny_pure hq))
  rw [keyKind'_eq, List.mapM_toArray, map_eq_pure_bind]
  refine wpAny_bind (wpAny_bind ?_)
  rw [List.mapM_cons]
  obtain ⟨a, e, ht⟩ := h0
  refine wpAny_bind (fst v1 a #[] e ht _ (wpAny_bind (mapM_any rest (fun v hv => ?_) fun bs => wpAny_pure (wpAny_pure ?_))))
  · obtain ⟨a', items, e', ht'⟩ := hT v (.tail _ hv)
    exact ⟨_, fun Q' hq => fst v a' items e' ht' Q' hq⟩
  · rw [if_neg (by simp), if_neg (by simp)]
    rw [oneTypeOnly'_eq, List.mapM_toArray, map_eq_pure_bind]
    refine wpAny_bind (wpAny_bind (wpAny_bind (PySem.W.kas_mapM (r := Value.type "tuple") _ (fun v hv Q' hq => ty v hv Q' hq) (wpAny_pure ?_))))
    have hall : ((List.map (fun _ => Value.type "tuple") (v1 :: rest)).toArray.all fun x => x == Value.type "tuple") = true := by
      simp only [List.all_toArray, List.all_map, List.all_eq_true]
      intro _ _
      rfl
    have h0 : (List.map (fun _ => Value.type "tuple") (v1 :: rest)).toArray[0]? = some (Value.type "tuple") := by simp
    rw [h0]
    simp only [hall, if_true]
    exact wpAny_pure (wpAny_pure h)
/-- a tuple of whole numbers -/
def TupI (h : Heap) (v : Value) (ns : List Int) : Prop := ∃ (a : Addr) (its : List Value), v = .ref a ∧ h.IsTuple a its.toArray ∧ IntsAre its ns
theorem tup_lt {v u : Value} {ns ms : List Int} {Q : Bool → Shared → Prop} (hu : A.units < cLine) (hv : TupI s.heap v ns) (hw : TupI s.heap u ms) (h : Q (lexL ns ms) s) : wpAny (model prog w) A (keyLt' oneType' v u) Q E s := by
  obtain ⟨a, its, rfl, ⟨⟨cls, dd, data, sl⟩, ho, hc, n, hd⟩, hi⟩ := hv
  obtain ⟨b, its2, rfl, ⟨⟨cls2, dd2, data2, sl2⟩, ho2, hc2, n2, hd2⟩, hj⟩ := hw
  simp only at hc hd hc2 hd2
  subst hc hd hc2 hd2
  rw [keyLt'_oneType, oneLt'_eq]
  simp only [if_true]
  refine wpAny_bind (wpAny_cRoomFor hu ?_)
  refine wpAny_bind (wpAny_callSpecialIfBound?_slot (T := "tuple") ⟨_, ho, rfl⟩ PySem.F.slot_tuple_lt (call_meets PySem.F.slot_tuple_lt ⟨_, ho, rfl⟩ PySem.F.entry_tuple_lt (PySem.F.args_tuple_lt_2 _ _) (HT.tuple_lt_ints a b its.toArray its2.toArray n n2 dd dd2 sl sl2 ns ms hi hj) ⟨ho, ho2, ?_⟩))
  rw [lexL_eq]
  exact wpAny_truthy_bool h
theorem tup_sortable {a : Addr} {v1 : Value} {rest : List Value} {k : Value → List Int} (hu : A.units < cLine) (h0 : k v1 = []) (hv : ∀ v ∈ v1 :: rest, TupI s.heap v (k v)) (ha : ∀ v ∈ v1 :: rest, v ≠ .ref a) :
    SrtO.SortableO prog w A s a (v1 :: rest) fun v u => lexL (k v) (k u) := by
  intro h' keep
  have hv' : ∀ v ∈ v1 :: rest, TupI h' v (k v) := fun v hm => by
    obtain ⟨b, its, e, ht, hi⟩ := hv v hm
    exact ⟨b, its, e, ht.at fun o q => keep b o (fun z => ha v hm (by rw [e, z])) q, hi⟩
  refine ⟨oneType', fun Q E hq => ?_, fun p q hp hq => tup_lt (Q := fun r s' => s' = { s with heap := h' } ∧ r = lexL (k p.1) (k q.1)) (E := fun _ _ => False) (s := { s with heap := h' }) hu (hv' p.1 hp) (hv' q.1 hq) ⟨rfl, rfl⟩⟩
  refine kind_emp (s := { s with heap := h' }) ?_ (fun v hm => ?_) hq
  · obtain ⟨b, its, e, ht, hi⟩ := hv' v1 (.head _)
    rw [h0] at hi
    cases hi
    exact ⟨b, e, ht⟩
  · obtain ⟨b, its, e, ht, hi⟩ := hv' v hm
    exact ⟨b, _, e, ht⟩
end
theorem swo_lexL (k : Value → List Int) : SrtO.Swo (fun v u : Value => lexL (k v) (k u)) := by
  have e : (fun v u : Value => lexL (k v) (k u)) = fun v u => HT.lexLt (k v) (k u) := by
    funext v u
    rw [lexL_eq]
  rw [e]
  exact NtL.swo_lexL k
/-- sorted(xs): tuples of ints, the first empty -/
def rSortedT (K : PySem.W.Frag) : List V → Hp → VK → Prop := fun vs H Q => ∃ (a t0 : Addr) (ts : List Addr) (k : Addr → List Int), vs = [V.ref a] ∧ SqL K H a ((t0 :: ts).map V.ref) ∧ (∀ t ∈ t0 :: ts, SqT K H t ((k t).map V.int)) ∧ k t0 = [] ∧
  ∀ (ts' : List Addr) (p : Addr), ts'.Perm (t0 :: ts) → ts'.Pairwise (fun p q => lexL (k q) (k p) = false) → H p = none → Q (.ref p) (upd H p (.lst (ts'.map V.ref)))
section
variable {X : Cx}
theorem cr_sortedT {j : Nat} (hr : Room j X.A) : CallR X (.builtin "sorted") (rSortedT X.K) := by
  intro pins s σ H vs us Q I r h
  obtain ⟨a, t0, ts, k, rfl, hs, hk, h0, q⟩ := h
  obtain ⟨its, rv, hl, hz⟩ := I.list hs
  rw [Vals.ref1 r]
  have ei := nts_of rv
  have hv : ∀ u ∈ its, TupI s.heap u (k (adO u)) := fun u hm => by
    rw [ei] at hm
    obtain ⟨t, ht, rfl⟩ := List.mem_map.mp hm
    obtain ⟨its', rv', p, _⟩ := I.tuple (hk t ht)
    exact ⟨t, its', rfl, (show s.heap.IsTuple t its'.toArray from p), rv'.ints⟩
  rw [List.map_cons] at ei
  cases its with
  | nil => cases ei
  | cons v1 rest =>
    obtain ⟨e1, e2⟩ := List.cons.inj ei
    have hk1 : k (adO v1) = [] := by
      rw [e1]
      exact h0
    refine SrtO.sorted_ord (swo_lexL fun u => k (adO u)) hl.isList (by rw [← rv.length]; exact hz) (fun h2 h₁ a' ha kk => tup_sortable (k := fun u => k (adO u)) (by have hru := hr.un; show X.A.units + 1 + 1 < cLine; omega) hk1 (fun v hm => ?_) fun v hm e => ?_) fun out h1 h2 => ?_
    · obtain ⟨b, its', e, ht, hi⟩ := hv v hm
      exact ⟨b, its', e, ht.at fun o q => (kk b o q).2, hi⟩
    · obtain ⟨b, its', e', ⟨o, ho, _⟩, hi⟩ := hv v hm
      rw [e'] at e
      exact (kk b o ho).1 (Value.ref.inj e)
    · obtain ⟨ep, he'⟩ := PyProof.Rows.sortedAll_at s.heap (v1 :: rest) out.toArray
      have eall : v1 :: rest = (t0 :: ts).map Value.ref := by rw [List.map_cons, e1, e2]
      have eo : out = (out.map adO).map Value.ref := ref_map fun u hm => by
        have hm' : u ∈ v1 :: rest := h2.perm.mem_iff.mp hm
        rw [eall] at hm'
        obtain ⟨t, _, e⟩ := List.mem_map.mp hm'
        exact ⟨t, e.symm⟩
      have hp : (out.map adO).Perm (t0 :: ts) := by
        have p1 := h2.perm.map adO
        rw [eall, ad_map] at p1
        exact p1
      have hsr : (out.map adO).Pairwise (fun p q => lexL (k q) (k p) = false) := List.pairwise_map.mpr (h1.imp fun {x y} z => z)
      have hlen : ((out.map adO).map V.ref).length ≤ sizeLine := by
        rw [List.length_map, hp.length_eq]
        rw [List.length_map] at hz
        exact hz
      have rvo : Vals ((out.map adO).map V.ref) out := by
        have z := of_nts (out.map adO)
        rw [← eo] at z
        exact z
      exact ⟨.ref _, upd H (s.heap.objs.size + 1) (.lst ((out.map adO).map V.ref)), I.laid (t' := s.toks) (fun _ _ => PyProof.Rows.sortedAll_old) (Nat.le_succ _) ⟨hlen, out, ep, rvo, he'⟩, rfl, q _ _ hp hsr (I.hok.fresh (Nat.le_succ _))⟩
/-! ### the rule -/
theorem intsOf_eq : ∀ {us : List U} {ns : List Int}, intsOf us = some ns → us = ns.map .int
  | [], ns, h => by
    cases h
    rfl
  | u :: us, ns, h => by
    cases u with
    | int i =>
      rw [intsOf] at h
      cases q : intsOf us with
      | none =>
        rw [q] at h
        cases h
      | some ms =>
        rw [q] at h
        cases h
        rw [intsOf_eq q]
        rfl
    | _ => cases h
theorem keysOf_eq : ∀ {us : List U} {ks : List (List Int)}, keysOf us = some ks → us = ks.map fun l => .tup (l.map .int)
  | [], ns, h => by
    cases h
    rfl
  | u :: us, ks, h => by
    cases u with
    | tup xs =>
      rw [keysOf] at h
      cases q1 : intsOf xs with
      | none =>
        rw [q1] at h
        cases h
      | some ns =>
        rw [q1] at h
        cases q : keysOf us with
        | none =>
          rw [q] at h
          cases h
        | some ms =>
          rw [q] at h
          cases h
          rw [keysOf_eq q, intsOf_eq q1]
          rfl
    | _ => cases h
/-- the tuples' addresses -/
theorem reps_keys {T : Tab} {G : Hp} : ∀ {ks : List (List Int)} {vs : List V}, Reps T G (ks.map fun l => U.tup (l.map .int)) vs → ∃ ts : List Addr, vs = ts.map V.ref ∧ ts.length = ks.length ∧ ∀ (j : Nat) (t : Addr), ts[j]? = some t → ∃ l : List Int, ks[j]? = some l ∧ SqT T.K G t (l.map V.int)
  | [], vs, h => ⟨[], reps_nil.1 h, rfl, fun j t e => by simp at e⟩
  | l :: ks, vs, h => by
    obtain ⟨v, r, rfl, h1, h2⟩ := reps_cons.1 h
    obtain ⟨ts, rfl, e2, e3⟩ := reps_keys h2
    obtain ⟨a, ws, rfl, f1, f2⟩ := rep_tup.1 h1
    rw [reps_ints' f2] at f1
    refine ⟨a :: ts, rfl, by rw [List.length_cons, List.length_cons, e2], fun j t e => ?_⟩
    cases j with
    | zero =>
      simp at e
      subst e
      exact ⟨l, rfl, f1⟩
    | succ j => exact e3 j t (by simpa using e)
theorem reps_sorted {T : Tab} {G : Hp} {k : Addr → List Int} : ∀ {ts : List Addr}, (∀ t ∈ ts, SqT T.K G t ((k t).map V.int)) → Reps T G ((ts.map k).map fun l => U.tup (l.map .int)) (ts.map V.ref)
  | [], _ => .nil
  | t :: ts, h => .cons (rep_tup.2 ⟨t, _, rfl, h t (.head _), reps_ints⟩) (reps_sorted fun t' m => h t' (.tail _ m))
theorem sqT_keys {K : PySem.W.Frag} {H : Hp} {t : Addr} {l m : List Int} {pins : List (Addr × Obj)} {σ : L2.St} {s : Shared} {X : Cx} (I : Inv X pins σ H s) (h1 : SqT X.K H t (l.map V.int)) (h2 : SqT X.K H t (m.map V.int)) : l = m := by
  have e := I.tuple_inj h1 h2
  exact List.map_inj_right (fun a b e => V.int.inj e) |>.mp e
theorem c_sortedI {j : Nat} (hr : Room j X.A) : CallR X (.builtin "sorted") (rc nuN (Cx.T X) bSorted) := by
  classical
  intro pins s σ H xs us Q I r ⟨G, ws, z, e, rp, hz, q⟩
  unfold bSorted at hz
  split at hz
  · rename_i ys
    obtain ⟨v, rfl, r1⟩ := reps1 rp
    obtain ⟨a, vs, rfl, h1, h2⟩ := rep_lst.1 r1
    split at hz
    · rename_i ns hn
      cases hz
      rw [intsOf_eq hn] at h2
      rw [reps_ints' h2] at h1
      refine cr_sortedI pins s σ H _ us Q I r ⟨a, ns, rfl, Evl.ex_l e h1, fun ns' p hp hs hf => ?_⟩
      have en : ns' = sortI ns := by
        refine sorted_uniq (lt := fun a b => decide (a < b)) (fun a b x y => ?_) (hs.imp fun {a b} h => decide_eq_false (by omega)) (sortB_sorted (fun a b h => ?_) (fun a b c x y => ?_) ns) (hp.trans (sortB_perm _ ns).symm)
        · have := of_decide_eq_false x
          have := of_decide_eq_false y
          omega
        · have := of_decide_eq_true h
          exact decide_eq_false (by omega)
        · have := of_decide_eq_false x
          have := of_decide_eq_false y
          exact decide_eq_false (by omega)
      rw [en]
      exact q p _ hf reps_ints
    · split at hz
      · rename_i ks hk
        cases hz
        rw [keysOf_eq hk] at h2
        obtain ⟨ts, rfl, hl, ht⟩ := reps_keys h2
        cases ts with
        | nil => simp at hl
        | cons t0 ts =>
          let k : Addr → List Int := fun t => if h : ∃ l : List Int, SqT X.K H t (l.map V.int) then h.choose else []
          have kk : ∀ t l, SqT X.K H t (l.map V.int) → k t = l := fun t l hs => by
            have hx : ∃ l : List Int, SqT X.K H t (l.map V.int) := ⟨l, hs⟩
            have e1 : k t = hx.choose := dif_pos hx
            rw [e1]
            exact sqT_keys (K := X.K) I hx.choose_spec hs
          have ht' : ∀ (j : Nat) (t : Addr), (t0 :: ts)[j]? = some t → ∃ l, ([] :: ks)[j]? = some l ∧ SqT X.K G t (l.map V.int) ∧ k t = l := fun j t et => by
            obtain ⟨l, e1, e2⟩ := ht j t et
            exact ⟨l, e1, e2, kk t l (Evl.ex_t e e2)⟩
          have em : (t0 :: ts).map k = [] :: ks := by
            apply List.ext_getElem?
            intro i
            rw [List.getElem?_map]
            cases ei : (t0 :: ts)[i]? with
            | none =>
              have hi := List.getElem?_eq_none_iff.mp ei
              rw [hl] at hi
              rw [List.getElem?_eq_none hi]
              rfl
            | some t =>
              obtain ⟨l, e1, _, e3⟩ := ht' i t ei
              rw [e1, ← e3]
              rfl
          have hG : ∀ t ∈ t0 :: ts, SqT X.K G t ((k t).map V.int) := fun t hm => by
            obtain ⟨j, hj⟩ := List.mem_iff_getElem?.mp hm
            obtain ⟨l, e1, e2, e3⟩ := ht' j t hj
            rw [e3]
            exact e2
          refine cr_sortedT hr pins s σ H _ us Q I r ⟨a, t0, ts, k, rfl, Evl.ex_l e h1, fun t hm => Evl.ex_t e (hG t hm), ?_, fun ts' p hp hs hf => ?_⟩
          · rw [List.map_cons] at em
            exact (List.cons.inj em).1
          · have en : ts'.map k = sortB lexL ([] :: ks) := by
              refine sorted_uniq (lt := lexL) lexL_anti (List.pairwise_map.mpr hs) (sortB_sorted (fun a b h => ?_) (fun a b c x y => ?_) _) ((hp.map k).trans ?_)
              · rw [← lexL_eq] at h ⊢
                exact NtL.lex_asym _ _ h
              · rw [← lexL_eq] at x y ⊢
                exact NtL.lex_tr _ _ _ x y
              · rw [em]
                exact (sortB_perm _ _).symm
            have rp' := reps_sorted (T := Cx.T X) (G := G) (k := k) (ts := ts') fun t hm => hG t (hp.mem_iff.mp hm)
            rw [en] at rp'
            exact q p _ hf rp'
      · cases hz
  · cases hz
end
end Q
set_option maxRecDepth 100000
/-! QAll: all rules; the built-ins' names -/
namespace Q
open PySem PySem.Spec PyProof.Rows L2
theorem bo_len : bootBuiltins "len" = some (.builtin "len") := by decide +kernel
theorem bo_isinstance : bootBuiltins "isinstance" = some (.builtin "isinstance") := by decide +kernel
theorem bo_all : bootBuiltins "all" = some (.builtin "all") := by decide +kernel
theorem bo_any : bootBuiltins "any" = some (.builtin "any") := by decide +kernel
theorem bo_sum : bootBuiltins "sum" = some (.builtin "sum") := by decide +kernel
theorem bo_max : bootBuiltins "max" = some (.builtin "max") := by decide +kernel
theorem bo_min : bootBuiltins "min" = some (.builtin "min") := by decide +kernel
theorem bo_sorted : bootBuiltins "sorted" = some (.builtin "sorted") := by decide +kernel
theorem bo_int : bootBuiltins "int" = some (.type "int") := by decide +kernel
theorem bo_bool : bootBuiltins "bool" = some (.type "bool") := by decide +kernel
theorem bo_str : bootBuiltins "str" = some (.type "str") := by decide +kernel
theorem bo_list : bootBuiltins "list" = some (.type "list") := by decide +kernel
theorem bo_tuple : bootBuiltins "tuple" = some (.type "tuple") := by decide +kernel
end Q
set_option maxRecDepth 100000
/-! QEndW: the facts of the top; the law's end -/
namespace Q
open PySem PySem.Spec PyProof.Rows L2
section
variable {K : PySem.W.Frag} {h : Heap} {mg : Str → Option Value}
theorem mod_f {x : Str} {st : Stmt} {f : Addr} {oc : Value} {od an : Option Addr} {osl : Array (Option Value)} {kV doc pm cdv ct : Value} (X : K.In h) (G : h.Ns mainGlobals mg) (a : PySem.W.nsIn K mainGlobals x = some (some (.ref f)))
    (l : K.lookup f = some ⟨oc, od, .func (PySem.W.fnOf x x (defArgs st) (defBody st) (defScope st) .none kV doc pm an cdv ct), osl⟩) (c : PySem.W.codeIn K cdv x = true) (k : PySem.W.keepIn K (.ref f) = true) :
    ∃ (f : Addr) (fd : FuncData), mg x = some (.ref f) ∧ Fun K x x st f fd := ⟨f, _, PySem.W.mg_of X G a, fun_mk l c k⟩
theorem mod_i {x : Str} {i : Int} {t : Tok} (X : K.In h) (G : h.Ns mainGlobals mg) (a : PySem.W.nsIn K mainGlobals x = some (some (.int i t))) : ∃ t, mg x = some (.int i t) := ⟨t, PySem.W.mg_of X G a⟩
theorem mod_n {x : Str} (X : K.In h) (G : h.Ns mainGlobals mg) (a : PySem.W.nsIn K mainGlobals x = some none) : mg x = none := PySem.W.mg_none_of X G a
theorem mod_x {x : Str} {C : Addr} (X : K.In h) (G : h.Ns mainGlobals mg) (a : PySem.W.nsIn K mainGlobals x = some (some (.ref C))) (k : PySem.W.keepIn K (.ref C) = true)
    (q : PySem.W.excIn K C [.type "ValueError", .type "Exception", .type "BaseException", .type "object"] "ValueError.__new__" = true) (s : PySem.W.subIn K (.ref C) (.type "BaseException") = some true) (t : PySem.W.typeIn K (.ref C) = some (.type "type")) : XCls K mg x :=
  ⟨C, _, _, _, _, PySem.W.mg_of X G a, k, PySem.F.excBase_ValueError, q, s, t⟩
end
/-- what is asked of the law's own function, in plain words -/
def Keeps (φ : List U → FR) : Prop := ∀ ns : List Int, ns.length ≤ 63 → ∃ d, φ [.lst (ns.map .int)] = .ok (.bl true) d
/-- the law's promise -/
def spLaw (K : PySem.W.Frag) : Sp := fun vs H Q E => ∃ (a : Addr) (ns : List Int), vs = [.ref a] ∧ SqL K H a (ns.map V.int) ∧ ns.length ≤ 63 ∧ ∀ H', Q (.bl true) H'
theorem spQ_law {K : PySem.W.Frag} {mg : Str → Option Value} {φ : List U → FR} (hk : Keeps φ) (vs : List V) (H : Hp) (Q : VK) (E : XK) (h : spLaw K vs H Q E) : spQ ⟨K, mg⟩ false false 1 φ vs H Q E := by
  obtain ⟨a, ns, rfl, hs, hl, q⟩ := h
  obtain ⟨d, e⟩ := hk ns hl
  refine ⟨rfl, H, [.lst (ns.map .int)], Evl.Ex.refl _, Reps.cons (rep_lst.2 ⟨a, _, rfl, hs, reps_ints⟩) .nil, ?_⟩
  rw [e]
  intro v G' H' _ _ r
  have r' : v = .bl true := rep_bl.1 (show Rep ⟨K, mg⟩ G' (.bl true) v from r)
  subst r'
  exact q H'
theorem law_F {P : Program} {w : World} {K : PySem.W.Frag} {mg : Str → Option Value} {fa : Addr} {x : Str} {st : Stmt} {N : List Str} {mu : List Nat} {b : SF} {k : Nat} (hfa : mg x = some (.ref fa)) (M : ∃ (f : Addr) (fd : FuncData), mg x = some (.ref f) ∧ Fun K x x st f fd) (S : FnScope N ["script"] (defScope st))
    (bt : ∀ (kV doc pm : Value) (an : Option Addr) (cdv ct : Value) (s : Shared) (u : Value), BindsTo s (PySem.W.fnOf x x (defArgs st) (defBody st) (defScope st) .none kV doc pm an cdv ct) ⟨[u], []⟩ [("script", u)])
    (hm : muOk false 1 mu = true) (hk : Keeps (fnOf false false N.length 1 b))
    (hb : ∀ (base : Heap) (f : Addr) (cdv : Value) (A : Around) (outer : List Env) (s : Shared) (H : Hp) (E : XK) (G : Hp) (a : Addr), Room k (A.deeper (envOfC x (defScope st) s.heap.objs.size f cdv)) →
      QSs (cxOf (L2.CX P w) P w K mg base N x (defScope st) f cdv A outer s H E) ⟨mu, G, H, daF false a, false⟩ (fun cls d _ H => E cls d H) false (defBody st) b) :
    ∃ fd : FuncData, (∀ (s : Shared) (u : Value), BindsTo s fd ⟨[u], []⟩ [("script", u)]) ∧ ∀ base : Heap, K.In base → base.Ns mainGlobals mg → FnOk P w K mg base (L2.CX P w) (k + 1) fa fd ["script"] (spLaw K) := by
  obtain ⟨f, fd, h, F⟩ := M
  cases hfa.symm.trans h
  refine ⟨fd, fun s u => ?_, fun base _ _ => (fnok_of (io := false) (fr := false) (N := N) (ps := ["script"]) F S hm (hb base fa)).imp fun vs H Q E h => spQ_law hk vs H Q E h⟩
  obtain ⟨oc, od, kV, doc, pm, an, cdv, ct, osl, rfl, lk, hcd⟩ := F.ex
  exact bt kV doc pm an cdv ct s u
theorem law_walk {l : PySem.W.OpenLaw} {k : Nat} {q : Program} {loose : List Str} {XP : (Str → Option Value) → Heap → Prop} {YP : World → Heap → Prop} {d : DefRec} {K : Params → PySem.W.Frag} (hn : l.most = some 63) (hdf : d.params.defaults = []) (hr : Room k callerA)
    (hY : ∀ (w : World) (h : Heap), YP w h → (K w.params).In h)
    (F : ∀ (w : World) (mg : Str → Option Value) (fa : Addr) (h : Heap), (K w.params).In h → h.Ns mainGlobals mg → mg d.name = some (.ref fa) →
      ∃ fd : FuncData, (∀ (s : Shared) (u : Value), BindsTo s fd ⟨[u], []⟩ [("script", u)]) ∧ ∀ base : Heap, (K w.params).In base → base.Ns mainGlobals mg → FnOk l.prog w (K w.params) mg base (L2.CX l.prog w) k fa fd ["script"] (spLaw (K w.params))) :
    PySem.W.WalkO q loose XP YP l.row.toRowW d [] (fun f vs => PySem.call f vs) :=
  L2.walk_of (n := 63) (k := k) (x := "script") (CX := fun w => L2.CX l.prog w) (sp := fun w => spLaw (K w.params)) hn (by decide) hdf hr hY F (fun _ _ a ns hl _ hS => ⟨a, ns, rfl, hS, hl, fun _ => rfl⟩) fun w H s e s' h => by
    obtain ⟨_, _, _, _, _, _, _, _, _, _, _, _, z⟩ := h
    exact z
end Q
/-! MBase: tools to compute with the pure functions -/
namespace Q
open PySem (Str)
abbrev inU (xs : List Int) : List U := xs.map U.int
/-! ### the combinators, unfolded -/
section
variable {ρ : Sl} {α β : Type}
@[simp] theorem bind_ok (a : α) (ρ : Sl) (k : α → Sl → Rs β) : (Rs.ok a ρ).bind k = k a ρ := (rfl)
@[simp] theorem bind_exc (C : Str) (ρ : Sl) (k : α → Sl → Rs β) : (Rs.exc C ρ).bind k = .exc C ρ := (rfl)
@[simp] theorem bind_stuck (k : α → Sl → Rs β) : (Rs.stuck).bind k = .stuck := (rfl)
@[simp] theorem rs_some (a : α) (ρ : Sl) : rs (some a) ρ = .ok a ρ := (rfl)
@[simp] theorem rs_none (ρ : Sl) : rs (none : Option α) ρ = .stuck := (rfl)
def nthS : Sl → Nat → Option U
  | [], _ => none
  | o :: _, 0 => o
  | _ :: r, n + 1 => nthS r n
@[simp] theorem nthS_0 (o : Option U) (r : Sl) : nthS (o :: r) 0 = o := (rfl)
@[simp] theorem nthS_s (o : Option U) (r : Sl) (n : Nat) : nthS (o :: r) (n + 1) = nthS r n := (rfl)
theorem nthS_some : ∀ {ρ : Sl} {i : Nat} {u : U}, nthS ρ i = some u → ρ[i]? = some (some u)
  | [], _, _, h => by cases h
  | o :: r, 0, u, h => by
    rw [nthS_0] at h
    rw [h]
    rfl
  | o :: r, n + 1, u, h => by
    rw [List.getElem?_cons_succ]
    exact nthS_some (by simpa using h)
theorem nthS_none : ∀ {ρ : Sl} {i : Nat}, nthS ρ i = none → ρ[i]? = none ∨ ρ[i]? = some none
  | [], _, _ => .inl rfl
  | o :: r, 0, h => by
    rw [nthS_0] at h
    rw [h]
    exact .inr rfl
  | o :: r, n + 1, h => by
    rw [List.getElem?_cons_succ]
    exact nthS_none (by simpa using h)
def vS (o : Option U) (ρ : Sl) : Rs U := match o with
  | some u => .ok u ρ
  | none => .stuck
@[simp] theorem vS_s (u : U) : vS (some u) ρ = .ok u ρ := (rfl)
@[simp] theorem eV_d (i : Nat) : eV i ρ = vS (nthS ρ i) ρ := by
  unfold eV vS
  cases h : nthS ρ i with
  | some u => rw [nthS_some h]
  | none => rcases nthS_none h with e | e <;> rw [e]
@[simp] theorem eC_d (u : U) : eC u ρ = .ok u ρ := (rfl)
@[simp] theorem e1_d (op : U → Option U) (a : EF) : e1 op a ρ = (a ρ).bind fun x ρ1 => rs (op x) ρ1 := (rfl)
@[simp] theorem e2_d (op : U → U → Option U) (a b : EF) : e2 op a b ρ = (a ρ).bind fun x ρ1 => (b ρ1).bind fun y ρ2 => rs (op x y) ρ2 := (rfl)
def bAnd (x : U) (ρ : Sl) (k : Sl → Rs U) : Rs U := match x with
  | .bl true => k ρ
  | .bl false => .ok (.bl false) ρ
  | _ => .stuck
def bOr (x : U) (ρ : Sl) (k : Sl → Rs U) : Rs U := match x with
  | .bl true => .ok (.bl true) ρ
  | .bl false => k ρ
  | _ => .stuck
@[simp] theorem bAnd_b (b : Bool) (k : Sl → Rs U) : bAnd (.bl b) ρ k = if b then k ρ else .ok (.bl false) ρ := by cases b <;> rfl
@[simp] theorem bOr_b (b : Bool) (k : Sl → Rs U) : bOr (.bl b) ρ k = if b then .ok (.bl true) ρ else k ρ := by cases b <;> rfl
@[simp] theorem eAnd_d (a b : EF) : eAnd a b ρ = (a ρ).bind fun x ρ1 => bAnd x ρ1 b := (rfl)
@[simp] theorem eOr_d (a b : EF) : eOr a b ρ = (a ρ).bind fun x ρ1 => bOr x ρ1 b := (rfl)
@[simp] theorem eChain_d (op op' : U → U → Option U) (a b c : EF) : eChain op op' a b c ρ = (a ρ).bind fun x ρ1 => (b ρ1).bind fun y ρ2 => (rs (op x y) ρ2).bind fun v ρ3 => bAnd v ρ3 fun ρ4 => (c ρ4).bind fun z ρ5 => rs (op' y z) ρ5 := by
  unfold eChain
  cases a ρ with
  | ok x ρ1 =>
    show ((b ρ1).bind _) = _
    cases hb : b ρ1 with
    | ok y ρ2 =>
      simp only [bind_ok, hb]
      cases op x y with
      | none => rfl
      | some v =>
        cases v with
        | bl w => cases w <;> rfl
        | _ => rfl
    | exc C ρ2 => simp only [bind_ok, hb, bind_exc]
    | stuck => simp only [bind_ok, hb, bind_stuck]
  | exc C ρ1 => rfl
  | stuck => rfl
@[simp] theorem iteA (p : Prop) [Decidable p] (c : Bool) : (if p then Rs.ok (U.bl c) ρ else .ok (.bl false) ρ) = .ok (.bl (decide p && c)) ρ := by split <;> simp_all
@[simp] theorem iteO (p : Prop) [Decidable p] (c : Bool) : (if p then Rs.ok (U.bl true) ρ else .ok (.bl c) ρ) = .ok (.bl (decide p || c)) ρ := by split <;> simp_all
@[simp] theorem iteAB (p : Prop) [Decidable p] (c : Bool) : (if p then Rs.ok c ρ else .ok false ρ) = .ok (decide p && c) ρ := by split <;> simp_all
@[simp] theorem iteOB (p : Prop) [Decidable p] (c : Bool) : (if p then Rs.ok true ρ else .ok c ρ) = .ok (decide p || c) ρ := by split <;> simp_all
@[simp] theorem eNot_d (a : EF) : eNot a ρ = (a ρ).bind fun x ρ1 => match x with
  | .bl b => .ok (.bl !b) ρ1
  | _ => .stuck := (rfl)
@[simp] theorem tB_d (a : EF) : tB a ρ = (a ρ).bind fun x ρ1 => match x with
  | .bl b => .ok b ρ1
  | _ => .stuck := (rfl)
@[simp] theorem tAnd_d (a b : BF) : tAnd a b ρ = (a ρ).bind fun x ρ1 => if x then b ρ1 else .ok false ρ1 := (rfl)
@[simp] theorem tOr_d (a b : BF) : tOr a b ρ = (a ρ).bind fun x ρ1 => if x then .ok true ρ1 else b ρ1 := (rfl)
@[simp] theorem tNot_d (a : BF) : tNot a ρ = (a ρ).bind fun x ρ1 => .ok (!x) ρ1 := (rfl)
@[simp] theorem tTrue_d : tTrue ρ = .ok true ρ := (rfl)
@[simp] theorem eIf_d (t : BF) (a b : EF) : eIf t a b ρ = (t ρ).bind fun x ρ1 => if x then a ρ1 else b ρ1 := (rfl)
@[simp] theorem aNil_d : aNil ρ = .ok [] ρ := (rfl)
@[simp] theorem aCons_d (a : EF) (r : AF) : aCons a r ρ = (a ρ).bind fun x ρ1 => (r ρ1).bind fun xs ρ2 => .ok (x :: xs) ρ2 := (rfl)
@[simp] theorem eTup_d (as : AF) : eTup as ρ = (as ρ).bind fun xs ρ1 => if xs.length ≤ 100000 then .ok (.tup xs) ρ1 else .stuck := (rfl)
@[simp] theorem eLst_d (as : AF) : eLst as ρ = (as ρ).bind fun xs ρ1 => if xs.length ≤ 100000 then .ok (.lst xs) ρ1 else .stuck := (rfl)
@[simp] theorem eB_d (op : List U → Option U) (as : AF) : eB op as ρ = (as ρ).bind fun xs ρ1 => rs (op xs) ρ1 := (rfl)
def cRes (r : FR) (ρ : Sl) : Rs U := match r with
  | .ok u _ => .ok u ρ
  | .exc C _ => .exc C ρ
  | .stuck => .stuck
@[simp] theorem cRes_ok (u d : U) : cRes (.ok u d) ρ = .ok u ρ := (rfl)
@[simp] theorem cRes_exc (C : Str) (d : U) : cRes (.exc C d) ρ = .exc C ρ := (rfl)
@[simp] theorem eCall_d (φ : List U → FR) (as : AF) : eCall φ as ρ = (as ρ).bind fun xs ρ1 => cRes (φ xs) ρ1 := (rfl)
@[simp] theorem oNo_d : oNo ρ = .ok none ρ := (rfl)
@[simp] theorem oSome_d (e : EF) : oSome e ρ = (e ρ).bind fun x ρ1 => match x with
  | .int i => .ok (some i) ρ1
  | _ => .stuck := (rfl)
@[simp] theorem eSl_d (a : EF) (lo hi : OF) : eSl a lo hi ρ = (a ρ).bind fun x ρ1 => (lo ρ1).bind fun l ρ2 => (hi ρ2).bind fun h ρ3 => rs (uSl x l h) ρ3 := (rfl)
@[simp] theorem eBorrow_d (e : EF) : eBorrow e ρ = (match e ρ with
  | .ok u _ => if scalU u then .ok u ρ else .stuck
  | _ => .stuck) := (rfl)
@[simp] theorem eBorrowF_d (e : EF) : eBorrowF e ρ = (match e ρ with
  | .ok (.lst us) _ => if us.all scalU then .ok (.lst us) ρ else .stuck
  | _ => .stuck) := (rfl)
@[simp] theorem gN_d (i : Nat) (u : U) : gN i u ρ = some (ρ.set i (some u)) := (rfl)
@[simp] theorem gsNil_d : gsNil [] ρ = some ρ := (rfl)
@[simp] theorem gsCons_d (g : TgF) (gs : TgsF) (u : U) (r : List U) : gsCons g gs (u :: r) ρ = (match g u ρ with
  | some ρ1 => gs r ρ1
  | none => none) := (rfl)
@[simp] theorem gT_d (gs : TgsF) (us : List U) : gT gs (.tup us) ρ = gs us ρ := (rfl)
@[simp] theorem gNs_nil : gNs [] = gsNil := (rfl)
@[simp] theorem gNs_cons (i : Nat) (is : List Nat) : gNs (i :: is) = gsCons (gN i) (gNs is) := (rfl)
@[simp] theorem of_ok (a : α) (k : α → Sl → Fl) : Fl.of (.ok a ρ) k = k a ρ := (rfl)
@[simp] theorem of_exc (C : Str) (k : α → Sl → Fl) : Fl.of (.exc C ρ) k = .exc C ρ := (rfl)
@[simp] theorem of_stuck (k : α → Sl → Fl) : Fl.of (.stuck) k = .stuck := (rfl)
@[simp] theorem of_ite (c : Prop) [Decidable c] (a b : Rs α) (k : α → Sl → Fl) : Fl.of (if c then a else b) k = if c then Fl.of a k else Fl.of b k := by split <;> rfl
@[simp] theorem bind_ite (c : Prop) [Decidable c] (a b : Rs α) (k : α → Sl → Rs β) : (if c then a else b).bind k = if c then a.bind k else b.bind k := by split <;> rfl
@[simp] theorem sNil_d : sNil ρ = .next ρ := (rfl)
def thn (f : Fl) (b : SF) : Fl := match f with
  | .next ρ1 => b ρ1
  | f => f
@[simp] theorem thn_next (b : SF) : thn (.next ρ) b = b ρ := (rfl)
@[simp] theorem thn_ret (u : U) (b : SF) : thn (.ret u ρ) b = .ret u ρ := (rfl)
@[simp] theorem thn_exc (C : Str) (b : SF) : thn (.exc C ρ) b = .exc C ρ := (rfl)
@[simp] theorem thn_brk (b : SF) : thn (.brk ρ) b = .brk ρ := (rfl)
@[simp] theorem thn_cont (b : SF) : thn (.cont ρ) b = .cont ρ := (rfl)
@[simp] theorem thn_stuck (b : SF) : thn .stuck b = .stuck := (rfl)
@[simp] theorem thn_ite (c : Prop) [Decidable c] (x y : Fl) (b : SF) : thn (if c then x else y) b = if c then thn x b else thn y b := by split <;> rfl
@[simp] theorem sSeq_d (a b : SF) : sSeq a b ρ = thn (a ρ) b := by
  unfold sSeq thn
  split <;> simp_all
@[simp] theorem sExpr_d (e : EF) : sExpr e ρ = .of (e ρ) fun _ ρ1 => .next ρ1 := (rfl)
@[simp] theorem sRet_d (e : EF) : sRet e ρ = .of (e ρ) fun u ρ1 => .ret u ρ1 := (rfl)
@[simp] theorem sRetN_d : sRetN ρ = .ret .non ρ := (rfl)
def nxO (o : Option Sl) : Fl := match o with
  | some ρ2 => .next ρ2
  | none => .stuck
@[simp] theorem nxO_s : nxO (some ρ) = .next ρ := (rfl)
@[simp] theorem sAsg_d (e : EF) (g : TgF) : sAsg e g ρ = .of (e ρ) fun u ρ1 => nxO (g u ρ1) := (rfl)
@[simp] theorem sPar_d (gs : TgsF) (as : AF) : sPar gs as ρ = .of (as ρ) fun us ρ1 => nxO (gs us ρ1) := (rfl)
@[simp] theorem sIf_d (t : BF) (a b : SF) : sIf t a b ρ = .of (t ρ) fun x ρ1 => if x then a ρ1 else b ρ1 := (rfl)
@[simp] theorem sRaise_d (C : Str) : sRaise C ρ = .exc C ρ := (rfl)
@[simp] theorem sBreak_d : sBreak ρ = .brk ρ := (rfl)
@[simp] theorem sCont_d : sCont ρ = .cont ρ := (rfl)
@[simp] theorem sFor_d (it : AF) (g : TgF) (b : SF) : sFor it g b ρ = .of (it ρ) fun us ρ1 => forL g b us ρ1 := (rfl)
@[simp] theorem iSeq_d (e : EF) : iSeq e ρ = (e ρ).bind fun x ρ1 => match x with
  | .lst xs => .ok xs ρ1
  | .tup xs => .ok xs ρ1
  | _ => .stuck := (rfl)
@[simp] theorem fnEnd_ret (io fr : Bool) (u : U) : fnEnd io fr (.ret u ρ) = .ok u (if io then slot0 ρ else .non) := (rfl)
@[simp] theorem fnEnd_next (io : Bool) : fnEnd io false (.next ρ) = .ok .non (if io then slot0 ρ else .non) := (rfl)
@[simp] theorem fnEnd_exc (io fr : Bool) (C : Str) : fnEnd io fr (.exc C ρ) = .exc C (if io then slot0 ρ else .non) := (rfl)
@[simp] theorem fnEnd_ite (io fr : Bool) (c : Prop) [Decidable c] (x y : Fl) : fnEnd io fr (if c then x else y) = if c then fnEnd io fr x else fnEnd io fr y := by split <;> rfl
@[simp] theorem cRes_ite (c : Prop) [Decidable c] (x y : FR) : cRes (if c then x else y) ρ = if c then cRes x ρ else cRes y ρ := by split <;> rfl
end
/-! ### operations -/
@[simp] theorem intsOf_in : ∀ xs : List Int, intsOf (xs.map U.int) = some xs
  | [] => rfl
  | x :: xs => by rw [List.map_cons, intsOf, intsOf_in xs]; rfl
@[simp] theorem blsOf_map {α : Type} (p : α → Bool) : ∀ xs : List α, blsOf (xs.map fun x => U.bl (p x)) = some (xs.map p)
  | [] => rfl
  | x :: xs => by rw [List.map_cons, blsOf, blsOf_map p xs]; rfl
theorem bAll_map {α : Type} (p : α → Bool) (xs : List α) : bAll [.lst (xs.map fun x => U.bl (p x))] = some (.bl (xs.all p)) := by
  unfold bAll
  simp [blsOf_map, List.all_map]
theorem bAny_map {α : Type} (p : α → Bool) (xs : List α) : bAny [.lst (xs.map fun x => U.bl (p x))] = some (.bl (xs.any p)) := by
  unfold bAny
  simp [blsOf_map, List.any_map]
@[simp] theorem bSum_l (xs : List Int) : bSum [.lst (xs.map U.int)] = some (.int xs.sum) := by simp [bSum]
@[simp] theorem bSum_t (xs : List Int) : bSum [.tup (xs.map U.int)] = some (.int xs.sum) := by simp [bSum]
@[simp] theorem bLen_l (xs : List U) : bLen [.lst xs] = some (.int xs.length) := (rfl)
@[simp] theorem bLen_t (xs : List U) : bLen [.tup xs] = some (.int xs.length) := (rfl)
@[simp] theorem bList_l (xs : List U) : bList [.lst xs] = some (.lst xs) := (rfl)
@[simp] theorem bList_t (xs : List U) : bList [.tup xs] = some (.lst xs) := (rfl)
@[simp] theorem bTuple_l (xs : List U) : bTuple [.lst xs] = some (.tup xs) := (rfl)
@[simp] theorem bTuple_t (xs : List U) : bTuple [.tup xs] = some (.tup xs) := (rfl)
@[simp] theorem bInt_i (i : Int) : bInt [.int i] = some (.int i) := (rfl)
@[simp] theorem bInt_b (b : Bool) : bInt [.bl b] = some (.int (if b then 1 else 0)) := (rfl)
@[simp] theorem uAdd_i (i j : Int) : uAdd (.int i) (.int j) = some (.int (i + j)) := (rfl)
@[simp] theorem uAdd_l (xs ys : List U) : uAdd (.lst xs) (.lst ys) = if xs.length + ys.length ≤ 100000 then some (.lst (xs ++ ys)) else none := (rfl)
@[simp] theorem uAdd_t (xs ys : List U) : uAdd (.tup xs) (.tup ys) = if xs.length + ys.length ≤ 100000 then some (.tup (xs ++ ys)) else none := (rfl)
@[simp] theorem uSub_i (i j : Int) : uSub (.int i) (.int j) = some (.int (i - j)) := (rfl)
@[simp] theorem uNeg_i (i : Int) : uNeg (.int i) = some (.int (-i)) := (rfl)
@[simp] theorem uLtI_i (i j : Int) : uLtI (.int i) (.int j) = some (.bl (decide (i < j))) := (rfl)
@[simp] theorem uLeI_i (i j : Int) : uLeI (.int i) (.int j) = some (.bl (decide (i ≤ j))) := (rfl)
@[simp] theorem uGtI_i (i j : Int) : uGtI (.int i) (.int j) = some (.bl (decide (j < i))) := (rfl)
@[simp] theorem uGeI_i (i j : Int) : uGeI (.int i) (.int j) = some (.bl (decide (j ≤ i))) := (rfl)
@[simp] theorem uIsB_b (a b : Bool) : uIsB (.bl a) (.bl b) = some (.bl (decide (a = b))) := (rfl)
@[simp] theorem uNotB_b (a b : Bool) : uNotB (.bl a) (.bl b) = some (.bl (!decide (a = b))) := (rfl)
@[simp] theorem uSl_l (xs : List U) (lo hi : Option Int) : uSl (.lst xs) lo hi = some (.lst (cutU xs lo hi)) := (rfl)
@[simp] theorem uSl_t (xs : List U) (lo hi : Option Int) : uSl (.tup xs) lo hi = some (.tup (cutU xs lo hi)) := (rfl)
@[simp] theorem uIx_l (xs : List U) (i : Int) : uIx (.lst xs) (.int i) = atU xs i := (rfl)
@[simp] theorem uIx_t (xs : List U) (i : Int) : uIx (.tup xs) (.int i) = atU xs i := (rfl)
theorem uMod_i {i j : Int} (h : 0 < j) : uMod (.int i) (.int j) = some (.int (i % j)) := if_pos h
@[simp] theorem lo_some (f : U → U → Option U) (x y : U) (us : List U) (h : f x y = some (.lst us)) : lo f x y = some (.lst us) := by
  unfold lo
  rw [h]
/-! plain data -/
@[simp] theorem eqvU_ii (i j : Int) : eqvU (.int i) (.int j) = (i == j) := by rw [eqvU]
@[simp] theorem eqvUs_in : ∀ xs ys : List Int, eqvUs (xs.map U.int) (ys.map U.int) = (xs == ys)
  | [], [] => by simp [eqvUs]
  | [], y :: ys => by simp [eqvUs]
  | x :: xs, [] => by simp [eqvUs]
  | x :: xs, y :: ys => by
    rw [List.map_cons, List.map_cons, eqvUs, eqvU_ii, eqvUs_in xs ys]
    rfl
@[simp] theorem plUs_map {α : Type} (f : α → U) (h : ∀ x, plU (f x) = true) : ∀ xs : List α, plUs (xs.map f) = true
  | [] => by simp [plUs]
  | x :: xs => by
    rw [List.map_cons, plUs, h x, plUs_map f h xs]
    rfl
theorem depUs_le {α : Type} {n : Nat} (f : α → U) (h : ∀ x, depU (f x) ≤ n) : ∀ xs : List α, depUs (xs.map f) ≤ n
  | [] => by simp [depUs]
  | x :: xs => by
    rw [List.map_cons, depUs]
    exact Nat.max_le.mpr ⟨h x, depUs_le f h xs⟩
@[simp] theorem okU_i (i : Int) : okU (.int i) = true := by simp [okU, plU, depU]
@[simp] theorem okU_b (b : Bool) : okU (.bl b) = true := by simp [okU, plU, depU]
theorem okU_lst {α : Type} (f : α → U) (h : ∀ x, plU (f x) = true) (hd : ∀ x, depU (f x) ≤ 60) (xs : List α) : okU (.lst (xs.map f)) = true := by
  have h1 := plUs_map f h xs
  have h2 := depUs_le f hd xs
  have h3 : depUs (xs.map f) + 1 ≤ 64 := by omega
  simp [okU, plU, depU, h1, h3]
theorem okU_tup {α : Type} (f : α → U) (h : ∀ x, plU (f x) = true) (hd : ∀ x, depU (f x) ≤ 60) (xs : List α) : okU (.tup (xs.map f)) = true := by
  have h1 := plUs_map f h xs
  have h2 := depUs_le f hd xs
  have h3 : depUs (xs.map f) + 1 ≤ 64 := by omega
  simp [okU, plU, depU, h1, h3]
@[simp] theorem okU_li (xs : List Int) : okU (.lst (xs.map U.int)) = true := okU_lst _ (fun x => by simp [plU]) (fun x => by simp [depU]) xs
@[simp] theorem okU_ti (xs : List Int) : okU (.tup (xs.map U.int)) = true := okU_tup _ (fun x => by simp [plU]) (fun x => by simp [depU]) xs
@[simp] theorem okU_l0 : okU (.lst []) = true := by simp [okU, plU, plUs, depU, depUs]
@[simp] theorem okU_t0 : okU (.tup []) = true := by simp [okU, plU, plUs, depU, depUs]
theorem any_eqv (xs : List Int) (i : Int) : ((xs.map U.int).any fun z => eqvU z (.int i)) = xs.contains i := by
  induction xs with
  | nil => rfl
  | cons x xs ih =>
    rw [List.map_cons, List.any_cons, ih, eqvU_ii, List.contains_cons]
    congr 1
    exact Bool.eq_iff_iff.mpr ⟨fun h => by simpa using (beq_iff_eq.mp h).symm, fun h => by simpa using (beq_iff_eq.mp h).symm⟩
@[simp] theorem uInB_t (i : Int) (xs : List Int) : uInB (.int i) (.tup (xs.map U.int)) = some (xs.contains i) := by
  simp only [uInB, okU_i, okU_ti, Bool.and_self, if_true, any_eqv]
@[simp] theorem uInB_l (i : Int) (xs : List Int) : uInB (.int i) (.lst (xs.map U.int)) = some (xs.contains i) := by
  simp only [uInB, okU_i, okU_li, Bool.and_self, if_true, any_eqv]
@[simp] theorem uIn_d {a b : U} {x : Bool} (h : uInB a b = some x) : uIn a b = some (.bl x) := by rw [uIn, h]; rfl
@[simp] theorem uNotIn_d {a b : U} {x : Bool} (h : uInB a b = some x) : uNotIn a b = some (.bl !x) := by rw [uNotIn, h]; rfl
@[simp] theorem uEq_ii (i j : Int) : uEq (.int i) (.int j) = some (.bl (i == j)) := by simp [uEq]
@[simp] theorem uNe_ii (i j : Int) : uNe (.int i) (.int j) = some (.bl (i != j)) := by simp [uNe, bne]
@[simp] theorem uEq_ll (xs ys : List Int) : uEq (.lst (xs.map U.int)) (.lst (ys.map U.int)) = some (.bl (xs == ys)) := by simp [uEq, eqvU]
@[simp] theorem uNe_ll (xs ys : List Int) : uNe (.lst (xs.map U.int)) (.lst (ys.map U.int)) = some (.bl (xs != ys)) := by simp [uNe, eqvU, bne]
@[simp] theorem uEq_l0 (xs : List Int) : uEq (.lst (xs.map U.int)) (.lst []) = some (.bl (xs == [])) := uEq_ll xs []
@[simp] theorem uNe_l0 (xs : List Int) : uNe (.lst (xs.map U.int)) (.lst []) = some (.bl (xs != [])) := uNe_ll xs []
@[simp] theorem uEq_tt (xs ys : List Int) : uEq (.tup (xs.map U.int)) (.tup (ys.map U.int)) = some (.bl (xs == ys)) := by simp [uEq, eqvU]
@[simp] theorem uEq_bb (a b : Bool) : uEq (.bl a) (.bl b) = some (.bl (a == b)) := by simp [uEq, eqvU]
@[simp] theorem uNe_bb (a b : Bool) : uNe (.bl a) (.bl b) = some (.bl (a != b)) := by simp [uNe, eqvU, bne]
/-! sequences -/
theorem sxU_map (n d : Nat) (o : Option Int) : sxU n d o = sxU n d o := (rfl)
@[simp] theorem cutU_map {α : Type} (f : α → U) (xs : List α) (lo hi : Option Int) : cutU (xs.map f) lo hi = (cutU xs lo hi).map f := by
  unfold cutU
  rw [List.length_map, List.map_take, List.map_drop]
@[simp] theorem atU_map {α : Type} (f : α → U) (xs : List α) (i : Int) : atU (xs.map f) i = (atU xs i).map f := by
  unfold atU
  rw [List.length_map]
  split
  · rw [List.getElem?_map]
  · split
    · rw [List.getElem?_map]
    · rfl
theorem zipU_map {α β : Type} (f : α → U) (g : β → U) : ∀ (xs : List α) (ys : List β), zipU (xs.map f) (ys.map g) = (xs.zip ys).map fun p => .tup [f p.1, g p.2]
  | [], ys => rfl
  | x :: xs, [] => rfl
  | x :: xs, y :: ys => by
    show U.tup [f x, g y] :: zipU (xs.map f) (ys.map g) = _
    rw [zipU_map f g xs ys]
    rfl
def rng (lo : Int) : Nat → List Int
  | 0 => []
  | n + 1 => lo :: rng (lo + 1) n
theorem rangeU_map : ∀ (n : Nat) (lo : Int), rangeU lo n = (rng lo n).map U.int
  | 0, _ => rfl
  | n + 1, lo => by
    rw [rangeU, rng, List.map_cons, rangeU_map n]
@[simp] theorem rng_length : ∀ (n : Nat) (lo : Int), (rng lo n).length = n
  | 0, _ => rfl
  | n + 1, lo => by rw [rng, List.length_cons, rng_length n]
def enumI {α : Type} (xs : List α) : List (Int × α) := (rng 0 xs.length).zip xs
theorem enumU_map {α : Type} (f : α → U) (xs : List α) : enumU (xs.map f) = (enumI xs).map fun p => .tup [.int p.1, f p.2] := by
  unfold enumU enumI
  rw [rangeU_map, List.length_map, zipU_map]
theorem mem_rng : ∀ {n : Nat} {lo i : Int}, i ∈ rng lo n ↔ lo ≤ i ∧ i < lo + n
  | 0, lo, i => by
    constructor
    · intro h
      simp [rng] at h
    · intro h
      omega
  | n + 1, lo, i => by
    rw [rng, List.mem_cons, mem_rng (n := n)]
    omega
/-! ### comprehensions, loops -/
theorem compL_map {α : Type} {vs : List Nat} {g : TgF} {t : BF} {e : EF} {w : Sl} (enc : α → U) (p : α → Bool) (f : α → U) : ∀ (xs : List α) (ρ : Sl) (acc : List U), wipeU ρ vs = w →
    (∀ x ∈ xs, ∃ ρ2, g (enc x) w = some ρ2 ∧ t ρ2 = .ok (p x) ρ2 ∧ (p x = true → e ρ2 = .ok (f x) ρ2) ∧ wipeU ρ2 vs = w) → ∃ ρ', wipeU ρ' vs = w ∧ compL vs g t e (xs.map enc) ρ acc = .ok (acc.reverse ++ (xs.filter p).map f) ρ'
  | [], ρ, acc, hw, _ => ⟨ρ, hw, by simp [compL]⟩
  | x :: xs, ρ, acc, hw, h => by
    obtain ⟨ρ2, h1, h2, h3, h4⟩ := h x (.head _)
    rw [List.map_cons, compL, hw, h1]
    simp only [h2]
    cases hp : p x with
    | true =>
      simp only [h3 hp]
      obtain ⟨ρ', k1, k2⟩ := compL_map enc p f xs ρ2 (f x :: acc) h4 fun y hy => h y (.tail _ hy)
      refine ⟨ρ', k1, ?_⟩
      rw [k2, List.reverse_cons, List.filter_cons_of_pos hp, List.map_cons, List.append_assoc]
      rfl
    | false =>
      obtain ⟨ρ', k1, k2⟩ := compL_map enc p f xs ρ2 acc h4 fun y hy => h y (.tail _ hy)
      refine ⟨ρ', k1, ?_⟩
      simp only
      rw [k2, List.filter_cons_of_neg (by simp [hp])]
theorem wipe_get (ρ : Sl) : ∀ (vs : List Nat) (i : Nat), (wipeU ρ vs)[i]? = if i ∈ vs then (if i < ρ.length then some none else none) else ρ[i]?
  | [], i => by simp [wipeU]
  | v :: vs, i => by
    have hl : ∀ vs, (wipeU ρ vs).length = ρ.length := fun vs => by
      induction vs with
      | nil => rfl
      | cons v vs ih => rw [wipeU, List.length_set, ih]
    rw [wipeU]
    by_cases h : v = i
    · subst h
      rw [if_pos (List.mem_cons_self ..)]
      by_cases hv : v < ρ.length
      · rw [List.getElem?_set_self (by rw [hl]; exact hv), if_pos hv]
      · rw [List.getElem?_eq_none (by rw [List.length_set, hl]; omega), if_neg hv]
    · rw [List.getElem?_set_ne h, wipe_get ρ vs i]
      by_cases hi : i ∈ vs
      · rw [if_pos hi, if_pos (List.mem_cons_of_mem _ hi)]
      · rw [if_neg hi, if_neg (fun m => by rcases List.mem_cons.mp m with e | m; exact h e.symm; exact hi m)]
theorem back_get (ρ0 ρ : Sl) : ∀ (vs : List Nat) (i : Nat), (backU ρ0 ρ vs)[i]? = if i ∈ vs then (if i < ρ.length then some (ρ0.getD i none) else none) else ρ[i]?
  | [], i => by simp [backU]
  | v :: vs, i => by
    have hl : ∀ vs, (backU ρ0 ρ vs).length = ρ.length := fun vs => by
      induction vs with
      | nil => rfl
      | cons v vs ih => rw [backU, List.length_set, ih]
    rw [backU]
    by_cases h : v = i
    · subst h
      rw [if_pos (List.mem_cons_self ..)]
      by_cases hv : v < ρ.length
      · rw [List.getElem?_set_self (by rw [hl]; exact hv), if_pos hv]
      · rw [List.getElem?_eq_none (by rw [List.length_set, hl]; omega), if_neg hv]
    · rw [List.getElem?_set_ne h, back_get ρ0 ρ vs i]
      by_cases hi : i ∈ vs
      · rw [if_pos hi, if_pos (List.mem_cons_of_mem _ hi)]
      · rw [if_neg hi, if_neg (fun m => by rcases List.mem_cons.mp m with e | m; exact h e.symm; exact hi m)]
theorem wipe_len (ρ : Sl) (vs : List Nat) : (wipeU ρ vs).length = ρ.length := by
  induction vs with
  | nil => rfl
  | cons v vs ih => rw [wipeU, List.length_set, ih]
theorem back_same {ρ0 ρ : Sl} {vs : List Nat} (h : wipeU ρ vs = wipeU ρ0 vs) : backU ρ0 ρ vs = ρ0 := by
  have hl : ρ.length = ρ0.length := by
    have := congrArg List.length h
    rwa [wipe_len, wipe_len] at this
  apply List.ext_getElem?
  intro i
  rw [back_get]
  by_cases hi : i ∈ vs
  · rw [if_pos hi, hl]
    by_cases hv : i < ρ0.length
    · rw [if_pos hv, List.getD_eq_getElem?_getD, List.getElem?_eq_getElem hv]
      rfl
    · rw [if_neg hv, List.getElem?_eq_none (by omega)]
  · rw [if_neg hi]
    have := congrArg (fun l => l[i]?) h
    simp only [wipe_get, if_neg hi] at this
    exact this
theorem eComp_map {α : Type} {vs : List Nat} {it : AF} {g : TgF} {t : BF} {e : EF} {ρ ρ1 : Sl} (xs : List α) (enc : α → U) (p : α → Bool) (f : α → U) (hit : it ρ = .ok (xs.map enc) ρ1) (hl : xs.length ≤ 100000)
    (h : ∀ x ∈ xs, ∃ ρ2, g (enc x) (wipeU ρ1 vs) = some ρ2 ∧ t ρ2 = .ok (p x) ρ2 ∧ (p x = true → e ρ2 = .ok (f x) ρ2) ∧ wipeU ρ2 vs = wipeU ρ1 vs) : eComp vs it g t e ρ = .ok (.lst ((xs.filter p).map f)) ρ1 := by
  unfold eComp
  rw [hit]
  obtain ⟨ρ', k1, k2⟩ := compL_map (w := wipeU ρ1 vs) enc p f xs ρ1 [] rfl h
  have hl' : (xs.map enc).length ≤ 100000 := by rwa [List.length_map]
  show (if (xs.map enc).length ≤ 100000 then (compL vs g t e (xs.map enc) ρ1 []).bind fun ys ρ2 => Rs.ok (U.lst ys) (backU ρ1 ρ2 vs) else Rs.stuck) = _
  rw [if_pos hl', k2]
  show Rs.ok (U.lst _) (backU ρ1 ρ' vs) = _
  rw [back_same k1]
  rfl
/-- for x in xs: if not c(x): return False -/
theorem forL_check {α : Type} {g : TgF} {b : SF} (enc : α → U) (c : α → Bool) (inv : Sl → Prop) : ∀ (xs : List α) (ρ : Sl), inv ρ → (∀ x ∈ xs, ∀ ρ, inv ρ → ∃ ρ1, g (enc x) ρ = some ρ1 ∧ ∃ ρ2, b ρ1 = (if c x then .next ρ2 else .ret (.bl false) ρ2) ∧ (c x = true → inv ρ2)) →
    ∃ ρ', forL g b (xs.map enc) ρ = (if xs.all c then .next ρ' else .ret (.bl false) ρ') ∧ (xs.all c = true → inv ρ')
  | [], ρ, h0, _ => ⟨ρ, rfl, fun _ => h0⟩
  | x :: xs, ρ, h0, h => by
    obtain ⟨ρ1, h1, ρ2, h2, h3⟩ := h x (.head _) ρ h0
    rw [List.map_cons, forL, h1, List.all_cons]
    by_cases hc : c x = true
    · rw [if_pos hc] at h2
      rw [hc]
      simp only [h2, Bool.true_and]
      exact forL_check enc c inv xs ρ2 (h3 hc) fun y hy => h y (.tail _ hy)
    · rw [if_neg hc] at h2
      have hc' : c x = false := by simpa using hc
      rw [hc']
      simp only [h2, Bool.false_and]
      exact ⟨ρ2, rfl, fun h => by cases h⟩
/-- a loop that goes through: a state carried on -/
theorem forL_fold {α σ : Type} {g : TgF} {b : SF} (enc : α → U) (inv : σ → Sl → Prop) (F : σ → α → σ) : ∀ (xs : List α) (s : σ) (ρ : Sl), inv s ρ → (∀ x ∈ xs, ∀ s ρ, inv s ρ → ∃ ρ1, g (enc x) ρ = some ρ1 ∧ ∃ ρ2, b ρ1 = .next ρ2 ∧ inv (F s x) ρ2) →
    ∃ ρ', forL g b (xs.map enc) ρ = .next ρ' ∧ inv (xs.foldl F s) ρ'
  | [], s, ρ, h0, _ => ⟨ρ, rfl, h0⟩
  | x :: xs, s, ρ, h0, h => by
    obtain ⟨ρ1, h1, ρ2, h2, h3⟩ := h x (.head _) s ρ h0
    rw [List.map_cons, forL, h1]
    simp only [h2, List.foldl_cons]
    exact forL_fold enc inv F xs (F s x) ρ2 h3 fun y hy => h y (.tail _ hy)
/-- a loop that goes through: a relation carried on, by the items gone through -/
theorem forL_inv {α : Type} {g : TgF} {b : SF} (enc : α → U) (inv : List α → Sl → Prop) : ∀ (ys xs : List α) (ρ : Sl), inv ys ρ → (∀ ys x zs, ys.reverse ++ x :: zs = ys.reverse ++ x :: zs → ∀ ρ, inv ys ρ → x ∈ xs → ∃ ρ1, g (enc x) ρ = some ρ1 ∧ ∃ ρ2, b ρ1 = .next ρ2 ∧ inv (x :: ys) ρ2) →
    ∃ ρ', forL g b (xs.map enc) ρ = .next ρ' ∧ inv (xs.reverse ++ ys) ρ'
  | ys, [], ρ, h0, _ => ⟨ρ, rfl, h0⟩
  | ys, x :: xs, ρ, h0, h => by
    obtain ⟨ρ1, h1, ρ2, h2, h3⟩ := h ys x xs rfl ρ h0 (.head _)
    rw [List.map_cons, forL, h1]
    simp only [h2]
    obtain ⟨ρ', k1, k2⟩ := forL_inv enc inv (x :: ys) xs ρ2 h3 fun ys y zs e ρ hi hy => h ys y zs e ρ hi (.tail _ hy)
    refine ⟨ρ', k1, ?_⟩
    rw [List.reverse_cons, List.append_assoc]
    exact k2
theorem eComp_same {α : Type} {vs : List Nat} {it : AF} {g : TgF} {t : BF} {e : EF} {ρ : Sl} (xs : List α) (enc : α → U) (p : α → Bool) (f : α → U) (hit : it ρ = .ok (xs.map enc) ρ) (hl : xs.length ≤ 100000)
    (h : ∀ x ∈ xs, ∃ ρ2, g (enc x) (wipeU ρ vs) = some ρ2 ∧ t ρ2 = .ok (p x) ρ2 ∧ (p x = true → e ρ2 = .ok (f x) ρ2) ∧ wipeU ρ2 vs = wipeU ρ vs) : eComp vs it g t e ρ = .ok (.lst ((xs.filter p).map f)) ρ := eComp_map xs enc p f hit hl h
theorem eComp_true {α : Type} {vs : List Nat} {it : AF} {g : TgF} {e : EF} {ρ : Sl} (xs : List α) (enc : α → U) (f : α → U) (hit : it ρ = .ok (xs.map enc) ρ) (hl : xs.length ≤ 100000)
    (h : ∀ x ∈ xs, ∃ ρ2, g (enc x) (wipeU ρ vs) = some ρ2 ∧ e ρ2 = .ok (f x) ρ2 ∧ wipeU ρ2 vs = wipeU ρ vs) : eComp vs it g tTrue e ρ = .ok (.lst (xs.map f)) ρ := by
  have q := eComp_map (t := tTrue) xs enc (fun _ => true) f hit hl fun x hx => by
    obtain ⟨ρ2, h1, h2, h3⟩ := h x hx
    exact ⟨ρ2, h1, rfl, fun _ => h2, h3⟩
  rw [q, show xs.filter (fun _ => true) = xs from List.filter_eq_self.mpr fun _ _ => rfl]
@[simp] theorem iZip2_d (as : AF) (ρ : Sl) : iZip2 as ρ = (as ρ).bind fun xs ρ1 => match xs with
  | [a, b] => match seqU a, seqU b with
    | some us, some ws => .ok (zipU us ws) ρ1
    | _, _ => .stuck
  | _ => .stuck := (rfl)
@[simp] theorem iEnum_d (as : AF) (ρ : Sl) : iEnum as ρ = (as ρ).bind fun xs ρ1 => match xs with
  | [.lst a] => .ok (enumU a) ρ1
  | [.tup a] => .ok (enumU a) ρ1
  | _ => .stuck := (rfl)
@[simp] theorem seqU_l (xs : List U) : seqU (.lst xs) = some xs := (rfl)
@[simp] theorem seqU_t (xs : List U) : seqU (.tup xs) = some xs := (rfl)
/-- a loop that goes through: a state carried on, the turns counted -/
theorem forL_foldN {α σ : Type} {g : TgF} {b : SF} (enc : α → U) (N : Nat) (inv : Nat → σ → Sl → Prop) (F : σ → α → σ) : ∀ (xs : List α) (k : Nat) (s : σ) (ρ : Sl), inv k s ρ → k + xs.length ≤ N →
    (∀ x ∈ xs, ∀ k s ρ, k < N → inv k s ρ → ∃ ρ1, g (enc x) ρ = some ρ1 ∧ ∃ ρ2, b ρ1 = .next ρ2 ∧ inv (k + 1) (F s x) ρ2) →
    ∃ ρ', forL g b (xs.map enc) ρ = .next ρ' ∧ inv (k + xs.length) (xs.foldl F s) ρ'
  | [], k, s, ρ, h0, _, _ => ⟨ρ, rfl, h0⟩
  | x :: xs, k, s, ρ, h0, hk, h => by
    rw [List.length_cons] at hk
    obtain ⟨ρ1, h1, ρ2, h2, h3⟩ := h x (.head _) k s ρ (by omega) h0
    rw [List.map_cons, forL, h1]
    simp only [h2, List.foldl_cons]
    obtain ⟨ρ', k1, k2⟩ := forL_foldN enc N inv F xs (k + 1) (F s x) ρ2 h3 (by omega) fun y hy => h y (.tail _ hy)
    refine ⟨ρ', k1, ?_⟩
    rw [List.length_cons, show k + (xs.length + 1) = k + 1 + xs.length by omega]
    exact k2
/-- a loop over numbered items -/
theorem forL_enumN {α σ : Type} {g : TgF} {b : SF} (enc : α → U) (inv : Int → σ → Sl → Prop) (F : σ → Int × α → σ) (N : Int) : ∀ (xs : List α) (k : Int) (s : σ) (ρ : Sl), inv k s ρ → k + xs.length ≤ N →
    (∀ x ∈ xs, ∀ k s ρ, k < N → inv k s ρ → ∃ ρ1, g (.tup [.int k, enc x]) ρ = some ρ1 ∧ ∃ ρ2, b ρ1 = .next ρ2 ∧ inv (k + 1) (F s (k, x)) ρ2) →
    ∃ ρ', forL g b (((rng k xs.length).zip xs).map fun p => .tup [.int p.1, enc p.2]) ρ = .next ρ' ∧ inv (k + xs.length) (((rng k xs.length).zip xs).foldl F s) ρ'
  | [], k, s, ρ, h0, _, _ => ⟨ρ, rfl, by simpa using h0⟩
  | x :: xs, k, s, ρ, h0, hk, h => by
    rw [List.length_cons] at hk
    obtain ⟨ρ1, h1, ρ2, h2, h3⟩ := h x (.head _) k s ρ (by omega) h0
    rw [List.length_cons, rng, List.zip_cons_cons, List.map_cons, forL, h1]
    simp only [h2, List.foldl_cons]
    obtain ⟨ρ', k1, k2⟩ := forL_enumN enc inv F N xs (k + 1) (F s (k, x)) ρ2 h3 (by omega) fun y hy => h y (.tail _ hy)
    refine ⟨ρ', k1, ?_⟩
    rw [show k + ((xs.length + 1 : Nat) : Int) = k + 1 + xs.length by omega]
    exact k2
@[simp] theorem iRange1_d (as : AF) (ρ : Sl) : iRange1 as ρ = (as ρ).bind fun xs ρ1 => match xs with
  | [.int j] => if -(2 ^ 62) ≤ j ∧ j < 2 ^ 62 then .ok (rangeU 0 j.toNat) ρ1 else .stuck
  | _ => .stuck := (rfl)
@[simp] theorem iRange2_d (as : AF) (ρ : Sl) : iRange2 as ρ = (as ρ).bind fun xs ρ1 => match xs with
  | [.int i, .int j] => if -(2 ^ 62) ≤ i ∧ i < 2 ^ 62 ∧ -(2 ^ 62) ≤ j ∧ j < 2 ^ 62 then .ok (rangeU i (j - i).toNat) ρ1 else .stuck
  | _ => .stuck := (rfl)
def appO (i : Nat) (y : U) (ρ : Sl) : Fl := match nthS ρ i with
  | some (.lst xs) => if xs.length ≤ 100000 then .next (ρ.set i (some (.lst (xs ++ [y])))) else .stuck
  | _ => .stuck
def liv (o : Option U) (f : Fl) : Fl := match o with
  | some _ => f
  | none => .stuck
@[simp] theorem liv_s (u : U) (f : Fl) : liv (some u) f = f := (rfl)
@[simp] theorem sAppend_d (i : Nat) (e : EF) (ρ : Sl) : sAppend i e ρ = liv (nthS ρ i) (.of (e ρ) fun y ρ1 => appO i y ρ1) := by
  unfold sAppend
  cases h : nthS ρ i with
  | some u =>
    rw [nthS_some h]
    show Fl.of _ _ = Fl.of _ _
    congr 1
    funext y ρ1
    unfold appO
    cases h1 : nthS ρ1 i with
    | some w =>
      rw [nthS_some h1]
      cases w <;> rfl
    | none => rcases nthS_none h1 with e | e <;> rw [e] <;> rfl
  | none => rcases nthS_none h with e | e <;> rw [e] <;> rfl
def livR {α : Type} (o : Option U) (f : Rs α) : Rs α := match o with
  | some _ => f
  | none => .stuck
@[simp] theorem livR_s {α : Type} (u : U) (f : Rs α) : livR (some u) f = f := (rfl)
def opO (op : U → U → Option U) (o : Option U) (y : U) (ρ : Sl) : Rs U := match o with
  | some d => rs (op d y) ρ
  | none => .stuck
@[simp] theorem opO_s (op : U → U → Option U) (u y : U) (ρ : Sl) : opO op (some u) y ρ = rs (op u y) ρ := (rfl)
@[simp] theorem eIxM_d (i : Nat) (op : U → U → Option U) (b : EF) (ρ : Sl) : eIxM i op b ρ = livR (nthS ρ i) ((b ρ).bind fun y ρ1 => opO op (nthS ρ1 i) y ρ1) := by
  unfold eIxM
  cases h : nthS ρ i with
  | some u =>
    rw [nthS_some h]
    show Rs.bind _ _ = Rs.bind _ _
    congr 1
    funext y ρ1
    cases h1 : nthS ρ1 i with
    | some w => rw [nthS_some h1]; rfl
    | none => rcases nthS_none h1 with e | e <;> rw [e] <;> rfl
  | none => rcases nthS_none h with e | e <;> rw [e] <;> rfl
def putO (o : Option U) (j y : U) (i : Nat) (ρ : Sl) : Fl := match o, j with
  | some (.lst xs), .int n => if 0 ≤ n ∧ n < xs.length then .next (ρ.set i (some (.lst (xs.set n.toNat y)))) else .stuck
  | _, _ => .stuck
@[simp] theorem sPut_d (i : Nat) (k e : EF) (ρ : Sl) : sPut i k e ρ = .of (e ρ) fun y ρ1 => liv (nthS ρ1 i) (.of (k ρ1) fun j ρ2 => putO (nthS ρ2 i) j y i ρ2) := by
  unfold sPut
  congr 1
  funext y ρ1
  cases h : nthS ρ1 i with
  | some u =>
    rw [nthS_some h]
    show Fl.of _ _ = Fl.of _ _
    congr 1
    funext j ρ2
    unfold putO
    cases h1 : nthS ρ2 i with
    | some w =>
      rw [nthS_some h1]
      cases w <;> cases j <;> rfl
    | none => rcases nthS_none h1 with e | e <;> rw [e] <;> rfl
  | none => rcases nthS_none h with e | e <;> rw [e] <;> rfl
def callD (r : FR) (i : Nat) (ρ : Sl) : Rs U := match r with
  | .ok u d' => .ok u (ρ.set i (some d'))
  | .exc C d' => .exc C (ρ.set i (some d'))
  | .stuck => .stuck
@[simp] theorem callD_ok (u d : U) (i : Nat) (ρ : Sl) : callD (.ok u d) i ρ = .ok u (ρ.set i (some d)) := (rfl)
def callO (φ : List U → FR) (o : Option U) (us : List U) (i : Nat) (ρ : Sl) : Rs U := match o with
  | some d => callD (φ (d :: us)) i ρ
  | none => .stuck
@[simp] theorem callO_s (φ : List U → FR) (d : U) (us : List U) (i : Nat) (ρ : Sl) : callO φ (some d) us i ρ = callD (φ (d :: us)) i ρ := (rfl)
@[simp] theorem eCallD_d (i : Nat) (φ : List U → FR) (as : AF) (ρ : Sl) : eCallD i φ as ρ = livR (nthS ρ i) ((as ρ).bind fun xs ρ1 => callO φ (nthS ρ1 i) xs i ρ1) := by
  unfold eCallD
  cases h : nthS ρ i with
  | some u =>
    rw [nthS_some h]
    show Rs.bind _ _ = Rs.bind _ _
    congr 1
    funext us ρ1
    cases h1 : nthS ρ1 i with
    | some w => rw [nthS_some h1]; rfl
    | none => rcases nthS_none h1 with e | e <;> rw [e] <;> rfl
  | none => rcases nthS_none h with e | e <;> rw [e] <;> rfl
/-- a comprehension whose element changes the slots -/
theorem compL_inv {α : Type} {vs : List Nat} {g : TgF} {e : EF} (enc : α → U) (Pf : U → Prop) (N : Nat) (inv : Nat → Sl → Prop) : ∀ (xs : List α) (k : Nat) (ρ : Sl) (acc : List U), inv k ρ → k + xs.length ≤ N →
    (∀ x ∈ xs, ∀ k ρ, k < N → inv k ρ → ∃ ρ1, g (enc x) (wipeU ρ vs) = some ρ1 ∧ ∃ y ρ2, e ρ1 = .ok y ρ2 ∧ Pf y ∧ inv (k + 1) ρ2) →
    ∃ ys ρ', compL vs g tTrue e (xs.map enc) ρ acc = .ok (acc.reverse ++ ys) ρ' ∧ ys.length = xs.length ∧ (∀ y ∈ ys, Pf y) ∧ inv (k + xs.length) ρ'
  | [], k, ρ, acc, h0, _, _ => ⟨[], ρ, by simp [compL], rfl, fun y hy => (by cases hy), h0⟩
  | x :: xs, k, ρ, acc, h0, hk, h => by
    rw [List.length_cons] at hk
    obtain ⟨ρ1, h1, y, ρ2, h2, h3, h4⟩ := h x (.head _) k ρ (by omega) h0
    obtain ⟨ys, ρ', k1, k2, k3, k4⟩ := compL_inv enc Pf N inv xs (k + 1) ρ2 (y :: acc) h4 (by omega) fun z hz => h z (.tail _ hz)
    refine ⟨y :: ys, ρ', ?_, by rw [List.length_cons, List.length_cons, k2], fun z hz => ?_, ?_⟩
    · rw [List.map_cons, compL, h1]
      simp only [tTrue, h2]
      rw [k1, List.reverse_cons, List.append_assoc]
      rfl
    · rcases List.mem_cons.mp hz with e | hz
      · rw [e]
        exact h3
      · exact k3 z hz
    · rw [List.length_cons, show k + (xs.length + 1) = k + 1 + xs.length by omega]
      exact k4
theorem eComp_inv {α : Type} {vs : List Nat} {it : AF} {g : TgF} {e : EF} {ρ ρ1 : Sl} (xs : List α) (enc : α → U) (Pf : U → Prop) (N : Nat) (inv : Nat → Sl → Prop) (hit : it ρ = .ok (xs.map enc) ρ1) (hl : xs.length ≤ 100000) (h0 : inv 0 ρ1) (hN : xs.length ≤ N)
    (h : ∀ x ∈ xs, ∀ k ρ, k < N → inv k ρ → ∃ ρ1, g (enc x) (wipeU ρ vs) = some ρ1 ∧ ∃ y ρ2, e ρ1 = .ok y ρ2 ∧ Pf y ∧ inv (k + 1) ρ2) :
    ∃ ys ρ', eComp vs it g tTrue e ρ = .ok (.lst ys) (backU ρ1 ρ' vs) ∧ ys.length = xs.length ∧ (∀ y ∈ ys, Pf y) ∧ inv xs.length ρ' := by
  obtain ⟨ys, ρ', k1, k2, k3, k4⟩ := compL_inv enc Pf N inv xs 0 ρ1 [] h0 (by omega) h
  refine ⟨ys, ρ', ?_, k2, k3, by simpa using k4⟩
  unfold eComp
  rw [hit]
  have hl' : (xs.map enc).length ≤ 100000 := by rwa [List.length_map]
  show (if (xs.map enc).length ≤ 100000 then (compL vs g tTrue e (xs.map enc) ρ1 []).bind fun ys ρ2 => Rs.ok (U.lst ys) (backU ρ1 ρ2 vs) else Rs.stuck) = _
  rw [if_pos hl', k1]
  rfl
/-- a loop with an invariant by the turn -/
theorem forL_turns {α : Type} {g : TgF} {b : SF} (enc : α → U) (inv : Nat → Sl → Prop) : ∀ (xs : List α) (k : Nat) (ρ : Sl), inv k ρ → (∀ j x, xs[j]? = some x → ∀ ρ, inv (k + j) ρ → ∃ ρ1, g (enc x) ρ = some ρ1 ∧ ∃ ρ2, b ρ1 = .next ρ2 ∧ inv (k + j + 1) ρ2) →
    ∃ ρ', forL g b (xs.map enc) ρ = .next ρ' ∧ inv (k + xs.length) ρ'
  | [], k, ρ, h0, _ => ⟨ρ, rfl, h0⟩
  | x :: xs, k, ρ, h0, h => by
    obtain ⟨ρ1, h1, ρ2, h2, h3⟩ := h 0 x rfl ρ h0
    rw [List.map_cons, forL, h1]
    simp only [h2]
    obtain ⟨ρ', k1, k2⟩ := forL_turns enc inv xs (k + 1) ρ2 h3 fun j y hy ρ hi => by
      have := h (j + 1) y (by simpa using hy) ρ (by rw [show k + (j + 1) = k + 1 + j by omega]; exact hi)
      rw [show k + (j + 1) = k + 1 + j by omega] at this
      exact this
    refine ⟨ρ', k1, ?_⟩
    rw [List.length_cons, show k + (xs.length + 1) = k + 1 + xs.length by omega]
    exact k2
theorem rng_get : ∀ {n : Nat} {lo : Int} {i : Nat} {x : Int}, (rng lo n)[i]? = some x → x = lo + i ∧ i < n
  | 0, lo, i, x, h => by simp [rng] at h
  | n + 1, lo, 0, x, h => by
    simp [rng] at h
    omega
  | n + 1, lo, i + 1, x, h => by
    rw [rng, List.getElem?_cons_succ] at h
    have := rng_get h
    omega
theorem rng_at : ∀ (n : Nat) (lo : Int) (i : Nat), i < n → (rng lo n)[i]? = some (lo + i)
  | 0, lo, i, h => by omega
  | n + 1, lo, 0, h => by simp [rng]
  | n + 1, lo, i + 1, h => by
    rw [rng, List.getElem?_cons_succ, rng_at n (lo + 1) i (by omega)]
    congr 1
    omega
theorem ints_of_all {P : Int → Prop} : ∀ {ys : List U}, (∀ y ∈ ys, ∃ i, y = .int i ∧ P i) → ∃ ls : List Int, ys = ls.map .int ∧ ∀ l ∈ ls, P l
  | [], _ => ⟨[], rfl, fun l h => (by cases h)⟩
  | y :: ys, h => by
    obtain ⟨i, rfl, hi⟩ := h y (.head _)
    obtain ⟨ls, e, hl⟩ := ints_of_all fun z hz => h z (.tail _ hz)
    refine ⟨i :: ls, by rw [e]; rfl, fun l hm => ?_⟩
    rcases List.mem_cons.mp hm with q | hm
    · rw [q]
      exact hi
    · exact hl l hm
end Q
/-! the defs that the laws have in common, as pure functions (printed by gen.py) -/
namespace LB
open Q
open PySem (Str)
def b_is_from : SF :=
    (sRet (eAnd (eB bIsInst (aCons (eV 0) (aCons (eC (.ty "int")) aNil))) (eAnd (eNot (eB bIsInst (aCons (eV 0) (aCons (eC (.ty "bool")) aNil)))) (eChain uLeI uLeI (eV 1) (eV 0) (eV 2)))))
def fn_is_from : List U → FR := fnOf false false 3 3 b_is_from
def b_are_gaps : SF :=
    (sSeq (sIf (tOr (tNot (tB (eB bIsInst (aCons (eV 1) (aCons (eC (.ty "tuple")) aNil))))) (tNot (tB (eB bAll (aCons (eComp [2] (iSeq (eV 1)) (gN 2) tTrue (eCall fn_is_from (aCons (eV 2) (aCons (eC (.int 1)) (aCons (e2 uSub (eV 0) (eC (.int 1))) aNil))))) aNil))))) (sRet (eC (.bl false))) sNil)
    (sRet (eB bAll (aCons (eComp [3, 4] (iZip2 (aCons (eV 1) (aCons (eSl (eV 1) (oSome (eC (.int 1))) oNo) aNil))) (gT (gsCons (gN 3) (gsCons (gN 4) gsNil))) tTrue (e2 uLtI (eV 3) (eV 4))) aNil))))
def fn_are_gaps : List U → FR := fnOf false false 5 2 b_are_gaps
def l_blocks_of_1 : SF :=
    (sIf (tB (e2 uIn (eV 3) (eV 1))) (sSet 2 (e2 uAdd (eSl (eV 2) oNo (oSome (e1 uNeg (eC (.int 1))))) (eLst (aCons (e2 uAdd (e2 uIx (eV 2) (e1 uNeg (eC (.int 1)))) (eV 4)) aNil)))) (sSet 2 (e2 uAdd (eV 2) (eLst (aCons (eV 4) aNil)))))
def b_blocks_of : SF :=
    (sSeq (sSet 2 (eLst aNil))
    (sSeq (sFor (iEnum (aCons (eV 0) aNil)) (gT (gsCons (gN 3) (gsCons (gN 4) gsNil))) l_blocks_of_1)
    (sRet (eV 2))))
def fn_blocks_of : List U → FR := fnOf false false 5 2 b_blocks_of
def b_is_piece : SF :=
    (sSeq (sIf (tOr (tNot (tB (eB bIsInst (aCons (eV 0) (aCons (eC (.ty "tuple")) aNil))))) (tB (e2 uNe (eB bLen (aCons (eV 0) aNil)) (eC (.int 4))))) (sRet (eC (.bl false))) sNil)
    (sSeq (sAsg (eV 0) (gT (gsCons (gN 1) (gsCons (gN 2) (gsCons (gN 3) (gsCons (gN 4) gsNil))))))
    (sSeq (sIf (tOr (tNot (tB (eB bIsInst (aCons (eV 1) (aCons (eC (.ty "tuple")) aNil))))) (tNot (tB (eChain uLeI uLeI (eC (.int 1)) (eB bLen (aCons (eV 1) aNil)) (eC (.int 30)))))) (sRet (eC (.bl false))) sNil)
    (sSeq (sIf (tOr (tNot (tB (eB bAll (aCons (eComp [5] (iSeq (eV 1)) (gN 5) tTrue (eCall fn_is_from (aCons (eV 5) (aCons (eC (.int 1)) (aCons (eC (.int 20)) aNil))))) aNil)))) (tNot (tB (eCall fn_is_from (aCons (eV 2) (aCons (eC (.int 1)) (aCons (eC (.int 100)) aNil))))))) (sRet (eC (.bl false))) sNil)
    (sSeq (sIf (tOr (tNot (tB (eCall fn_are_gaps (aCons (eB bLen (aCons (eV 1) aNil)) (aCons (eV 3) aNil))))) (tNot (tB (eCall fn_are_gaps (aCons (eB bLen (aCons (eV 1) aNil)) (aCons (eV 4) aNil)))))) (sRet (eC (.bl false))) sNil)
    (sRet (eAnd (eNot (eB bAny (aCons (eComp [6] (iSeq (eV 3)) (gN 6) tTrue (e2 uIn (eV 6) (eV 4))) aNil))) (e2 uLeI (eB bMax1 (aCons (eCall fn_blocks_of (aCons (eV 1) (aCons (eV 3) aNil))) aNil)) (eV 2)))))))))
def fn_is_piece : List U → FR := fnOf false false 7 1 b_is_piece
def b_is_direction : SF :=
    (sRet (eAnd (eB bIsInst (aCons (eV 0) (aCons (eC (.ty "str")) aNil))) (e2 uIn (eV 0) (eTup (aCons (eC (.str [100, 111, 119, 110])) (aCons (eC (.str [117, 112])) aNil))))))
def fn_is_direction : List U → FR := fnOf false false 1 1 b_is_direction
def l_good_wishes_1 : SF :=
    (sSeq (sIf (tOr (tNot (tB (eB bIsInst (aCons (eV 2) (aCons (eC (.ty "tuple")) aNil))))) (tB (e2 uNe (eB bLen (aCons (eV 2) aNil)) (eC (.int 2))))) (sRet (eC (.bl false))) sNil)
    (sIf (tOr (tNot (tB (eCall fn_is_from (aCons (e2 uIx (eV 2) (eC (.int 0))) (aCons (eC (.int 0)) (aCons (e2 uSub (eB bLen (aCons (e2 uIx (eV 0) (eC (.int 0))) aNil)) (eC (.int 1))) aNil)))))) (tNot (tB (eCall fn_is_direction (aCons (e2 uIx (eV 2) (eC (.int 1))) aNil))))) (sRet (eC (.bl false))) sNil))
def b_good_wishes : SF :=
    (sSeq (sIf (tNot (tB (eB bIsInst (aCons (eV 1) (aCons (eC (.ty "tuple")) aNil))))) (sRet (eC (.bl false))) sNil)
    (sSeq (sFor (iSeq (eV 1)) (gN 2) l_good_wishes_1)
    (sRet (eB bAll (aCons (eComp [3, 4] (iZip2 (aCons (eV 1) (aCons (eSl (eV 1) (oSome (eC (.int 1))) oNo) aNil))) (gT (gsCons (gN 3) (gsCons (gN 4) gsNil))) tTrue (e2 uLtI (e2 uIx (eV 3) (eC (.int 0))) (e2 uIx (eV 4) (eC (.int 0))))) aNil)))))
def fn_good_wishes : List U → FR := fnOf false false 5 2 b_good_wishes
def b_is_wishes : SF :=
    (sSeq (sIf (tNot (tB (eCall fn_is_piece (aCons (eV 0) aNil)))) (sRaise "InvalidPiece") sNil)
    (sRet (eCall fn_good_wishes (aCons (eV 0) (aCons (eV 1) aNil)))))
def fn_is_wishes : List U → FR := fnOf false false 2 2 b_is_wishes
def b_breaks_of : SF :=
    (sRet (eB bTuple (aCons (eComp [1] (iRange2 (aCons (eC (.int 1)) (aCons (eB bLen (aCons (eV 0) aNil)) aNil))) (gN 1) (tB (e2 uGtI (e2 uIx (eV 0) (eV 1)) (e2 uIx (eV 0) (e2 uSub (eV 1) (eC (.int 1)))))) (eV 1)) aNil)))
def fn_breaks_of : List U → FR := fnOf false false 2 1 b_breaks_of
def b_need_wishes : SF :=
    (sSeq (sIf (tNot (tB (eCall fn_is_piece (aCons (eV 0) aNil)))) (sRaise "InvalidPiece") sNil)
    (sIf (tNot (tB (eCall fn_good_wishes (aCons (eV 0) (aCons (eV 1) aNil))))) (sRaise "InvalidWishes") sNil))
def fn_need_wishes : List U → FR := fnOf false false 2 2 b_need_wishes
def b_first_direction : SF :=
    (sRet (eIf (tB (e2 uIn (eTup (aCons (eC (.int 0)) (aCons (eC (.str [117, 112])) aNil))) (eV 0))) (eC (.str [117, 112])) (eC (.str [100, 111, 119, 110]))))
def fn_first_direction : List U → FR := fnOf false false 1 1 b_first_direction
def b_turned : SF :=
    (sRet (eIf (tB (e2 uEq (eV 0) (eC (.str [100, 111, 119, 110])))) (eC (.str [117, 112])) (eC (.str [100, 111, 119, 110]))))
def fn_turned : List U → FR := fnOf false false 1 1 b_turned
def b_direction_of : SF :=
    (sSeq (sSet 2 (eCall fn_first_direction (aCons (eV 0) aNil)))
    (sRet (eIf (tB (e2 uEq (e2 uMod (eV 1) (eC (.int 2))) (eC (.int 1)))) (eV 2) (eCall fn_turned (aCons (eV 2) aNil)))))
def fn_direction_of : List U → FR := fnOf false false 3 2 b_direction_of
def b_stroke_right : SF :=
    (sSeq (sAsg (eV 0) (gT (gsCons (gN 5) (gsCons (gN 6) (gsCons (gN 7) (gsCons (gN 8) gsNil))))))
    (sSeq (sIf (tOr (tB (e2 uGtI (eB bSum (aCons (eSl (eV 5) (oSome (eV 2)) (oSome (eV 3))) aNil)) (eV 6))) (tB (e2 uIn (eV 3) (eV 7)))) (sRet (eC (.bl false))) sNil)
    (sSeq (sIf (tB (eB bAny (aCons (eComp [9] (iSeq (eV 8)) (gN 9) tTrue (eChain uLtI uLtI (eV 2) (eV 9) (eV 3))) aNil))) (sRet (eC (.bl false))) sNil)
    (sRet (eB bAll (aCons (eComp [10, 11] (iSeq (eV 1)) (gT (gsCons (gN 10) (gsCons (gN 11) gsNil))) (tB (eChain uLeI uLtI (eV 2) (eV 10) (eV 3))) (e2 uEq (eV 11) (eV 4))) aNil))))))
def fn_stroke_right : List U → FR := fnOf false false 12 5 b_stroke_right
def b_need_gaps : SF :=
    (sIf (tNot (tB (eCall fn_are_gaps (aCons (eB bLen (aCons (e2 uIx (eV 0) (eC (.int 0))) aNil)) (aCons (eV 1) aNil))))) (sRaise "InvalidGaps") sNil)
def fn_need_gaps : List U → FR := fnOf false false 2 2 b_need_gaps
def b_cheaper : SF :=
    (sRet (eIf (tOr (tB (e2 uIsB (eV 0) (eC .non))) (tB (e2 uLtI (eV 1) (eV 0)))) (eV 1) (eV 0)))
def fn_cheaper : List U → FR := fnOf false false 2 2 b_cheaper
def b_need_note : SF :=
    (sIf (tNot (tB (eCall fn_is_from (aCons (eV 1) (aCons (eC (.int 0)) (aCons (e2 uSub (eB bLen (aCons (e2 uIx (eV 0) (eC (.int 0))) aNil)) (eC (.int 1))) aNil)))))) (sRaise "InvalidNote") sNil)
def fn_need_note : List U → FR := fnOf false false 2 2 b_need_note
def b__law_deck : SF :=
    (sSeq (sIf (tB (e2 uGeI (eV 0) (e2 uPow (eC (.int 10)) (eC (.int 18))))) (sRet (eLst (aCons (e2 uSub (eV 0) (e2 uPow (eC (.int 10)) (eC (.int 18)))) (aCons (e2 uMod (eV 0) (eC (.int 2147483579))) (aCons (eV 1) aNil))))) sNil)
    (sRet (eLst (aCons (eC (.int 0)) (aCons (e2 uMod (eV 0) (eC (.int 2147483579))) (aCons (eV 1) aNil))))))
def fn__law_deck : List U → FR := fnOf false true 2 2 b__law_deck
def b__law_sort : SF :=
    (sSeq (sIf (tB (eB bIsInst (aCons (eV 0) (aCons (eC (.ty "bool")) aNil)))) (sRet (eC (.int 1))) sNil)
    (sSeq (sIf (tB (eB bIsInst (aCons (eV 0) (aCons (eC (.ty "int")) aNil)))) (sRet (eC (.int 2))) sNil)
    (sSeq (sIf (tB (eB bIsInst (aCons (eV 0) (aCons (eC (.ty "str")) aNil)))) (sRet (eC (.int 3))) sNil)
    (sSeq (sIf (tB (eB bIsInst (aCons (eV 0) (aCons (eC (.ty "list")) aNil)))) (sRet (eC (.int 4))) sNil)
    (sRet (eIf (tB (eB bIsInst (aCons (eV 0) (aCons (eC (.ty "tuple")) aNil)))) (eC (.int 5)) (eC (.int 6))))))))
def fn__law_sort : List U → FR := fnOf false false 1 1 b__law_sort
def b__law_same (φ : List U → FR) : SF :=
    (sSeq (sIf (tB (e2 uNe (eCall fn__law_sort (aCons (eV 0) aNil)) (eCall fn__law_sort (aCons (eV 1) aNil)))) (sRet (eC (.bl false))) sNil)
    (sSeq (sIf (tAnd (tB (e2 uGtI (eCall fn__law_sort (aCons (eV 0) aNil)) (eC (.int 3)))) (tB (e2 uLtI (eCall fn__law_sort (aCons (eV 0) aNil)) (eC (.int 6))))) (sSeq (sIf (tB (e2 uNe (eB bLen (aCons (eV 0) aNil)) (eB bLen (aCons (eV 1) aNil)))) (sRet (eC (.bl false))) sNil)
    (sRet (e2 uEq (eComp [2, 3] (iEnum (aCons (eV 0) aNil)) (gT (gsCons (gN 2) (gsCons (gN 3) gsNil))) (tNot (tB (eCall φ (aCons (eV 3) (aCons (e2 uIx (eV 1) (eV 2)) aNil))))) (eV 2)) (eLst aNil)))) sNil)
    (sRet (e2 uEq (eV 0) (eV 1)))))
def fn__law_same : Nat → List U → FR
  | 0 => fun _ => .stuck
  | j + 1 => fnOf false false 4 2 (b__law_same (fn__law_same j))
def b__law_pick : SF :=
    (sSeq (sIf (tB (e2 uGtI (eIxM 0 uIx (eC (.int 0))) (eC (.int 1)))) (sSeq (sSet 2 (e2 uMod (eIxM 0 uIx (eC (.int 0))) (eV 1)))
    (sSeq (sPut 0 (eC (.int 0)) (e2 uFdiv (eIxM 0 uIx (eC (.int 0))) (eV 1)))
    (sRet (eV 2)))) sNil)
    (sSeq (sPut 0 (eC (.int 2)) (e2 uAdd (eIxM 0 uIx (eC (.int 2))) (eC (.int 1))))
    (sSeq (sSet 3 (e2 uMod (e2 uPow (e2 uAdd (eIxM 0 uIx (eC (.int 1))) (e2 uMul (eC (.int 15485867)) (eIxM 0 uIx (eC (.int 2))))) (eC (.int 5))) (eC (.int 2147483647))))
    (sSeq (sSet 2 (e2 uFdiv (e2 uMod (e2 uPow (e2 uAdd (eV 3) (e2 uMul (eC (.int 7919)) (eIxM 0 uIx (eC (.int 2))))) (eC (.int 3))) (eC (.int 2147483629))) (eC (.int 32))))
    (sSeq (sIf (tB (e2 uGtI (eV 1) (eC (.int 1000000)))) (sRet (e2 uMod (e2 uAdd (e2 uMul (eV 2) (eC (.int 2147483563))) (eV 3)) (eV 1))) sNil)
    (sRet (e2 uMod (eV 2) (eV 1))))))))
def fn__law_pick : List U → FR := fnOf true false 4 2 b__law_pick
def b__law_one : SF :=
    (sRet (e2 uIx (eV 1) (eCallD 0 fn__law_pick (aCons (eB bLen (aCons (eV 1) aNil)) aNil))))
def fn__law_one : List U → FR := fnOf true false 2 2 b__law_one
def l__law_piece_1 : SF :=
    (sSeq (sSet 10 (eCallD 0 fn__law_pick (aCons (eC (.int 8)) aNil)))
    (sSeq (sSet 11 (e2 uAdd (eV 8) (e2 uIx (eV 4) (eV 9))))
    (sSeq (sSet 8 (eIf (tAnd (tB (e2 uEq (eV 10) (eC (.int 0)))) (tB (e2 uLeI (eV 11) (eV 5)))) (eV 11) (e2 uIx (eV 4) (eV 9))))
    (sIf (tB (e2 uGtI (eV 8) (e2 uIx (eV 4) (eV 9)))) (sAppend 6 (eV 9)) (sIf (tB (e2 uEq (eV 10) (eC (.int 1)))) (sAppend 7 (eV 9)) sNil)))))
def b__law_piece : SF :=
    (sSeq (sSet 3 (eCallD 0 fn__law_one (aCons (eLst (aCons (eC (.int 1)) (aCons (eC (.int 3)) (aCons (eC (.int 20)) aNil)))) aNil)))
    (sSeq (sSet 4 (eB bTuple (aCons (eComp [12] (iRange1 (aCons (e2 uAdd (eV 1) (eCallD 0 fn__law_pick (aCons (e2 uAdd (e2 uSub (eV 2) (eV 1)) (eC (.int 1))) aNil))) aNil)) (gN 12) tTrue (e2 uAdd (eC (.int 1)) (eCallD 0 fn__law_pick (aCons (eV 3) aNil)))) aNil)))
    (sSeq (sSet 5 (eB bMin2 (aCons (eC (.int 100)) (aCons (e2 uAdd (eB bMax1 (aCons (eV 4) aNil)) (eCallD 0 fn__law_pick (aCons (eCallD 0 fn__law_one (aCons (eLst (aCons (eC (.int 3)) (aCons (e2 uMul (eC (.int 3)) (eV 3)) (aCons (eB bSum (aCons (eV 4) aNil)) aNil)))) aNil)) aNil))) aNil))))
    (sSeq (sPar (gNs [6, 7, 8]) (aCons (eLst aNil) (aCons (eLst aNil) (aCons (e2 uIx (eV 4) (eC (.int 0))) aNil))))
    (sSeq (sFor (iRange2 (aCons (eC (.int 1)) (aCons (eB bLen (aCons (eV 4) aNil)) aNil))) (gN 9) l__law_piece_1)
    (sRet (eTup (aCons (eV 4) (aCons (eV 5) (aCons (eB bTuple (aCons (eV 6) aNil)) (aCons (eB bTuple (aCons (eV 7) aNil)) aNil)))))))))))
def fn__law_piece : List U → FR := fnOf true false 13 3 b__law_piece
def l__law_numbers_1 : SF :=
    (sSeq (sSet 3 (e2 uAdd (eV 3) (eB bInt (aCons (e2 uIn (eV 4) (eV 1)) aNil))))
    (sAppend 2 (eV 3)))
def b__law_numbers : SF :=
    (sSeq (sPar (gNs [2, 3]) (aCons (eLst aNil) (aCons (eC (.int 1)) aNil)))
    (sSeq (sFor (iRange1 (aCons (eV 0) aNil)) (gN 4) l__law_numbers_1)
    (sRet (eV 2))))
def fn__law_numbers : List U → FR := fnOf false false 5 2 b__law_numbers
def l__law_random_1 : SF :=
    (sSeq (sSet 11 (eB bSum (aCons (eSl (eV 2) (oSome (eV 9)) (oSome (eV 10))) aNil)))
    (sSeq (sSet 12 (eOr (e2 uIn (eV 9) (eV 5)) (e2 uGtI (e2 uAdd (eV 8) (eV 11)) (eV 3))))
    (sSeq (sIf (tAnd (tB (e2 uGtI (eV 9) (eC (.int 0)))) (tOr (tB (eV 12)) (tB (e2 uEq (eCallD 0 fn__law_pick (aCons (eC (.int 3)) aNil)) (eC (.int 0)))))) (sSeq (sAppend 7 (eV 9))
    (sSet 8 (eC (.int 0)))) sNil)
    (sSet 8 (e2 uAdd (eV 8) (eV 11))))))
def b__law_random : SF :=
    (sSeq (sAsg (eV 1) (gT (gsCons (gN 2) (gsCons (gN 3) (gsCons (gN 4) (gsCons (gN 5) gsNil))))))
    (sSeq (sSet 6 (e2 uAdd (e2 uAdd (eLst (aCons (eC (.int 0)) aNil)) (eComp [13] (iRange2 (aCons (eC (.int 1)) (aCons (eB bLen (aCons (eV 2) aNil)) aNil))) (gN 13) (tB (e2 uNotIn (eV 13) (eV 4))) (eV 13))) (eLst (aCons (eB bLen (aCons (eV 2) aNil)) aNil))))
    (sSeq (sPar (gNs [7, 8]) (aCons (eLst aNil) (aCons (eC (.int 0)) aNil)))
    (sSeq (sFor (iZip2 (aCons (eV 6) (aCons (eSl (eV 6) (oSome (eC (.int 1))) oNo) aNil))) (gT (gsCons (gN 9) (gsCons (gN 10) gsNil))) l__law_random_1)
    (sRet (eB bTuple (aCons (eV 7) aNil)))))))
def fn__law_random : List U → FR := fnOf true false 14 2 b__law_random
def l__law_wishes_1 : SF :=
    (sIf (tB (e2 uEq (eCallD 0 fn__law_pick (aCons (eV 4) aNil)) (eC (.int 0)))) (sSeq (sSet 9 (e2 uIx (eLst (aCons (eC (.str [117, 112])) (aCons (eC (.str [100, 111, 119, 110])) aNil))) (e2 uMod (eV 8) (eC (.int 2)))))
    (sAppend 3 (eTup (aCons (eV 7) (aCons (eIf (tB (eV 6)) (eV 9) (eCallD 0 fn__law_one (aCons (eLst (aCons (eC (.str [117, 112])) (aCons (eC (.str [100, 111, 119, 110])) aNil))) aNil))) aNil))))) sNil)
def b__law_wishes : SF :=
    (sSeq (sPar (gNs [2, 3]) (aCons (eB bLen (aCons (e2 uIx (eV 1) (eC (.int 0))) aNil)) (aCons (eLst aNil) aNil)))
    (sSeq (sPar (gNs [4, 5]) (aCons (eCallD 0 fn__law_one (aCons (eLst (aCons (eC (.int 2)) (aCons (eC (.int 3)) (aCons (eC (.int 6)) aNil)))) aNil)) (aCons (eCallD 0 fn__law_random (aCons (eV 1) aNil)) aNil)))
    (sSeq (sSet 6 (e2 uGtI (eCallD 0 fn__law_pick (aCons (eC (.int 3)) aNil)) (eC (.int 0))))
    (sSeq (sFor (iEnum (aCons (eCall fn__law_numbers (aCons (eV 2) (aCons (eV 5) aNil))) aNil)) (gT (gsCons (gN 7) (gsCons (gN 8) gsNil))) l__law_wishes_1)
    (sRet (eB bTuple (aCons (eV 3) aNil)))))))
def fn__law_wishes : List U → FR := fnOf true false 10 2 b__law_wishes
def b__law_whole : SF :=
    (sRet (eAnd (eB bIsInst (aCons (eV 0) (aCons (eC (.ty "int")) aNil))) (eNot (eB bIsInst (aCons (eV 0) (aCons (eC (.ty "bool")) aNil))))))
def fn__law_whole : List U → FR := fnOf false false 1 1 b__law_whole
def l__law_are_wishes_1 : SF :=
    (sSeq (sIf (tOr (tNot (tB (eB bIsInst (aCons (eV 3) (aCons (eC (.ty "tuple")) aNil))))) (tOr (tB (e2 uNe (eB bLen (aCons (eV 3) aNil)) (eC (.int 2)))) (tNot (tB (eCall fn__law_whole (aCons (e2 uIx (eV 3) (eC (.int 0))) aNil)))))) (sRet (eC (.bl false))) sNil)
    (sSeq (sIf (tNot (tB (eChain uLtI uLtI (eV 2) (e2 uIx (eV 3) (eC (.int 0))) (eV 0)))) (sRet (eC (.bl false))) sNil)
    (sSeq (sIf (tOr (tNot (tB (eB bIsInst (aCons (e2 uIx (eV 3) (eC (.int 1))) (aCons (eC (.ty "str")) aNil))))) (tB (e2 uNotIn (e2 uIx (eV 3) (eC (.int 1))) (eTup (aCons (eC (.str [100, 111, 119, 110])) (aCons (eC (.str [117, 112])) aNil)))))) (sRet (eC (.bl false))) sNil)
    (sSet 2 (e2 uIx (eV 3) (eC (.int 0)))))))
def b__law_are_wishes : SF :=
    (sSeq (sIf (tNot (tB (eB bIsInst (aCons (eV 1) (aCons (eC (.ty "tuple")) aNil))))) (sRet (eC (.bl false))) sNil)
    (sSeq (sSet 2 (e1 uNeg (eC (.int 1))))
    (sSeq (sFor (iSeq (eV 1)) (gN 3) l__law_are_wishes_1)
    (sRet (eC (.bl true))))))
def fn__law_are_wishes : List U → FR := fnOf false false 4 2 b__law_are_wishes
def b_ends_of : SF :=
    (sSeq (sSet 2 (e2 uAdd (e2 uAdd (eTup (aCons (eC (.int 0)) aNil)) (eV 1)) (eTup (aCons (eB bLen (aCons (e2 uIx (eV 0) (eC (.int 0))) aNil)) aNil))))
    (sRet (eListZip (aCons (eV 2) (aCons (eSl (eV 2) (oSome (eC (.int 1))) oNo) aNil)))))
def fn_ends_of : List U → FR := fnOf false false 3 2 b_ends_of
def l_good_bowing_1 : SF :=
    (sIf (tNot (tB (eCall fn_stroke_right (aCons (eV 0) (aCons (eV 1) (aCons (eV 4) (aCons (eV 5) (aCons (eCall fn_direction_of (aCons (eV 1) (aCons (e2 uAdd (eV 3) (eC (.int 1))) aNil))) aNil)))))))) (sRet (eC (.bl false))) sNil)
def b_good_bowing : SF :=
    (sSeq (sIf (tNot (tB (eCall fn_are_gaps (aCons (eB bLen (aCons (e2 uIx (eV 0) (eC (.int 0))) aNil)) (aCons (eV 2) aNil))))) (sRet (eC (.bl false))) sNil)
    (sSeq (sFor (iEnum (aCons (eCall fn_ends_of (aCons (eV 0) (aCons (eV 2) aNil))) aNil)) (gT (gsCons (gN 3) (gsCons (gT (gsCons (gN 4) (gsCons (gN 5) gsNil))) gsNil))) l_good_bowing_1)
    (sRet (eC (.bl true)))))
def fn_good_bowing : List U → FR := fnOf false false 6 3 b_good_bowing
def b_is_bowing : SF :=
    (sSeq (sExpr (eCall fn_need_wishes (aCons (eV 0) (aCons (eV 1) aNil))))
    (sRet (eCall fn_good_bowing (aCons (eV 0) (aCons (eV 1) (aCons (eV 2) aNil))))))
def fn_is_bowing : List U → FR := fnOf false false 3 3 b_is_bowing
def b_need_bowing : SF :=
    (sIf (tNot (tB (eCall fn_good_bowing (aCons (eV 0) (aCons (eV 1) (aCons (eV 2) aNil)))))) (sRaise "InvalidBowing") sNil)
def fn_need_bowing : List U → FR := fnOf false false 3 3 b_need_bowing
def l_numbers_of_1 : SF :=
    (sSet 2 (eBorrowF (e2 (lo uAdd) (eV 2) (e2 uRep (eLst (aCons (e2 uAdd (eV 3) (eC (.int 1))) aNil)) (e2 uSub (eV 5) (eV 4))))))
def b_numbers_of : SF :=
    (sSeq (sSet 2 (eLst aNil))
    (sSeq (sFor (iEnum (aCons (eCall fn_ends_of (aCons (eV 0) (aCons (eV 1) aNil))) aNil)) (gT (gsCons (gN 3) (gsCons (gT (gsCons (gN 4) (gsCons (gN 5) gsNil))) gsNil))) l_numbers_of_1)
    (sRet (eV 2))))
def fn_numbers_of : List U → FR := fnOf false true 6 2 b_numbers_of
def b_stroke_numbers : SF :=
    (sSeq (sExpr (eCall fn_need_wishes (aCons (eV 0) (aCons (eV 1) aNil))))
    (sSeq (sExpr (eCall fn_need_bowing (aCons (eV 0) (aCons (eV 1) (aCons (eV 2) aNil)))))
    (sRet (eCall fn_numbers_of (aCons (eV 0) (aCons (eV 2) aNil))))))
def fn_stroke_numbers : List U → FR := fnOf false true 3 3 b_stroke_numbers
def b_directions : SF :=
    (sSeq (sExpr (eCall fn_need_wishes (aCons (eV 0) (aCons (eV 1) aNil))))
    (sSeq (sExpr (eCall fn_need_bowing (aCons (eV 0) (aCons (eV 1) (aCons (eV 2) aNil)))))
    (sRet (eComp [3] (iSeq (eCall fn_numbers_of (aCons (eV 0) (aCons (eV 2) aNil)))) (gN 3) tTrue (eCall fn_direction_of (aCons (eV 1) (aCons (eV 3) aNil)))))))
def fn_directions : List U → FR := fnOf false false 4 3 b_directions
def b_lower : SF :=
    (sSeq (sExpr (eCall fn_need_wishes (aCons (eV 0) (aCons (eV 1) aNil))))
    (sSeq (sExpr (eCall fn_need_bowing (aCons (eV 0) (aCons (eV 1) (aCons (eV 2) aNil)))))
    (sSeq (sExpr (eCall fn_need_bowing (aCons (eV 0) (aCons (eV 1) (aCons (eV 3) aNil)))))
    (sRet (eCall fn_breaks_of (aCons (eComp [4, 5] (iZip2 (aCons (eCall fn_numbers_of (aCons (eV 0) (aCons (eV 2) aNil))) (aCons (eCall fn_numbers_of (aCons (eV 0) (aCons (eV 3) aNil))) aNil))) (gT (gsCons (gN 4) (gsCons (gN 5) gsNil))) tTrue (eB bMin2 (aCons (eV 4) (aCons (eV 5) aNil)))) aNil))))))
def fn_lower : List U → FR := fnOf false false 6 4 b_lower
def b_upper : SF :=
    (sSeq (sExpr (eCall fn_need_wishes (aCons (eV 0) (aCons (eV 1) aNil))))
    (sSeq (sExpr (eCall fn_need_bowing (aCons (eV 0) (aCons (eV 1) (aCons (eV 2) aNil)))))
    (sSeq (sExpr (eCall fn_need_bowing (aCons (eV 0) (aCons (eV 1) (aCons (eV 3) aNil)))))
    (sRet (eCall fn_breaks_of (aCons (eComp [4, 5] (iZip2 (aCons (eCall fn_numbers_of (aCons (eV 0) (aCons (eV 2) aNil))) (aCons (eCall fn_numbers_of (aCons (eV 0) (aCons (eV 3) aNil))) aNil))) (gT (gsCons (gN 4) (gsCons (gN 5) gsNil))) tTrue (eB bMax2 (aCons (eV 4) (aCons (eV 5) aNil)))) aNil))))))
def fn_upper : List U → FR := fnOf false false 6 4 b_upper
def l__law_sets_1 : SF :=
    (sSet 1 (e2 uAdd (eV 1) (eComp [3] (iSeq (eV 1)) (gN 3) tTrue (e2 uAdd (eV 3) (eTup (aCons (eV 2) aNil))))))
def b__law_sets : SF :=
    (sSeq (sSet 1 (eLst (aCons (eTup aNil) aNil)))
    (sSeq (sFor (iRange2 (aCons (eC (.int 1)) (aCons (eV 0) aNil))) (gN 2) l__law_sets_1)
    (sRet (eB bSorted (aCons (eV 1) aNil)))))
def fn__law_sets : List U → FR := fnOf false false 4 1 b__law_sets
def b__law_first : SF :=
    (sRet (eIf (tB (e2 uIn (eTup (aCons (eC (.int 0)) (aCons (eC (.str [117, 112])) aNil))) (eV 0))) (eC (.str [117, 112])) (eC (.str [100, 111, 119, 110]))))
def fn__law_first : List U → FR := fnOf false false 1 1 b__law_first
def b__law_way : SF :=
    (sRet (e2 uIx (eLst (aCons (eC (.str [117, 112])) (aCons (eC (.str [100, 111, 119, 110])) aNil))) (e2 uMod (e2 uAdd (eV 1) (eB bInt (aCons (e2 uEq (eCall fn__law_first (aCons (eV 0) aNil)) (eC (.str [117, 112]))) aNil))) (eC (.int 2)))))
def fn__law_way : List U → FR := fnOf false false 2 2 b__law_way
def l__law_good_1 : SF :=
    (sIf (tB (e2 uGtI (eB bSum (aCons (eComp [10, 11] (iZip2 (aCons (eV 3) (aCons (eV 7) aNil))) (gT (gsCons (gN 10) (gsCons (gN 11) gsNil))) (tB (e2 uEq (eV 11) (eV 8))) (eV 10)) aNil)) (eV 4))) (sRet (eC (.bl false))) sNil)
def b__law_good : SF :=
    (sSeq (sAsg (eV 0) (gT (gsCons (gN 3) (gsCons (gN 4) (gsCons (gN 5) (gsCons (gN 6) gsNil))))))
    (sSeq (sSet 7 (eCall fn__law_numbers (aCons (eB bLen (aCons (eV 3) aNil)) (aCons (eV 2) aNil))))
    (sSeq (sIf (tOr (tB (e2 uNe (eComp [9] (iSeq (eV 2)) (gN 9) (tB (e2 uIn (eV 9) (eV 5))) (eV 9)) (eLst aNil))) (tB (e2 uNe (eComp [9] (iSeq (eV 6)) (gN 9) (tB (e2 uNotIn (eV 9) (eV 2))) (eV 9)) (eLst aNil)))) (sRet (eC (.bl false))) sNil)
    (sSeq (sFor (iRange2 (aCons (eC (.int 1)) (aCons (e2 uAdd (e2 uIx (eV 7) (e1 uNeg (eC (.int 1)))) (eC (.int 1))) aNil))) (gN 8) l__law_good_1)
    (sRet (e2 uEq (eComp [12, 13] (iSeq (eV 1)) (gT (gsCons (gN 12) (gsCons (gN 13) gsNil))) (tB (e2 uNe (eCall fn__law_way (aCons (eV 1) (aCons (e2 uIx (eV 7) (eV 12)) aNil))) (eV 13))) (eV 12)) (eLst aNil)))))))
def fn__law_good : List U → FR := fnOf false false 14 3 b__law_good
def b__law_right : SF :=
    (sSeq (sSet 3 (eCall fn__law_good (aCons (eV 0) (aCons (eV 1) (aCons (eV 2) aNil)))))
    (sSeq (sIf (tNot (tB (eCall (fn__law_same 4) (aCons (eCall fn_is_bowing (aCons (eV 0) (aCons (eV 1) (aCons (eV 2) aNil)))) (aCons (eV 3) aNil))))) (sRet (eC (.bl false))) sNil)
    (sSeq (sIf (tNot (tB (eV 3))) (sRet (eC (.bl true))) sNil)
    (sSeq (sSet 4 (eCall fn__law_numbers (aCons (eB bLen (aCons (e2 uIx (eV 0) (eC (.int 0))) aNil)) (aCons (eV 2) aNil))))
    (sSeq (sSet 5 (eCall fn_stroke_numbers (aCons (eV 0) (aCons (eV 1) (aCons (eV 2) aNil)))))
    (sSeq (sIf (tNot (tB (eBorrow (eCall (fn__law_same 4) (aCons (eV 5) (aCons (eV 4) aNil)))))) (sRet (eC (.bl false))) sNil)
    (sSeq (sAppend 5 (eC (.int 0)))
    (sSeq (sIf (tB (e2 uNe (eCall fn_stroke_numbers (aCons (eV 0) (aCons (eV 1) (aCons (eV 2) aNil)))) (eV 4))) (sRet (eC (.bl false))) sNil)
    (sRet (eCall (fn__law_same 4) (aCons (eCall fn_directions (aCons (eV 0) (aCons (eV 1) (aCons (eV 2) aNil)))) (aCons (eComp [6] (iSeq (eV 4)) (gN 6) tTrue (eCall fn__law_way (aCons (eV 1) (aCons (eV 6) aNil)))) aNil))))))))))))
def fn__law_right : List U → FR := fnOf false false 7 3 b__law_right
def b__law_all : SF :=
    (sRet (eComp [2] (iSeq (eCall fn__law_sets (aCons (eB bLen (aCons (e2 uIx (eV 0) (eC (.int 0))) aNil)) aNil))) (gN 2) (tB (eCall fn__law_good (aCons (eV 0) (aCons (eV 1) (aCons (eV 2) aNil))))) (eV 2)))
def fn__law_all : List U → FR := fnOf false false 3 2 b__law_all
def b__law_breaks : SF :=
    (sRet (eB bTuple (aCons (eComp [1] (iRange2 (aCons (eC (.int 1)) (aCons (eB bLen (aCons (eV 0) aNil)) aNil))) (gN 1) (tB (e2 uGtI (e2 uIx (eV 0) (eV 1)) (e2 uIx (eV 0) (e2 uSub (eV 1) (eC (.int 1)))))) (eV 1)) aNil)))
def fn__law_breaks : List U → FR := fnOf false false 2 1 b__law_breaks
def b__law_pair_right : SF :=
    (sSeq (sPar (gNs [4, 5]) (aCons (eCall fn__law_numbers (aCons (eB bLen (aCons (e2 uIx (eV 0) (eC (.int 0))) aNil)) (aCons (eV 2) aNil))) (aCons (eCall fn__law_numbers (aCons (eB bLen (aCons (e2 uIx (eV 0) (eC (.int 0))) aNil)) (aCons (eV 3) aNil))) aNil)))
    (sSeq (sSet 6 (eCall fn__law_breaks (aCons (eComp [8, 9] (iZip2 (aCons (eV 4) (aCons (eV 5) aNil))) (gT (gsCons (gN 8) (gsCons (gN 9) gsNil))) tTrue (eB bMin2 (aCons (eV 8) (aCons (eV 9) aNil)))) aNil)))
    (sSeq (sSet 7 (eCall fn__law_breaks (aCons (eComp [8, 9] (iZip2 (aCons (eV 4) (aCons (eV 5) aNil))) (gT (gsCons (gN 8) (gsCons (gN 9) gsNil))) tTrue (eB bMax2 (aCons (eV 8) (aCons (eV 9) aNil)))) aNil)))
    (sSeq (sIf (tOr (tNot (tB (eCall (fn__law_same 4) (aCons (eCall fn_lower (aCons (eV 0) (aCons (eV 1) (aCons (eV 2) (aCons (eV 3) aNil))))) (aCons (eV 6) aNil))))) (tNot (tB (eCall (fn__law_same 4) (aCons (eCall fn_upper (aCons (eV 0) (aCons (eV 1) (aCons (eV 2) (aCons (eV 3) aNil))))) (aCons (eV 7) aNil)))))) (sRet (eC (.bl false))) sNil)
    (sSeq (sIf (tOr (tNot (tB (eCall fn__law_good (aCons (eV 0) (aCons (eV 1) (aCons (eV 6) aNil)))))) (tNot (tB (eCall fn__law_good (aCons (eV 0) (aCons (eV 1) (aCons (eV 7) aNil))))))) (sRet (eC (.bl false))) sNil)
    (sRet (eAnd (e2 uEq (eCall fn_lower (aCons (eV 0) (aCons (eV 1) (aCons (eV 3) (aCons (eV 2) aNil))))) (eV 6)) (e2 uEq (eCall fn_lower (aCons (eV 0) (aCons (eV 1) (aCons (eV 2) (aCons (eV 7) aNil))))) (eV 2)))))))))
def fn__law_pair_right : List U → FR := fnOf false false 10 4 b__law_pair_right
def b__law_unlike : SF :=
    (sRet (e2 uAdd (eB bLen (aCons (eComp [2] (iSeq (eV 0)) (gN 2) (tB (e2 uNotIn (eV 2) (eV 1))) (eV 2)) aNil)) (eB bLen (aCons (eComp [2] (iSeq (eV 1)) (gN 2) (tB (e2 uNotIn (eV 2) (eV 0))) (eV 2)) aNil))))
def fn__law_unlike : List U → FR := fnOf false false 3 2 b__law_unlike
def b__law_written : SF :=
    (sRet (eB bTuple (aCons (eComp [2] (iRange2 (aCons (eC (.int 1)) (aCons (eV 1) aNil))) (gN 2) (tB (e2 uEq (eCallD 0 fn__law_pick (aCons (eC (.int 3)) aNil)) (eC (.int 0)))) (eV 2)) aNil)))
def fn__law_written : List U → FR := fnOf true false 3 2 b__law_written
def l__law_wrong_1 : SF :=
    (sSeq (sSet 8 (eB bLen (aCons (eComp [9] (iSeq (eV 2)) (gN 9) (tB (eChain uLtI uLeI (eV 4) (eV 9) (eV 6))) (eV 9)) aNil)))
    (sSeq (sSet 3 (e2 uAdd (eV 3) (eB bInt (aCons (e2 uNe (e2 uEq (e2 uMod (eV 8) (eC (.int 2))) (eC (.int 0))) (e2 uEq (eV 7) (eV 5))) aNil))))
    (sAsg (eTup (aCons (eV 6) (aCons (eV 7) aNil))) (gT (gsCons (gN 4) (gsCons (gN 5) gsNil))))))
def b__law_wrong : SF :=
    (sSeq (sAsg (eTup (aCons (eC (.int 0)) (aCons (eC (.int 0)) (aCons (eCall fn__law_first (aCons (eV 1) aNil)) aNil)))) (gT (gsCons (gN 3) (gsCons (gN 4) (gsCons (gN 5) gsNil)))))
    (sSeq (sFor (iSeq (eV 1)) (gT (gsCons (gN 6) (gsCons (gN 7) gsNil))) l__law_wrong_1)
    (sRet (eV 3))))
def fn__law_wrong : List U → FR := fnOf false false 10 3 b__law_wrong
def l__law_ways_1 : SF :=
    (sSeq (sIf (tAnd (tB (e2 uIn (eV 6) (eV 2))) (tB (e2 uNotIn (eV 6) (eV 3)))) (sSet 5 (eIf (tB (e2 uEq (eV 5) (eC (.str [100, 111, 119, 110])))) (eC (.str [117, 112])) (eC (.str [100, 111, 119, 110])))) sNil)
    (sAppend 4 (eV 5)))
def b__law_ways : SF :=
    (sSeq (sPar (gNs [4, 5]) (aCons (eLst aNil) (aCons (eCall fn__law_first (aCons (eV 1) aNil)) aNil)))
    (sSeq (sFor (iRange1 (aCons (eB bLen (aCons (e2 uIx (eV 0) (eC (.int 0))) aNil)) aNil)) (gN 6) l__law_ways_1)
    (sRet (eV 4))))
def fn__law_ways : List U → FR := fnOf false false 7 4 b__law_ways
def b__law_done : SF :=
    (sSeq (sIf (tOr (tB (e2 uNe (eComp [5] (iSeq (eV 3)) (gN 5) (tB (e2 uNotIn (eV 5) (eV 2))) (eV 5)) (eLst aNil))) (tNot (tB (eCall fn__law_good (aCons (eV 0) (aCons (eTup aNil) (aCons (eV 2) aNil))))))) (sRet (eC (.bl false))) sNil)
    (sSeq (sSet 4 (eCall fn__law_ways (aCons (eV 0) (aCons (eV 1) (aCons (eV 2) (aCons (eV 3) aNil))))))
    (sRet (e2 uEq (eComp [6, 7] (iSeq (eV 1)) (gT (gsCons (gN 6) (gsCons (gN 7) gsNil))) (tB (e2 uNe (e2 uIx (eV 4) (eV 6)) (eV 7))) (eV 6)) (eLst aNil)))))
def fn__law_done : List U → FR := fnOf false false 8 4 b__law_done
def l__law_least_1 : SF :=
    (sSet 4 (e2 uAdd (eV 4) (eComp [7] (iSeq (eV 4)) (gN 7) tTrue (e2 uAdd (eV 7) (eTup (aCons (eV 5) aNil))))))
def l__law_least_2 : SF :=
    (sIf (tAnd (tOr (tB (e2 uIsB (eV 2) (eC .non))) (tB (e2 uLtI (eB bLen (aCons (eV 6) aNil)) (eV 2)))) (tB (eCall fn__law_done (aCons (eV 0) (aCons (eV 1) (aCons (eV 3) (aCons (eV 6) aNil))))))) (sSet 2 (eB bLen (aCons (eV 6) aNil))) sNil)
def l__law_least_3 : SF :=
    (sSeq (sSet 4 (eLst (aCons (eTup aNil) aNil)))
    (sSeq (sFor (iSeq (eV 3)) (gN 5) l__law_least_1)
    (sFor (iSeq (eV 4)) (gN 6) l__law_least_2)))
def b__law_least : SF :=
    (sSeq (sSet 2 (eC .non))
    (sSeq (sFor (iSeq (eCall fn__law_all (aCons (eV 0) (aCons (eTup aNil) aNil)))) (gN 3) l__law_least_3)
    (sRet (eV 2))))
def fn__law_least : List U → FR := fnOf false false 8 2 b__law_least
def b__law_moved : SF :=
    (sRet (eB bTuple (aCons (eComp [2] (iSeq (eV 0)) (gN 2) tTrue (e2 uAdd (eV 2) (eV 1))) aNil)))
def fn__law_moved : List U → FR := fnOf false false 3 2 b__law_moved
def l__law_sizes_1 : SF :=
    (sSeq (sAppend 2 (e2 uAdd (eC (.int 1)) (eCallD 0 fn__law_pick (aCons (eB bMin2 (aCons (eV 3) (aCons (eCallD 0 fn__law_one (aCons (eLst (aCons (eC (.int 1)) (aCons (eC (.int 3)) (aCons (eC (.int 30)) aNil)))) aNil)) aNil))) aNil))))
    (sSet 3 (e2 uSub (eV 3) (eIxM 2 uIx (e1 uNeg (eC (.int 1)))))))
def b__law_sizes : SF :=
    (sSeq (sPar (gNs [2, 3]) (aCons (eLst aNil) (aCons (eV 1) aNil)))
    (sSeq (sWhile 1000 (tAnd (tB (e2 uGtI (eV 3) (eC (.int 0)))) (tB (e2 uGtI (eCallD 0 fn__law_pick (aCons (eC (.int 6)) aNil)) (eC (.int 0))))) l__law_sizes_1)
    (sRet (eB bTuple (aCons (eV 2) aNil)))))
def fn__law_sizes : List U → FR := fnOf true false 4 2 b__law_sizes
def l__law_notes_1 : SF :=
    (sSeq (sSet 2 (e2 uAdd (eV 2) (e2 uRep (eLst (aCons (eV 3) aNil)) (eV 4))))
    (sSet 3 (eIf (tB (e2 uEq (eV 3) (eC (.str [100, 111, 119, 110])))) (eC (.str [117, 112])) (eC (.str [100, 111, 119, 110])))))
def b__law_notes : SF :=
    (sSeq (sPar (gNs [2, 3]) (aCons (eLst aNil) (aCons (eV 0) aNil)))
    (sSeq (sFor (iSeq (eV 1)) (gN 4) l__law_notes_1)
    (sRet (eTup (aCons (eV 2) (aCons (eV 3) aNil))))))
def fn__law_notes : List U → FR := fnOf false false 5 2 b__law_notes
def b__law_deed : SF :=
    (sSeq (sSet 2 (eCallD 0 fn__law_one (aCons (eLst (aCons (eC (.str [115, 116, 114, 111, 107, 101])) (aCons (eC (.str [115, 116, 114, 111, 107, 101])) (aCons (eC (.str [115, 108, 117, 114])) (aCons (eC (.str [115, 108, 117, 114])) (aCons (eC (.str [114, 101, 116, 97, 107, 101])) (aCons (eC (.str [117, 110, 100, 111])) aNil))))))) aNil)))
    (sSeq (sSet 3 (eCallD 0 fn__law_one (aCons (eLst (aCons (eC (.int 1)) (aCons (eC (.int 1)) (aCons (eC (.int 2)) (aCons (eC (.int 3)) (aCons (eC (.int 0)) aNil)))))) aNil)))
    (sSeq (sSet 4 (eB bMin2 (aCons (eC (.int 20)) (aCons (eB bMax2 (aCons (eC (.int 1)) (aCons (e2 uFdiv (eV 1) (eCallD 0 fn__law_one (aCons (eLst (aCons (eC (.int 1)) (aCons (eC (.int 3)) (aCons (eC (.int 6)) aNil)))) aNil))) aNil))) aNil))))
    (sSeq (sSet 5 (eB bTuple (aCons (eComp [6] (iRange1 (aCons (eV 3) aNil)) (gN 6) tTrue (e2 uAdd (eC (.int 1)) (eCallD 0 fn__law_pick (aCons (eV 4) aNil)))) aNil)))
    (sSeq (sIf (tB (e2 uEq (eCallD 0 fn__law_pick (aCons (eC (.int 9)) aNil)) (eC (.int 0)))) (sSet 5 (e2 uAdd (eV 5) (eTup (aCons (eCallD 0 fn__law_one (aCons (eLst (aCons (eC (.int 0)) (aCons (eC (.int 21)) (aCons (eC .non) (aCons (eC (.bl true)) (aCons (eC (.str [49])) (aCons (eC (.int 20)) aNil))))))) aNil)) aNil)))) sNil)
    (sRet (eTup (aCons (eV 2) (aCons (eV 5) aNil)))))))))
def fn__law_deed : List U → FR := fnOf true false 7 2 b__law_deed
def b__law_freer : SF :=
    (sSeq (sAsg (eV 1) (gT (gsCons (gN 2) (gsCons (gN 3) (gsCons (gN 4) (gsCons (gN 5) gsNil))))))
    (sSeq (sSet 6 (eCallD 0 fn__law_pick (aCons (eC (.int 3)) aNil)))
    (sSeq (sIf (tOr (tB (e2 uEq (eV 6) (eC (.int 0)))) (tB (e2 uEq (e2 uAdd (eV 4) (eV 5)) (eTup aNil)))) (sRet (eTup (aCons (eV 2) (aCons (eB bMin2 (aCons (eC (.int 100)) (aCons (e2 uAdd (e2 uAdd (eV 3) (eC (.int 1))) (eCallD 0 fn__law_pick (aCons (eC (.int 20)) aNil))) aNil))) (aCons (eV 4) (aCons (eV 5) aNil)))))) sNil)
    (sSeq (sSet 7 (eCallD 0 fn__law_one (aCons (eB bList (aCons (e2 uAdd (eV 4) (eV 5)) aNil)) aNil)))
    (sRet (eTup (aCons (eV 2) (aCons (eV 3) (aCons (eB bTuple (aCons (eComp [8] (iSeq (eV 4)) (gN 8) (tB (e2 uNe (eV 8) (eV 7))) (eV 8)) aNil)) (aCons (eB bTuple (aCons (eComp [8] (iSeq (eV 5)) (gN 8) (tB (e2 uNe (eV 8) (eV 7))) (eV 8)) aNil)) aNil))))))))))
def fn__law_freer : List U → FR := fnOf true false 9 2 b__law_freer
end LB
set_option maxHeartbeats 1000000
/-! MBow: the library's functions about pieces, wishes, bowings on well-formed values -/
namespace LB
open Q
open PySem (Str)
def upU : List Nat := [117, 112]
def dnU : List Nat := [100, 111, 119, 110]
def wd (b : Bool) : U := .str (if b then [117, 112] else [100, 111, 119, 110])
def encP (ls : List Int) (bow : Int) (jn sp : List Int) : U := .tup [.tup (ls.map .int), .int bow, .tup (jn.map .int), .tup (sp.map .int)]
def encW (ws : List (Int × Bool)) : U := .tup (ws.map fun w => .tup [.int w.1, wd w.2])
@[simp] theorem ty_i_int (i : Int) : bIsInst [.int i, .ty "int"] = some (.bl true) := by simp [bIsInst, tyOf]
@[simp] theorem ty_i_bool (i : Int) : bIsInst [.int i, .ty "bool"] = some (.bl false) := by simp [bIsInst, tyOf]
@[simp] theorem ty_t_t (xs : List U) : bIsInst [.tup xs, .ty "tuple"] = some (.bl true) := by simp [bIsInst, tyOf]
@[simp] theorem ty_s_s (x : List Nat) : bIsInst [.str x, .ty "str"] = some (.bl true) := by simp [bIsInst, tyOf]
theorem s_is_from (i l h : Int) : fn_is_from [.int i, .int l, .int h] = .ok (.bl (decide (l ≤ i) && decide (i ≤ h))) .non := by
  simp [fn_is_from, fnOf, b_is_from, startU]
def inR (n g : Int) : Bool := decide (1 ≤ g) && decide (g ≤ n - 1)
def lt2 (p : Int × Int) : Bool := decide (p.1 < p.2)
def okGaps (n : Int) (gs : List Int) : Bool := gs.all (inR n) && (gs.zip gs.tail).all lt2
@[simp] theorem cut1 {α : Type} (xs : List α) : cutU xs (some 1) none = xs.tail := by
  unfold cutU sxU
  cases xs with
  | nil => rfl
  | cons x xs => simp
theorem zip_tail {α : Type} (f : α → U) (xs : List α) : zipU (xs.map f) (xs.map f).tail = (xs.zip xs.tail).map fun p => .tup [f p.1, f p.2] := by
  rw [← List.map_tail, zipU_map]
theorem s_are_gaps (n : Int) (gs : List Int) (hl : gs.length ≤ 100000) : fn_are_gaps [.int n, .tup (gs.map .int)] = .ok (.bl (okGaps n gs)) .non := by
  simp [fn_are_gaps, fnOf, b_are_gaps, startU]
  rw [eComp_true gs U.int (fun g => .bl (inR n g)) (by simp) hl (by
    intro x hx
    refine ⟨_, rfl, ?_, ?_⟩ <;> simp [wipeU, s_is_from, inR])]
  simp only [bind_ok, bAll_map, rs_some, of_ok]
  unfold okGaps
  generalize gs.all (inR n) = A
  cases A with
  | false => simp
  | true =>
    simp
    rw [eComp_true (gs.zip gs.tail) (fun p => .tup [.int p.1, .int p.2]) (fun p => .bl (lt2 p)) (by simp [zip_tail]) (by simp; omega) (by
      intro x hx
      refine ⟨_, rfl, ?_, ?_⟩ <;> simp [wipeU, lt2])]
    simp only [bind_ok, bAll_map, rs_some, of_ok, fnEnd_ret]
    simp
/-! ### wishes -/
def hasUp0 (ws : List (Int × Bool)) : Bool := ws.any fun w => w.1 == 0 && w.2
theorem okU_wish (w : Int × Bool) : plU (U.tup [.int w.1, wd w.2]) = true ∧ depU (U.tup [.int w.1, wd w.2]) ≤ 60 := by
  unfold wd
  cases w.2 <;> simp [plU, plUs, depU, depUs]
theorem okU_W (ws : List (Int × Bool)) : okU (encW ws) = true := okU_tup _ (fun w => (okU_wish w).1) (fun w => (okU_wish w).2) ws
theorem eqv_w0 (w : Int × Bool) : eqvU (.tup [.int w.1, wd w.2]) (.tup [.int 0, .str [117, 112]]) = (w.1 == 0 && w.2) := by
  unfold wd
  cases w.2 <;> simp [eqvU, eqvUs]
theorem in_W (ws : List (Int × Bool)) : uInB (.tup [.int 0, .str [117, 112]]) (encW ws) = some (hasUp0 ws) := by
  have h1 : okU (.tup [.int 0, .str [117, 112]]) = true := by decide
  have h2 := okU_W ws
  unfold encW at h2 ⊢
  simp only [uInB, h1, h2, Bool.and_self, if_true, List.any_map, hasUp0]
  rw [show ((fun z => eqvU z (U.tup [U.int 0, U.str [117, 112]])) ∘ fun (w : Int × Bool) => U.tup [U.int w.fst, wd w.snd]) = fun w => w.1 == 0 && w.2 from funext eqv_w0]
theorem s_first (ws : List (Int × Bool)) : fn_first_direction [encW ws] = .ok (wd (hasUp0 ws)) .non := by
  simp [fn_first_direction, fnOf, b_first_direction, startU, in_W]
  unfold wd
  cases hasUp0 ws <;> simp
theorem s_turned (b : Bool) : fn_turned [wd b] = .ok (wd !b) .non := by cases b <;> rfl
def dirK (ws : List (Int × Bool)) (k : Int) : Bool := if k % 2 = 1 then hasUp0 ws else !hasUp0 ws
theorem s_direction (ws : List (Int × Bool)) (k : Int) : fn_direction_of [encW ws, .int k] = .ok (wd (dirK ws k)) .non := by
  simp [fn_direction_of, fnOf, b_direction_of, startU, s_first, s_turned, uMod_i, dirK]
  split <;> rfl
@[simp] theorem uEq_wd (a b : Bool) : uEq (wd a) (wd b) = some (.bl (a == b)) := by cases a <;> cases b <;> rfl
@[simp] theorem uNe_wd (a b : Bool) : uNe (wd a) (wd b) = some (.bl (a != b)) := by cases a <;> cases b <;> rfl
/-! ### one stroke -/
def inS (s e : Int) (g : Int) : Bool := decide (s < g) && decide (g < e)
def atS (s e : Int) (w : Int × Bool) : Bool := decide (s ≤ w.1) && decide (w.1 < e)
def strokeOK (ls : List Int) (bow : Int) (jn sp : List Int) (ws : List (Int × Bool)) (s e : Int) (b : Bool) : Bool :=
  if bow < (cutU ls (some s) (some e)).sum ∨ e ∈ jn then false else if sp.any (inS s e) = true then false else ws.all fun w => !atS s e w || w.2 == b
theorem s_stroke_right (ls : List Int) (bow : Int) (jn sp : List Int) (ws : List (Int × Bool)) (s e : Int) (b : Bool) (h1 : sp.length ≤ 100000) (h2 : ws.length ≤ 100000) :
    fn_stroke_right [encP ls bow jn sp, encW ws, .int s, .int e, wd b] = .ok (.bl (strokeOK ls bow jn sp ws s e b)) .non := by
  simp [fn_stroke_right, fnOf, b_stroke_right, startU, encP]
  unfold strokeOK
  by_cases hA : bow < (cutU ls (some s) (some e)).sum ∨ e ∈ jn
  · rw [if_pos hA, if_pos hA]
  · rw [if_neg hA, if_neg hA]
    rw [eComp_true sp U.int (fun g => .bl (inS s e g)) (by simp) h1 (by
      intro x hx
      refine ⟨_, rfl, ?_, ?_⟩ <;> simp [wipeU, inS])]
    simp only [bind_ok, bAny_map, rs_some, of_ok, fnEnd_ret]
    generalize sp.any (inS s e) = B
    cases B with
    | true => simp
    | false =>
      simp
      rw [eComp_same ws (fun w => .tup [.int w.1, wd w.2]) (atS s e) (fun w => .bl (w.2 == b)) (by simp [encW]) h2 (by
        intro x hx
        refine ⟨_, rfl, ?_, fun _ => ?_, ?_⟩ <;> simp [wipeU, atS])]
      simp only [bind_ok, bAll_map, rs_some, of_ok, fnEnd_ret]
      simp
/-! ### strokes -/
def endsL (s : Int) : List Int → Int → List (Int × Int)
  | [], n => [(s, n)]
  | g :: gs, n => (s, g) :: endsL g gs n
theorem zip_ends : ∀ (gs : List Int) (s n : Int), (s :: (gs ++ [n])).zip (gs ++ [n]) = endsL s gs n
  | [], s, n => rfl
  | g :: gs, s, n => by
    rw [List.cons_append, List.zip_cons_cons, zip_ends gs g n]
    rfl
theorem endsL_len : ∀ (gs : List Int) (s n : Int), (endsL s gs n).length = gs.length + 1
  | [], s, n => rfl
  | g :: gs, s, n => by rw [endsL, List.length_cons, endsL_len gs g n, List.length_cons]
@[simp] theorem eListZip_d (as : AF) (ρ : Sl) : eListZip as ρ = (as ρ).bind fun xs ρ1 => match xs with
  | [.tup a, .tup b] => .ok (.lst (zipU a b)) ρ1
  | _ => .stuck := rfl
def encE (p : Int × Int) : U := .tup [.int p.1, .int p.2]
theorem s_ends_of (ls : List Int) (bow : Int) (jn sp gs : List Int) (hl : gs.length ≤ 1000) : fn_ends_of [encP ls bow jn sp, .tup (gs.map .int)] = .ok (.lst ((endsL 0 gs ls.length).map encE)) .non := by
  have e1 : 1 + gs.length ≤ 100000 := by omega
  have e2 : gs.length + 1 + 1 ≤ 100000 := by omega
  simp [fn_ends_of, fnOf, b_ends_of, startU, encP, atU, e1, e2]
  rw [show (gs.map U.int ++ [U.int (ls.length : Int)]) = (gs ++ [(ls.length : Int)]).map U.int by simp, show (U.int 0 :: (gs ++ [(ls.length : Int)]).map U.int) = (0 :: (gs ++ [(ls.length : Int)])).map U.int by simp, zipU_map, zip_ends]
  rfl
/-! ### bowings -/
/-- the strokes, numbered from k -/
def goodL (ls : List Int) (bow : Int) (jn sp : List Int) (ws : List (Int × Bool)) : Int → List (Int × Int) → Bool
  | _, [] => true
  | k, p :: ps => strokeOK ls bow jn sp ws p.1 p.2 (dirK ws (k + 1)) && goodL ls bow jn sp ws (k + 1) ps
theorem goodL_all (ls : List Int) (bow : Int) (jn sp : List Int) (ws : List (Int × Bool)) : ∀ (ps : List (Int × Int)) (k : Int), ((rng k ps.length).zip ps).all (fun q => strokeOK ls bow jn sp ws q.2.1 q.2.2 (dirK ws (q.1 + 1))) = goodL ls bow jn sp ws k ps
  | [], k => rfl
  | p :: ps, k => by
    rw [List.length_cons, rng, List.zip_cons_cons, List.all_cons, goodL_all ls bow jn sp ws ps (k + 1), goodL]
def goodB (ls : List Int) (bow : Int) (jn sp : List Int) (ws : List (Int × Bool)) (gs : List Int) : Bool := okGaps ls.length gs && goodL ls bow jn sp ws 0 (endsL 0 gs ls.length)
theorem s_good_bowing (ls : List Int) (bow : Int) (jn sp : List Int) (ws : List (Int × Bool)) (gs : List Int) (h1 : sp.length ≤ 100000) (h2 : ws.length ≤ 100000) (h3 : gs.length ≤ 1000) :
    fn_good_bowing [encP ls bow jn sp, encW ws, .tup (gs.map .int)] = .ok (.bl (goodB ls bow jn sp ws gs)) .non := by
  have hg := s_are_gaps ls.length gs (by omega)
  have he := s_ends_of ls bow jn sp gs h3
  have hx : uIx (encP ls bow jn sp) (.int 0) = some (.tup (ls.map .int)) := rfl
  unfold goodB
  simp [fn_good_bowing, fnOf, b_good_bowing, startU, hg, he, hx]
  cases okGaps ls.length gs with
  | false => simp
  | true =>
    simp
    rw [enumU_map]
    obtain ⟨ρ', e1, e2⟩ := forL_check (g := gT (gsCons (gN 3) (gsCons (gT (gsCons (gN 4) (gsCons (gN 5) gsNil))) gsNil))) (b := l_good_bowing_1) (fun p : Int × (Int × Int) => U.tup [.int p.1, encE p.2])
      (fun q => strokeOK ls bow jn sp ws q.2.1 q.2.2 (dirK ws (q.1 + 1))) (fun ρ => ∃ x y z, ρ = [some (encP ls bow jn sp), some (encW ws), some (.tup (gs.map .int)), x, y, z]) (enumI (endsL 0 gs ls.length)) [some (encP ls bow jn sp), some (encW ws), some (.tup (gs.map .int)), none, none, none] ⟨_, _, _, rfl⟩ (by
        rintro ⟨k, s, e⟩ _ ρ ⟨x, y, z, rfl⟩
        refine ⟨_, rfl, ?_⟩
        have hs := s_stroke_right ls bow jn sp ws s e (dirK ws (k + 1)) h1 h2
        simp [l_good_bowing_1, s_direction, hs]
        cases strokeOK ls bow jn sp ws s e (dirK ws (k + 1)) <;> simp)
    rw [e1]
    have ha : (enumI (endsL 0 gs ls.length)).all (fun q => strokeOK ls bow jn sp ws q.2.1 q.2.2 (dirK ws (q.1 + 1))) = goodL ls bow jn sp ws 0 (endsL 0 gs ls.length) := goodL_all ls bow jn sp ws _ 0
    rw [ha]
    cases goodL ls bow jn sp ws 0 (endsL 0 gs ls.length) <;> simp
/-! ### the numbers of the strokes -/
def numsL : Int → List (Int × Int) → List Int
  | _, [] => []
  | k, p :: ps => List.replicate (p.2 - p.1).toNat (k + 1) ++ numsL (k + 1) ps
/-- from s over the gaps to n -/
def Chn (s : Int) : List Int → Int → Prop
  | [], n => s < n
  | g :: gs, n => s < g ∧ Chn g gs n
theorem Chn.lt : ∀ {gs : List Int} {s n : Int}, Chn s gs n → s < n
  | [], s, n, h => h
  | g :: gs, s, n, h => Int.lt_trans h.1 (Chn.lt h.2)
theorem numsL_len : ∀ (gs : List Int) (k s n : Int), Chn s gs n → ((numsL k (endsL s gs n)).length : Int) = n - s
  | [], k, s, n, h => by
    have h' : s < n := h
    simp [endsL, numsL]
    omega
  | g :: gs, k, s, n, h => by
    have h1 := h.1
    have ih := numsL_len gs (k + 1) g n h.2
    rw [endsL, numsL, List.length_append, List.length_replicate]
    simp only
    omega
theorem chn_of : ∀ {gs : List Int} {s n : Int}, (∀ g ∈ gs, s < g ∧ g < n) → s < n → (gs.zip gs.tail).all lt2 = true → Chn s gs n
  | [], s, n, _, h, _ => h
  | [g], s, n, h1, _, _ => ⟨(h1 g (.head _)).1, (h1 g (.head _)).2⟩
  | g :: g' :: gs, s, n, h1, h, h2 => by
    simp only [List.tail_cons, List.zip_cons_cons, List.all_cons, Bool.and_eq_true] at h2
    have hg := h1 g (.head _)
    have lt : g < g' := of_decide_eq_true h2.1
    have h3 : ∀ x ∈ g' :: gs, g < x ∧ x < n := by
      have hall : ∀ (l : List Int) (a : Int), ((a :: l).zip l).all lt2 = true → ∀ x ∈ l, a < x := by
        intro l
        induction l with
        | nil => intro a _ x hx; cases hx
        | cons b l ih =>
          intro a q x hx
          simp only [List.zip_cons_cons, List.all_cons, Bool.and_eq_true] at q
          have ab : a < b := of_decide_eq_true q.1
          rcases List.mem_cons.mp hx with e | hx
          · rw [e]
            exact ab
          · exact Int.lt_trans ab (ih b q.2 x hx)
      intro x hx
      refine ⟨?_, (h1 x (.tail _ hx)).2⟩
      rcases List.mem_cons.mp hx with e | hx
      · rw [e]
        exact lt
      · exact Int.lt_trans lt (hall gs g' h2.2 x hx)
    exact ⟨hg.1, chn_of (gs := g' :: gs) h3 hg.2 h2.2⟩
theorem chn_ok {n : Int} {gs : List Int} (h : okGaps n gs = true) (hn : 0 < n) : Chn 0 gs n := by
  unfold okGaps at h
  rw [Bool.and_eq_true] at h
  refine chn_of (fun g hg => ?_) hn h.2
  have := List.all_eq_true.mp h.1 g hg
  simp [inR] at this
  omega
theorem n_loop (P Gs : U) (n : Int) (hn : n ≤ 1000) : ∀ (gs : List Int) (s k : Int) (found : List Int) (x y z : Option U), 0 ≤ s → Chn s gs n → (found.length : Int) = s →
    ∃ x' y' z', forL (gT (gsCons (gN 3) (gsCons (gT (gsCons (gN 4) (gsCons (gN 5) gsNil))) gsNil))) l_numbers_of_1 (((rng k (endsL s gs n).length).zip (endsL s gs n)).map fun p : Int × (Int × Int) => U.tup [.int p.1, encE p.2]) [some P, some Gs, some (.lst (found.map .int)), x, y, z] =
      .next [some P, some Gs, some (.lst ((found ++ numsL k (endsL s gs n)).map .int)), x', y', z']
  | [], s, k, found, x, y, z, h0, hc, hf => by
    have hc' : s < n := hc
    have a1 : n - s ≤ 100000 := by omega
    have a2 : -100000 ≤ n - s := by omega
    have a3 : (n - s).toNat ≤ 100000 := by omega
    have a4 : found.length + (n - s).toNat ≤ 100000 := by omega
    have hs : ∀ l : List Int, (l.map U.int).all scalU = true := fun l => by simp [scalU]
    refine ⟨some (.int k), some (.int s), some (.int n), ?_⟩
    simp [endsL, rng, forL, l_numbers_of_1, encE, uRep, a1, a2, a3, a4, numsL, lo, scalU]
  | g :: gs, s, k, found, x, y, z, h0, hc, hf => by
    have hs := hc.1
    have hgn := hc.2.lt
    have a1 : g - s ≤ 100000 := by omega
    have a2 : -100000 ≤ g - s := by omega
    have a3 : (g - s).toNat ≤ 100000 := by omega
    have a4 : found.length + (g - s).toNat ≤ 100000 := by omega
    obtain ⟨x', y', z', ih⟩ := n_loop P Gs n hn gs g (k + 1) (found ++ List.replicate (g - s).toNat (k + 1)) (some (.int k)) (some (.int s)) (some (.int g)) (by omega) hc.2 (by simp; omega)
    refine ⟨x', y', z', ?_⟩
    rw [List.append_assoc] at ih
    rw [endsL, numsL, ← ih]
    simp [rng, forL, l_numbers_of_1, encE, uRep, a1, a2, a3, a4, lo, scalU]
theorem s_numbers_of (ls : List Int) (bow : Int) (jn sp gs : List Int) (hn : ls.length ≤ 1000) (hl : gs.length ≤ 1000) (hc : Chn 0 gs ls.length) : fn_numbers_of [encP ls bow jn sp, .tup (gs.map .int)] = .ok (.lst ((numsL 0 (endsL 0 gs ls.length)).map .int)) .non := by
  have he := s_ends_of ls bow jn sp gs hl
  obtain ⟨x, y, z, hx⟩ := n_loop (encP ls bow jn sp) (.tup (gs.map .int)) ls.length (by omega) gs 0 0 [] none none none (Int.le_refl _) hc rfl
  simp at hx
  simp [fn_numbers_of, fnOf, b_numbers_of, startU, he, enumU_map, enumI]
  rw [hx]
  simp
/-! ### pieces -/
def blk (jn : List Int) (s : List Int) (p : Int × Int) : List Int := if p.1 ∈ jn then s.dropLast ++ [s.getLastD 0 + p.2] else s ++ [p.2]
def blocks (ls jn : List Int) : List Int := (enumI ls).foldl (blk jn) []
theorem cut_last {α : Type} (xs : List α) : cutU xs none (some (-1)) = xs.dropLast := by
  unfold cutU sxU
  simp
  rw [List.dropLast_eq_take]
  congr 1
  omega
theorem at_last {α : Type} {xs : List α} (h : xs ≠ []) (d : α) : atU xs (-1) = some (xs.getLastD d) := by
  have hl : 0 < xs.length := List.length_pos_iff.mpr h
  unfold atU
  rw [if_neg (by omega), if_pos (by omega)]
  have e : ((-1 : Int) + (xs.length : Int)).toNat = xs.length - 1 := by omega
  rw [e, List.getLastD_eq_getLast?, List.getLast?_eq_getElem?, List.getElem?_eq_getElem (by omega)]
  rfl
theorem blk_len (jn s : List Int) (p : Int × Int) : (blk jn s p).length ≤ s.length + 1 ∧ blk jn s p ≠ [] := by
  unfold blk
  split
  · simp
    try omega
  · simp
theorem s_blocks_of (ls jn : List Int) (hn : ls.length ≤ 1000) (h0 : (0 : Int) ∉ jn) : fn_blocks_of [.tup (ls.map .int), .tup (jn.map .int)] = .ok (.lst ((blocks ls jn).map .int)) .non := by
  simp [fn_blocks_of, fnOf, b_blocks_of, startU, enumU_map]
  obtain ⟨ρ', e1, e2⟩ := forL_enumN (g := gT (gsCons (gN 3) (gsCons (gN 4) gsNil))) (b := l_blocks_of_1) U.int
    (fun k s ρ => 0 ≤ k ∧ (∃ x y, ρ = [some (.tup (ls.map .int)), some (.tup (jn.map .int)), some (.lst (s.map .int)), x, y]) ∧ (s.length : Int) ≤ k ∧ (s = [] → k = 0)) (blk jn) 1000 ls 0 [] [some (.tup (ls.map .int)), some (.tup (jn.map .int)), some (.lst []), none, none] ⟨Int.le_refl _, ⟨_, _, rfl⟩, Int.le_refl _, fun _ => rfl⟩ (by omega) (by
      rintro l hm k s ρ hk ⟨hk0, ⟨x, y, rfl⟩, hs, he⟩
      refine ⟨_, rfl, ?_⟩
      have hb := blk_len jn s (k, l)
      have a1 : s.length + 1 ≤ 100000 := by omega
      by_cases hi : k ∈ jn
      · have hne : s ≠ [] := fun z => by
          rw [he z] at hi
          exact h0 hi
        have a2 : s.length - 1 + 1 ≤ 100000 := by omega
        have e : blk jn s (k, l) = s.dropLast ++ [s.getLastD 0 + l] := if_pos hi
        refine ⟨[some (.tup (ls.map .int)), some (.tup (jn.map .int)), some (.lst ((blk jn s (k, l)).map .int)), some (.int k), some (.int l)], ?_, by omega, ⟨_, _, rfl⟩, by omega, fun z => absurd z hb.2⟩
        rw [e]
        simp [l_blocks_of_1, hi, cut_last, at_last hne 0, a2]
      · have e : blk jn s (k, l) = s ++ [l] := if_neg hi
        refine ⟨[some (.tup (ls.map .int)), some (.tup (jn.map .int)), some (.lst ((blk jn s (k, l)).map .int)), some (.int k), some (.int l)], ?_, by omega, ⟨_, _, rfl⟩, by omega, fun z => absurd z hb.2⟩
        rw [e]
        simp [l_blocks_of_1, hi, a1])
  rw [show (enumI ls).map (fun p => U.tup [U.int p.1, U.int p.2]) = ((rng 0 ls.length).zip ls).map fun p => U.tup [U.int p.1, U.int p.2] from rfl, e1]
  obtain ⟨_, ⟨x, y, rfl⟩, _⟩ := e2
  simp [blocks, enumI]
structure GoodP (ls : List Int) (bow : Int) (jn sp : List Int) : Prop where
  n1 : 1 ≤ ls.length
  n30 : ls.length ≤ 30
  l20 : ∀ l ∈ ls, 1 ≤ l ∧ l ≤ 20
  b1 : 1 ≤ bow
  b100 : bow ≤ 100
  j : okGaps ls.length jn = true
  s : okGaps ls.length sp = true
  d : ∀ g ∈ jn, g ∉ sp
  b : ∀ x ∈ blocks ls jn, x ≤ bow
  jl : jn.length ≤ 1000
  sl : sp.length ≤ 1000
theorem okGaps_mem {n g : Int} {gs : List Int} (h : okGaps n gs = true) (hg : g ∈ gs) : 1 ≤ g ∧ g ≤ n - 1 := by
  unfold okGaps at h
  rw [Bool.and_eq_true] at h
  have := List.all_eq_true.mp h.1 g hg
  simpa [inR] using this
theorem maxL_le : ∀ {xs : List Int} {m : Int}, xs ≠ [] → (∀ x ∈ xs, x ≤ m) → maxL xs ≤ m := by
  intro xs m hne h
  cases xs with
  | nil => exact absurd rfl hne
  | cons x xs =>
    unfold maxL
    have : ∀ (l : List Int) (a : Int), a ≤ m → (∀ y ∈ l, y ≤ m) → l.foldl (fun a y => if a < y then y else a) a ≤ m := by
      intro l
      induction l with
      | nil => intro a ha _; exact ha
      | cons y l ih =>
        intro a ha hl
        rw [List.foldl_cons]
        refine ih _ ?_ fun z hz => hl z (.tail _ hz)
        split
        · exact hl y (.head _)
        · exact ha
    exact this xs x (h x (.head _)) fun y hy => h y (.tail _ hy)
theorem blocks_ne {ls jn : List Int} (h : ls ≠ []) : blocks ls jn ≠ [] := by
  unfold blocks
  have key : ∀ (ps : List (Int × Int)) (s : List Int), (ps ≠ [] ∨ s ≠ []) → ps.foldl (blk jn) s ≠ [] := by
    intro ps
    induction ps with
    | nil => intro s h; rcases h with h | h; exact absurd rfl h; exact h
    | cons p ps ih => intro s _; exact ih _ (.inr (blk_len jn s p).2)
  refine key _ _ (.inl ?_)
  cases ls with
  | nil => exact absurd rfl h
  | cons l ls => simp [enumI, rng]
theorem bMax1_l {xs : List Int} (h : xs ≠ []) : bMax1 [.lst (xs.map .int)] = some (.int (maxL xs)) := by
  unfold bMax1
  simp [h]
theorem bMax1_t {xs : List Int} (h : xs ≠ []) : bMax1 [.tup (xs.map .int)] = some (.int (maxL xs)) := by
  unfold bMax1
  simp [h]
theorem s_is_piece {ls : List Int} {bow : Int} {jn sp : List Int} (P : GoodP ls bow jn sp) : fn_is_piece [encP ls bow jn sp] = .ok (.bl true) .non := by
  have h0 : (0 : Int) ∉ jn := fun m => by
    have := okGaps_mem P.j m
    omega
  have hne : ls ≠ [] := fun z => by
    have := P.n1
    rw [z] at this
    simp at this
  have hb := s_blocks_of ls jn (by have := P.n30; omega) h0
  have hj := s_are_gaps ls.length jn (by have := P.jl; omega)
  have hs := s_are_gaps ls.length sp (by have := P.sl; omega)
  rw [P.j] at hj
  rw [P.s] at hs
  have e1 : (1 : Int) ≤ (ls.length : Int) := by have := P.n1; omega
  have e2 : (ls.length : Int) ≤ 30 := by have := P.n30; omega
  simp [fn_is_piece, fnOf, b_is_piece, startU, encP, e2]
  have e3 : ¬ (ls.length = 0) := by have := P.n1; omega
  rw [if_neg (by omega)]
  rw [eComp_true ls U.int (fun l => .bl (decide (1 ≤ l) && decide (l ≤ 20))) (by simp) (by have := P.n30; omega) (by
    intro x hx
    refine ⟨_, rfl, ?_, ?_⟩ <;> simp [wipeU, s_is_from])]
  simp only [bind_ok, bAll_map, rs_some, of_ok, fnEnd_ret]
  have e4 : (ls.all fun l => decide (1 ≤ l) && decide (l ≤ 20)) = true := List.all_eq_true.mpr fun l hl => by
    have := P.l20 l hl
    simp [this]
  rw [e4]
  simp [s_is_from, P.b1, P.b100, hj, hs]
  rw [eComp_true jn U.int (fun g => .bl (sp.contains g)) (by simp) (by have := P.jl; omega) (by
    intro x hx
    refine ⟨_, rfl, ?_, ?_⟩ <;> simp [wipeU])]
  simp only [bind_ok, bAny_map, rs_some, of_ok, fnEnd_ret]
  have e5 : (jn.any fun g => sp.contains g) = false := List.any_eq_false.mpr fun g hg => by
    simpa using P.d g hg
  rw [e5]
  simp [hb, bMax1_l (blocks_ne hne), maxL_le (blocks_ne hne) P.b]
structure GoodW (n : Int) (ws : List (Int × Bool)) : Prop where
  r : ∀ w ∈ ws, 0 ≤ w.1 ∧ w.1 ≤ n - 1
  i : (ws.zip ws.tail).all (fun p => decide (p.1.1 < p.2.1)) = true
  l : ws.length ≤ 1000
def encw (w : Int × Bool) : U := .tup [.int w.1, wd w.2]
@[simp] theorem encw_0 (w : Int × Bool) : uIx (encw w) (.int 0) = some (.int w.1) := rfl
@[simp] theorem encw_1 (w : Int × Bool) : uIx (encw w) (.int 1) = some (wd w.2) := rfl
@[simp] theorem encP_0 (ls : List Int) (bow : Int) (jn sp : List Int) : uIx (encP ls bow jn sp) (.int 0) = some (.tup (ls.map .int)) := rfl
theorem s_is_direction (b : Bool) : fn_is_direction [wd b] = .ok (.bl true) .non := by cases b <;> rfl
theorem s_good_wishes {ls : List Int} {bow : Int} {jn sp : List Int} {ws : List (Int × Bool)} (W : GoodW ls.length ws) : fn_good_wishes [encP ls bow jn sp, encW ws] = .ok (.bl true) .non := by
  have hw : encW ws = .tup (ws.map encw) := rfl
  have t1 : ∀ w : Int × Bool, bIsInst [encw w, .ty "tuple"] = some (.bl true) := fun w => ty_t_t _
  have t2 : ∀ w : Int × Bool, bLen [encw w] = some (.int 2) := fun w => rfl
  rw [hw]
  simp [fn_good_wishes, fnOf, b_good_wishes, startU]
  obtain ⟨ρ', e1, e2⟩ := forL_check (g := gN 2) (b := l_good_wishes_1) encw (fun _ => true) (fun ρ => ∃ x, ρ = [some (encP ls bow jn sp), some (.tup (ws.map encw)), x, none, none]) ws [some (encP ls bow jn sp), some (.tup (ws.map encw)), none, none, none] ⟨_, rfl⟩ (by
    rintro w hm ρ ⟨x, rfl⟩
    have r := W.r w hm
    refine ⟨_, rfl, [some (encP ls bow jn sp), some (.tup (ws.map encw)), some (encw w), none, none], ?_, fun _ => ⟨_, rfl⟩⟩
    simp [l_good_wishes_1, t1, t2, s_is_from, s_is_direction, r])
  have ha : ws.all (fun _ => true) = true := List.all_eq_true.mpr fun _ _ => rfl
  rw [ha, if_pos rfl] at e1
  rw [e1]
  obtain ⟨x, rfl⟩ := e2 ha
  simp
  rw [eComp_true (ws.zip ws.tail) (fun p => .tup [encw p.1, encw p.2]) (fun p => .bl (decide (p.1.1 < p.2.1))) (by simp [zip_tail]) (by have := W.l; simp; omega) (by
    intro x hx
    refine ⟨_, rfl, ?_, ?_⟩ <;> simp [wipeU])]
  simp only [bind_ok, bAll_map, rs_some, of_ok, fnEnd_ret]
  rw [W.i]
  rfl
theorem s_need_wishes {ls : List Int} {bow : Int} {jn sp : List Int} {ws : List (Int × Bool)} (P : GoodP ls bow jn sp) (W : GoodW ls.length ws) : fn_need_wishes [encP ls bow jn sp, encW ws] = .ok .non .non := by
  simp [fn_need_wishes, fnOf, b_need_wishes, startU, s_is_piece P, s_good_wishes W]
section
variable {ls : List Int} {bow : Int} {jn sp : List Int} {ws : List (Int × Bool)} {gs : List Int}
theorem s_is_bowing (P : GoodP ls bow jn sp) (W : GoodW ls.length ws) (hg : gs.length ≤ 1000) : fn_is_bowing [encP ls bow jn sp, encW ws, .tup (gs.map .int)] = .ok (.bl (goodB ls bow jn sp ws gs)) .non := by
  have h := s_good_bowing ls bow jn sp ws gs (by have := P.sl; omega) (by have := W.l; omega) hg
  simp [fn_is_bowing, fnOf, b_is_bowing, startU, s_need_wishes P W, h]
theorem s_need_bowing (P : GoodP ls bow jn sp) (W : GoodW ls.length ws) (hg : gs.length ≤ 1000) (hb : goodB ls bow jn sp ws gs = true) : fn_need_bowing [encP ls bow jn sp, encW ws, .tup (gs.map .int)] = .ok .non .non := by
  have h := s_good_bowing ls bow jn sp ws gs (by have := P.sl; omega) (by have := W.l; omega) hg
  simp [fn_need_bowing, fnOf, b_need_bowing, startU, h, hb]
theorem goodB_chn (P : GoodP ls bow jn sp) (hb : goodB ls bow jn sp ws gs = true) : Chn 0 gs ls.length := by
  unfold goodB at hb
  rw [Bool.and_eq_true] at hb
  exact chn_ok hb.1 (by have := P.n1; omega)
theorem s_stroke_numbers (P : GoodP ls bow jn sp) (W : GoodW ls.length ws) (hg : gs.length ≤ 1000) (hb : goodB ls bow jn sp ws gs = true) : fn_stroke_numbers [encP ls bow jn sp, encW ws, .tup (gs.map .int)] = .ok (.lst ((numsL 0 (endsL 0 gs ls.length)).map .int)) .non := by
  have h := s_numbers_of ls bow jn sp gs (by have := P.n30; omega) hg (goodB_chn P hb)
  simp [fn_stroke_numbers, fnOf, b_stroke_numbers, startU, s_need_wishes P W, s_need_bowing P W hg hb, h]
theorem s_directions (P : GoodP ls bow jn sp) (W : GoodW ls.length ws) (hg : gs.length ≤ 1000) (hb : goodB ls bow jn sp ws gs = true) : fn_directions [encP ls bow jn sp, encW ws, .tup (gs.map .int)] = .ok (.lst ((numsL 0 (endsL 0 gs ls.length)).map fun k => wd (dirK ws k))) .non := by
  have hc := goodB_chn P hb
  have h := s_numbers_of ls bow jn sp gs (by have := P.n30; omega) hg hc
  have hl := numsL_len gs 0 0 ls.length hc
  simp [fn_directions, fnOf, b_directions, startU, s_need_wishes P W, s_need_bowing P W hg hb]
  rw [eComp_true (numsL 0 (endsL 0 gs ls.length)) U.int (fun k => wd (dirK ws k)) (by simp [h]) (by have := P.n30; omega) (by
    intro x hx
    refine ⟨_, rfl, ?_, ?_⟩ <;> simp [wipeU, s_direction])]
  simp
end
end LB
set_option maxHeartbeats 1000000
set_option maxRecDepth 100000
/-! MLaw: the laws' own helpers about bowings -/
namespace LB
open Q
open PySem (Str)
/-! ### numbers -/
/-- m notes from i on, the number before them num -/
def lawL (gs : List Int) (num i : Int) : Nat → List Int
  | 0 => []
  | m + 1 => (num + if i ∈ gs then 1 else 0) :: lawL gs (num + if i ∈ gs then 1 else 0) (i + 1) m
theorem lawL_len (gs : List Int) : ∀ (m : Nat) (num i : Int), (lawL gs num i m).length = m
  | 0, _, _ => rfl
  | m + 1, num, i => by rw [lawL, List.length_cons, lawL_len gs m]
theorem ln_loop (N : U) (gs : List Int) : ∀ (m : Nat) (i num : Int) (found : List Int) (x : Option U), found.length + m ≤ 100000 →
    ∃ num' x', forL (gN 4) l__law_numbers_1 ((rng i m).map U.int) [some N, some (.tup (gs.map .int)), some (.lst (found.map .int)), some (.int num), x] =
      .next [some N, some (.tup (gs.map .int)), some (.lst ((found ++ lawL gs num i m).map .int)), num', x']
  | 0, i, num, found, x, h => ⟨some (.int num), x, by simp [rng, forL, lawL]⟩
  | m + 1, i, num, found, x, h => by
    obtain ⟨num', x', ih⟩ := ln_loop N gs m (i + 1) (num + if i ∈ gs then 1 else 0) (found ++ [num + if i ∈ gs then 1 else 0]) (some (.int i)) (by simp; omega)
    refine ⟨num', x', ?_⟩
    rw [List.append_assoc] at ih
    rw [lawL, show found ++ (num + if i ∈ gs then 1 else 0) :: lawL gs (num + if i ∈ gs then 1 else 0) (i + 1) m = found ++ ([num + if i ∈ gs then 1 else 0] ++ lawL gs (num + if i ∈ gs then 1 else 0) (i + 1) m) from rfl, ← ih]
    have hf : found.length ≤ 100000 := by omega
    simp [rng, forL, l__law_numbers_1, appO, hf]
theorem s_law_numbers (n : Int) (gs : List Int) (h0 : 0 ≤ n) (h1 : n ≤ 1000) : fn__law_numbers [.int n, .tup (gs.map .int)] = .ok (.lst ((lawL gs 1 0 n.toNat).map .int)) .non := by
  obtain ⟨num', x', hx⟩ := ln_loop (.int n) gs n.toNat 0 1 [] none (by simp; omega)
  have a1 : -(2 ^ 62) ≤ n ∧ n < 2 ^ 62 := by omega
  simp at hx
  simp [fn__law_numbers, fnOf, b__law_numbers, startU, rangeU_map]
  rw [if_pos (by omega)]
  simp [hx]
theorem s_law_first (ws : List (Int × Bool)) : fn__law_first [encW ws] = .ok (wd (hasUp0 ws)) .non := by
  simp [fn__law_first, fnOf, b__law_first, startU, in_W]
  unfold wd
  cases hasUp0 ws <;> simp
theorem s_law_way (ws : List (Int × Bool)) (k : Int) : fn__law_way [encW ws, .int k] = .ok (wd (dirK ws k)) .non := by
  have e1 : ∀ b : Bool, uEq (wd b) (.str [117, 112]) = some (.bl b) := fun b => by cases b <;> rfl
  simp [fn__law_way, fnOf, b__law_way, startU, s_law_first, e1, uMod_i, dirK]
  cases hasUp0 ws with
  | true =>
    by_cases hk : k % 2 = 1
    · have h2 : (k + 1) % 2 = 0 := by omega
      simp [hk, h2, atU, wd]
    · have h2 : (k + 1) % 2 = 1 := by omega
      simp [hk, h2, atU, wd]
  | false =>
    by_cases hk : k % 2 = 1
    · simp [hk, atU, wd]
    · have h2 : k % 2 = 0 := by omega
      simp [hk, h2, atU, wd]
/-! ### law_good -/
def numPart (ls nums : List Int) (k : Int) : List Int := ((ls.zip nums).filter fun p => p.2 == k).map fun p => p.1
def numSum (ls nums : List Int) (k : Int) : Int := (numPart ls nums k).sum
def wayOff (ws : List (Int × Bool)) (nums : List Int) (w : Int × Bool) : Bool := dirK ws (nums.getD w.1.toNat 0) != w.2
def lawGood (ls : List Int) (bow : Int) (jn sp : List Int) (ws : List (Int × Bool)) (gs nums : List Int) : Bool :=
  !((gs.filter fun g => jn.contains g) != []) && (!((sp.filter fun g => !gs.contains g) != []) && ((rng 1 (nums.getLastD 0).toNat).all (fun k => !decide (bow < numSum ls nums k)) && (((ws.filter (wayOff ws nums)).map fun w => w.1) == [])))
theorem s_law_good (ls : List Int) (bow : Int) (jn sp : List Int) (ws : List (Int × Bool)) (gs : List Int) (hn : 1 ≤ ls.length) (hn2 : ls.length ≤ 1000) (hs : sp.length ≤ 1000) (hg : gs.length ≤ 1000) (hw : ws.length ≤ 1000) (hr : ∀ w ∈ ws, 0 ≤ w.1 ∧ w.1 ≤ ls.length - 1)
    (hb : ∀ k, (lawL gs 1 0 ls.length).getLast? = some k → 0 ≤ k ∧ k ≤ 2000) :
    fn__law_good [encP ls bow jn sp, encW ws, .tup (gs.map .int)] = .ok (.bl (lawGood ls bow jn sp ws gs (lawL gs 1 0 ls.length))) .non := by
  have h1 := s_law_numbers ls.length gs (by omega) (by omega)
  rw [show ((ls.length : Int)).toNat = ls.length by omega] at h1
  have hlen := lawL_len gs ls.length 1 0
  generalize lawL gs 1 0 ls.length = nums at *
  have hne : nums ≠ [] := fun z => by
    rw [z] at hlen
    simp at hlen
    omega
  obtain ⟨b0, b2⟩ := hb _ (List.getLast?_eq_some_getLast hne)
  have hl : nums.getLastD 0 = nums.getLast hne := by rw [List.getLastD_eq_getLast?, List.getLast?_eq_some_getLast hne]; rfl
  rw [← hl] at b0 b2
  unfold lawGood
  have hlast := at_last hne 0
  generalize hL : nums.getLastD 0 = last at *
  generalize hB1 : ((gs.filter fun g => jn.contains g) != []) = B1
  generalize hB2 : ((sp.filter fun g => !gs.contains g) != []) = B2
  generalize hB3 : ((rng 1 last.toNat).all (fun k => !decide (bow < numSum ls nums k))) = B3
  generalize hB4 : (((ws.filter (wayOff ws nums)).map fun w => w.1) == []) = B4
  simp [fn__law_good, fnOf, b__law_good, startU, encP, h1]
  rw [eComp_same gs U.int (fun g => jn.contains g) U.int (by simp) (by omega) (by
    intro x hx
    refine ⟨_, rfl, ?_, fun _ => ?_, ?_⟩ <;> simp [wipeU])]
  simp only [bind_ok, uNe_l0, rs_some, hB1]
  cases B1 with
  | true => simp
  | false =>
    simp
    rw [eComp_same sp U.int (fun g => !gs.contains g) U.int (by simp) (by omega) (by
      intro x hx
      refine ⟨_, rfl, ?_, fun _ => ?_, ?_⟩ <;> simp [wipeU])]
    simp only [bind_ok, uNe_l0, rs_some, hB2]
    cases B2 with
    | true => simp
    | false =>
      simp [hlast]
      rw [if_pos (by omega), rangeU_map]
      have hz : ∀ k : Int, eComp [10, 11] (iZip2 (aCons (eV 3) (aCons (eV 7) aNil))) (gT (gsCons (gN 10) (gsCons (gN 11) gsNil))) (tB (e2 uEq (eV 11) (eV 8))) (eV 10) [some (encP ls bow jn sp), some (encW ws), some (.tup (gs.map .int)), some (.tup (ls.map .int)), some (.int bow), some (.tup (jn.map .int)), some (.tup (sp.map .int)), some (.lst (nums.map .int)), some (.int k), none, none, none, none, none] =
          .ok (.lst ((numPart ls nums k).map U.int)) [some (encP ls bow jn sp), some (encW ws), some (.tup (gs.map .int)), some (.tup (ls.map .int)), some (.int bow), some (.tup (jn.map .int)), some (.tup (sp.map .int)), some (.lst (nums.map .int)), some (.int k), none, none, none, none, none] := fun k => by
        rw [eComp_same (ls.zip nums) (fun p => .tup [.int p.1, .int p.2]) (fun p => p.2 == k) (fun p => U.int p.1) (by simp [zipU_map]) (by simp; omega) (by
          intro x hx
          refine ⟨_, rfl, ?_, fun _ => ?_, ?_⟩ <;> simp [wipeU]), numPart, List.map_map]
        rfl
      obtain ⟨ρ', e1, e2⟩ := forL_check (g := gN 8) (b := l__law_good_1) U.int (fun k => !decide (bow < numSum ls nums k))
        (fun ρ => ∃ x, ρ = [some (encP ls bow jn sp), some (encW ws), some (.tup (gs.map .int)), some (.tup (ls.map .int)), some (.int bow), some (.tup (jn.map .int)), some (.tup (sp.map .int)), some (.lst (nums.map .int)), x, none, none, none, none, none]) (rng 1 last.toNat)
        [some (encP ls bow jn sp), some (encW ws), some (.tup (gs.map .int)), some (.tup (ls.map .int)), some (.int bow), some (.tup (jn.map .int)), some (.tup (sp.map .int)), some (.lst (nums.map .int)), none, none, none, none, none, none] ⟨_, rfl⟩ (by
          rintro k hk ρ ⟨x, rfl⟩
          refine ⟨_, rfl, [some (encP ls bow jn sp), some (encW ws), some (.tup (gs.map .int)), some (.tup (ls.map .int)), some (.int bow), some (.tup (jn.map .int)), some (.tup (sp.map .int)), some (.lst (nums.map .int)), some (.int k), none, none, none, none, none], ?_, fun _ => ⟨_, rfl⟩⟩
          simp [l__law_good_1, hz]
          unfold numSum
          by_cases hc : bow < (numPart ls nums k).sum
          · simp [hc]
          · simp [hc])
      rw [show ([some (U.tup [U.tup (ls.map U.int), U.int bow, U.tup (jn.map U.int), U.tup (sp.map U.int)]), some (encW ws), some (.tup (gs.map .int)), some (.tup (ls.map .int)), some (.int bow), some (.tup (jn.map .int)), some (.tup (sp.map .int)), some (.lst (nums.map .int)), none, none, none, none, none, none] : Sl) = [some (encP ls bow jn sp), some (encW ws), some (.tup (gs.map .int)), some (.tup (ls.map .int)), some (.int bow), some (.tup (jn.map .int)), some (.tup (sp.map .int)), some (.lst (nums.map .int)), none, none, none, none, none, none] from rfl, e1]
      rw [hB3] at e2 ⊢
      cases B3 with
      | false => simp
      | true =>
        obtain ⟨x, rfl⟩ := e2 rfl
        simp
        rw [eComp_same ws encw (wayOff ws nums) (fun w => U.int w.1) (by simp; rfl) (by omega) (by
          intro w hx
          refine ⟨_, rfl, ?_, fun _ => ?_, ?_⟩
          · have hh := hr w hx
            have hi : atU nums w.1 = some (nums.getD w.1.toNat 0) := by
              unfold atU
              rw [if_pos hh.1, List.getD_eq_getElem?_getD, List.getElem?_eq_getElem (by omega)]
              rfl
            simp [wipeU, encw, hi, s_law_way, wayOff]
          · simp [wipeU]
          · simp [wipeU]), show (ws.filter (wayOff ws nums)).map (fun w => U.int w.1) = ((ws.filter (wayOff ws nums)).map fun w => w.1).map U.int by simp]
        simp only [bind_ok, uEq_l0, rs_some, hB4]
        simp
end LB
set_option maxHeartbeats 1000000
set_option maxRecDepth 100000
/-! MEq: the law's reading of a bowing and the library's are one -/
namespace LB
open Q
open PySem (Str)
/-! ### the numbers -/
theorem lawL_const {gs : List Int} : ∀ (m : Nat) (num i : Int), (∀ j, i ≤ j → j < i + m → j ∉ gs) → lawL gs num i m = List.replicate m num
  | 0, _, _, _ => rfl
  | m + 1, num, i, h => by
    have h0 : i ∉ gs := h i (Int.le_refl _) (by omega)
    rw [lawL, if_neg h0, Int.add_zero, lawL_const m num (i + 1) fun j h1 h2 => h j (by omega) (by omega)]
    rfl
theorem lawL_split {gs : List Int} : ∀ (a b : Nat) (num i : Int), (∀ j, i ≤ j → j < i + a → j ∉ gs) → lawL gs num i (a + b) = List.replicate a num ++ lawL gs num (i + a) b
  | 0, b, num, i, _ => by simp
  | a + 1, b, num, i, h => by
    have h0 : i ∉ gs := h i (Int.le_refl _) (by omega)
    rw [show a + 1 + b = (a + b) + 1 by omega, lawL, if_neg h0, Int.add_zero, lawL_split a b num (i + 1) fun j h1 h2 => h j (by omega) (by omega), List.replicate_succ, List.cons_append,
      show i + 1 + (a : Int) = i + ((a + 1 : Nat) : Int) by omega]
theorem chn_mem : ∀ {gs : List Int} {s n g : Int}, Chn s gs n → g ∈ gs → s < g ∧ g < n
  | g' :: gs, s, n, g, h, hm => by
    rcases List.mem_cons.mp hm with e | hm
    · rw [e]
      exact ⟨h.1, h.2.lt⟩
    · have := chn_mem h.2 hm
      exact ⟨Int.lt_trans h.1 this.1, this.2⟩
theorem nums_from {Γ : List Int} : ∀ (gs : List Int) (s k n : Int), Chn s gs n → (∀ j, s < j → j < n → (j ∈ Γ ↔ j ∈ gs)) → numsL k (endsL s gs n) = (k + 1) :: lawL Γ (k + 1) (s + 1) (n - s - 1).toNat
  | [], s, k, n, h, hi => by
    have h' : s < n := h
    rw [lawL_const _ _ _ fun j h1 h2 m => by
      have := (hi j (by omega) (by omega)).mp m
      cases this]
    rw [endsL, numsL, numsL, List.append_nil]
    simp only
    rw [show (n - s).toNat = (n - s - 1).toNat + 1 by omega, List.replicate_succ]
  | g :: gs, s, k, n, h, hi => by
    have h1 := h.1
    have h2 := h.2.lt
    have hin : ∀ j, g < j → j < n → (j ∈ Γ ↔ j ∈ gs) := fun j a b => by
      rw [hi j (by omega) b, List.mem_cons]
      exact ⟨fun q => q.resolve_left (by omega), .inr⟩
    have hout : ∀ j, s + 1 ≤ j → j < s + 1 + ((g - s - 1).toNat : Int) → j ∉ Γ := fun j a b m => by
      have := (hi j (by omega) (by omega)).mp m
      rcases List.mem_cons.mp this with e | m'
      · omega
      · have := chn_mem h.2 m'
        omega
    have hg : g ∈ Γ := (hi g h1 h2).mpr (.head _)
    rw [endsL, numsL, nums_from gs g (k + 1) n h.2 hin]
    simp only
    rw [show (n - s - 1).toNat = (g - s - 1).toNat + ((n - g - 1).toNat + 1) by omega, lawL_split _ _ _ _ hout, lawL, show s + 1 + ((g - s - 1).toNat : Int) = g by omega, if_pos hg,
      show (g - s).toNat = (g - s - 1).toNat + 1 by omega, List.replicate_succ, List.cons_append]
theorem nums_eq {gs : List Int} {n : Int} (h : Chn 0 gs n) : lawL gs 1 0 n.toNat = numsL 0 (endsL 0 gs n) := by
  have hlt := h.lt
  rw [nums_from (Γ := gs) gs 0 0 n h fun j _ _ => Iff.rfl, show n.toNat = (n - 0 - 1).toNat + 1 by omega, lawL, if_neg (fun m => by
    have := chn_mem h m
    omega)]
  rfl
/-! ### good -/
theorem numPart_append (ls1 ls2 n1 n2 : List Int) (h : ls1.length = n1.length) (k : Int) : numPart (ls1 ++ ls2) (n1 ++ n2) k = numPart ls1 n1 k ++ numPart ls2 n2 k := by
  unfold numPart
  rw [List.zip_append h, List.filter_append, List.map_append]
theorem numPart_same : ∀ (ls : List Int) (k : Int), numPart ls (List.replicate ls.length k) k = ls
  | [], k => rfl
  | l :: ls, k => by
    have ih := numPart_same ls k
    unfold numPart at ih ⊢
    rw [List.length_cons, List.replicate_succ, List.zip_cons_cons, List.filter_cons_of_pos (by simp), List.map_cons, ih]
theorem numPart_none : ∀ (ls nums : List Int) (k : Int), (∀ x ∈ nums, x ≠ k) → numPart ls nums k = []
  | [], nums, k, _ => rfl
  | l :: ls, [], k, _ => rfl
  | l :: ls, x :: nums, k, h => by
    have ih := numPart_none ls nums k fun y hy => h y (.tail _ hy)
    unfold numPart at ih ⊢
    rw [List.zip_cons_cons, List.filter_cons_of_neg (by simpa using h x (.head _)), ih]
theorem numsL_ge : ∀ (ps : List (Int × Int)) (k x : Int), x ∈ numsL k ps → k + 1 ≤ x
  | [], k, x, h => by cases h
  | p :: ps, k, x, h => by
    rw [numsL] at h
    rcases List.mem_append.mp h with h | h
    · rw [(List.mem_replicate.mp h).2]
      exact Int.le_refl _
    · have := numsL_ge ps (k + 1) x h
      omega
theorem numsL_last : ∀ (gs : List Int) (s k n : Int), Chn s gs n → (numsL k (endsL s gs n)).getLastD 0 = k + 1 + gs.length
  | [], s, k, n, h => by
    have h' : s < n := h
    rw [endsL, numsL, numsL, List.append_nil]
    simp only
    rw [show (n - s).toNat = (n - s - 1).toNat + 1 by omega, List.replicate_succ']
    simp
  | g :: gs, s, k, n, h => by
    have ih := numsL_last gs g (k + 1) n h.2
    have hl := numsL_len gs (k + 1) g n h.2
    have hlt := h.2.lt
    rw [endsL, numsL]
    have hne : numsL (k + 1) (endsL g gs n) ≠ [] := fun z => by
      rw [z] at hl
      simp at hl
      omega
    rw [List.getLastD_eq_getLast?, List.getLast?_eq_some_getLast hne] at ih
    rw [List.getLastD_eq_getLast?, List.getLast?_append, List.getLast?_eq_some_getLast hne, List.length_cons]
    simp at ih ⊢
    omega
theorem cut_at {ls : List Int} {s e : Int} (h0 : 0 ≤ s) (h1 : s < e) (h2 : e ≤ ls.length) : cutU ls (some s) (some e) = (ls.drop s.toNat).take (e - s).toNat := by
  unfold cutU sxU
  simp only
  rw [if_neg (by omega), if_neg (by omega), show min s.toNat ls.length = s.toNat by omega, show min e.toNat ls.length = e.toNat by omega, show e.toNat - s.toNat = (e - s).toNat by omega]
theorem strokeOK_iff (ls : List Int) (bow : Int) (jn sp : List Int) (ws : List (Int × Bool)) (s e : Int) (b : Bool) : strokeOK ls bow jn sp ws s e b = true ↔
    (cutU ls (some s) (some e)).sum ≤ bow ∧ e ∉ jn ∧ (∀ p ∈ sp, ¬ (s < p ∧ p < e)) ∧ ∀ w ∈ ws, s ≤ w.1 → w.1 < e → w.2 = b := by
  unfold strokeOK
  by_cases h1 : bow < (cutU ls (some s) (some e)).sum ∨ e ∈ jn
  · rw [if_pos h1]
    constructor
    · intro h
      cases h
    · rintro ⟨a, b, _⟩
      rcases h1 with h | h
      · omega
      · exact absurd h b
  · rw [if_neg h1]
    rw [not_or] at h1
    have e1 : (cutU ls (some s) (some e)).sum ≤ bow := by omega
    by_cases h2 : sp.any (inS s e) = true
    · rw [if_pos h2]
      constructor
      · intro h
        cases h
      · rintro ⟨_, _, c, _⟩
        obtain ⟨p, hp, q⟩ := List.any_eq_true.mp h2
        simp [inS] at q
        exact absurd q (c p hp)
    · rw [if_neg h2]
      have h3 : ∀ p ∈ sp, ¬ (s < p ∧ p < e) := fun p hp q => h2 (List.any_eq_true.mpr ⟨p, hp, by simp [inS, q]⟩)
      rw [List.all_eq_true]
      constructor
      · intro h
        refine ⟨e1, h1.2, h3, fun w hw a c => ?_⟩
        have := h w hw
        simp [atS, a, c] at this
        exact this
      · rintro ⟨_, _, _, h⟩ w hw
        by_cases hat : s ≤ w.1 ∧ w.1 < e
        · simp [atS, hat, h w hw hat.1 hat.2]
        · simp [atS]
          by_cases hh : s ≤ w.1
          · left
            right
            omega
          · left
            left
            omega
theorem getD_app_l {l m : List Int} {i : Nat} (h : i < l.length) (d : Int) : (l ++ m).getD i d = l.getD i d := by
  rw [List.getD_eq_getElem?_getD, List.getD_eq_getElem?_getD, List.getElem?_append_left h]
theorem getD_app_r {l m : List Int} {i : Nat} (h : l.length ≤ i) (d : Int) : (l ++ m).getD i d = m.getD (i - l.length) d := by
  rw [List.getD_eq_getElem?_getD, List.getD_eq_getElem?_getD, List.getElem?_append_right h]
theorem getD_rep {n i : Nat} (h : i < n) (x d : Int) : (List.replicate n x).getD i d = x := by
  rw [List.getD_eq_getElem?_getD, List.getElem?_replicate, if_pos h]
  rfl
theorem goodL_iff (ls : List Int) (bow : Int) (jn sp : List Int) (ws : List (Int × Bool)) (hj : (ls.length : Int) ∉ jn) (hb : 0 ≤ bow) : ∀ (gs : List Int) (s k : Int), 0 ≤ s → Chn s gs ls.length →
    (goodL ls bow jn sp ws k (endsL s gs ls.length) = true ↔
      (∀ x, k + 1 ≤ x → x ≤ k + 1 + gs.length → (numPart (ls.drop s.toNat) (numsL k (endsL s gs ls.length)) x).sum ≤ bow) ∧ (∀ g ∈ gs, g ∉ jn) ∧ (∀ p ∈ sp, s < p → p < ls.length → p ∈ gs) ∧
      ∀ w ∈ ws, s ≤ w.1 → w.1 < ls.length → w.2 = dirK ws ((numsL k (endsL s gs ls.length)).getD (w.1 - s).toNat 0))
  | [], s, k, h0, hc => by
    have h1 : s < ls.length := hc
    have e1 : numsL k (endsL s [] ls.length) = List.replicate ((ls.length : Int) - s).toNat (k + 1) := by
      rw [endsL, numsL, numsL, List.append_nil]
    have e2 : ((ls.length : Int) - s).toNat = (ls.drop s.toNat).length := by
      rw [List.length_drop]
      omega
    rw [e1]
    have e3 : numPart (ls.drop s.toNat) (List.replicate ((ls.length : Int) - s).toNat (k + 1)) (k + 1) = ls.drop s.toNat := by
      rw [e2]
      exact numPart_same _ _
    have e4 : cutU ls (some s) (some (ls.length : Int)) = ls.drop s.toNat := by
      rw [cut_at h0 h1 (Int.le_refl _), e2, List.take_length]
    rw [endsL, goodL, goodL, Bool.and_true, strokeOK_iff]
    simp only
    rw [e4]
    constructor
    · rintro ⟨a, b, c, d⟩
      refine ⟨fun x hx1 hx2 => ?_, fun g hg => (by cases hg), fun p hp q1 q2 => absurd ⟨q1, q2⟩ (c p hp), fun w hw q1 q2 => ?_⟩
      · have hx : x = k + 1 := by
          simp at hx2
          omega
        rw [hx, e3]
        exact a
      · rw [getD_rep (by omega)]
        exact d w hw q1 q2
    · rintro ⟨a, _, c, d⟩
      refine ⟨?_, hj, fun p hp q => ?_, fun w hw q1 q2 => ?_⟩
      · have := a (k + 1) (Int.le_refl _) (by simp)
        rwa [e3] at this
      · have := c p hp q.1 q.2
        cases this
      · have := d w hw q1 q2
        rwa [getD_rep (by omega)] at this
  | g :: gs, s, k, h0, hc => by
    have h1 := hc.1
    have h2 := hc.2.lt
    have ih := goodL_iff ls bow jn sp ws hj hb gs g (k + 1) (by omega) hc.2
    have hl := numsL_len gs (k + 1) g ls.length hc.2
    have hge := numsL_ge (endsL g gs ls.length) (k + 1)
    generalize hN : numsL (k + 1) (endsL g gs ls.length) = N at *
    have e1 : numsL k (endsL s (g :: gs) ls.length) = List.replicate (g - s).toNat (k + 1) ++ N := by
      rw [endsL, numsL, hN]
    have e2 : ls.drop s.toNat = (ls.drop s.toNat).take (g - s).toNat ++ ls.drop g.toNat := by
      have := (List.take_append_drop (g - s).toNat (ls.drop s.toNat)).symm
      rw [List.drop_drop, show s.toNat + (g - s).toNat = g.toNat by omega] at this
      exact this
    have hlen : ((ls.drop s.toNat).take (g - s).toNat).length = (g - s).toNat := by
      rw [List.length_take, List.length_drop]
      omega
    have hpart : ∀ x, numPart (ls.drop s.toNat) (List.replicate (g - s).toNat (k + 1) ++ N) x = numPart ((ls.drop s.toNat).take (g - s).toNat) (List.replicate (g - s).toNat (k + 1)) x ++ numPart (ls.drop g.toNat) N x := fun x => by
      conv => lhs; rw [e2]
      exact numPart_append _ _ _ _ (by rw [hlen, List.length_replicate]) x
    have hp1 : numPart (ls.drop s.toNat) (List.replicate (g - s).toNat (k + 1) ++ N) (k + 1) = (ls.drop s.toNat).take (g - s).toNat := by
      rw [hpart, numPart_none (ls.drop g.toNat) N (k + 1) fun x hx z => by
        have := hge x hx
        omega, List.append_nil]
      have := numPart_same ((ls.drop s.toNat).take (g - s).toNat) (k + 1)
      rwa [hlen] at this
    have hp2 : ∀ x, k + 1 < x → numPart (ls.drop s.toNat) (List.replicate (g - s).toNat (k + 1) ++ N) x = numPart (ls.drop g.toNat) N x := fun x hx => by
      rw [hpart, numPart_none ((ls.drop s.toNat).take (g - s).toNat) (List.replicate (g - s).toNat (k + 1)) x fun y hy z => by
        have := (List.mem_replicate.mp hy).2
        omega, List.nil_append]
    have hd1 : ∀ i : Int, s ≤ i → i < g → (List.replicate (g - s).toNat (k + 1) ++ N).getD (i - s).toNat 0 = k + 1 := fun i a b => by
      rw [getD_app_l (by rw [List.length_replicate]; omega), getD_rep (by omega)]
    have hd2 : ∀ i : Int, g ≤ i → (List.replicate (g - s).toNat (k + 1) ++ N).getD (i - s).toNat 0 = N.getD (i - g).toNat 0 := fun i a => by
      rw [getD_app_r (by rw [List.length_replicate]; omega), List.length_replicate, show (i - s).toNat - (g - s).toNat = (i - g).toNat by omega]
    rw [e1, endsL, goodL, Bool.and_eq_true, strokeOK_iff, ih]
    simp only
    rw [cut_at h0 h1 (by omega)]
    constructor
    · rintro ⟨⟨a, b, c, d⟩, a', b', c', d'⟩
      refine ⟨fun x hx1 hx2 => ?_, fun q hq => ?_, fun p hp q1 q2 => ?_, fun w hw q1 q2 => ?_⟩
      · by_cases hx : x = k + 1
        · rw [hx, hp1]
          exact a
        · rw [hp2 x (by omega)]
          rw [List.length_cons] at hx2
          exact a' x (by omega) (by omega)
      · rcases List.mem_cons.mp hq with e | hq
        · rw [e]
          exact b
        · exact b' q hq
      · rcases Int.lt_trichotomy p g with h | h | h
        · exact absurd ⟨q1, h⟩ (c p hp)
        · rw [h]
          exact .head _
        · exact .tail _ (c' p hp h q2)
      · by_cases hw2 : w.1 < g
        · rw [hd1 w.1 q1 hw2]
          exact d w hw q1 hw2
        · rw [hd2 w.1 (by omega)]
          exact d' w hw (by omega) q2
    · rintro ⟨a, b, c, d⟩
      refine ⟨⟨?_, b g (.head _), fun p hp q => ?_, fun w hw q1 q2 => ?_⟩, fun x hx1 hx2 => ?_, fun q hq => b q (.tail _ hq), fun p hp q1 q2 => ?_, fun w hw q1 q2 => ?_⟩
      · have := a (k + 1) (Int.le_refl _) (by omega)
        rwa [hp1] at this
      · have hm := c p hp q.1 (by omega)
        rcases List.mem_cons.mp hm with e | hm
        · omega
        · have := chn_mem hc.2 hm
          omega
      · have := d w hw q1 (by omega)
        rwa [hd1 w.1 q1 q2] at this
      · have := a x (by omega) (by rw [List.length_cons]; omega)
        rwa [hp2 x (by omega)] at this
      · have hm := c p hp (by omega) q2
        rcases List.mem_cons.mp hm with e | hm
        · omega
        · exact hm
      · have := d w hw (by omega) q2
        rwa [hd2 w.1 q1] at this
section
variable {ls : List Int} {bow : Int} {jn sp : List Int} {ws : List (Int × Bool)} {gs : List Int}
theorem filter_ne_nil {α : Type} [BEq α] (p : α → Bool) (l : List α) : ((l.filter p) = []) ↔ ∀ x ∈ l, p x = false := by
  rw [List.filter_eq_nil_iff]
  exact ⟨fun h x hx => by simpa using h x hx, fun h x hx => by simp [h x hx]⟩
theorem lawGood_iff (nums : List Int) : lawGood ls bow jn sp ws gs nums = true ↔ (∀ g ∈ gs, g ∉ jn) ∧ (∀ p ∈ sp, p ∈ gs) ∧ (∀ k : Int, 1 ≤ k → k < 1 + ((nums.getLastD 0).toNat : Int) → numSum ls nums k ≤ bow) ∧ ∀ w ∈ ws, dirK ws (nums.getD w.1.toNat 0) = w.2 := by
  unfold lawGood
  rw [Bool.and_eq_true, Bool.and_eq_true, Bool.and_eq_true]
  refine and_congr ?_ (and_congr ?_ (and_congr ?_ ?_))
  · rw [Bool.not_eq_true', bne_eq_false_iff_eq, filter_ne_nil]
    exact ⟨fun h g hg => by simpa using h g hg, fun h g hg => by simpa using h g hg⟩
  · rw [Bool.not_eq_true', bne_eq_false_iff_eq, filter_ne_nil]
    exact ⟨fun h g hg => by simpa using h g hg, fun h g hg => by simpa using h g hg⟩
  · rw [List.all_eq_true]
    constructor
    · intro h k h1 h2
      have := h k (mem_rng.mpr ⟨h1, h2⟩)
      simp at this
      omega
    · intro h k hk
      have hk' := mem_rng.mp hk
      have := h k hk'.1 hk'.2
      simp
      omega
  · rw [beq_iff_eq, List.map_eq_nil_iff, filter_ne_nil]
    unfold wayOff
    exact ⟨fun h w hw => by simpa using h w hw, fun h w hw => by simpa using h w hw⟩
theorem lawGood_eq (P : GoodP ls bow jn sp) (W : GoodW ls.length ws) (hg : okGaps ls.length gs = true) : lawGood ls bow jn sp ws gs (lawL gs 1 0 ls.length) = goodB ls bow jn sp ws gs := by
  have hn := P.n1
  have hc : Chn 0 gs ls.length := chn_ok hg (by omega)
  have hq := nums_eq hc
  rw [show ((ls.length : Int)).toNat = ls.length by omega] at hq
  rw [hq]
  have hlast := numsL_last gs 0 0 ls.length hc
  have hj : (ls.length : Int) ∉ jn := fun m => by
    have := okGaps_mem P.j m
    omega
  rw [Bool.eq_iff_iff, lawGood_iff, hlast]
  unfold goodB
  rw [hg, Bool.true_and, goodL_iff ls bow jn sp ws hj (by have := P.b1; omega) gs 0 0 (Int.le_refl _) hc]
  constructor
  · rintro ⟨a, b, c, d⟩
    refine ⟨fun x h1 h2 => c x (by omega) (by omega), a, fun p hp _ _ => b p hp, fun w hw h1 h2 => ?_⟩
    rw [show w.1 - 0 = w.1 by omega]
    exact (d w hw).symm
  · rintro ⟨a, b, c, d⟩
    refine ⟨b, fun p hp => ?_, fun k h1 h2 => a k (by omega) (by omega), fun w hw => ?_⟩
    · have := okGaps_mem P.s hp
      exact c p hp (by omega) (by omega)
    · have hr := W.r w hw
      have := d w hw hr.1 (by omega)
      rw [show w.1 - 0 = w.1 by omega] at this
      exact this.symm
/-! ### same -/
/-- simple values -/
def sv : U → Bool
  | .int _ | .bl _ | .str _ => true
  | _ => false
theorem sv_eq {u : U} (h : sv u = true) : uEq u u = some (.bl true) := by
  cases u with
  | int i => simp
  | bl b => simp
  | str x => simp [uEq]
  | _ => cases h
@[simp] theorem inst_bb (b : Bool) : bIsInst [.bl b, .ty "bool"] = some (.bl true) := by simp [bIsInst, tyOf]
@[simp] theorem inst_sb (x : List Nat) : bIsInst [.str x, .ty "bool"] = some (.bl false) := by simp [bIsInst, tyOf]
@[simp] theorem inst_si (x : List Nat) : bIsInst [.str x, .ty "int"] = some (.bl false) := by simp [bIsInst, tyOf]
@[simp] theorem inst_lb (x : List U) : bIsInst [.lst x, .ty "bool"] = some (.bl false) := by simp [bIsInst, tyOf]
@[simp] theorem inst_li (x : List U) : bIsInst [.lst x, .ty "int"] = some (.bl false) := by simp [bIsInst, tyOf]
@[simp] theorem inst_ls (x : List U) : bIsInst [.lst x, .ty "str"] = some (.bl false) := by simp [bIsInst, tyOf]
@[simp] theorem inst_ll (x : List U) : bIsInst [.lst x, .ty "list"] = some (.bl true) := by simp [bIsInst, tyOf]
@[simp] theorem inst_tb (x : List U) : bIsInst [.tup x, .ty "bool"] = some (.bl false) := by simp [bIsInst, tyOf]
@[simp] theorem inst_ti (x : List U) : bIsInst [.tup x, .ty "int"] = some (.bl false) := by simp [bIsInst, tyOf]
@[simp] theorem inst_ts (x : List U) : bIsInst [.tup x, .ty "str"] = some (.bl false) := by simp [bIsInst, tyOf]
@[simp] theorem inst_tl (x : List U) : bIsInst [.tup x, .ty "list"] = some (.bl false) := by simp [bIsInst, tyOf]
theorem s_sort_i (i : Int) : fn__law_sort [.int i] = .ok (.int 2) .non := by simp [fn__law_sort, fnOf, b__law_sort, startU]
theorem s_sort_b (b : Bool) : fn__law_sort [.bl b] = .ok (.int 1) .non := by simp [fn__law_sort, fnOf, b__law_sort, startU]
theorem s_sort_s (x : List Nat) : fn__law_sort [.str x] = .ok (.int 3) .non := by simp [fn__law_sort, fnOf, b__law_sort, startU]
theorem s_sort_l (x : List U) : fn__law_sort [.lst x] = .ok (.int 4) .non := by simp [fn__law_sort, fnOf, b__law_sort, startU]
theorem s_sort_t (x : List U) : fn__law_sort [.tup x] = .ok (.int 5) .non := by simp [fn__law_sort, fnOf, b__law_sort, startU]
theorem same_sv (j : Nat) {u : U} (h : sv u = true) : fn__law_same (j + 1) [u, u] = .ok (.bl true) .non := by
  have he := sv_eq h
  cases u with
  | int i => simp [fn__law_same, fnOf, b__law_same, startU, s_sort_i]
  | bl i => simp [fn__law_same, fnOf, b__law_same, startU, s_sort_b]
  | str x =>
    simp [fn__law_same, fnOf, b__law_same, startU, s_sort_s]
    simp [he]
  | _ => cases h
theorem atU_nat {α : Type} (xs : List α) (i : Nat) : atU xs (i : Int) = xs[i]? := by
  unfold atU
  rw [if_pos (by omega)]
  rfl
theorem same_lst (j : Nat) (xs : List U) (hl : xs.length ≤ 100000) (h : ∀ x ∈ xs, fn__law_same (j + 1) [x, x] = .ok (.bl true) .non) : fn__law_same (j + 2) [.lst xs, .lst xs] = .ok (.bl true) .non := by
  rw [fn__law_same]
  simp [fnOf, b__law_same, startU, s_sort_l]
  have hx : ∀ p ∈ enumI xs, atU xs p.1 = some p.2 := fun p hp => by
    unfold enumI at hp
    obtain ⟨i, hi⟩ := List.mem_iff_getElem?.mp hp
    rw [List.getElem?_zip_eq_some] at hi
    have hlt : i < xs.length := (List.getElem?_eq_some_iff.mp hi.2).1
    have hr : ∀ (n : Nat) (lo : Int) (i : Nat), i < n → (rng lo n)[i]? = some (lo + i) := by
      intro n
      induction n with
      | zero => intro lo i h; omega
      | succ n ih =>
        intro lo i h
        cases i with
        | zero => simp [rng]
        | succ i =>
          rw [rng, List.getElem?_cons_succ, ih (lo + 1) i (by omega)]
          congr 1
          omega
    rw [hr _ _ _ hlt] at hi
    have e := Option.some.inj hi.1
    rw [← e, Int.zero_add, atU_nat]
    exact hi.2
  have hm : ∀ p ∈ enumI xs, p.2 ∈ xs := fun p hp => (List.of_mem_zip hp).2
  rw [eComp_same (enumI xs) (fun p => .tup [.int p.1, p.2]) (fun _ => false) (fun p => .int p.1) (by
      simp
      have := enumU_map id xs
      simpa using this) (by unfold enumI; simp; omega) (by
    intro p hp
    refine ⟨_, rfl, ?_, fun q => (by cases q), ?_⟩
    · simp [wipeU, hx p hp, h p.2 (hm p hp)]
    · simp [wipeU])]
  have hf : (enumI xs).filter (fun _ => false) = [] := by simp
  rw [hf]
  have := uEq_ll [] []
  simp at this
  simp [this]
end
theorem chn_len : ∀ {gs : List Int} {s n : Int}, Chn s gs n → s + gs.length < n
  | [], s, n, h => by
    have h' : s < n := h
    simp
    omega
  | g :: gs, s, n, h => by
    have ih := chn_len h.2
    have := h.1
    rw [List.length_cons]
    omega
section
variable {ls : List Int} {bow : Int} {jn sp : List Int} {ws : List (Int × Bool)} {gs : List Int}
theorem s_law_right (P : GoodP ls bow jn sp) (W : GoodW ls.length ws) (hg : okGaps ls.length gs = true) : fn__law_right [encP ls bow jn sp, encW ws, .tup (gs.map .int)] = .ok (.bl true) .non := by
  have hn := P.n1
  have hn2 := P.n30
  have hc : Chn 0 gs ls.length := chn_ok hg (by omega)
  have hgl : gs.length ≤ 1000 := by
    have := chn_len hc
    omega
  have hq := nums_eq hc
  rw [show ((ls.length : Int)).toNat = ls.length by omega] at hq
  have h1 := s_law_good ls bow jn sp ws gs hn (by omega) P.sl hgl W.l W.r (fun k hk => by
    rw [hq] at hk
    have := numsL_last gs 0 0 ls.length hc
    rw [List.getLastD_eq_getLast?, hk] at this
    simp at this
    have := chn_len hc
    omega)
  rw [lawGood_eq P W hg] at h1
  have h2 := s_is_bowing P W hgl
  have h3 := s_law_numbers ls.length gs (by omega) (by omega)
  rw [show ((ls.length : Int)).toNat = ls.length by omega, hq] at h3
  have hsame : ∀ b : Bool, fn__law_same 4 [.bl b, .bl b] = .ok (.bl true) .non := fun b => same_sv 3 rfl
  cases hB : goodB ls bow jn sp ws gs with
  | false =>
    rw [hB] at h1 h2
    simp [fn__law_right, fnOf, b__law_right, startU, h1, h2, hsame]
  | true =>
    have h4 := s_stroke_numbers P W hgl hB
    have h5 := s_directions P W hgl hB
    rw [hB] at h1 h2
    have hlen := numsL_len gs 0 0 ls.length hc
    generalize numsL 0 (endsL 0 gs ls.length) = nums at *
    have hs1 : fn__law_same 4 [.lst (nums.map .int), .lst (nums.map .int)] = .ok (.bl true) .non := same_lst 2 _ (by rw [List.length_map]; omega) fun x hx => by
      obtain ⟨i, _, rfl⟩ := List.mem_map.mp hx
      exact same_sv 2 rfl
    have hs2 : fn__law_same 4 [.lst (nums.map fun k => wd (dirK ws k)), .lst (nums.map fun k => wd (dirK ws k))] = .ok (.bl true) .non := same_lst 2 _ (by rw [List.length_map]; omega) fun x hx => by
      obtain ⟨i, _, rfl⟩ := List.mem_map.mp hx
      exact same_sv 2 rfl
    have hl : nums.length ≤ 100000 := by omega
    simp [fn__law_right, fnOf, b__law_right, startU, h1, h2, hsame, h3, h4, hs1, scalU, appO, hl, h5]
    rw [eComp_true nums U.int (fun k => wd (dirK ws k)) (by simp) hl (by
      intro x hx
      refine ⟨_, rfl, ?_, ?_⟩ <;> simp [wipeU, s_law_way])]
    simp [hs2]
end
end LB
set_option maxHeartbeats 1000000
set_option maxRecDepth 100000
/-! MDeck: the laws' random pieces, wishes, gaps -/
namespace LB
open Q
open PySem (Str)
def Dk (B : Int) (d : U) : Prop := ∃ x y z : Int, d = .lst [.int x, .int y, .int z] ∧ 0 ≤ y ∧ y < 2147483648 ∧ 0 ≤ z ∧ z ≤ B
theorem Dk.mono {B B' : Int} {d : U} (h : Dk B d) (hb : B ≤ B') : Dk B' d := by
  obtain ⟨x, y, z, e, h1, h2, h3, h4⟩ := h
  exact ⟨x, y, z, e, h1, h2, h3, by omega⟩
theorem uMul_i {i j : Int} (h : -(2 ^ 64) < i ∧ i < 2 ^ 64) : uMul (.int i) (.int j) = some (.int (i * j)) := if_pos (.inl h)
theorem uMul_j {i j : Int} (h : -(2 ^ 64) < j ∧ j < 2 ^ 64) : uMul (.int i) (.int j) = some (.int (i * j)) := if_pos (.inr h)
theorem uFdiv_i {i j : Int} (h : 0 < j ∧ j < 1073741824) : uFdiv (.int i) (.int j) = some (.int (i / j)) := if_pos h
theorem uPow_i {i : Int} {j : Int} (h : 0 ≤ j ∧ j ≤ 1000000 ∧ i.natAbs < 2 ^ 64) : uPow (.int i) (.int j) = some (.int (i ^ j.toNat)) := if_pos h
theorem at3_0 (a b c : U) : atU [a, b, c] 0 = some a := rfl
theorem at3_1 (a b c : U) : atU [a, b, c] 1 = some b := rfl
theorem at3_2 (a b c : U) : atU [a, b, c] 2 = some c := rfl
theorem s_pick {B : Int} {d : U} {lim : Int} (h : Dk B d) (hB : B ≤ 1000000000) (h1 : 1 ≤ lim) (h2 : lim < 1073741824) : ∃ r d', fn__law_pick [d, .int lim] = .ok (.int r) d' ∧ 0 ≤ r ∧ r < lim ∧ Dk (B + 1) d' := by
  obtain ⟨x, y, z, rfl, y0, y1, z0, z1⟩ := h
  have hm : ∀ v : Int, 0 ≤ v % lim ∧ v % lim < lim := fun v => ⟨Int.emod_nonneg v (by omega), Int.emod_lt_of_pos v (by omega)⟩
  have hl : (0 : Int) < lim := by omega
  by_cases hx : 1 < x
  · refine ⟨x % lim, .lst [.int (x / lim), .int y, .int z], ?_, (hm x).1, (hm x).2, _, _, _, rfl, y0, y1, z0, by omega⟩
    simp [fn__law_pick, fnOf, b__law_pick, startU, at3_0, hx, uMod_i hl, uFdiv_i ⟨hl, h2⟩, putO, slot0]
  · have p1 : (y + 15485867 * (z + 1)).natAbs < 2 ^ 64 := by omega
    obtain ⟨n1, hn1⟩ : ∃ n1 : Int, n1 = (y + 15485867 * (z + 1)) ^ 5 % 2147483647 := ⟨_, rfl⟩
    have q1 : 0 ≤ n1 ∧ n1 < 2147483647 := by
      rw [hn1]
      exact ⟨Int.emod_nonneg _ (by decide), Int.emod_lt_of_pos _ (by decide)⟩
    have p2 : (n1 + 7919 * (z + 1)).natAbs < 2 ^ 64 := by omega
    have e1 : uPow (.int (y + 15485867 * (z + 1))) (.int 5) = some (.int ((y + 15485867 * (z + 1)) ^ 5)) := uPow_i ⟨by decide, by decide, p1⟩
    have e2 : uPow (.int (n1 + 7919 * (z + 1))) (.int 3) = some (.int ((n1 + 7919 * (z + 1)) ^ 3)) := uPow_i ⟨by decide, by decide, p2⟩
    have e3 : ∀ v : Int, uMul (.int 15485867) (.int v) = some (.int (15485867 * v)) := fun v => uMul_i ⟨by decide, by decide⟩
    have e4 : ∀ v : Int, uMul (.int 7919) (.int v) = some (.int (7919 * v)) := fun v => uMul_i ⟨by decide, by decide⟩
    have e5 : ∀ v : Int, uMul (.int v) (.int 2147483563) = some (.int (v * 2147483563)) := fun v => uMul_j ⟨by decide, by decide⟩
    have e6 : ∀ v : Int, uMod (.int v) (.int 2147483647) = some (.int (v % 2147483647)) := fun v => uMod_i (by decide)
    have e7 : ∀ v : Int, uMod (.int v) (.int 2147483629) = some (.int (v % 2147483629)) := fun v => uMod_i (by decide)
    have e8 : ∀ v : Int, uFdiv (.int v) (.int 32) = some (.int (v / 32)) := fun v => uFdiv_i ⟨by decide, by decide⟩
    generalize hf : (n1 + 7919 * (z + 1)) ^ 3 % 2147483629 / 32 = f
    by_cases hbig : 1000000 < lim
    · refine ⟨(f * 2147483563 + n1) % lim, .lst [.int x, .int y, .int (z + 1)], ?_, (hm _).1, (hm _).2, _, _, _, rfl, y0, y1, by omega, by omega⟩
      simp [fn__law_pick, fnOf, b__law_pick, startU, at3_0, at3_1, at3_2, hx, putO, slot0, e1, e3, e6, ← hn1, e4, e2, e7, e8, hbig, e5, hf, uMod_i hl]
    · refine ⟨f % lim, .lst [.int x, .int y, .int (z + 1)], ?_, (hm _).1, (hm _).2, _, _, _, rfl, y0, y1, by omega, by omega⟩
      simp [fn__law_pick, fnOf, b__law_pick, startU, at3_0, at3_1, at3_2, hx, putO, slot0, e1, e3, e6, ← hn1, e4, e2, e7, e8, hbig, e5, hf, uMod_i hl]
theorem s_one {B : Int} {d : U} {xs : List U} (h : Dk B d) (hB : B ≤ 1000000000) (h1 : xs ≠ []) (h2 : xs.length < 1000) : ∃ u d', fn__law_one [d, .lst xs] = .ok u d' ∧ u ∈ xs ∧ Dk (B + 1) d' := by
  have hl : 0 < xs.length := List.length_pos_iff.mpr h1
  obtain ⟨r, d', e, r0, r1, hd⟩ := s_pick (lim := xs.length) h hB (by omega) (by omega)
  have ha : atU xs r = some (xs[r.toNat]'(by omega)) := by
    unfold atU
    rw [if_pos r0, List.getElem?_eq_getElem (by omega)]
  refine ⟨xs[r.toNat]'(by omega), d', ?_, List.getElem_mem _, hd⟩
  simp [fn__law_one, fnOf, b__law_one, startU, e, ha, slot0]
theorem s_deck (c : Int) (t : Int) (h0 : 0 ≤ t) (h1 : t ≤ 100) : ∃ d, fn__law_deck [.int c, .int t] = .ok d .non ∧ Dk 100 d := by
  have e1 : uPow (.int 10) (.int 18) = some (.int 1000000000000000000) := by rfl
  have e6 : ∀ v : Int, uMod (.int v) (.int 2147483579) = some (.int (v % 2147483579)) := fun v => uMod_i (by decide)
  have hm : 0 ≤ c % 2147483579 ∧ c % 2147483579 < 2147483648 := ⟨Int.emod_nonneg _ (by decide), by have := Int.emod_lt_of_pos c (show (0 : Int) < 2147483579 by decide); omega⟩
  by_cases hc : 1000000000000000000 ≤ c
  · refine ⟨.lst [.int (c - 1000000000000000000), .int (c % 2147483579), .int t], ?_, _, _, _, rfl, hm.1, hm.2, h0, h1⟩
    simp [fn__law_deck, fnOf, b__law_deck, startU, e1, e6, hc]
  · refine ⟨.lst [.int 0, .int (c % 2147483579), .int t], ?_, _, _, _, rfl, hm.1, hm.2, h0, h1⟩
    simp [fn__law_deck, fnOf, b__law_deck, startU, e1, e6, hc]
end LB
set_option maxHeartbeats 2000000
set_option maxRecDepth 100000
/-! MPiece: the laws' random pieces are valid -/
namespace LB
open Q
open PySem (Str)
/-! ### rising lists -/
abbrev Inc (l : List Int) : Prop := l.Pairwise (· < ·)
theorem inc_zip : ∀ {l : List Int}, Inc l → (l.zip l.tail).all lt2 = true
  | [], _ => rfl
  | [x], _ => rfl
  | x :: y :: l, h => by
    have h1 := List.pairwise_cons.mp h
    have ih := inc_zip h1.2
    rw [List.tail_cons] at ih
    rw [List.tail_cons, List.zip_cons_cons, List.all_cons, ih]
    have := h1.1 y (.head _)
    simp [lt2, this]
theorem okGaps_of {n : Int} {l : List Int} (h : Inc l) (hr : ∀ g ∈ l, 1 ≤ g ∧ g ≤ n - 1) : okGaps n l = true := by
  unfold okGaps
  rw [inc_zip h, Bool.and_true, List.all_eq_true]
  intro g hg
  have := hr g hg
  simp [inR, this]
theorem inc_snoc {l : List Int} {x : Int} (h : Inc l) (hx : ∀ y ∈ l, y < x) : Inc (l ++ [x]) :=
  List.pairwise_append.mpr ⟨h, List.pairwise_singleton _ _, fun a ha b hb => by
    rw [List.mem_singleton.mp hb]
    exact hx a ha⟩
theorem inc_len {l : List Int} : ∀ {lo hi : Int}, Inc l → (∀ x ∈ l, lo ≤ x ∧ x < hi) → lo ≤ hi → (l.length : Int) ≤ hi - lo := by
  induction l with
  | nil => intro lo hi _ _ h; simp; omega
  | cons x l ih =>
    intro lo hi h hr hle
    have h1 := List.pairwise_cons.mp h
    have hx := hr x (.head _)
    have := ih (lo := x + 1) (hi := hi) h1.2 (fun y hy => ⟨by have := h1.1 y hy; omega, (hr y (.tail _ hy)).2⟩) (by omega)
    rw [List.length_cons]
    omega
/-! ### blocks -/
def pb (ls J : List Int) (m : Nat) : List Int := ((enumI ls).take m).foldl (blk J) []
theorem enumI_get {α : Type} {xs : List α} {i : Nat} {x : α} (h : xs[i]? = some x) : (enumI xs)[i]? = some ((i : Int), x) := by
  unfold enumI
  have hi := (List.getElem?_eq_some_iff.mp h).1
  rw [List.getElem?_zip_eq_some]
  exact ⟨by rw [rng_at _ _ _ hi, Int.zero_add], h⟩
theorem pb_succ {ls J : List Int} {m : Nat} {l : Int} (h : ls[m]? = some l) : pb ls J (m + 1) = blk J (pb ls J m) ((m : Int), l) := by
  unfold pb
  rw [List.take_add_one, enumI_get h, List.foldl_append]
  rfl
theorem pb_congr {ls J J' : List Int} {m : Nat} (h : ∀ i : Int, i < m → (i ∈ J ↔ i ∈ J')) : pb ls J m = pb ls J' m := by
  unfold pb
  have key : ∀ (ps : List (Int × Int)) (s : List Int), (∀ p ∈ ps, p.1 < m) → ps.foldl (blk J) s = ps.foldl (blk J') s := by
    intro ps
    induction ps with
    | nil => intro s _; rfl
    | cons p ps ih =>
      intro s hp
      have e : blk J s p = blk J' s p := by
        unfold blk
        have := h p.1 (hp p (.head _))
        by_cases hm : p.1 ∈ J
        · rw [if_pos hm, if_pos (this.mp hm)]
        · rw [if_neg hm, if_neg (fun q => hm (this.mpr q))]
      rw [List.foldl_cons, List.foldl_cons, e]
      exact ih _ fun q hq => hp q (.tail _ hq)
  refine key _ _ fun p hp => ?_
  obtain ⟨i, hi⟩ := List.mem_iff_getElem?.mp hp
  have hlt : i < m := by
    have := (List.getElem?_eq_some_iff.mp hi).1
    rw [List.length_take] at this
    omega
  rw [List.getElem?_take_of_lt hlt] at hi
  unfold enumI at hi
  rw [List.getElem?_zip_eq_some] at hi
  have := rng_get hi.1
  omega
theorem pb_all (ls J : List Int) : pb ls J ls.length = blocks ls J := by
  unfold pb blocks
  rw [List.take_of_length_le (by unfold enumI; simp)]
/-- the state of the loop behind the gaps below k -/
structure PInv (ls : List Int) (bow : Int) (J S : List Int) (run : Int) (k : Nat) : Prop where
  ij : Inc J
  is : Inc S
  rj : ∀ g ∈ J, 1 ≤ g ∧ g < k
  rs : ∀ g ∈ S, 1 ≤ g ∧ g < k
  d : ∀ g ∈ J, g ∉ S
  r1 : 1 ≤ run
  b : ∀ x ∈ pb ls J k, x ≤ bow
  l : (pb ls J k).getLast? = some run
theorem PInv.joined {ls : List Int} {bow : Int} {J S : List Int} {run l : Int} {k : Nat} (I : PInv ls bow J S run k) (h1 : 1 ≤ k) (hl : ls[k]? = some l) (hl1 : 1 ≤ l) (hb : run + l ≤ bow) : PInv ls bow (J ++ [(k : Int)]) S (run + l) (k + 1) := by
  have hk : (k : Int) ∈ J ++ [(k : Int)] := by simp
  have hc : pb ls (J ++ [(k : Int)]) k = pb ls J k := pb_congr fun i hi => by
    simp
    omega
  have hne : pb ls J k ≠ [] := fun z => by
    have := I.l
    rw [z] at this
    cases this
  have hlast : (pb ls J k).getLastD 0 = run := by rw [List.getLastD_eq_getLast?, I.l]; rfl
  have hp : pb ls (J ++ [(k : Int)]) (k + 1) = (pb ls J k).dropLast ++ [run + l] := by
    rw [pb_succ hl, hc]
    unfold blk
    rw [if_pos hk, hlast]
  refine ⟨inc_snoc I.ij fun y hy => (I.rj y hy).2, I.is, fun g hg => ?_, fun g hg => ⟨(I.rs g hg).1, by have := (I.rs g hg).2; omega⟩, fun g hg => ?_, by have := I.r1; omega, ?_, ?_⟩
  · rcases List.mem_append.mp hg with hg | hg
    · have := I.rj g hg
      omega
    · rw [List.mem_singleton.mp hg]
      omega
  · rcases List.mem_append.mp hg with hg | hg
    · exact I.d g hg
    · rw [List.mem_singleton.mp hg]
      intro hm
      have := I.rs _ hm
      omega
  · rw [hp]
    intro x hx
    rcases List.mem_append.mp hx with hx | hx
    · exact I.b x (List.dropLast_subset _ hx)
    · rw [List.mem_singleton.mp hx]
      exact hb
  · rw [hp]
    simp
theorem PInv.plain {ls : List Int} {bow : Int} {J S S' : List Int} {run l : Int} {k : Nat} (I : PInv ls bow J S run k) (h1 : 1 ≤ k) (hl : ls[k]? = some l) (hl1 : 1 ≤ l) (hb : l ≤ bow) (hS : S' = S ∨ S' = S ++ [(k : Int)]) : PInv ls bow J S' l (k + 1) := by
  have hk : (k : Int) ∉ J := fun m => by
    have := I.rj _ m
    omega
  have hp : pb ls J (k + 1) = pb ls J k ++ [l] := by
    rw [pb_succ hl]
    unfold blk
    rw [if_neg hk]
  have hi : Inc S' := by
    rcases hS with e | e
    · rw [e]
      exact I.is
    · rw [e]
      exact inc_snoc I.is fun y hy => (I.rs y hy).2
  refine ⟨I.ij, hi, fun g hg => ⟨(I.rj g hg).1, by have := (I.rj g hg).2; omega⟩, fun g hg => ?_, fun g hg => ?_, hl1, ?_, ?_⟩
  · rcases hS with e | e
    · rw [e] at hg
      have := I.rs g hg
      omega
    · rw [e] at hg
      rcases List.mem_append.mp hg with hg | hg
      · have := I.rs g hg
        omega
      · rw [List.mem_singleton.mp hg]
        omega
  · rcases hS with e | e
    · rw [e]
      exact I.d g hg
    · rw [e]
      intro hm
      rcases List.mem_append.mp hm with hm | hm
      · exact I.d g hg hm
      · have := List.mem_singleton.mp hm
        rw [this] at hg
        exact hk hg
  · rw [hp]
    intro x hx
    rcases List.mem_append.mp hx with hx | hx
    · exact I.b x hx
    · rw [List.mem_singleton.mp hx]
      exact hb
  · rw [hp]
    simp
theorem le_maxL : ∀ {xs : List Int} {x : Int}, x ∈ xs → x ≤ maxL xs := by
  intro xs x h
  cases xs with
  | nil => cases h
  | cons y ys =>
    unfold maxL
    have key : ∀ (l : List Int) (a : Int), a ≤ l.foldl (fun a y => if a < y then y else a) a ∧ ∀ z ∈ l, z ≤ l.foldl (fun a y => if a < y then y else a) a := by
      intro l
      induction l with
      | nil => intro a; exact ⟨Int.le_refl _, fun z hz => by cases hz⟩
      | cons b l ih =>
        intro a
        rw [List.foldl_cons]
        obtain ⟨h1, h2⟩ := ih (if a < b then b else a)
        refine ⟨?_, fun z hz => ?_⟩
        · refine Int.le_trans ?_ h1
          split <;> omega
        · rcases List.mem_cons.mp hz with e | hz
          · rw [e]
            refine Int.le_trans ?_ h1
            split <;> omega
          · exact h2 z hz
    obtain ⟨h1, h2⟩ := key ys y
    rcases List.mem_cons.mp h with e | h
    · rw [e]
      exact h1
    · exact h2 x h
theorem sum_range : ∀ {xs : List Int}, (∀ x ∈ xs, 1 ≤ x ∧ x ≤ 20) → (xs.length : Int) ≤ xs.sum ∧ xs.sum ≤ 20 * xs.length
  | [], _ => by simp
  | x :: xs, h => by
    have ih := sum_range fun y hy => h y (.tail _ hy)
    have := h x (.head _)
    rw [List.sum_cons, List.length_cons]
    omega
theorem piece_loop {B : Int} (fe ma tp : U) (x12 : Option U) (ls : List Int) (bow : Int) (hn : 1 ≤ ls.length) (hn2 : ls.length ≤ 30) (hl : ∀ l ∈ ls, 1 ≤ l ∧ l ≤ 20) (hb : ∀ l ∈ ls, l ≤ bow) (d : U) (hd : Dk B d) (hB : B ≤ 900000000) (x9 x10 x11 : Option U) :
    ∃ d' J S run y9 y10 y11, forL (gN 9) l__law_piece_1 ((rng 1 (ls.length - 1)).map U.int) [some d, some fe, some ma, some tp, some (.tup (ls.map .int)), some (.int bow), some (.lst []), some (.lst []), some (.int (ls.getD 0 0)), x9, x10, x11, x12] =
      .next [some d', some fe, some ma, some tp, some (.tup (ls.map .int)), some (.int bow), some (.lst (J.map .int)), some (.lst (S.map .int)), some (.int run), y9, y10, y11, x12] ∧ Dk (B + 30) d' ∧ PInv ls bow J S run ls.length := by
  obtain ⟨l0, lr, rfl⟩ : ∃ l0 lr, ls = l0 :: lr := by
    cases ls with
    | nil => simp at hn
    | cons a b => exact ⟨a, b, rfl⟩
  have h0 := hl l0 (.head _)
  have hb0 := hb l0 (.head _)
  have I0 : PInv (l0 :: lr) bow [] [] l0 1 := by
    have hp : pb (l0 :: lr) [] 1 = [l0] := by
      simp [pb, enumI, rng, blk]
    refine ⟨List.Pairwise.nil, List.Pairwise.nil, fun g hg => (by cases hg), fun g hg => (by cases hg), fun g hg => (by cases hg), h0.1, ?_, ?_⟩
    · rw [hp]
      intro x hx
      rw [List.mem_singleton.mp hx]
      exact hb0
    · rw [hp]
      rfl
  obtain ⟨ρ', e1, d', J, S, run, y9, y10, y11, rfl, hd', I'⟩ := forL_turns (g := gN 9) (b := l__law_piece_1) U.int
    (fun k ρ => ∃ d J S run x9 x10 x11, ρ = [some d, some fe, some ma, some tp, some (.tup ((l0 :: lr).map .int)), some (.int bow), some (.lst (J.map .int)), some (.lst (S.map .int)), some (.int run), x9, x10, x11, x12] ∧ Dk (B + k) d ∧ PInv (l0 :: lr) bow J S run k) (rng 1 ((l0 :: lr).length - 1)) 1
    [some d, some fe, some ma, some tp, some (.tup ((l0 :: lr).map .int)), some (.int bow), some (.lst []), some (.lst []), some (.int ((l0 :: lr).getD 0 0)), x9, x10, x11, x12] ⟨d, [], [], l0, _, _, _, rfl, hd.mono (by omega), I0⟩ (by
      rintro j x hx ρ ⟨d, J, S, run, x9, x10, x11, rfl, hd, I⟩
      obtain ⟨hx1, hx2⟩ := rng_get hx
      have hk : 1 + j < (l0 :: lr).length := by omega
      have hg : (l0 :: lr)[1 + j]? = some ((l0 :: lr)[1 + j]) := List.getElem?_eq_getElem hk
      generalize (l0 :: lr)[1 + j] = l at hg
      have hm : l ∈ l0 :: lr := List.mem_of_getElem? hg
      have hl1 := hl l hm
      have hb1 := hb l hm
      obtain ⟨r, d2, hp, r0, r1, hd2⟩ := s_pick (lim := 8) hd (by omega) (by decide) (by decide)
      have hxe : x = ((1 + j : Nat) : Int) := by omega
      have hat : atU ((l0 :: lr).map U.int) x = some (.int l) := by
        rw [atU_map, hxe, atU_nat, hg]
        rfl
      rw [List.map_cons] at hat
      have hat2 : atU (U.int l0 :: lr.map U.int) (1 + (j : Int)) = some (.int l) := by
        rw [show (1 + (j : Int)) = x by omega]
        exact hat
      have hJl : J.length ≤ 100000 := by
        have := inc_len I.ij (lo := 1) (hi := ((1 + j : Nat) : Int)) I.rj (by omega)
        omega
      have hSl : S.length ≤ 100000 := by
        have := inc_len I.is (lo := 1) (hi := ((1 + j : Nat) : Int)) I.rs (by omega)
        omega
      have hd3 : Dk (B + ((1 + j + 1 : Nat) : Int)) d2 := hd2.mono (by omega)
      have hr1 := I.r1
      refine ⟨_, rfl, ?_⟩
      by_cases hc : r = 0 ∧ run + l ≤ bow
      · have I2 := I.joined (by omega) hg hl1.1 hc.2
        have hgt : l < run + l := by omega
        refine ⟨[some d2, some fe, some ma, some tp, some (.tup ((l0 :: lr).map .int)), some (.int bow), some (.lst ((J ++ [((1 + j : Nat) : Int)]).map .int)), some (.lst (S.map .int)), some (.int (run + l)), some (.int x), some (.int r), some (.int (run + l)), x12], ?_, d2, _, S, _, _, _, _, rfl, hd3, I2⟩
        simp [l__law_piece_1, hp, hat, hat2, hc.1, hc.2, hgt, appO, hJl, hxe]
      · have hne : ¬ (r = 0 ∧ run + l ≤ bow) := hc
        by_cases hw : r = 1
        · have I2 := I.plain (S' := S ++ [((1 + j : Nat) : Int)]) (by omega) hg hl1.1 hb1 (.inr rfl)
          refine ⟨[some d2, some fe, some ma, some tp, some (.tup ((l0 :: lr).map .int)), some (.int bow), some (.lst (J.map .int)), some (.lst ((S ++ [((1 + j : Nat) : Int)]).map .int)), some (.int l), some (.int x), some (.int r), some (.int (run + l)), x12], ?_, d2, J, _, _, _, _, _, rfl, hd3, I2⟩
          simp [l__law_piece_1, hp, hat, hat2, hw, appO, hSl, hxe]
        · have I2 := I.plain (S' := S) (by omega) hg hl1.1 hb1 (.inl rfl)
          refine ⟨[some d2, some fe, some ma, some tp, some (.tup ((l0 :: lr).map .int)), some (.int bow), some (.lst (J.map .int)), some (.lst (S.map .int)), some (.int l), some (.int x), some (.int r), some (.int (run + l)), x12], ?_, d2, J, S, _, _, _, _, rfl, hd3, I2⟩
          simp [l__law_piece_1, hp, hat, hw, hne])
  refine ⟨d', J, S, run, y9, y10, y11, e1, hd'.mono (by simp at *; omega), ?_⟩
  have hlen : 1 + (rng 1 ((l0 :: lr).length - 1)).length = (l0 :: lr).length := by simp; omega
  rw [hlen] at I'
  exact I'
theorem bMin2_i (i j : Int) : bMin2 [.int i, .int j] = some (.int (if j < i then j else i)) := rfl
theorem s_piece {B : Int} {d : U} {few many : Int} (hd : Dk B d) (hB : B ≤ 800000000) (h1 : 1 ≤ few) (h2 : few ≤ many) (h3 : many ≤ 30) :
    ∃ ls bow jn sp d', fn__law_piece [d, .int few, .int many] = .ok (encP ls bow jn sp) d' ∧ GoodP ls bow jn sp ∧ few ≤ ls.length ∧ (ls.length : Int) ≤ many ∧ Dk (B + 100) d' := by
  obtain ⟨u, d1, e1, hu, hd1⟩ := s_one (xs := [.int 1, .int 3, .int 20]) hd (by omega) (by simp) (by simp)
  obtain ⟨top, rfl, t1, t2⟩ : ∃ top : Int, u = .int top ∧ 1 ≤ top ∧ top ≤ 20 := by
    simp at hu
    rcases hu with e | e | e
    · exact ⟨1, e, by decide, by decide⟩
    · exact ⟨3, e, by decide, by decide⟩
    · exact ⟨20, e, by decide, by decide⟩
  obtain ⟨c, d2, e2, c0, c1, hd2⟩ := s_pick (lim := many - few + 1) hd1 (by omega) (by omega) (by omega)
  obtain ⟨ys, ρ', e3, yl, yP, d3, x12, rfl, hd3⟩ := eComp_inv (vs := [12]) (it := iRange1 (aCons (Q.e2 uAdd (eV 1) (eCallD 0 fn__law_pick (aCons (Q.e2 uAdd (Q.e2 uSub (eV 2) (eV 1)) (eC (.int 1))) aNil))) aNil)) (g := gN 12) (e := Q.e2 uAdd (eC (.int 1)) (eCallD 0 fn__law_pick (aCons (eV 3) aNil)))
    (ρ := [some d1, some (.int few), some (.int many), some (.int top), none, none, none, none, none, none, none, none, none]) (ρ1 := [some d2, some (.int few), some (.int many), some (.int top), none, none, none, none, none, none, none, none, none]) (rng 0 (few + c).toNat) U.int (fun y => ∃ i, y = .int i ∧ 1 ≤ i ∧ i ≤ 20) 30
    (fun k ρ => ∃ d x, ρ = [some d, some (.int few), some (.int many), some (.int top), none, none, none, none, none, none, none, none, x] ∧ Dk (B + 2 + k) d)
    (by
      have a1 : -(2 ^ 62) ≤ few + c ∧ few + c < 2 ^ 62 := by omega
      simp [e2, rangeU_map]
      omega)
    (by simp; omega) ⟨d2, none, rfl, hd2.mono (by omega)⟩ (by simp; omega) (by
      rintro x hx k ρ hk ⟨d, x12, rfl, hd⟩
      obtain ⟨r, d', ep, r0, r1, hd'⟩ := s_pick (lim := top) hd (by omega) t1 (by omega)
      refine ⟨_, rfl, .int (1 + r), [some d', some (.int few), some (.int many), some (.int top), none, none, none, none, none, none, none, none, some (.int x)], ?_, ⟨1 + r, rfl, by omega, by omega⟩, d', _, rfl, hd'.mono (by omega)⟩
      simp [wipeU, ep])
  obtain ⟨ls, rfl, hls⟩ := ints_of_all yP
  rw [List.length_map, rng_length] at yl
  have hn1 : 1 ≤ ls.length := by omega
  have hn2 : ls.length ≤ 30 := by omega
  have hne : ls ≠ [] := fun z => by
    rw [z] at hn1
    simp at hn1
  have hsum := sum_range hls
  rw [rng_length] at hd3
  obtain ⟨u2, d4, e4, hu2, hd4⟩ := s_one (xs := [.int 3, .int (3 * top), .int ls.sum]) hd3 (by omega) (by simp) (by simp)
  obtain ⟨lm, rfl, l1, l2⟩ : ∃ lm : Int, u2 = .int lm ∧ 1 ≤ lm ∧ lm ≤ 600 := by
    simp at hu2
    rcases hu2 with e | e | e
    · exact ⟨3, e, by decide, by decide⟩
    · exact ⟨_, e, by omega, by omega⟩
    · exact ⟨_, e, by omega, by omega⟩
  obtain ⟨p, d5, e5, p0, p1, hd5⟩ := s_pick (lim := lm) hd4 (by omega) l1 (by omega)
  generalize hbow : (if maxL ls + p < 100 then maxL ls + p else 100) = bow
  have hmax : ∀ l ∈ ls, l ≤ maxL ls := fun l hl => le_maxL hl
  have hmax20 : maxL ls ≤ 20 := maxL_le hne fun l hl => (hls l hl).2
  have hb : ∀ l ∈ ls, l ≤ bow := fun l hl => by
    have := hmax l hl
    rw [← hbow]
    split <;> omega
  have hb100 : bow ≤ 100 := by
    rw [← hbow]
    split <;> omega
  have hget : atU ls 0 = some (ls.getD 0 0) := by
    unfold atU
    rw [if_pos (Int.le_refl _), List.getD_eq_getElem?_getD]
    show ls[0]? = _
    rw [List.getElem?_eq_getElem (by omega)]
    rfl
  obtain ⟨d6, J, S, run, y9, y10, y11, e6, hd6, I⟩ := piece_loop (.int few) (.int many) (.int top) none ls bow hn1 hn2 hls hb d5 hd5 (by omega) none none none
  have e7 : ∀ v : Int, uMul (.int 3) (.int v) = some (.int (3 * v)) := fun v => uMul_i ⟨by decide, by decide⟩
  have hr1 : -(2 ^ 62) ≤ (1 : Int) ∧ (1 : Int) < 2 ^ 62 ∧ -(2 ^ 62) ≤ (ls.length : Int) ∧ (ls.length : Int) < 2 ^ 62 := by omega
  have hr2 : ((ls.length : Int) - 1).toNat = ls.length - 1 := by omega
  have hJl : J.length ≤ 1000 := by
    have := inc_len I.ij (lo := 1) (hi := (ls.length : Int)) I.rj (by omega)
    omega
  have hSl : S.length ≤ 1000 := by
    have := inc_len I.is (lo := 1) (hi := (ls.length : Int)) I.rs (by omega)
    omega
  refine ⟨ls, bow, J, S, d6, ?_, ⟨hn1, hn2, hls, ?_, hb100, okGaps_of I.ij fun g hg => ?_, okGaps_of I.is fun g hg => ?_, I.d, ?_, hJl, hSl⟩, by omega, by omega, hd6.mono (by omega)⟩
  · simp [fn__law_piece, fnOf, b__law_piece, startU, e1]
    rw [e3]
    simp [backU, bMax1_t hne, e7, e4, e5, bMin2_i, hbow, hget]
    rw [if_pos (by omega)]
    rw [rangeU_map]
    simp at e6
    rw [e6]
    simp [slot0, encP]
  · have := hls _ (List.getElem_mem (l := ls) (n := 0) (by omega))
    have := hb _ (List.getElem_mem (l := ls) (n := 0) (by omega))
    omega
  · have := I.rj g hg
    omega
  · have := I.rs g hg
    omega
  · have := I.b
    rwa [pb_all] at this
end LB
set_option maxHeartbeats 2000000
set_option maxRecDepth 100000
/-! MRand: the laws' random gaps and wishes; all sets of gaps -/
namespace LB
open Q
open PySem (Str)
structure GoodG (n : Int) (gs : List Int) : Prop where
  i : Inc gs
  r : ∀ g ∈ gs, 1 ≤ g ∧ g ≤ n - 1
theorem GoodG.ok {n : Int} {gs : List Int} (h : GoodG n gs) : okGaps n gs = true := okGaps_of h.i h.r
theorem GoodG.len {n : Int} {gs : List Int} (h : GoodG n gs) (hn : 1 ≤ n) : (gs.length : Int) ≤ n - 1 := by
  have := inc_len h.i (lo := 1) (hi := n) (fun g hg => by have := h.r g hg; omega) hn
  omega
theorem zip_tail_get {α : Type} : ∀ {l : List α} {j : Nat} {p : α × α}, (l.zip l.tail)[j]? = some p → l[j]? = some p.1 ∧ l[j + 1]? = some p.2 := by
  intro l j p h
  rw [List.getElem?_zip_eq_some] at h
  refine ⟨h.1, ?_⟩
  rw [List.getElem?_tail] at h
  exact h.2
theorem inc_get {l : List Int} (h : Inc l) {i j : Nat} {x y : Int} (hx : l[i]? = some x) (hy : l[j]? = some y) (hij : i < j) : x < y := by
  obtain ⟨hi, rfl⟩ := List.getElem?_eq_some_iff.mp hx
  obtain ⟨hj, rfl⟩ := List.getElem?_eq_some_iff.mp hy
  exact List.pairwise_iff_getElem.mp h i j hi hj hij
theorem inc_rng : ∀ (n : Nat) (lo : Int), Inc (rng lo n)
  | 0, _ => List.Pairwise.nil
  | n + 1, lo => List.pairwise_cons.mpr ⟨fun x hx => by have := mem_rng.mp hx; omega, inc_rng n (lo + 1)⟩
/-- the places between blocks -/
def placesL (n : Int) (jn : List Int) : List Int := 0 :: ((rng 1 (n - 1).toNat).filter (fun g => !jn.contains g) ++ [n])
theorem inc_places {n : Int} {jn : List Int} (hn : 1 ≤ n) : Inc (placesL n jn) := by
  unfold placesL
  refine List.pairwise_cons.mpr ⟨fun x hx => ?_, List.pairwise_append.mpr ⟨(inc_rng _ _).sublist List.filter_sublist, List.pairwise_singleton _ _, fun a ha b hb => ?_⟩⟩
  · rcases List.mem_append.mp hx with h | h
    · have := mem_rng.mp (List.mem_filter.mp h).1
      omega
    · rw [List.mem_singleton.mp h]
      omega
  · have := mem_rng.mp (List.mem_filter.mp ha).1
    rw [List.mem_singleton.mp hb]
    omega
theorem places_len {n : Int} {jn : List Int} (hn : 1 ≤ n) : (placesL n jn).length ≤ n.toNat + 1 := by
  unfold placesL
  rw [List.length_cons, List.length_append]
  have := List.length_filter_le (fun g => !jn.contains g) (rng 1 (n - 1).toNat)
  rw [rng_length] at this
  simp
  simp at this
  omega
theorem places_le {n : Int} {jn : List Int} (hn : 1 ≤ n) {x : Int} (hx : x ∈ placesL n jn) : 0 ≤ x ∧ x ≤ n := by
  unfold placesL at hx
  rcases List.mem_cons.mp hx with h | h
  · omega
  · rcases List.mem_append.mp h with h | h
    · have := mem_rng.mp (List.mem_filter.mp h).1
      omega
    · rw [List.mem_singleton.mp h]
      omega
theorem s_random {B : Int} {d : U} {ls : List Int} {bow : Int} {jn sp : List Int} (hd : Dk B d) (hB : B ≤ 700000000) (hn : 1 ≤ ls.length) (hn2 : ls.length ≤ 30) :
    ∃ gs d', fn__law_random [d, encP ls bow jn sp] = .ok (.tup (gs.map .int)) d' ∧ GoodG ls.length gs ∧ Dk (B + 40) d' := by
  have hP : encP ls bow jn sp = U.tup [.tup (ls.map .int), .int bow, .tup (jn.map .int), .tup (sp.map .int)] := rfl
  generalize hE : encP ls bow jn sp = P at *
  have hN : (1 : Int) ≤ (ls.length : Int) := by omega
  have hinc := inc_places (jn := jn) hN
  have hpl := places_len (jn := jn) hN
  have hple := fun x => places_le (jn := jn) hN (x := x)
  generalize hpls : placesL (ls.length : Int) jn = pl at *
  have hlast : ∀ (j : Nat) (x : Int), pl[j]? = some x → pl[j + 1]? ≠ none → x < ls.length := fun j x h1 h2 => by
    cases h : pl[j + 1]? with
    | none => exact absurd h h2
    | some y =>
      have := inc_get hinc h1 h (Nat.lt_succ_self _)
      have := (hple y (List.mem_of_getElem? h)).2
      omega
  obtain ⟨ρ', e1, d', F, us, x9, x10, x11, x12, rfl, hd', hF1, hF2⟩ := forL_turns (g := gT (gsCons (gN 9) (gsCons (gN 10) gsNil))) (b := l__law_random_1) (fun p : Int × Int => U.tup [.int p.1, .int p.2])
    (fun k ρ => ∃ d F us x9 x10 x11 x12, ρ = [some d, some P, some (.tup (ls.map .int)), some (.int bow), some (.tup (jn.map .int)), some (.tup (sp.map .int)), some (.lst (pl.map .int)), some (.lst (F.map .int)), some (.int us), x9, x10, x11, x12, none] ∧ Dk (B + k) d ∧ Inc F ∧
      ∀ g ∈ F, 1 ≤ g ∧ g < ls.length ∧ ∀ x, pl[k]? = some x → g < x) (pl.zip pl.tail) 0
    [some d, some P, some (.tup (ls.map .int)), some (.int bow), some (.tup (jn.map .int)), some (.tup (sp.map .int)), some (.lst (pl.map .int)), some (.lst []), some (.int 0), none, none, none, none, none]
    ⟨d, [], 0, _, _, _, _, rfl, hd.mono (by omega), List.Pairwise.nil, fun g hg => (by cases hg)⟩ (by
      rintro j ⟨s, e⟩ hx ρ ⟨d, F, us, x9, x10, x11, x12, rfl, hd, hF, hFr⟩
      obtain ⟨h1, h2⟩ := zip_tail_get hx
      simp only at h1 h2
      have hse : s < e := inc_get hinc h1 h2 (Nat.lt_succ_self _)
      have hs0 := hple s (List.mem_of_getElem? h1)
      have hsn : s < ls.length := hlast j s h1 (by rw [h2]; simp)
      have hj : j < 40 := by
        have := (List.getElem?_eq_some_iff.mp h1).1
        omega
      obtain ⟨r, d2, hp, r0, r1, hd2⟩ := s_pick (lim := 3) hd (by omega) (by decide) (by decide)
      have hFl : F.length ≤ 100000 := by
        have := inc_len hF (lo := 1) (hi := (ls.length : Int)) (fun g hg => ⟨(hFr g hg).1, (hFr g hg).2.1⟩) hN
        omega
      have hd3 : Dk (B + ((0 + j + 1 : Nat) : Int)) d := hd.mono (by omega)
      have hd4 : Dk (B + ((0 + j + 1 : Nat) : Int)) d2 := hd2.mono (by omega)
      have hle : ∀ g ∈ F, 1 ≤ g ∧ g < ls.length ∧ ∀ x, pl[0 + j + 1]? = some x → g < x := fun g hg => by
        refine ⟨(hFr g hg).1, (hFr g hg).2.1, fun x hx => ?_⟩
        rw [show 0 + j + 1 = j + 1 by omega, h2] at hx
        cases hx
        have := (hFr g hg).2.2 s (by rw [show 0 + j = j by omega]; exact h1)
        omega
      have hincF : 0 < s → Inc (F ++ [s]) := fun hs => inc_snoc hF fun y hy => (hFr y hy).2.2 s (by rw [show 0 + j = j by omega]; exact h1)
      have hleF : 0 < s → ∀ g ∈ F ++ [s], 1 ≤ g ∧ g < ls.length ∧ ∀ x, pl[0 + j + 1]? = some x → g < x := fun hs g hg => by
        rcases List.mem_append.mp hg with hg | hg
        · exact hle g hg
        · rw [List.mem_singleton.mp hg]
          refine ⟨by omega, hsn, fun x hx => ?_⟩
          rw [show 0 + j + 1 = j + 1 by omega, h2] at hx
          cases hx
          exact hse
      refine ⟨_, rfl, ?_⟩
      generalize hbl : (cutU ls (some s) (some e)).sum = bl
      by_cases hs : 0 < s
      · by_cases hf : s ∈ sp ∨ bow < us + bl
        · refine ⟨[some d, some P, some (.tup (ls.map .int)), some (.int bow), some (.tup (jn.map .int)), some (.tup (sp.map .int)), some (.lst (pl.map .int)), some (.lst ((F ++ [s]).map .int)), some (.int (0 + bl)), some (.int s), some (.int e), some (.int bl), some (.bl true), none], ?_, d, F ++ [s], _, _, _, _, _, rfl, hd3, hincF hs, hleF hs⟩
          simp [l__law_random_1, hbl, hs, hf, appO, hFl]
        · have hf2 : s ∉ sp ∧ us + bl ≤ bow := by
            rw [not_or] at hf
            exact ⟨hf.1, by omega⟩
          have hf3 : ¬ bow < us + bl := by omega
          by_cases hr : r = 0
          · refine ⟨[some d2, some P, some (.tup (ls.map .int)), some (.int bow), some (.tup (jn.map .int)), some (.tup (sp.map .int)), some (.lst (pl.map .int)), some (.lst ((F ++ [s]).map .int)), some (.int (0 + bl)), some (.int s), some (.int e), some (.int bl), some (.bl false), none], ?_, d2, F ++ [s], _, _, _, _, _, rfl, hd4, hincF hs, hleF hs⟩
            simp [l__law_random_1, hbl, hs, hf, hf2, hf3, appO, hFl, hp, hr]
          · refine ⟨[some d2, some P, some (.tup (ls.map .int)), some (.int bow), some (.tup (jn.map .int)), some (.tup (sp.map .int)), some (.lst (pl.map .int)), some (.lst (F.map .int)), some (.int (us + bl)), some (.int s), some (.int e), some (.int bl), some (.bl false), none], ?_, d2, F, _, _, _, _, _, rfl, hd4, hF, hle⟩
            simp [l__law_random_1, hbl, hs, hf, hf2, hf3, appO, hFl, hp, hr]
      · refine ⟨[some d, some P, some (.tup (ls.map .int)), some (.int bow), some (.tup (jn.map .int)), some (.tup (sp.map .int)), some (.lst (pl.map .int)), some (.lst (F.map .int)), some (.int (us + bl)), some (.int s), some (.int e), some (.int bl), some (.bl (decide (s ∈ sp ∨ bow < us + bl))), none], ?_, d, F, _, _, _, _, _, rfl, hd3, hF, hle⟩
        simp [l__law_random_1, hbl, hs])
  refine ⟨F, d', ?_, ⟨hF1, fun g hg => ?_⟩, hd'.mono (by simp; omega)⟩
  · rw [← hE] at e1 ⊢
    have h62 : -(2 ^ 62) ≤ (1 : Int) ∧ (1 : Int) < 2 ^ 62 ∧ -(2 ^ 62) ≤ (ls.length : Int) ∧ (ls.length : Int) < 2 ^ 62 := by omega
    have hcomp := eComp_same (vs := [13]) (it := iRange2 (aCons (eC (.int 1)) (aCons (eB bLen (aCons (eV 2) aNil)) aNil))) (g := gN 13) (t := tB (Q.e2 uNotIn (eV 13) (eV 4))) (e := eV 13)
      (ρ := [some d, some (encP ls bow jn sp), some (.tup (ls.map .int)), some (.int bow), some (.tup (jn.map .int)), some (.tup (sp.map .int)), none, none, none, none, none, none, none, none]) (rng 1 ((ls.length : Int) - 1).toNat) U.int (fun g => !jn.contains g) U.int (by
        simp [rangeU_map]
        omega) (by simp; omega) (by
        intro x hx
        refine ⟨_, rfl, ?_, fun _ => ?_, ?_⟩ <;> simp [wipeU])
    have hlen : ((rng 1 ((ls.length : Int) - 1).toNat).filter (fun g => !jn.contains g)).length ≤ 40 := by
      have := List.length_filter_le (fun g => !jn.contains g) (rng 1 ((ls.length : Int) - 1).toNat)
      rw [rng_length] at this
      omega
    have hadd : (1 : Nat) + ((rng 1 ((ls.length : Int) - 1).toNat).filter (fun g => !jn.contains g)).length ≤ 100000 := by omega
    have hadd2 : ((rng 1 ((ls.length : Int) - 1).toNat).filter (fun g => !jn.contains g)).length + 1 + 1 ≤ 100000 := by omega
    unfold placesL at hpls
    generalize hfl : (rng 1 ((ls.length : Int) - 1).toNat).filter (fun g => !jn.contains g) = fl at *
    have hplU : U.int 0 :: (fl.map U.int ++ [U.int (ls.length : Int)]) = pl.map U.int := by
      rw [← hpls]
      simp
    simp [fn__law_random, fnOf, b__law_random, startU]
    simp only [encP] at hcomp e1 ⊢
    have hplT : fl.map U.int ++ [U.int (ls.length : Int)] = (pl.map U.int).tail := by rw [← hplU]; rfl
    simp [hcomp, hadd, hadd2]
    rw [hplU, hplT, zip_tail, e1]
    simp [slot0]
  · have := hF2 g hg
    omega
end LB
set_option maxHeartbeats 2000000
set_option maxRecDepth 100000
/-! MWish: the laws' random wishes; all sets of gaps -/
namespace LB
open Q
open PySem (Str)
theorem at_word (k : Int) : atU [U.str [117, 112], U.str [100, 111, 119, 110]] (k % 2) = some (wd (decide (k % 2 = 0))) := by
  have : k % 2 = 0 ∨ k % 2 = 1 := by omega
  rcases this with h | h
  · rw [h]; rfl
  · rw [h]; rfl
theorem s_one_word {B : Int} {d : U} (h : Dk B d) (hB : B ≤ 1000000000) : ∃ b d', fn__law_one [d, .lst [.str [117, 112], .str [100, 111, 119, 110]]] = .ok (wd b) d' ∧ Dk (B + 1) d' := by
  obtain ⟨u, d', e, hu, hd⟩ := s_one (xs := [.str [117, 112], .str [100, 111, 119, 110]]) h hB (by simp) (by simp)
  simp at hu
  rcases hu with q | q
  · exact ⟨true, d', by rw [e, q]; rfl, hd⟩
  · exact ⟨false, d', by rw [e, q]; rfl, hd⟩
theorem goodW_of {n : Int} {ws : List (Int × Bool)} (hi : ws.Pairwise fun a b => a.1 < b.1) (hr : ∀ w ∈ ws, 0 ≤ w.1 ∧ w.1 ≤ n - 1) (hl : ws.length ≤ 1000) : GoodW n ws := by
  refine ⟨hr, ?_, hl⟩
  clear hr hl
  induction ws with
  | nil => rfl
  | cons a l ih =>
    cases l with
    | nil => rfl
    | cons b l =>
      have h := List.pairwise_cons.mp hi
      have ih' := ih h.2
      rw [List.tail_cons] at ih'
      rw [List.tail_cons, List.zip_cons_cons, List.all_cons, ih']
      have := h.1 b (.head _)
      simp [this]
theorem wish_len {ws : List (Int × Bool)} : ∀ {lo hi : Int}, (ws.Pairwise fun a b => a.1 < b.1) → (∀ w ∈ ws, lo ≤ w.1 ∧ w.1 < hi) → lo ≤ hi → (ws.length : Int) ≤ hi - lo := by
  intro lo hi h hr hle
  have := inc_len (l := ws.map (·.1)) (List.pairwise_map.mpr h) (lo := lo) (hi := hi) (fun x hx => by
    obtain ⟨w, hw, rfl⟩ := List.mem_map.mp hx
    exact hr w hw) hle
  rwa [List.length_map] at this
theorem s_wishes {B : Int} {d : U} {ls : List Int} {bow : Int} {jn sp : List Int} (hd : Dk B d) (hB : B ≤ 600000000) (hn : 1 ≤ ls.length) (hn2 : ls.length ≤ 30) :
    ∃ ws d', fn__law_wishes [d, encP ls bow jn sp] = .ok (encW ws) d' ∧ GoodW ls.length ws ∧ Dk (B + 200) d' := by
  obtain ⟨u, d1, e1, hu, hd1⟩ := s_one (xs := [.int 2, .int 3, .int 6]) hd (by omega) (by simp) (by simp)
  obtain ⟨ch, rfl, t1, t2⟩ : ∃ ch : Int, u = .int ch ∧ 1 ≤ ch ∧ ch ≤ 20 := by
    simp at hu
    rcases hu with e | e | e
    · exact ⟨2, e, by decide, by decide⟩
    · exact ⟨3, e, by decide, by decide⟩
    · exact ⟨6, e, by decide, by decide⟩
  obtain ⟨gs, d2, e2, hg, hd2⟩ := s_random (bow := bow) (jn := jn) (sp := sp) hd1 (by omega) hn hn2
  obtain ⟨tr, d3, e3, r0, r1, hd3⟩ := s_pick (lim := 3) hd2 (by omega) (by decide) (by decide)
  have e4 := s_law_numbers ls.length gs (by omega) (by omega)
  rw [show ((ls.length : Int)).toNat = ls.length by omega] at e4
  have hlen := lawL_len gs ls.length 1 0
  generalize lawL gs 1 0 ls.length = nums at *
  obtain ⟨ρ', k1, d', W, x7, x8, x9, rfl, hd', hW, hr⟩ := forL_turns (g := gT (gsCons (gN 7) (gsCons (gN 8) gsNil))) (b := l__law_wishes_1) (fun p : Int × Int => U.tup [.int p.1, .int p.2])
    (fun k ρ => ∃ d W x7 x8 x9, ρ = [some d, some (encP ls bow jn sp), some (.int ls.length), some (.lst (W.map encw)), some (.int ch), some (.tup (gs.map .int)), some (.bl (decide (0 < tr))), x7, x8, x9] ∧ Dk (B + 100 + 2 * k) d ∧ (W.Pairwise fun a b => a.1 < b.1) ∧ ∀ w ∈ W, 0 ≤ w.1 ∧ w.1 < (k : Int)) (enumI nums) 0
    [some d3, some (encP ls bow jn sp), some (.int ls.length), some (.lst []), some (.int ch), some (.tup (gs.map .int)), some (.bl (decide (0 < tr))), none, none, none] ⟨d3, [], _, _, _, rfl, hd3.mono (by omega), List.Pairwise.nil, fun w hw => (by cases hw)⟩ (by
      rintro j ⟨i, k⟩ hx ρ ⟨d, W, x7, x8, x9, rfl, hd, hW, hr⟩
      unfold enumI at hx
      rw [List.getElem?_zip_eq_some] at hx
      obtain ⟨hx1, hx2⟩ := hx
      obtain ⟨hi, hj⟩ := rng_get hx1
      simp only at hi
      rw [hlen] at hj
      obtain ⟨r, d4, e5, q0, q1, hd4⟩ := s_pick (lim := ch) hd (by omega) t1 (by omega)
      obtain ⟨b, d5, e6, hd5⟩ := s_one_word hd4 (by omega)
      have hWl : W.length ≤ 100000 := by
        have := wish_len hW (lo := 0) (hi := ((0 + j : Nat) : Int)) hr (by omega)
        omega
      have hr2 : ∀ w ∈ W, 0 ≤ w.1 ∧ w.1 < ((0 + j + 1 : Nat) : Int) := fun w hw => by
        have := hr w hw
        omega
      have hWa : ∀ b : Bool, (W ++ [(i, b)]).Pairwise fun a b => a.1 < b.1 := fun b => List.pairwise_append.mpr ⟨hW, List.pairwise_singleton _ _, fun x hx y hy => by
        rw [List.mem_singleton.mp hy]
        have := hr x hx
        simp only
        omega⟩
      have hra : ∀ b : Bool, ∀ w ∈ W ++ [(i, b)], 0 ≤ w.1 ∧ w.1 < ((0 + j + 1 : Nat) : Int) := fun b w hw => by
        rcases List.mem_append.mp hw with hw | hw
        · exact hr2 w hw
        · rw [List.mem_singleton.mp hw]
          simp only
          omega
      refine ⟨_, rfl, ?_⟩
      by_cases hc : r = 0
      · by_cases ht : 0 < tr
        · refine ⟨[some d4, some (encP ls bow jn sp), some (.int ls.length), some (.lst ((W ++ [(i, decide (k % 2 = 0))]).map encw)), some (.int ch), some (.tup (gs.map .int)), some (.bl (decide (0 < tr))), some (.int i), some (.int k), some (wd (decide (k % 2 = 0)))], ?_, d4, _, _, _, _, rfl, hd4.mono (by omega), hWa _, hra _⟩
          simp [l__law_wishes_1, e5, hc, ht, uMod_i, at_word, appO, hWl, encw]
        · refine ⟨[some d5, some (encP ls bow jn sp), some (.int ls.length), some (.lst ((W ++ [(i, b)]).map encw)), some (.int ch), some (.tup (gs.map .int)), some (.bl (decide (0 < tr))), some (.int i), some (.int k), some (wd (decide (k % 2 = 0)))], ?_, d5, _, _, _, _, rfl, hd5.mono (by omega), hWa _, hra _⟩
          simp [l__law_wishes_1, e5, hc, ht, uMod_i, at_word, appO, hWl, encw, e6]
      · refine ⟨[some d4, some (encP ls bow jn sp), some (.int ls.length), some (.lst (W.map encw)), some (.int ch), some (.tup (gs.map .int)), some (.bl (decide (0 < tr))), some (.int i), some (.int k), x9], ?_, d4, W, _, _, _, rfl, hd4.mono (by omega), hW, hr2⟩
        simp [l__law_wishes_1, e5, hc])
  have hel : (enumI nums).length = ls.length := by
    unfold enumI
    simp [hlen]
  rw [hel] at hr hd'
  refine ⟨W, d', ?_, goodW_of hW (fun w hw => by have := hr w hw; omega) (by
    have := wish_len hW (lo := 0) (hi := ((0 + ls.length : Nat) : Int)) hr (by omega)
    omega), hd'.mono (by omega)⟩
  simp [fn__law_wishes, fnOf, b__law_wishes, startU, e1, e2, e3, e4, enumU_map]
  rw [k1]
  simp [slot0]
  rfl
end LB
set_option maxHeartbeats 2000000
set_option maxRecDepth 100000
/-! MSets: all sets of gaps -/
namespace LB
open Q
open PySem (Str)
def SF : Nat → List (List Int)
  | 0 => [[]]
  | m + 1 => SF m ++ (SF m).map (· ++ [((m + 1 : Nat) : Int)])
abbrev encGs (gs : List Int) : U := .tup (gs.map U.int)
theorem SF_len : ∀ m, (SF m).length = 2 ^ m
  | 0 => rfl
  | m + 1 => by
    rw [SF, List.length_append, List.length_map, SF_len m, Nat.pow_succ]
    omega
theorem SF_good : ∀ (m : Nat) (gs : List Int), gs ∈ SF m → Inc gs ∧ (∀ g ∈ gs, 1 ≤ g ∧ g ≤ m) ∧ gs.length ≤ m
  | 0, gs, h => by
    rw [SF] at h
    rw [List.mem_singleton.mp h]
    exact ⟨List.Pairwise.nil, fun g hg => (by cases hg), Nat.le_refl _⟩
  | m + 1, gs, h => by
    rw [SF] at h
    rcases List.mem_append.mp h with h | h
    · obtain ⟨h1, h2, h3⟩ := SF_good m gs h
      exact ⟨h1, fun g hg => by have := h2 g hg; omega, by omega⟩
    · obtain ⟨g0, hg0, rfl⟩ := List.mem_map.mp h
      obtain ⟨h1, h2, h3⟩ := SF_good m g0 hg0
      refine ⟨inc_snoc h1 fun y hy => by have := h2 y hy; omega, fun g hg => ?_, by simp; omega⟩
      rcases List.mem_append.mp hg with hg | hg
      · have := h2 g hg
        omega
      · rw [List.mem_singleton.mp hg]
        omega
theorem SF_head : ∀ m, ∃ r, SF m = [] :: r
  | 0 => ⟨[], rfl⟩
  | m + 1 => by
    obtain ⟨r, h⟩ := SF_head m
    rw [SF, h]
    exact ⟨_, rfl⟩
theorem keysOf_enc : ∀ l : List (List Int), keysOf (l.map encGs) = some l
  | [] => rfl
  | x :: l => by
    rw [List.map_cons, keysOf, intsOf_in, keysOf_enc l]
    rfl
theorem s_sets (n : Nat) (hn : 1 ≤ n) (hn2 : n ≤ 10) : ∃ sets : List (List Int), fn__law_sets [.int n] = .ok (.lst (sets.map encGs)) .non ∧ sets.length ≤ 1000 ∧ ∀ gs ∈ sets, GoodG n gs := by
  obtain ⟨ρ', e1, x2, rfl⟩ := forL_turns (g := gN 2) (b := l__law_sets_1) U.int (fun k ρ => ∃ x2, ρ = [some (.int n), some (.lst ((SF k).map encGs)), x2, none]) (rng 1 (n - 1)) 0 [some (.int n), some (.lst [.tup []]), none, none] ⟨_, rfl⟩ (by
    rintro j x hx ρ ⟨x2, rfl⟩
    obtain ⟨hx1, hx2⟩ := rng_get hx
    have hxe : x = ((j + 1 : Nat) : Int) := by omega
    subst hxe
    rw [show 0 + j = j by omega]
    have hl := SF_len j
    have h9 : 2 ^ j ≤ 2 ^ 9 := Nat.pow_le_pow_right (by decide) (by omega)
    have h512 : 2 ^ 9 = 512 := rfl
    have ha : (SF j).length + (SF j).length ≤ 100000 := by omega
    refine ⟨_, rfl, [some (.int n), some (.lst ((SF (j + 1)).map encGs)), some (.int ((j + 1 : Nat) : Int)), none], ?_, _, rfl⟩
    have hc := eComp_true (vs := [3]) (it := iSeq (eV 1)) (g := gN 3) (e := Q.e2 uAdd (eV 3) (eTup (aCons (eV 2) aNil))) (ρ := [some (.int n), some (.lst ((SF j).map encGs)), some (.int ((j + 1 : Nat) : Int)), none]) (SF j) encGs (fun gs => encGs (gs ++ [((j + 1 : Nat) : Int)])) (by simp) (by omega) (by
      intro gs hgs
      have := (SF_good j gs hgs).2.2
      have hle : gs.length + 1 ≤ 100000 := by omega
      refine ⟨_, rfl, ?_, ?_⟩ <;> simp [wipeU, hle])
    have hm : (SF j).map (fun gs => encGs (gs ++ [((j + 1 : Nat) : Int)])) = ((SF j).map (· ++ [((j + 1 : Nat) : Int)])).map encGs := by
      rw [List.map_map]
      rfl
    rw [hm] at hc
    unfold l__law_sets_1
    rw [SF, List.map_append]
    show sAsg _ _ _ = _
    rw [sAsg_d, e2_d]
    simp only [gN, List.set_cons_succ, List.set_cons_zero, eV_d, nthS_s, nthS_0, vS_s, bind_ok, hc, uAdd_l, List.length_map, if_pos ha, rs_some, of_ok, nxO_s])
  obtain ⟨r, hr⟩ := SF_head (n - 1)
  refine ⟨sortB lexL (SF (n - 1)), ?_, ?_, fun gs hgs => ?_⟩
  · have hk := keysOf_enc (SF (n - 1))
    have hi : intsOf ((SF (n - 1)).map encGs) = none := by rw [hr]; rfl
    have hs : bSorted [.lst ((SF (n - 1)).map encGs)] = some (.lst ((sortB lexL (SF (n - 1))).map encGs)) := by
      unfold bSorted
      simp only [hi, hk]
      rw [hr]
    rw [rng_length, show 0 + (n - 1) = n - 1 by omega] at e1
    have hnn : ((n : Int) - 1).toNat = n - 1 := by omega
    simp [fn__law_sets, fnOf, b__law_sets, startU, rangeU_map]
    rw [if_pos (by omega)]
    rw [e1]
    simp only [thn_next, sRet_d, eB_d, aCons_d, aNil_d, eV_d, nthS_s, nthS_0, vS_s, bind_ok, hs, rs_some, of_ok, fnEnd_ret]
    rfl
  · rw [(sortB_perm lexL (SF (n - 1))).length_eq, SF_len]
    have : 2 ^ (n - 1) ≤ 2 ^ 9 := Nat.pow_le_pow_right (by decide) (by omega)
    have h512 : 2 ^ 9 = 512 := rfl
    omega
  · have hm := (sortB_perm lexL (SF (n - 1))).mem_iff.mp hgs
    obtain ⟨h1, h2, _⟩ := SF_good (n - 1) gs hm
    exact ⟨h1, fun g hg => by have := h2 g hg; omega⟩
end LB
/-! the defs of law k02 as pure functions (printed by gen.py); those that several laws have lie in GLib -/
namespace K02
open Q LB
open PySem (Str)
def l_law_1 : SF :=
    (sIf (tNot (tB (eCall fn__law_right (aCons (eV 3) (aCons (eV 4) (aCons (eV 5) aNil)))))) (sRet (eC (.bl false))) sNil)
def l_law_2 : SF :=
    (sSeq (sPar (gNs [4, 5]) (aCons (eCallD 2 fn__law_wishes (aCons (eV 3) aNil)) (aCons (eCallD 2 fn__law_random (aCons (eV 3) aNil)) aNil)))
    (sSeq (sSet 7 (e2 uAdd (eC (.int 1)) (eCallD 2 fn__law_pick (aCons (e2 uSub (eB bLen (aCons (e2 uIx (eV 3) (eC (.int 0))) aNil)) (eC (.int 1))) aNil))))
    (sSeq (sSet 8 (eIf (tB (e2 uIn (eV 7) (eV 5))) (eComp [10] (iSeq (eV 5)) (gN 10) (tB (e2 uNe (eV 10) (eV 7))) (eV 10)) (e2 uAdd (eB bList (aCons (eV 5) aNil)) (eLst (aCons (eV 7) aNil)))))
    (sIf (tOr (tNot (tB (eCall fn__law_right (aCons (eV 3) (aCons (eTup aNil) (aCons (eV 5) aNil)))))) (tNot (tB (eCall fn__law_right (aCons (eV 3) (aCons (eV 4) (aCons (eB bTuple (aCons (eB bSorted (aCons (eV 8) aNil)) aNil)) aNil))))))) (sRet (eC (.bl false))) sNil))))
def l_law_3 : SF :=
    (sIf (tB (e2 uNotB (eCall fn_is_bowing (aCons (eV 3) (aCons (eTup aNil) (aCons (eV 9) aNil)))) (eC (.bl false)))) (sRet (eC (.bl false))) sNil)
def l_law_4 : SF :=
    (sSeq (sSet 2 (eCall fn__law_deck (aCons (eV 1) (aCons (eC (.int 2)) aNil))))
    (sSeq (sSet 3 (eCallD 2 fn__law_piece (aCons (eC (.int 1)) (aCons (eC (.int 7)) aNil))))
    (sSeq (sSet 4 (eCallD 2 fn__law_wishes (aCons (eV 3) aNil)))
    (sSeq (sFor (iSeq (eCall fn__law_sets (aCons (eB bLen (aCons (e2 uIx (eV 3) (eC (.int 0))) aNil)) aNil))) (gN 5) l_law_1)
    (sSeq (sSet 3 (eCallD 2 fn__law_piece (aCons (eC (.int 8)) (aCons (eC (.int 30)) aNil))))
    (sSeq (sFor (iRange1 (aCons (eC (.int 5)) aNil)) (gN 6) l_law_2)
    (sFor (iSeq (eLst (aCons (eC .non) (aCons (eC (.int 5)) (aCons (eLst (aCons (eC (.int 1)) aNil)) (aCons (eTup (aCons (eC (.int 0)) aNil)) (aCons (eTup (aCons (eB bLen (aCons (e2 uIx (eV 3) (eC (.int 0))) aNil)) aNil)) (aCons (eTup (aCons (eC (.int 2)) (aCons (eC (.int 1)) aNil))) (aCons (eTup (aCons (eC (.int 1)) (aCons (eC (.int 1)) aNil))) (aCons (eTup (aCons (eC (.bl true)) aNil)) (aCons (eC (.str [49])) (aCons (eTup (aCons (eC (.int 1)) (aCons (eC .non) aNil))) aNil)))))))))))) (gN 9) l_law_3)))))))
def b_law : SF :=
    (sSeq (sFor (iSeq (eSl (e2 uAdd (eLst (aCons (eC (.int 0)) aNil)) (eV 0)) oNo (oSome (eC (.int 10))))) (gN 1) l_law_4)
    (sSeq (sSet 3 (eTup (aCons (eTup (aCons (eC (.int 1)) (aCons (eC (.int 1)) (aCons (eC (.int 1)) (aCons (eC (.int 1)) (aCons (eC (.int 1)) (aCons (eC (.int 1)) aNil))))))) (aCons (eC (.int 3)) (aCons (eTup aNil) (aCons (eTup aNil) aNil))))))
    (sSeq (sIf (tOr (tB (eCall fn_is_bowing (aCons (eV 3) (aCons (eTup (aCons (eTup (aCons (eC (.int 3)) (aCons (eC (.str [100, 111, 119, 110])) aNil))) (aCons (eTup (aCons (eC (.int 5)) (aCons (eC (.str [100, 111, 119, 110])) aNil))) aNil))) (aCons (eTup (aCons (eC (.int 3)) aNil)) aNil))))) (tNot (tB (eCall fn_is_bowing (aCons (eV 3) (aCons (eTup (aCons (eTup (aCons (eC (.int 0)) (aCons (eC (.str [117, 112])) aNil))) (aCons (eTup (aCons (eC (.int 3)) (aCons (eC (.str [100, 111, 119, 110])) aNil))) aNil))) (aCons (eTup (aCons (eC (.int 3)) aNil)) aNil))))))) (sRet (eC (.bl false))) sNil)
    (sSeq (sIf (tB (e2 uNotB (eCall fn_is_bowing (aCons (eV 3) (aCons (eTup (aCons (eTup (aCons (eC (.int 3)) (aCons (eC (.str [117, 112])) aNil))) aNil)) (aCons (eTup (aCons (eC (.int 3)) aNil)) aNil)))) (eC (.bl true)))) (sRet (eC (.bl false))) sNil)
    (sSeq (sIf (tOr (tB (eCall fn_is_bowing (aCons (eV 3) (aCons (eTup aNil) (aCons (eTup (aCons (eC (.int 1)) (aCons (eC (.int 5)) aNil))) aNil))))) (tB (e2 uNe (eCall fn_directions (aCons (eV 3) (aCons (eTup (aCons (eTup (aCons (eC (.int 0)) (aCons (eC (.str [117, 112])) aNil))) aNil)) (aCons (eTup (aCons (eC (.int 3)) aNil)) aNil)))) (e2 uAdd (e2 uRep (eLst (aCons (eC (.str [117, 112])) aNil)) (eC (.int 3))) (e2 uRep (eLst (aCons (eC (.str [100, 111, 119, 110])) aNil)) (eC (.int 3))))))) (sRet (eC (.bl false))) sNil)
    (sRet (eAnd (e2 uEq (eCall fn_stroke_numbers (aCons (eV 3) (aCons (eTup aNil) (aCons (eTup (aCons (eC (.int 1)) (aCons (eC (.int 3)) aNil))) aNil)))) (eLst (aCons (eC (.int 1)) (aCons (eC (.int 2)) (aCons (eC (.int 2)) (aCons (eC (.int 3)) (aCons (eC (.int 3)) (aCons (eC (.int 3)) aNil)))))))) (e2 uIsB (eCall fn_is_bowing (aCons (eTup (aCons (eTup (aCons (eC (.int 5)) aNil)) (aCons (eC (.int 5)) (aCons (eTup aNil) (aCons (eTup aNil) aNil))))) (aCons (eTup aNil) (aCons (eTup aNil) aNil)))) (eC (.bl true))))))))))
def fn_law : List U → FR := fnOf false false 11 1 b_law
end K02
set_option maxHeartbeats 4000000
set_option maxRecDepth 100000
/-! Mk02: the law k02 in plain words -/
namespace K02
open Q LB
open PySem (Str)
theorem inc_sortI {l : List Int} (h : l.Nodup) : Inc (sortI l) := by
  have hs := sortB_sorted (lt := fun a b : Int => decide (a < b)) (fun a b x => by
    have := of_decide_eq_true x
    exact decide_eq_false (by omega)) (fun a b c x y => by
    have := of_decide_eq_false x
    have := of_decide_eq_false y
    exact decide_eq_false (by omega)) l
  have hp := sortB_perm (fun a b : Int => decide (a < b)) l
  have hn : (sortI l).Nodup := hp.nodup_iff.mpr h
  refine List.Pairwise.imp (fun {a b} q => ?_) (hs.and hn)
  have := of_decide_eq_false q.1
  have := q.2
  omega
theorem inc_nodup {l : List Int} (h : Inc l) : l.Nodup := List.Pairwise.imp (fun {a b} q => by omega) h
theorem bSorted_i (l : List Int) : bSorted [.lst (l.map .int)] = some (.lst ((sortI l).map .int)) := by
  unfold bSorted
  simp
theorem goodG_sort {n : Int} {l : List Int} (h : l.Nodup) (hr : ∀ g ∈ l, 1 ≤ g ∧ g ≤ n - 1) : GoodG n (sortI l) := ⟨inc_sortI h, fun g hg => hr g ((sortB_perm _ l).mem_iff.mp hg)⟩
theorem goodW0 (n : Int) : GoodW n [] := ⟨fun w h => (by cases h), rfl, by decide⟩
/-! ### the odd ones -/
theorem from_t (n : Int) : fn_is_from [.bl true, .int 1, .int n] = .ok (.bl false) .non := by
  have h1 : bIsInst [.bl true, .ty "int"] = some (.bl true) := by simp [bIsInst, tyOf]
  simp [fn_is_from, fnOf, b_is_from, startU, h1]
theorem from_n (n : Int) : fn_is_from [.non, .int 1, .int n] = .ok (.bl false) .non := by
  have h1 : bIsInst [.non, .ty "int"] = some (.bl false) := by simp [bIsInst, tyOf]
  simp [fn_is_from, fnOf, b_is_from, startU, h1]
theorem gaps_list {n : Int} (us : List U) (b : U → Bool) (hb : ∀ u ∈ us, fn_is_from [u, .int 1, .int (n - 1)] = .ok (.bl (b u)) .non) (hf : us.all b = false) (hl : us.length ≤ 100) : fn_are_gaps [.int n, .tup us] = .ok (.bl false) .non := by
  simp [fn_are_gaps, fnOf, b_are_gaps, startU]
  rw [eComp_true us id (fun u => .bl (b u)) (by simp) (by omega) (by
    intro x hx
    have := hb x hx
    refine ⟨_, rfl, ?_, ?_⟩ <;> simp [wipeU, this])]
  simp only [bind_ok, bAll_map, rs_some, of_ok, hf]
  simp
theorem gaps_other {n : Int} {u : U} (h : bIsInst [u, .ty "tuple"] = some (.bl false)) : fn_are_gaps [.int n, u] = .ok (.bl false) .non := by
  simp [fn_are_gaps, fnOf, b_are_gaps, startU, h]
def odds (n : Int) : List U := [.non, .int 5, .lst [.int 1], .tup [.int 0], .tup [.int n], .tup [.int 2, .int 1], .tup [.int 1, .int 1], .tup [.bl true], .str [49], .tup [.int 1, .non]]
theorem odd_gaps {n : Int} (hn : 8 ≤ n) : ∀ u ∈ odds n, fn_are_gaps [.int n, u] = .ok (.bl false) .non := by
  intro u hu
  have hi : ∀ gs : List Int, gs.length ≤ 100 → okGaps n gs = false → fn_are_gaps [.int n, .tup (gs.map .int)] = .ok (.bl false) .non := fun gs hl h => by
    rw [s_are_gaps n gs (by omega), h]
  simp only [odds, List.mem_cons, List.not_mem_nil, or_false] at hu
  rcases hu with rfl | rfl | rfl | rfl | rfl | rfl | rfl | rfl | rfl | rfl
  · exact gaps_other (by simp [bIsInst, tyOf])
  · exact gaps_other (by simp [bIsInst, tyOf])
  · exact gaps_other (by simp [bIsInst, tyOf])
  · exact hi [0] (by decide) (by simp [okGaps, inR])
  · exact hi [n] (by simp) (by
      have : ¬ n ≤ n - 1 := by omega
      simp [okGaps, inR, this])
  · exact hi [2, 1] (by decide) (by simp [okGaps, inR, lt2])
  · exact hi [1, 1] (by decide) (by simp [okGaps, inR, lt2])
  · exact gaps_list [.bl true] (fun _ => false) (fun u hu => by rw [List.mem_singleton.mp hu]; exact from_t _) rfl (by decide)
  · exact gaps_other (by simp [bIsInst, tyOf])
  · refine gaps_list [.int 1, .non] (fun u => match u with | .int _ => true | _ => false) (fun u hu => ?_) rfl (by decide)
    simp only [List.mem_cons, List.not_mem_nil, or_false] at hu
    rcases hu with rfl | rfl
    · rw [s_is_from]
      have h1 : (1 : Int) ≤ n - 1 := by omega
      simp [h1]
    · exact from_n _
theorem odd_bowing {ls : List Int} {bow : Int} {jn sp : List Int} (P : GoodP ls bow jn sp) {u : U} (h : fn_are_gaps [.int ls.length, u] = .ok (.bl false) .non) : fn_is_bowing [encP ls bow jn sp, .tup [], u] = .ok (.bl false) .non := by
  have hw := s_need_wishes P (goodW0 ls.length)
  rw [show encW [] = U.tup [] from rfl] at hw
  simp [fn_is_bowing, fnOf, b_is_bowing, startU, hw, fn_good_bowing, b_good_bowing, h]
/-! ### the turns -/
def Tail (x : List (Option U)) : Prop := x.length = 6
theorem loop1 {S C D : U} {ls : List Int} {bow : Int} {jn sp : List Int} {ws : List (Int × Bool)} (P : GoodP ls bow jn sp) (W : GoodW ls.length ws) (sets : List (List Int)) (hs : ∀ gs ∈ sets, GoodG ls.length gs) (x5 x6 x7 x8 x9 x10 : Option U) :
    ∃ x5', forL (gN 5) l_law_1 (sets.map encGs) [some S, some C, some D, some (encP ls bow jn sp), some (encW ws), x5, x6, x7, x8, x9, x10] = .next [some S, some C, some D, some (encP ls bow jn sp), some (encW ws), x5', x6, x7, x8, x9, x10] := by
  obtain ⟨ρ', e1, e2⟩ := forL_check (g := gN 5) (b := l_law_1) encGs (fun _ => true) (fun ρ => ∃ x, ρ = [some S, some C, some D, some (encP ls bow jn sp), some (encW ws), x, x6, x7, x8, x9, x10]) sets [some S, some C, some D, some (encP ls bow jn sp), some (encW ws), x5, x6, x7, x8, x9, x10] ⟨_, rfl⟩ (by
    rintro gs hgs ρ ⟨x, rfl⟩
    have h := s_law_right P W (hs gs hgs).ok
    refine ⟨_, rfl, [some S, some C, some D, some (encP ls bow jn sp), some (encW ws), some (encGs gs), x6, x7, x8, x9, x10], ?_, fun _ => ⟨_, rfl⟩⟩
    simp [l_law_1, h])
  have ha : sets.all (fun _ => true) = true := List.all_eq_true.mpr fun _ _ => rfl
  obtain ⟨x, rfl⟩ := e2 ha
  rw [ha, if_pos rfl] at e1
  exact ⟨x, e1⟩
theorem loop2 {B : Int} {S C d : U} {ls : List Int} {bow : Int} {jn sp : List Int} (P : GoodP ls bow jn sp) (h8 : 8 ≤ ls.length) (hd : Dk B d) (hB : B ≤ 100000) (x4 x5 x6 x7 x8 x9 x10 : Option U) :
    ∃ d' y4 y5 y6 y7 y8, forL (gN 6) l_law_2 ((rng 0 5).map U.int) [some S, some C, some d, some (encP ls bow jn sp), x4, x5, x6, x7, x8, x9, x10] = .next [some S, some C, some d', some (encP ls bow jn sp), y4, y5, y6, y7, y8, x9, x10] := by
  have h30 := P.n30
  obtain ⟨ρ', e1, d', y4, y5, y6, y7, y8, rfl, hd'⟩ := forL_turns (g := gN 6) (b := l_law_2) U.int (fun k ρ => ∃ d y4 y5 y6 y7 y8, ρ = [some S, some C, some d, some (encP ls bow jn sp), y4, y5, y6, y7, y8, x9, x10] ∧ Dk (B + 300 * k) d) (rng 0 5) 0 [some S, some C, some d, some (encP ls bow jn sp), x4, x5, x6, x7, x8, x9, x10] ⟨d, _, _, _, _, _, rfl, hd.mono (by omega)⟩ (by
    rintro j x hx ρ ⟨d, y4, y5, y6, y7, y8, rfl, hd⟩
    obtain ⟨_, hj⟩ := rng_get hx
    obtain ⟨ws, d1, w1, hW, hd1⟩ := s_wishes (bow := bow) (jn := jn) (sp := sp) hd (by omega) P.n1 P.n30
    obtain ⟨gs, d2, w2, hG, hd2⟩ := s_random (bow := bow) (jn := jn) (sp := sp) hd1 (by omega) P.n1 P.n30
    obtain ⟨r, d3, w3, r0, r1, hd3⟩ := s_pick (lim := (ls.length : Int) - 1) hd2 (by omega) (by omega) (by omega)
    have hgl := hG.len (by omega)
    have h1 := s_law_right P (goodW0 ls.length) hG.ok
    rw [show encW [] = U.tup [] from rfl] at h1
    refine ⟨_, rfl, ?_⟩
    by_cases hm : 1 + r ∈ gs
    · have hL : GoodG ls.length (sortI (gs.filter fun g => g != 1 + r)) := goodG_sort ((inc_nodup hG.i).sublist List.filter_sublist) fun g hg => hG.r g (List.mem_filter.mp hg).1
      have h2 := s_law_right P hW hL.ok
      have hc := eComp_same (vs := [10]) (it := iSeq (eV 5)) (g := gN 10) (t := tB (Q.e2 uNe (eV 10) (eV 7))) (e := eV 10) (ρ := [some S, some C, some d3, some (encP ls bow jn sp), some (encW ws), some (.tup (gs.map .int)), some (.int x), some (.int (1 + r)), y8, x9, x10]) gs U.int (fun g => g != 1 + r) U.int (by simp) (by omega) (by
        intro x hx
        refine ⟨_, rfl, ?_, fun _ => ?_, ?_⟩ <;> simp [wipeU])
      refine ⟨[some S, some C, some d3, some (encP ls bow jn sp), some (encW ws), some (.tup (gs.map .int)), some (.int x), some (.int (1 + r)), some (.lst ((gs.filter fun g => g != 1 + r).map .int)), x9, x10], ?_, d3, _, _, _, _, _, rfl, hd3.mono (by omega)⟩
      simp [l_law_2, w1, w2, w3, hm, hc, h1, bSorted_i, h2]
    · have hL : GoodG ls.length (sortI (gs ++ [1 + r])) := goodG_sort (List.nodup_append.mpr ⟨inc_nodup hG.i, List.pairwise_singleton _ _, fun a ha b hb e => hm (by rw [List.mem_singleton.mp hb] at e; exact e ▸ ha)⟩) fun g hg => by
        rcases List.mem_append.mp hg with h | h
        · exact hG.r g h
        · rw [List.mem_singleton.mp h]
          omega
      have h2 := s_law_right P hW hL.ok
      have hl : gs.length + 1 ≤ 100000 := by omega
      have hmap : gs.map U.int ++ [U.int (1 + r)] = (gs ++ [1 + r]).map U.int := by simp
      have hso : bSorted [.lst (gs.map U.int ++ [U.int (1 + r)])] = some (.lst ((sortI (gs ++ [1 + r])).map .int)) := by rw [hmap, bSorted_i]
      refine ⟨[some S, some C, some d3, some (encP ls bow jn sp), some (encW ws), some (.tup (gs.map .int)), some (.int x), some (.int (1 + r)), some (.lst (gs.map U.int ++ [U.int (1 + r)])), x9, x10], ?_, d3, _, _, _, _, _, rfl, hd3.mono (by omega)⟩
      simp [l_law_2, w1, w2, w3, hm, hl, h1, hso, h2])
  exact ⟨d', y4, y5, y6, y7, y8, e1⟩
theorem loop3 {S C d : U} {ls : List Int} {bow : Int} {jn sp : List Int} (P : GoodP ls bow jn sp) (h8 : 8 ≤ ls.length) (x4 x5 x6 x7 x8 x9 x10 : Option U) :
    ∃ x9', forL (gN 9) l_law_3 (odds ls.length) [some S, some C, some d, some (encP ls bow jn sp), x4, x5, x6, x7, x8, x9, x10] = .next [some S, some C, some d, some (encP ls bow jn sp), x4, x5, x6, x7, x8, x9', x10] := by
  obtain ⟨ρ', e1, e2⟩ := forL_check (g := gN 9) (b := l_law_3) id (fun _ => true) (fun ρ => ∃ x, ρ = [some S, some C, some d, some (encP ls bow jn sp), x4, x5, x6, x7, x8, x, x10]) (odds ls.length) [some S, some C, some d, some (encP ls bow jn sp), x4, x5, x6, x7, x8, x9, x10] ⟨_, rfl⟩ (by
    rintro u hu ρ ⟨x, rfl⟩
    have h := odd_bowing P (odd_gaps (by omega) u hu)
    refine ⟨_, rfl, [some S, some C, some d, some (encP ls bow jn sp), x4, x5, x6, x7, x8, some u, x10], ?_, fun _ => ⟨_, rfl⟩⟩
    simp [l_law_3, h])
  have ha : (odds ls.length).all (fun _ => true) = true := List.all_eq_true.mpr fun _ _ => rfl
  obtain ⟨x, rfl⟩ := e2 ha
  rw [ha, if_pos rfl, List.map_id] at e1
  exact ⟨x, e1⟩
theorem cell (S : U) (c : Int) (x2 x3 x4 x5 x6 x7 x8 x9 x10 : Option U) : ∃ y2 y3 y4 y5 y6 y7 y8 y9 y10, l_law_4 [some S, some (.int c), x2, x3, x4, x5, x6, x7, x8, x9, x10] = .next [some S, some (.int c), y2, y3, y4, y5, y6, y7, y8, y9, y10] := by
  obtain ⟨d0, e0, hd0⟩ := s_deck c 2 (by decide) (by decide)
  obtain ⟨ls, bow, jn, sp, d1, e1, P, n1, n7, hd1⟩ := s_piece (few := 1) (many := 7) hd0 (by decide) (by decide) (by decide) (by decide)
  obtain ⟨ws, d2, e2, W, hd2⟩ := s_wishes (bow := bow) (jn := jn) (sp := sp) hd1 (by decide) P.n1 P.n30
  obtain ⟨sets, e3, hsl, hs⟩ := s_sets ls.length P.n1 (by omega)
  obtain ⟨x5', e4⟩ := loop1 (S := S) (C := .int c) (D := d2) P W sets hs x5 x6 x7 x8 x9 x10
  obtain ⟨ls2, bow2, jn2, sp2, d3, e5, P2, n8, n30, hd3⟩ := s_piece (few := 8) (many := 30) hd2 (by decide) (by decide) (by decide) (by decide)
  obtain ⟨d4, y4, y5, y6, y7, y8, e6⟩ := loop2 (S := S) (C := .int c) P2 (by omega) hd3 (by decide) (some (encW ws)) x5' x6 x7 x8 x9 x10
  obtain ⟨y9, e7⟩ := loop3 (S := S) (C := .int c) (d := d4) P2 (by omega) y4 y5 y6 y7 y8 x9 x10
  refine ⟨some d4, some (encP ls2 bow2 jn2 sp2), y4, y5, y6, y7, y8, y9, x10, ?_⟩
  unfold odds at e7
  have hr : rangeU 0 5 = (rng 0 5).map U.int := rangeU_map 5 0
  simp only [l_law_4, sSeq_d, sAsg_d, eCall_d, aCons_d, aNil_d, eV_d, eC_d, nthS_s, nthS_0, vS_s, bind_ok, e0, cRes_ok, of_ok, gN_d, List.set_cons_succ, List.set_cons_zero, nxO_s, thn_next, eCallD_d, livR_s, callO_s, e1, callD_ok, e2, sFor_d, iSeq_d, e2_d, encP_0, rs_some, eB_d, bLen_t, List.length_map, e3, e4, e5]
  simp
  rw [hr, e6]
  simp
  rw [e7]
theorem is_p6 : GoodP [1, 1, 1, 1, 1, 1] 3 [] [] := by
  refine ⟨by decide, by decide, by decide, by decide, by decide, by decide, by decide, fun g h => (by cases h), by decide, by decide, by decide⟩
theorem is_p1 : GoodP [5] 5 [] [] := by
  refine ⟨by decide, by decide, by decide, by decide, by decide, by decide, by decide, fun g h => (by cases h), by decide, by decide, by decide⟩
abbrev P6 : U := .tup [.tup [.int 1, .int 1, .int 1, .int 1, .int 1, .int 1], .int 3, .tup [], .tup []]
abbrev Wdn : U := .str [100, 111, 119, 110]
abbrev Wup : U := .str [117, 112]
theorem c1 : fn_is_bowing [P6, .tup [.tup [.int 3, Wdn], .tup [.int 5, Wdn]], .tup [.int 3]] = .ok (.bl false) .non := by
  have h := s_is_bowing (ws := [(3, false), (5, false)]) (gs := [3]) is_p6 ⟨by decide, by decide, by decide⟩ (by decide)
  rw [show goodB [1, 1, 1, 1, 1, 1] 3 [] [] [(3, false), (5, false)] [3] = false by decide] at h
  exact h
theorem c2 : fn_is_bowing [P6, .tup [.tup [.int 0, Wup], .tup [.int 3, Wdn]], .tup [.int 3]] = .ok (.bl true) .non := by
  have h := s_is_bowing (ws := [(0, true), (3, false)]) (gs := [3]) is_p6 ⟨by decide, by decide, by decide⟩ (by decide)
  rw [show goodB [1, 1, 1, 1, 1, 1] 3 [] [] [(0, true), (3, false)] [3] = true by decide] at h
  exact h
theorem c3 : fn_is_bowing [P6, .tup [.tup [.int 3, Wup]], .tup [.int 3]] = .ok (.bl true) .non := by
  have h := s_is_bowing (ws := [(3, true)]) (gs := [3]) is_p6 ⟨by decide, by decide, by decide⟩ (by decide)
  rw [show goodB [1, 1, 1, 1, 1, 1] 3 [] [] [(3, true)] [3] = true by decide] at h
  exact h
theorem c4 : fn_is_bowing [P6, .tup [], .tup [.int 1, .int 5]] = .ok (.bl false) .non := by
  have h := s_is_bowing (ws := []) (gs := [1, 5]) is_p6 ⟨by decide, by decide, by decide⟩ (by decide)
  rw [show goodB [1, 1, 1, 1, 1, 1] 3 [] [] [] [1, 5] = false by decide] at h
  exact h
theorem c5 : fn_directions [P6, .tup [.tup [.int 0, Wup]], .tup [.int 3]] = .ok (.lst [Wup, Wup, Wup, Wdn, Wdn, Wdn]) .non :=
  s_directions (ws := [(0, true)]) (gs := [3]) is_p6 ⟨by decide, by decide, by decide⟩ (by decide) (by decide)
theorem c6 : fn_stroke_numbers [P6, .tup [], .tup [.int 1, .int 3]] = .ok (.lst [.int 1, .int 2, .int 2, .int 3, .int 3, .int 3]) .non :=
  s_stroke_numbers (ws := []) (gs := [1, 3]) is_p6 ⟨by decide, by decide, by decide⟩ (by decide) (by decide)
theorem c7 : fn_is_bowing [.tup [.tup [.int 5], .int 5, .tup [], .tup []], .tup [], .tup []] = .ok (.bl true) .non := by
  have h := s_is_bowing (ws := []) (gs := []) is_p1 ⟨by decide, by decide, by decide⟩ (by decide)
  rw [show goodB [5] 5 [] [] [] [] = true by decide] at h
  exact h
theorem keeps : ∀ ns : List Int, ns.length ≤ 63 → ∃ d, fn_law [.lst (ns.map .int)] = .ok (.bl true) d := by
  intro ns hn
  refine ⟨.non, ?_⟩
  generalize hS : U.lst (ns.map .int) = S
  obtain ⟨ρ', e1, e2⟩ := forL_check (g := gN 1) (b := l_law_4) U.int (fun _ => true) (fun ρ => ∃ x1 x2 x3 x4 x5 x6 x7 x8 x9 x10, ρ = [some S, x1, x2, x3, x4, x5, x6, x7, x8, x9, x10]) (cutU (0 :: ns) none (some 10)) [some S, none, none, none, none, none, none, none, none, none, none] ⟨_, _, _, _, _, _, _, _, _, _, rfl⟩ (by
    rintro c hc ρ ⟨x1, x2, x3, x4, x5, x6, x7, x8, x9, x10, rfl⟩
    obtain ⟨y2, y3, y4, y5, y6, y7, y8, y9, y10, e⟩ := cell S c x2 x3 x4 x5 x6 x7 x8 x9 x10
    exact ⟨_, rfl, _, e, fun _ => ⟨_, _, _, _, _, _, _, _, _, _, rfl⟩⟩)
  have ha : (cutU (0 :: ns) none (some 10)).all (fun _ => true) = true := List.all_eq_true.mpr fun _ _ => rfl
  obtain ⟨x1, x2, x3, x4, x5, x6, x7, x8, x9, x10, rfl⟩ := e2 ha
  rw [ha, if_pos rfl] at e1
  have hl : 1 + ns.length ≤ 100000 := by omega
  have hu : uAdd (.lst [.int 0]) S = some (.lst ((0 :: ns).map .int)) := by
    rw [← hS]
    simp [hl]
  have q5 : uNe (.lst [Wup, Wup, Wup, Wdn, Wdn, Wdn]) (.lst [Wup, Wup, Wup, Wdn, Wdn, Wdn]) = some (.bl false) := by rfl
  have q6 : uEq (.lst [.int 1, .int 2, .int 2, .int 3, .int 3, .int 3]) (.lst [.int 1, .int 2, .int 2, .int 3, .int 3, .int 3]) = some (.bl true) := by rfl
  have r1 : uRep (.lst [Wup]) (.int 3) = some (.lst [Wup, Wup, Wup]) := by rfl
  have r2 : uRep (.lst [Wdn]) (.int 3) = some (.lst [Wdn, Wdn, Wdn]) := by rfl
  generalize hL : (0 :: ns : List Int) = L at *
  simp [fn_law, fnOf, b_law, startU, hu]
  rw [e1]
  simp [c1, c2, c3, c4, c5, c6, c7, r1, r2, q5, q6]
end K02
set_option maxRecDepth 100000
set_option maxHeartbeats 0
/-! the walk of law k02 (printed by gen.py) -/
namespace K02
open Q LB
open PySem PySem.Spec PyProof.Rows L2
open PySem.Challenge (pw_bowings_k02_bowings_recognized)
abbrev topS (i : Nat) : Stmt := pw_bowings_k02_bowings_recognized.main.body.getD i (.Pass ⟨0, 0, 0, 0⟩)
abbrev N_is_from : List Str := ["value", "low", "high"]
abbrev s_is_from : Stmt := topS 9
abbrev N_are_gaps : List Str := ["count", "value", "gap", "one", "other"]
abbrev s_are_gaps : Stmt := topS 11
abbrev N_blocks_of : List Str := ["lengths", "joined", "found", "note", "length"]
abbrev s_blocks_of : Stmt := topS 12
abbrev N_is_piece : List Str := ["value", "lengths", "bow", "joined", "split", "length", "gap"]
abbrev s_is_piece : Stmt := topS 13
abbrev N_is_direction : List Str := ["value"]
abbrev s_is_direction : Stmt := topS 10
abbrev N_good_wishes : List Str := ["piece", "value", "pair", "one", "other"]
abbrev s_good_wishes : Stmt := topS 14
abbrev N_need_wishes : List Str := ["piece", "wishes"]
abbrev s_need_wishes : Stmt := topS 15
abbrev N_first_direction : List Str := ["wishes"]
abbrev s_first_direction : Stmt := topS 16
abbrev N_turned : List Str := ["direction"]
abbrev s_turned : Stmt := topS 17
abbrev N_direction_of : List Str := ["wishes", "number", "first"]
abbrev s_direction_of : Stmt := topS 18
abbrev N_stroke_right : List Str := ["piece", "wishes", "start", "stop", "direction", "lengths", "bow", "joined", "split", "gap", "note", "wish"]
abbrev s_stroke_right : Stmt := topS 19
abbrev N_ends_of : List Str := ["piece", "breaks", "places"]
abbrev s_ends_of : Stmt := topS 20
abbrev N_good_bowing : List Str := ["piece", "wishes", "value", "number", "start", "stop"]
abbrev s_good_bowing : Stmt := topS 21
abbrev N_is_bowing : List Str := ["piece", "wishes", "value"]
abbrev s_is_bowing : Stmt := topS 22
abbrev N_need_bowing : List Str := ["piece", "wishes", "breaks"]
abbrev s_need_bowing : Stmt := topS 23
abbrev N_numbers_of : List Str := ["piece", "breaks", "found", "number", "start", "stop"]
abbrev s_numbers_of : Stmt := topS 24
abbrev N_stroke_numbers : List Str := ["piece", "wishes", "bowing"]
abbrev s_stroke_numbers : Stmt := topS 25
abbrev N_directions : List Str := ["piece", "wishes", "bowing", "number"]
abbrev s_directions : Stmt := topS 26
abbrev N__law_deck : List Str := ["cell", "turn"]
abbrev s__law_deck : Stmt := topS 28
abbrev N__law_pick : List Str := ["deck", "limit", "found", "number"]
abbrev s__law_pick : Stmt := topS 29
abbrev N__law_sets : List Str := ["count", "found", "gap", "row"]
abbrev s__law_sets : Stmt := topS 38
abbrev N__law_one : List Str := ["deck", "some"]
abbrev s__law_one : Stmt := topS 31
abbrev N__law_piece : List Str := ["deck", "few", "many", "top", "lengths", "bow", "joined", "split", "run", "gap", "way", "long", "note"]
abbrev s__law_piece : Stmt := topS 40
abbrev N__law_numbers : List Str := ["count", "gaps", "found", "number", "note"]
abbrev s__law_numbers : Stmt := topS 36
abbrev N__law_random : List Str := ["deck", "piece", "lengths", "bow", "joined", "split", "places", "found", "used", "start", "stop", "block", "full", "gap"]
abbrev s__law_random : Stmt := topS 42
abbrev N__law_wishes : List Str := ["deck", "piece", "count", "found", "chance", "gaps", "true", "note", "number", "word"]
abbrev s__law_wishes : Stmt := topS 41
abbrev N__law_sort : List Str := ["thing"]
abbrev s__law_sort : Stmt := topS 32
abbrev N__law_same : List Str := ["told", "due", "k", "part"]
abbrev s__law_same : Stmt := topS 33
abbrev N__law_first : List Str := ["wishes"]
abbrev s__law_first : Stmt := topS 34
abbrev N__law_way : List Str := ["wishes", "number"]
abbrev s__law_way : Stmt := topS 35
abbrev N__law_good : List Str := ["piece", "wishes", "gaps", "lengths", "bow", "joined", "split", "numbers", "number", "gap", "length", "own", "note", "wish"]
abbrev s__law_good : Stmt := topS 37
abbrev N__law_right : List Str := ["piece", "wishes", "gaps", "good", "numbers", "told", "number"]
abbrev s__law_right : Stmt := topS 43
abbrev N_law : List Str := ["script", "cell", "deck", "piece", "wishes", "gaps", "turn", "gap", "other", "odd", "one"]
abbrev s_law : Stmt := topS 44
structure Mod (K : PySem.W.Frag) (mg : Str → Option Value) : Prop where
  n_all : mg "all" = none
  n_any : mg "any" = none
  n_bool : mg "bool" = none
  n_enumerate : mg "enumerate" = none
  n_int : mg "int" = none
  n_isinstance : mg "isinstance" = none
  n_len : mg "len" = none
  n_list : mg "list" = none
  n_max : mg "max" = none
  n_min : mg "min" = none
  n_range : mg "range" = none
  n_sorted : mg "sorted" = none
  n_str : mg "str" = none
  n_sum : mg "sum" = none
  n_tuple : mg "tuple" = none
  n_zip : mg "zip" = none
  i_MOST_NOTES : ∃ t, mg "MOST_NOTES" = some (.int 30 t)
  i_LONGEST : ∃ t, mg "LONGEST" = some (.int 20 t)
  i_LONGEST_BOW : ∃ t, mg "LONGEST_BOW" = some (.int 100 t)
  x_InvalidPiece : XCls K mg "InvalidPiece"
  x_InvalidWishes : XCls K mg "InvalidWishes"
  x_InvalidBowing : XCls K mg "InvalidBowing"
  f_is_from : ∃ (f : Addr) (fd : FuncData), mg "is_from" = some (.ref f) ∧ Fun K "is_from" "is_from" s_is_from f fd
  f_are_gaps : ∃ (f : Addr) (fd : FuncData), mg "are_gaps" = some (.ref f) ∧ Fun K "are_gaps" "are_gaps" s_are_gaps f fd
  f_blocks_of : ∃ (f : Addr) (fd : FuncData), mg "blocks_of" = some (.ref f) ∧ Fun K "blocks_of" "blocks_of" s_blocks_of f fd
  f_is_piece : ∃ (f : Addr) (fd : FuncData), mg "is_piece" = some (.ref f) ∧ Fun K "is_piece" "is_piece" s_is_piece f fd
  f_is_direction : ∃ (f : Addr) (fd : FuncData), mg "is_direction" = some (.ref f) ∧ Fun K "is_direction" "is_direction" s_is_direction f fd
  f_good_wishes : ∃ (f : Addr) (fd : FuncData), mg "good_wishes" = some (.ref f) ∧ Fun K "good_wishes" "good_wishes" s_good_wishes f fd
  f_need_wishes : ∃ (f : Addr) (fd : FuncData), mg "need_wishes" = some (.ref f) ∧ Fun K "need_wishes" "need_wishes" s_need_wishes f fd
  f_first_direction : ∃ (f : Addr) (fd : FuncData), mg "first_direction" = some (.ref f) ∧ Fun K "first_direction" "first_direction" s_first_direction f fd
  f_turned : ∃ (f : Addr) (fd : FuncData), mg "turned" = some (.ref f) ∧ Fun K "turned" "turned" s_turned f fd
  f_direction_of : ∃ (f : Addr) (fd : FuncData), mg "direction_of" = some (.ref f) ∧ Fun K "direction_of" "direction_of" s_direction_of f fd
  f_stroke_right : ∃ (f : Addr) (fd : FuncData), mg "stroke_right" = some (.ref f) ∧ Fun K "stroke_right" "stroke_right" s_stroke_right f fd
  f_ends_of : ∃ (f : Addr) (fd : FuncData), mg "ends_of" = some (.ref f) ∧ Fun K "ends_of" "ends_of" s_ends_of f fd
  f_good_bowing : ∃ (f : Addr) (fd : FuncData), mg "good_bowing" = some (.ref f) ∧ Fun K "good_bowing" "good_bowing" s_good_bowing f fd
  f_is_bowing : ∃ (f : Addr) (fd : FuncData), mg "is_bowing" = some (.ref f) ∧ Fun K "is_bowing" "is_bowing" s_is_bowing f fd
  f_need_bowing : ∃ (f : Addr) (fd : FuncData), mg "need_bowing" = some (.ref f) ∧ Fun K "need_bowing" "need_bowing" s_need_bowing f fd
  f_numbers_of : ∃ (f : Addr) (fd : FuncData), mg "numbers_of" = some (.ref f) ∧ Fun K "numbers_of" "numbers_of" s_numbers_of f fd
  f_stroke_numbers : ∃ (f : Addr) (fd : FuncData), mg "stroke_numbers" = some (.ref f) ∧ Fun K "stroke_numbers" "stroke_numbers" s_stroke_numbers f fd
  f_directions : ∃ (f : Addr) (fd : FuncData), mg "directions" = some (.ref f) ∧ Fun K "directions" "directions" s_directions f fd
  f__law_deck : ∃ (f : Addr) (fd : FuncData), mg "_law_deck" = some (.ref f) ∧ Fun K "_law_deck" "_law_deck" s__law_deck f fd
  f__law_pick : ∃ (f : Addr) (fd : FuncData), mg "_law_pick" = some (.ref f) ∧ Fun K "_law_pick" "_law_pick" s__law_pick f fd
  f__law_sets : ∃ (f : Addr) (fd : FuncData), mg "_law_sets" = some (.ref f) ∧ Fun K "_law_sets" "_law_sets" s__law_sets f fd
  f__law_one : ∃ (f : Addr) (fd : FuncData), mg "_law_one" = some (.ref f) ∧ Fun K "_law_one" "_law_one" s__law_one f fd
  f__law_piece : ∃ (f : Addr) (fd : FuncData), mg "_law_piece" = some (.ref f) ∧ Fun K "_law_piece" "_law_piece" s__law_piece f fd
  f__law_numbers : ∃ (f : Addr) (fd : FuncData), mg "_law_numbers" = some (.ref f) ∧ Fun K "_law_numbers" "_law_numbers" s__law_numbers f fd
  f__law_random : ∃ (f : Addr) (fd : FuncData), mg "_law_random" = some (.ref f) ∧ Fun K "_law_random" "_law_random" s__law_random f fd
  f__law_wishes : ∃ (f : Addr) (fd : FuncData), mg "_law_wishes" = some (.ref f) ∧ Fun K "_law_wishes" "_law_wishes" s__law_wishes f fd
  f__law_sort : ∃ (f : Addr) (fd : FuncData), mg "_law_sort" = some (.ref f) ∧ Fun K "_law_sort" "_law_sort" s__law_sort f fd
  f__law_same : ∃ (f : Addr) (fd : FuncData), mg "_law_same" = some (.ref f) ∧ Fun K "_law_same" "_law_same" s__law_same f fd
  f__law_first : ∃ (f : Addr) (fd : FuncData), mg "_law_first" = some (.ref f) ∧ Fun K "_law_first" "_law_first" s__law_first f fd
  f__law_way : ∃ (f : Addr) (fd : FuncData), mg "_law_way" = some (.ref f) ∧ Fun K "_law_way" "_law_way" s__law_way f fd
  f__law_good : ∃ (f : Addr) (fd : FuncData), mg "_law_good" = some (.ref f) ∧ Fun K "_law_good" "_law_good" s__law_good f fd
  f__law_right : ∃ (f : Addr) (fd : FuncData), mg "_law_right" = some (.ref f) ∧ Fun K "_law_right" "_law_right" s__law_right f fd
  f_law : ∃ (f : Addr) (fd : FuncData), mg "law" = some (.ref f) ∧ Fun K "law" "law" s_law f fd
section
variable {P : Program} {w : World} {K : PySem.W.Frag} {mg : Str → Option Value} {base : Heap}
theorem S_is_from : FnScope N_is_from ["value", "low", "high"] (defScope s_is_from) := ⟨rfl, rfl, rfl, by decide +kernel, rfl, by decide +kernel, by decide +kernel⟩
theorem mk_is_from (M : Mod K mg) {j : Nat} {b : SF} (hb : ∀ (f : Addr) (cdv : Value) (A : Around) (outer : List Env) (s : Shared) (H : Hp) (E : XK) (G : Hp) (a : Addr), Room j (A.deeper (envOfC "is_from" (defScope s_is_from) s.heap.objs.size f cdv)) →
      QSs (cxOf (L2.CX P w) P w K mg base N_is_from "is_from" (defScope s_is_from) f cdv A outer s H E) ⟨[], G, H, daF false a, false⟩ (fun cls d _ H => E cls d H) false (defBody s_is_from) b) : Cal P w K mg base (L2.CX P w) "is_from" false false 3 (fnOf false false 3 3 b) (j + 1) := by
  obtain ⟨f, fd, h, F⟩ := M.f_is_from
  exact cal_of F h S_is_from (F.binds fun _ _ _ _ _ _ us hl => match us, hl with | [_, _, _], _ => rfl) (by decide) (hb f)
theorem q_is_from (M : Mod K mg) {f : Addr} {cdv : Value} {A : Around} {outer : List Env} {s : Shared} {H : Hp} {E : XK} {G : Hp} {a : Addr} (hr : Room 0 (A.deeper (envOfC "is_from" (defScope s_is_from) s.heap.objs.size f cdv))) :
    QSs (cxOf (L2.CX P w) P w K mg base N_is_from "is_from" (defScope s_is_from) f cdv A outer s H E) ⟨[], G, H, daF false a, false⟩ (fun cls d _ H => E cls d H) false (defBody s_is_from) b_is_from :=
  have ok := okx_of (P := P) (w := w) (K := K) (mg := mg) (base := base) (outer := outer) (H := H) (E := E) S_is_from hr
  (qs_one (qs_ret [] (qe_and (qe_B c_isInst M.n_isinstance bo_isinstance (qa_cons (qe_var 0) (qa_cons (qe_ty "int" M.n_int bo_int) qa_nil))) (qe_and (qe_not (qe_B c_isInst M.n_isinstance bo_isinstance (qa_cons (qe_var 0) (qa_cons (qe_ty "bool" M.n_bool bo_bool) qa_nil)))) (qe_one (qe_chain op_uLeI op_uLeI (qe_var 1) (qe_var 0) (qe_var 2)))))))
theorem cal_is_from (M : Mod K mg) : Cal P w K mg base (L2.CX P w) "is_from" false false 3 fn_is_from 1 := mk_is_from M (j := 0) fun f cdv A outer s H E G a hr => q_is_from M hr
theorem S_are_gaps : FnScope N_are_gaps ["count", "value"] (defScope s_are_gaps) := ⟨rfl, rfl, rfl, by decide +kernel, rfl, by decide +kernel, by decide +kernel⟩
theorem mk_are_gaps (M : Mod K mg) {j : Nat} {b : SF} (hb : ∀ (f : Addr) (cdv : Value) (A : Around) (outer : List Env) (s : Shared) (H : Hp) (E : XK) (G : Hp) (a : Addr), Room j (A.deeper (envOfC "are_gaps" (defScope s_are_gaps) s.heap.objs.size f cdv)) →
      QSs (cxOf (L2.CX P w) P w K mg base N_are_gaps "are_gaps" (defScope s_are_gaps) f cdv A outer s H E) ⟨[], G, H, daF false a, false⟩ (fun cls d _ H => E cls d H) false (defBody s_are_gaps) b) : Cal P w K mg base (L2.CX P w) "are_gaps" false false 2 (fnOf false false 5 2 b) (j + 1) := by
  obtain ⟨f, fd, h, F⟩ := M.f_are_gaps
  exact cal_of F h S_are_gaps (F.binds fun _ _ _ _ _ _ us hl => match us, hl with | [_, _], _ => rfl) (by decide) (hb f)
theorem q_are_gaps (M : Mod K mg) {f : Addr} {cdv : Value} {A : Around} {outer : List Env} {s : Shared} {H : Hp} {E : XK} {G : Hp} {a : Addr} (hr : Room 1 (A.deeper (envOfC "are_gaps" (defScope s_are_gaps) s.heap.objs.size f cdv))) :
    QSs (cxOf (L2.CX P w) P w K mg base N_are_gaps "are_gaps" (defScope s_are_gaps) f cdv A outer s H E) ⟨[], G, H, daF false a, false⟩ (fun cls d _ H => E cls d H) false (defBody s_are_gaps) b_are_gaps :=
  have ok := okx_of (P := P) (w := w) (K := K) (mg := mg) (base := base) (outer := outer) (H := H) (E := E) S_are_gaps hr
  (qs_cons (qs_if (qt_of (qw_or (qt_not (qt_val (qe_B c_isInst M.n_isinstance bo_isinstance (qa_cons (qe_var 1) (qa_cons (qe_ty "tuple" M.n_tuple bo_tuple) qa_nil))))) (qw_or1 (qt_not (qt_val (qe_B (c_all rfl) M.n_all bo_all (qa_cons (qe_of (qf_lc (own := [("gap", 2)]) (sl := [2]) (fi := (iSeq (eV 1))) (gt := (gN 2)) (ft := tTrue) (fe := (eCall fn_is_from (aCons (eV 2) (aCons (eC (.int 1)) (aCons (e2 uSub (eV 0) (eC (.int 1))) aNil))))) rfl ok.nd (qi_seq (qe_var 1)) (by rfl) (fun _ _ _ _ _ => (qg_name ok.blk.nd 2)) (fun _ _ _ _ _ => qts_nil) (fun _ _ _ _ _ => (qe_call (cal_is_from M) ok.blk (by decide) (qa_cons (qe_var 2) (qa_cons qe_int (qa_cons (qe_bin op_uSub (qe_var 0) qe_int) qa_nil))) (al_cons (al_cons (al_cons al_nil))))))) qa_nil))))))) (qs_one (qs_ret [] qe_bl)) qs_nil)
    (qs_one (qs_ret [] (qe_B (c_all rfl) M.n_all bo_all (qa_cons (qe_of (qf_lc (own := [("one", 3), ("other", 4)]) (sl := [3, 4]) (fi := (iZip2 (aCons (eV 1) (aCons (eSl (eV 1) (oSome (eC (.int 1))) oNo) aNil)))) (gt := (gT (gsCons (gN 3) (gsCons (gN 4) gsNil)))) (ft := tTrue) (fe := (e2 uLtI (eV 3) (eV 4))) rfl ok.nd (qi_zip2 M.n_zip (qa_cons (qe_var 1) (qa_cons (qe_sl (qe_var 1) (qo_some qe_int) qo_no) qa_nil))) (by rfl) (fun _ _ _ _ _ => (qg_tup rfl (qgs_cons (qg_name ok.blk.nd 3) (qgs_cons (qg_name ok.blk.nd 4) qgs_nil)) (gl_cons (gl_cons gl_nil)))) (fun _ _ _ _ _ => qts_nil) (fun _ _ _ _ _ => (qe_cmp op_uLtI (qe_var 3) (qe_var 4))))) qa_nil)))))
theorem cal_are_gaps (M : Mod K mg) : Cal P w K mg base (L2.CX P w) "are_gaps" false false 2 fn_are_gaps 2 := mk_are_gaps M (j := 1) fun f cdv A outer s H E G a hr => q_are_gaps M hr
theorem S_blocks_of : FnScope N_blocks_of ["lengths", "joined"] (defScope s_blocks_of) := ⟨rfl, rfl, rfl, by decide +kernel, rfl, by decide +kernel, by decide +kernel⟩
theorem mk_blocks_of (M : Mod K mg) {j : Nat} {b : SF} (hb : ∀ (f : Addr) (cdv : Value) (A : Around) (outer : List Env) (s : Shared) (H : Hp) (E : XK) (G : Hp) (a : Addr), Room j (A.deeper (envOfC "blocks_of" (defScope s_blocks_of) s.heap.objs.size f cdv)) →
      QSs (cxOf (L2.CX P w) P w K mg base N_blocks_of "blocks_of" (defScope s_blocks_of) f cdv A outer s H E) ⟨[], G, H, daF false a, false⟩ (fun cls d _ H => E cls d H) false (defBody s_blocks_of) b) : Cal P w K mg base (L2.CX P w) "blocks_of" false false 2 (fnOf false false 5 2 b) (j + 1) := by
  obtain ⟨f, fd, h, F⟩ := M.f_blocks_of
  exact cal_of F h S_blocks_of (F.binds fun _ _ _ _ _ _ us hl => match us, hl with | [_, _], _ => rfl) (by decide) (hb f)
theorem q_blocks_of (M : Mod K mg) {f : Addr} {cdv : Value} {A : Around} {outer : List Env} {s : Shared} {H : Hp} {E : XK} {G : Hp} {a : Addr} (hr : Room 0 (A.deeper (envOfC "blocks_of" (defScope s_blocks_of) s.heap.objs.size f cdv))) :
    QSs (cxOf (L2.CX P w) P w K mg base N_blocks_of "blocks_of" (defScope s_blocks_of) f cdv A outer s H E) ⟨[], G, H, daF false a, false⟩ (fun cls d _ H => E cls d H) false (defBody s_blocks_of) b_blocks_of :=
  have ok := okx_of (P := P) (w := w) (K := K) (mg := mg) (base := base) (outer := outer) (H := H) (E := E) S_blocks_of hr
  (qs_cons (qs_set ok.nd 2 (qe_of (qf_lst qa_nil)))
    (qs_cons (qs_for ok.own rfl (qi_enum M.n_enumerate (qa_cons (qe_var 0) qa_nil)) (qg_tup rfl (qgs_cons (qg_name ok.nd 3) (qgs_cons (qg_name ok.nd 4) qgs_nil)) (gl_cons (gl_cons gl_nil))) (qs_one (qs_if (qt_cmp (op_uIn ok.room) (qe_var 3) (qe_var 1)) (qs_one (qs_set ok.nd 2 (qe_bin op_uAdd (qe_sl (qe_var 2) qo_no (qo_some (qe_un un_uNeg qe_int))) (qe_of (qf_lst (qa_cons (qe_bin op_uAdd (qe_ix (qe_var 2) (qe_un un_uNeg qe_int)) (qe_var 4)) qa_nil)))))) (qs_one (qs_set ok.nd 2 (qe_bin op_uAdd (qe_var 2) (qe_of (qf_lst (qa_cons (qe_var 4) qa_nil)))))))))
    (qs_one (qs_ret [] (qe_var 2)))))
theorem cal_blocks_of (M : Mod K mg) : Cal P w K mg base (L2.CX P w) "blocks_of" false false 2 fn_blocks_of 1 := mk_blocks_of M (j := 0) fun f cdv A outer s H E G a hr => q_blocks_of M hr
theorem S_is_piece : FnScope N_is_piece ["value"] (defScope s_is_piece) := ⟨rfl, rfl, rfl, by decide +kernel, rfl, by decide +kernel, by decide +kernel⟩
theorem mk_is_piece (M : Mod K mg) {j : Nat} {b : SF} (hb : ∀ (f : Addr) (cdv : Value) (A : Around) (outer : List Env) (s : Shared) (H : Hp) (E : XK) (G : Hp) (a : Addr), Room j (A.deeper (envOfC "is_piece" (defScope s_is_piece) s.heap.objs.size f cdv)) →
      QSs (cxOf (L2.CX P w) P w K mg base N_is_piece "is_piece" (defScope s_is_piece) f cdv A outer s H E) ⟨[], G, H, daF false a, false⟩ (fun cls d _ H => E cls d H) false (defBody s_is_piece) b) : Cal P w K mg base (L2.CX P w) "is_piece" false false 1 (fnOf false false 7 1 b) (j + 1) := by
  obtain ⟨f, fd, h, F⟩ := M.f_is_piece
  exact cal_of F h S_is_piece (F.binds fun _ _ _ _ _ _ us hl => match us, hl with | [_], _ => rfl) (by decide) (hb f)
theorem q_is_piece (M : Mod K mg) {f : Addr} {cdv : Value} {A : Around} {outer : List Env} {s : Shared} {H : Hp} {E : XK} {G : Hp} {a : Addr} (hr : Room 2 (A.deeper (envOfC "is_piece" (defScope s_is_piece) s.heap.objs.size f cdv))) :
    QSs (cxOf (L2.CX P w) P w K mg base N_is_piece "is_piece" (defScope s_is_piece) f cdv A outer s H E) ⟨[], G, H, daF false a, false⟩ (fun cls d _ H => E cls d H) false (defBody s_is_piece) b_is_piece :=
  have ok := okx_of (P := P) (w := w) (K := K) (mg := mg) (base := base) (outer := outer) (H := H) (E := E) S_is_piece hr
  (qs_cons (qs_if (qt_of (qw_or (qt_not (qt_val (qe_B c_isInst M.n_isinstance bo_isinstance (qa_cons (qe_var 0) (qa_cons (qe_ty "tuple" M.n_tuple bo_tuple) qa_nil))))) (qw_or1 (qt_cmp (op_uNe ok.room) (qe_B c_len M.n_len bo_len (qa_cons (qe_var 0) qa_nil)) qe_int)))) (qs_one (qs_ret [] qe_bl)) qs_nil)
    (qs_cons (qs_asg (qe_var 0) (qg_tup rfl (qgs_cons (qg_name ok.nd 1) (qgs_cons (qg_name ok.nd 2) (qgs_cons (qg_name ok.nd 3) (qgs_cons (qg_name ok.nd 4) qgs_nil)))) (gl_cons (gl_cons (gl_cons (gl_cons gl_nil))))))
    (qs_cons (qs_if (qt_of (qw_or (qt_not (qt_val (qe_B c_isInst M.n_isinstance bo_isinstance (qa_cons (qe_var 1) (qa_cons (qe_ty "tuple" M.n_tuple bo_tuple) qa_nil))))) (qw_or1 (qt_not (qt_chain op_uLeI op_uLeI qe_int (qe_B c_len M.n_len bo_len (qa_cons (qe_var 1) qa_nil)) (qe_globI 30 M.i_MOST_NOTES)))))) (qs_one (qs_ret [] qe_bl)) qs_nil)
    (qs_cons (qs_if (qt_of (qw_or (qt_not (qt_val (qe_B (c_all rfl) M.n_all bo_all (qa_cons (qe_of (qf_lc (own := [("length", 5)]) (sl := [5]) (fi := (iSeq (eV 1))) (gt := (gN 5)) (ft := tTrue) (fe := (eCall fn_is_from (aCons (eV 5) (aCons (eC (.int 1)) (aCons (eC (.int 20)) aNil))))) rfl ok.nd (qi_seq (qe_var 1)) (by rfl) (fun _ _ _ _ _ => (qg_name ok.blk.nd 5)) (fun _ _ _ _ _ => qts_nil) (fun _ _ _ _ _ => (qe_call (cal_is_from M) ok.blk (by decide) (qa_cons (qe_var 5) (qa_cons qe_int (qa_cons (qe_globI 20 M.i_LONGEST) qa_nil))) (al_cons (al_cons (al_cons al_nil))))))) qa_nil)))) (qw_or1 (qt_not (qt_val (qe_call (cal_is_from M) ok (by decide) (qa_cons (qe_var 2) (qa_cons qe_int (qa_cons (qe_globI 100 M.i_LONGEST_BOW) qa_nil))) (al_cons (al_cons (al_cons al_nil))))))))) (qs_one (qs_ret [] qe_bl)) qs_nil)
    (qs_cons (qs_if (qt_of (qw_or (qt_not (qt_val (qe_call (cal_are_gaps M) ok (by decide) (qa_cons (qe_B c_len M.n_len bo_len (qa_cons (qe_var 1) qa_nil)) (qa_cons (qe_var 3) qa_nil)) (al_cons (al_cons al_nil))))) (qw_or1 (qt_not (qt_val (qe_call (cal_are_gaps M) ok (by decide) (qa_cons (qe_B c_len M.n_len bo_len (qa_cons (qe_var 1) qa_nil)) (qa_cons (qe_var 4) qa_nil)) (al_cons (al_cons al_nil)))))))) (qs_one (qs_ret [] qe_bl)) qs_nil)
    (qs_one (qs_ret [] (qe_and (qe_not (qe_B (c_any rfl) M.n_any bo_any (qa_cons (qe_of (qf_lc (own := [("gap", 6)]) (sl := [6]) (fi := (iSeq (eV 3))) (gt := (gN 6)) (ft := tTrue) (fe := (e2 uIn (eV 6) (eV 4))) rfl ok.nd (qi_seq (qe_var 3)) (by rfl) (fun _ _ _ _ _ => (qg_name ok.blk.nd 6)) (fun _ _ _ _ _ => qts_nil) (fun _ _ _ _ _ => (qe_cmp (op_uIn ok.blk.room) (qe_var 6) (qe_var 4))))) qa_nil))) (qe_one (qe_cmp op_uLeI (qe_B (c_max rfl ok.room) M.n_max bo_max (qa_cons (qe_call (cal_blocks_of M) ok (by decide) (qa_cons (qe_var 1) (qa_cons (qe_var 3) qa_nil)) (al_cons (al_cons al_nil))) qa_nil)) (qe_var 2)))))))))))
theorem cal_is_piece (M : Mod K mg) : Cal P w K mg base (L2.CX P w) "is_piece" false false 1 fn_is_piece 3 := mk_is_piece M (j := 2) fun f cdv A outer s H E G a hr => q_is_piece M hr
theorem S_is_direction : FnScope N_is_direction ["value"] (defScope s_is_direction) := ⟨rfl, rfl, rfl, by decide +kernel, rfl, by decide +kernel, by decide +kernel⟩
theorem mk_is_direction (M : Mod K mg) {j : Nat} {b : SF} (hb : ∀ (f : Addr) (cdv : Value) (A : Around) (outer : List Env) (s : Shared) (H : Hp) (E : XK) (G : Hp) (a : Addr), Room j (A.deeper (envOfC "is_direction" (defScope s_is_direction) s.heap.objs.size f cdv)) →
      QSs (cxOf (L2.CX P w) P w K mg base N_is_direction "is_direction" (defScope s_is_direction) f cdv A outer s H E) ⟨[], G, H, daF false a, false⟩ (fun cls d _ H => E cls d H) false (defBody s_is_direction) b) : Cal P w K mg base (L2.CX P w) "is_direction" false false 1 (fnOf false false 1 1 b) (j + 1) := by
  obtain ⟨f, fd, h, F⟩ := M.f_is_direction
  exact cal_of F h S_is_direction (F.binds fun _ _ _ _ _ _ us hl => match us, hl with | [_], _ => rfl) (by decide) (hb f)
theorem q_is_direction (M : Mod K mg) {f : Addr} {cdv : Value} {A : Around} {outer : List Env} {s : Shared} {H : Hp} {E : XK} {G : Hp} {a : Addr} (hr : Room 0 (A.deeper (envOfC "is_direction" (defScope s_is_direction) s.heap.objs.size f cdv))) :
    QSs (cxOf (L2.CX P w) P w K mg base N_is_direction "is_direction" (defScope s_is_direction) f cdv A outer s H E) ⟨[], G, H, daF false a, false⟩ (fun cls d _ H => E cls d H) false (defBody s_is_direction) b_is_direction :=
  have ok := okx_of (P := P) (w := w) (K := K) (mg := mg) (base := base) (outer := outer) (H := H) (E := E) S_is_direction hr
  (qs_one (qs_ret [] (qe_and (qe_B c_isInst M.n_isinstance bo_isinstance (qa_cons (qe_var 0) (qa_cons (qe_ty "str" M.n_str bo_str) qa_nil))) (qe_one (qe_cmp (op_uIn ok.room) (qe_var 0) (qe_tup (qa_cons (qe_str [100, 111, 119, 110]) (qa_cons (qe_str [117, 112]) qa_nil))))))))
theorem cal_is_direction (M : Mod K mg) : Cal P w K mg base (L2.CX P w) "is_direction" false false 1 fn_is_direction 1 := mk_is_direction M (j := 0) fun f cdv A outer s H E G a hr => q_is_direction M hr
theorem S_good_wishes : FnScope N_good_wishes ["piece", "value"] (defScope s_good_wishes) := ⟨rfl, rfl, rfl, by decide +kernel, rfl, by decide +kernel, by decide +kernel⟩
theorem mk_good_wishes (M : Mod K mg) {j : Nat} {b : SF} (hb : ∀ (f : Addr) (cdv : Value) (A : Around) (outer : List Env) (s : Shared) (H : Hp) (E : XK) (G : Hp) (a : Addr), Room j (A.deeper (envOfC "good_wishes" (defScope s_good_wishes) s.heap.objs.size f cdv)) →
      QSs (cxOf (L2.CX P w) P w K mg base N_good_wishes "good_wishes" (defScope s_good_wishes) f cdv A outer s H E) ⟨[], G, H, daF false a, false⟩ (fun cls d _ H => E cls d H) false (defBody s_good_wishes) b) : Cal P w K mg base (L2.CX P w) "good_wishes" false false 2 (fnOf false false 5 2 b) (j + 1) := by
  obtain ⟨f, fd, h, F⟩ := M.f_good_wishes
  exact cal_of F h S_good_wishes (F.binds fun _ _ _ _ _ _ us hl => match us, hl with | [_, _], _ => rfl) (by decide) (hb f)
theorem q_good_wishes (M : Mod K mg) {f : Addr} {cdv : Value} {A : Around} {outer : List Env} {s : Shared} {H : Hp} {E : XK} {G : Hp} {a : Addr} (hr : Room 1 (A.deeper (envOfC "good_wishes" (defScope s_good_wishes) s.heap.objs.size f cdv))) :
    QSs (cxOf (L2.CX P w) P w K mg base N_good_wishes "good_wishes" (defScope s_good_wishes) f cdv A outer s H E) ⟨[], G, H, daF false a, false⟩ (fun cls d _ H => E cls d H) false (defBody s_good_wishes) b_good_wishes :=
  have ok := okx_of (P := P) (w := w) (K := K) (mg := mg) (base := base) (outer := outer) (H := H) (E := E) S_good_wishes hr
  (qs_cons (qs_if (qt_not (qt_val (qe_B c_isInst M.n_isinstance bo_isinstance (qa_cons (qe_var 1) (qa_cons (qe_ty "tuple" M.n_tuple bo_tuple) qa_nil))))) (qs_one (qs_ret [] qe_bl)) qs_nil)
    (qs_cons (qs_for ok.own rfl (qi_seq (qe_var 1)) (qg_name ok.nd 2) (qs_cons (qs_if (qt_of (qw_or (qt_not (qt_val (qe_B c_isInst M.n_isinstance bo_isinstance (qa_cons (qe_var 2) (qa_cons (qe_ty "tuple" M.n_tuple bo_tuple) qa_nil))))) (qw_or1 (qt_cmp (op_uNe ok.room) (qe_B c_len M.n_len bo_len (qa_cons (qe_var 2) qa_nil)) qe_int)))) (qs_one (qs_ret [] qe_bl)) qs_nil)
    (qs_one (qs_if (qt_of (qw_or (qt_not (qt_val (qe_call (cal_is_from M) ok (by decide) (qa_cons (qe_ix (qe_var 2) qe_int) (qa_cons qe_int (qa_cons (qe_bin op_uSub (qe_B c_len M.n_len bo_len (qa_cons (qe_ix (qe_var 0) qe_int) qa_nil)) qe_int) qa_nil))) (al_cons (al_cons (al_cons al_nil)))))) (qw_or1 (qt_not (qt_val (qe_call (cal_is_direction M) ok (by decide) (qa_cons (qe_ix (qe_var 2) qe_int) qa_nil) (al_cons al_nil))))))) (qs_one (qs_ret [] qe_bl)) qs_nil))))
    (qs_one (qs_ret [] (qe_B (c_all rfl) M.n_all bo_all (qa_cons (qe_of (qf_lc (own := [("one", 3), ("other", 4)]) (sl := [3, 4]) (fi := (iZip2 (aCons (eV 1) (aCons (eSl (eV 1) (oSome (eC (.int 1))) oNo) aNil)))) (gt := (gT (gsCons (gN 3) (gsCons (gN 4) gsNil)))) (ft := tTrue) (fe := (e2 uLtI (e2 uIx (eV 3) (eC (.int 0))) (e2 uIx (eV 4) (eC (.int 0))))) rfl ok.nd (qi_zip2 M.n_zip (qa_cons (qe_var 1) (qa_cons (qe_sl (qe_var 1) (qo_some qe_int) qo_no) qa_nil))) (by rfl) (fun _ _ _ _ _ => (qg_tup rfl (qgs_cons (qg_name ok.blk.nd 3) (qgs_cons (qg_name ok.blk.nd 4) qgs_nil)) (gl_cons (gl_cons gl_nil)))) (fun _ _ _ _ _ => qts_nil) (fun _ _ _ _ _ => (qe_cmp op_uLtI (qe_ix (qe_var 3) qe_int) (qe_ix (qe_var 4) qe_int))))) qa_nil))))))
theorem cal_good_wishes (M : Mod K mg) : Cal P w K mg base (L2.CX P w) "good_wishes" false false 2 fn_good_wishes 2 := mk_good_wishes M (j := 1) fun f cdv A outer s H E G a hr => q_good_wishes M hr
theorem S_need_wishes : FnScope N_need_wishes ["piece", "wishes"] (defScope s_need_wishes) := ⟨rfl, rfl, rfl, by decide +kernel, rfl, by decide +kernel, by decide +kernel⟩
theorem mk_need_wishes (M : Mod K mg) {j : Nat} {b : SF} (hb : ∀ (f : Addr) (cdv : Value) (A : Around) (outer : List Env) (s : Shared) (H : Hp) (E : XK) (G : Hp) (a : Addr), Room j (A.deeper (envOfC "need_wishes" (defScope s_need_wishes) s.heap.objs.size f cdv)) →
      QSs (cxOf (L2.CX P w) P w K mg base N_need_wishes "need_wishes" (defScope s_need_wishes) f cdv A outer s H E) ⟨[], G, H, daF false a, false⟩ (fun cls d _ H => E cls d H) false (defBody s_need_wishes) b) : Cal P w K mg base (L2.CX P w) "need_wishes" false false 2 (fnOf false false 2 2 b) (j + 1) := by
  obtain ⟨f, fd, h, F⟩ := M.f_need_wishes
  exact cal_of F h S_need_wishes (F.binds fun _ _ _ _ _ _ us hl => match us, hl with | [_, _], _ => rfl) (by decide) (hb f)
theorem q_need_wishes (M : Mod K mg) {f : Addr} {cdv : Value} {A : Around} {outer : List Env} {s : Shared} {H : Hp} {E : XK} {G : Hp} {a : Addr} (hr : Room 3 (A.deeper (envOfC "need_wishes" (defScope s_need_wishes) s.heap.objs.size f cdv))) :
    QSs (cxOf (L2.CX P w) P w K mg base N_need_wishes "need_wishes" (defScope s_need_wishes) f cdv A outer s H E) ⟨[], G, H, daF false a, false⟩ (fun cls d _ H => E cls d H) false (defBody s_need_wishes) b_need_wishes :=
  have ok := okx_of (P := P) (w := w) (K := K) (mg := mg) (base := base) (outer := outer) (H := H) (E := E) S_need_wishes hr
  (qs_cons (qs_if (qt_not (qt_val (qe_call (cal_is_piece M) ok (by decide) (qa_cons (qe_var 0) qa_nil) (al_cons al_nil)))) (qs_one (qs_raiseM ok M.x_InvalidPiece)) qs_nil)
    (qs_one (qs_if (qt_not (qt_val (qe_call (cal_good_wishes M) ok (by decide) (qa_cons (qe_var 0) (qa_cons (qe_var 1) qa_nil)) (al_cons (al_cons al_nil))))) (qs_one (qs_raiseM ok M.x_InvalidWishes)) qs_nil)))
theorem cal_need_wishes (M : Mod K mg) : Cal P w K mg base (L2.CX P w) "need_wishes" false false 2 fn_need_wishes 4 := mk_need_wishes M (j := 3) fun f cdv A outer s H E G a hr => q_need_wishes M hr
theorem S_first_direction : FnScope N_first_direction ["wishes"] (defScope s_first_direction) := ⟨rfl, rfl, rfl, by decide +kernel, rfl, by decide +kernel, by decide +kernel⟩
theorem mk_first_direction (M : Mod K mg) {j : Nat} {b : SF} (hb : ∀ (f : Addr) (cdv : Value) (A : Around) (outer : List Env) (s : Shared) (H : Hp) (E : XK) (G : Hp) (a : Addr), Room j (A.deeper (envOfC "first_direction" (defScope s_first_direction) s.heap.objs.size f cdv)) →
      QSs (cxOf (L2.CX P w) P w K mg base N_first_direction "first_direction" (defScope s_first_direction) f cdv A outer s H E) ⟨[], G, H, daF false a, false⟩ (fun cls d _ H => E cls d H) false (defBody s_first_direction) b) : Cal P w K mg base (L2.CX P w) "first_direction" false false 1 (fnOf false false 1 1 b) (j + 1) := by
  obtain ⟨f, fd, h, F⟩ := M.f_first_direction
  exact cal_of F h S_first_direction (F.binds fun _ _ _ _ _ _ us hl => match us, hl with | [_], _ => rfl) (by decide) (hb f)
theorem q_first_direction (M : Mod K mg) {f : Addr} {cdv : Value} {A : Around} {outer : List Env} {s : Shared} {H : Hp} {E : XK} {G : Hp} {a : Addr} (hr : Room 0 (A.deeper (envOfC "first_direction" (defScope s_first_direction) s.heap.objs.size f cdv))) :
    QSs (cxOf (L2.CX P w) P w K mg base N_first_direction "first_direction" (defScope s_first_direction) f cdv A outer s H E) ⟨[], G, H, daF false a, false⟩ (fun cls d _ H => E cls d H) false (defBody s_first_direction) b_first_direction :=
  have ok := okx_of (P := P) (w := w) (K := K) (mg := mg) (base := base) (outer := outer) (H := H) (E := E) S_first_direction hr
  (qs_one (qs_ret [] (qe_if (qt_cmp (op_uIn ok.room) (qe_tup (qa_cons qe_int (qa_cons (qe_str [117, 112]) qa_nil))) (qe_var 0)) (qe_str [117, 112]) (qe_str [100, 111, 119, 110]))))
theorem cal_first_direction (M : Mod K mg) : Cal P w K mg base (L2.CX P w) "first_direction" false false 1 fn_first_direction 1 := mk_first_direction M (j := 0) fun f cdv A outer s H E G a hr => q_first_direction M hr
theorem S_turned : FnScope N_turned ["direction"] (defScope s_turned) := ⟨rfl, rfl, rfl, by decide +kernel, rfl, by decide +kernel, by decide +kernel⟩
theorem mk_turned (M : Mod K mg) {j : Nat} {b : SF} (hb : ∀ (f : Addr) (cdv : Value) (A : Around) (outer : List Env) (s : Shared) (H : Hp) (E : XK) (G : Hp) (a : Addr), Room j (A.deeper (envOfC "turned" (defScope s_turned) s.heap.objs.size f cdv)) →
      QSs (cxOf (L2.CX P w) P w K mg base N_turned "turned" (defScope s_turned) f cdv A outer s H E) ⟨[], G, H, daF false a, false⟩ (fun cls d _ H => E cls d H) false (defBody s_turned) b) : Cal P w K mg base (L2.CX P w) "turned" false false 1 (fnOf false false 1 1 b) (j + 1) := by
  obtain ⟨f, fd, h, F⟩ := M.f_turned
  exact cal_of F h S_turned (F.binds fun _ _ _ _ _ _ us hl => match us, hl with | [_], _ => rfl) (by decide) (hb f)
theorem q_turned (M : Mod K mg) {f : Addr} {cdv : Value} {A : Around} {outer : List Env} {s : Shared} {H : Hp} {E : XK} {G : Hp} {a : Addr} (hr : Room 0 (A.deeper (envOfC "turned" (defScope s_turned) s.heap.objs.size f cdv))) :
    QSs (cxOf (L2.CX P w) P w K mg base N_turned "turned" (defScope s_turned) f cdv A outer s H E) ⟨[], G, H, daF false a, false⟩ (fun cls d _ H => E cls d H) false (defBody s_turned) b_turned :=
  have ok := okx_of (P := P) (w := w) (K := K) (mg := mg) (base := base) (outer := outer) (H := H) (E := E) S_turned hr
  (qs_one (qs_ret [] (qe_if (qt_cmp (op_uEq ok.room) (qe_var 0) (qe_str [100, 111, 119, 110])) (qe_str [117, 112]) (qe_str [100, 111, 119, 110]))))
theorem cal_turned (M : Mod K mg) : Cal P w K mg base (L2.CX P w) "turned" false false 1 fn_turned 1 := mk_turned M (j := 0) fun f cdv A outer s H E G a hr => q_turned M hr
theorem S_direction_of : FnScope N_direction_of ["wishes", "number"] (defScope s_direction_of) := ⟨rfl, rfl, rfl, by decide +kernel, rfl, by decide +kernel, by decide +kernel⟩
theorem mk_direction_of (M : Mod K mg) {j : Nat} {b : SF} (hb : ∀ (f : Addr) (cdv : Value) (A : Around) (outer : List Env) (s : Shared) (H : Hp) (E : XK) (G : Hp) (a : Addr), Room j (A.deeper (envOfC "direction_of" (defScope s_direction_of) s.heap.objs.size f cdv)) →
      QSs (cxOf (L2.CX P w) P w K mg base N_direction_of "direction_of" (defScope s_direction_of) f cdv A outer s H E) ⟨[], G, H, daF false a, false⟩ (fun cls d _ H => E cls d H) false (defBody s_direction_of) b) : Cal P w K mg base (L2.CX P w) "direction_of" false false 2 (fnOf false false 3 2 b) (j + 1) := by
  obtain ⟨f, fd, h, F⟩ := M.f_direction_of
  exact cal_of F h S_direction_of (F.binds fun _ _ _ _ _ _ us hl => match us, hl with | [_, _], _ => rfl) (by decide) (hb f)
theorem q_direction_of (M : Mod K mg) {f : Addr} {cdv : Value} {A : Around} {outer : List Env} {s : Shared} {H : Hp} {E : XK} {G : Hp} {a : Addr} (hr : Room 1 (A.deeper (envOfC "direction_of" (defScope s_direction_of) s.heap.objs.size f cdv))) :
    QSs (cxOf (L2.CX P w) P w K mg base N_direction_of "direction_of" (defScope s_direction_of) f cdv A outer s H E) ⟨[], G, H, daF false a, false⟩ (fun cls d _ H => E cls d H) false (defBody s_direction_of) b_direction_of :=
  have ok := okx_of (P := P) (w := w) (K := K) (mg := mg) (base := base) (outer := outer) (H := H) (E := E) S_direction_of hr
  (qs_cons (qs_set ok.nd 2 (qe_call (cal_first_direction M) ok (by decide) (qa_cons (qe_var 0) qa_nil) (al_cons al_nil)))
    (qs_one (qs_ret [] (qe_if (qt_cmp (op_uEq ok.room) (qe_bin op_uMod (qe_var 1) qe_int) qe_int) (qe_var 2) (qe_call (cal_turned M) ok (by decide) (qa_cons (qe_var 2) qa_nil) (al_cons al_nil))))))
theorem cal_direction_of (M : Mod K mg) : Cal P w K mg base (L2.CX P w) "direction_of" false false 2 fn_direction_of 2 := mk_direction_of M (j := 1) fun f cdv A outer s H E G a hr => q_direction_of M hr
theorem S_stroke_right : FnScope N_stroke_right ["piece", "wishes", "start", "stop", "direction"] (defScope s_stroke_right) := ⟨rfl, rfl, rfl, by decide +kernel, rfl, by decide +kernel, by decide +kernel⟩
theorem mk_stroke_right (M : Mod K mg) {j : Nat} {b : SF} (hb : ∀ (f : Addr) (cdv : Value) (A : Around) (outer : List Env) (s : Shared) (H : Hp) (E : XK) (G : Hp) (a : Addr), Room j (A.deeper (envOfC "stroke_right" (defScope s_stroke_right) s.heap.objs.size f cdv)) →
      QSs (cxOf (L2.CX P w) P w K mg base N_stroke_right "stroke_right" (defScope s_stroke_right) f cdv A outer s H E) ⟨[], G, H, daF false a, false⟩ (fun cls d _ H => E cls d H) false (defBody s_stroke_right) b) : Cal P w K mg base (L2.CX P w) "stroke_right" false false 5 (fnOf false false 12 5 b) (j + 1) := by
  obtain ⟨f, fd, h, F⟩ := M.f_stroke_right
  exact cal_of F h S_stroke_right (F.binds fun _ _ _ _ _ _ us hl => match us, hl with | [_, _, _, _, _], _ => rfl) (by decide) (hb f)
theorem q_stroke_right (M : Mod K mg) {f : Addr} {cdv : Value} {A : Around} {outer : List Env} {s : Shared} {H : Hp} {E : XK} {G : Hp} {a : Addr} (hr : Room 0 (A.deeper (envOfC "stroke_right" (defScope s_stroke_right) s.heap.objs.size f cdv))) :
    QSs (cxOf (L2.CX P w) P w K mg base N_stroke_right "stroke_right" (defScope s_stroke_right) f cdv A outer s H E) ⟨[], G, H, daF false a, false⟩ (fun cls d _ H => E cls d H) false (defBody s_stroke_right) b_stroke_right :=
  have ok := okx_of (P := P) (w := w) (K := K) (mg := mg) (base := base) (outer := outer) (H := H) (E := E) S_stroke_right hr
  (qs_cons (qs_asg (qe_var 0) (qg_tup rfl (qgs_cons (qg_name ok.nd 5) (qgs_cons (qg_name ok.nd 6) (qgs_cons (qg_name ok.nd 7) (qgs_cons (qg_name ok.nd 8) qgs_nil)))) (gl_cons (gl_cons (gl_cons (gl_cons gl_nil))))))
    (qs_cons (qs_if (qt_of (qw_or (qt_cmp op_uGtI (qe_B (c_sum rfl) M.n_sum bo_sum (qa_cons (qe_sl (qe_var 5) (qo_some (qe_var 2)) (qo_some (qe_var 3))) qa_nil)) (qe_var 6)) (qw_or1 (qt_cmp (op_uIn ok.room) (qe_var 3) (qe_var 7))))) (qs_one (qs_ret [] qe_bl)) qs_nil)
    (qs_cons (qs_if (qt_val (qe_B (c_any rfl) M.n_any bo_any (qa_cons (qe_of (qf_lc (own := [("gap", 9)]) (sl := [9]) (fi := (iSeq (eV 8))) (gt := (gN 9)) (ft := tTrue) (fe := (eChain uLtI uLtI (eV 2) (eV 9) (eV 3))) rfl ok.nd (qi_seq (qe_var 8)) (by rfl) (fun _ _ _ _ _ => (qg_name ok.blk.nd 9)) (fun _ _ _ _ _ => qts_nil) (fun _ _ _ _ _ => (qe_chain op_uLtI op_uLtI (qe_var 2) (qe_var 9) (qe_var 3))))) qa_nil))) (qs_one (qs_ret [] qe_bl)) qs_nil)
    (qs_one (qs_ret [] (qe_B (c_all rfl) M.n_all bo_all (qa_cons (qe_of (qf_lc (own := [("note", 10), ("wish", 11)]) (sl := [10, 11]) (fi := (iSeq (eV 1))) (gt := (gT (gsCons (gN 10) (gsCons (gN 11) gsNil)))) (ft := (tB (eChain uLeI uLtI (eV 2) (eV 10) (eV 3)))) (fe := (e2 uEq (eV 11) (eV 4))) rfl ok.nd (qi_seq (qe_var 1)) (by rfl) (fun _ _ _ _ _ => (qg_tup rfl (qgs_cons (qg_name ok.blk.nd 10) (qgs_cons (qg_name ok.blk.nd 11) qgs_nil)) (gl_cons (gl_cons gl_nil)))) (fun _ _ _ _ _ => (qts_one (qt_chain op_uLeI op_uLtI (qe_var 2) (qe_var 10) (qe_var 3)))) (fun _ _ _ _ _ => (qe_cmp (op_uEq ok.blk.room) (qe_var 11) (qe_var 4))))) qa_nil)))))))
theorem cal_stroke_right (M : Mod K mg) : Cal P w K mg base (L2.CX P w) "stroke_right" false false 5 fn_stroke_right 1 := mk_stroke_right M (j := 0) fun f cdv A outer s H E G a hr => q_stroke_right M hr
theorem S_ends_of : FnScope N_ends_of ["piece", "breaks"] (defScope s_ends_of) := ⟨rfl, rfl, rfl, by decide +kernel, rfl, by decide +kernel, by decide +kernel⟩
theorem mk_ends_of (M : Mod K mg) {j : Nat} {b : SF} (hb : ∀ (f : Addr) (cdv : Value) (A : Around) (outer : List Env) (s : Shared) (H : Hp) (E : XK) (G : Hp) (a : Addr), Room j (A.deeper (envOfC "ends_of" (defScope s_ends_of) s.heap.objs.size f cdv)) →
      QSs (cxOf (L2.CX P w) P w K mg base N_ends_of "ends_of" (defScope s_ends_of) f cdv A outer s H E) ⟨[], G, H, daF false a, false⟩ (fun cls d _ H => E cls d H) false (defBody s_ends_of) b) : Cal P w K mg base (L2.CX P w) "ends_of" false false 2 (fnOf false false 3 2 b) (j + 1) := by
  obtain ⟨f, fd, h, F⟩ := M.f_ends_of
  exact cal_of F h S_ends_of (F.binds fun _ _ _ _ _ _ us hl => match us, hl with | [_, _], _ => rfl) (by decide) (hb f)
theorem q_ends_of (M : Mod K mg) {f : Addr} {cdv : Value} {A : Around} {outer : List Env} {s : Shared} {H : Hp} {E : XK} {G : Hp} {a : Addr} (hr : Room 0 (A.deeper (envOfC "ends_of" (defScope s_ends_of) s.heap.objs.size f cdv))) :
    QSs (cxOf (L2.CX P w) P w K mg base N_ends_of "ends_of" (defScope s_ends_of) f cdv A outer s H E) ⟨[], G, H, daF false a, false⟩ (fun cls d _ H => E cls d H) false (defBody s_ends_of) b_ends_of :=
  have ok := okx_of (P := P) (w := w) (K := K) (mg := mg) (base := base) (outer := outer) (H := H) (E := E) S_ends_of hr
  (qs_cons (qs_set ok.nd 2 (qe_bin op_uAdd (qe_bin op_uAdd (qe_tup (qa_cons qe_int qa_nil)) (qe_var 1)) (qe_tup (qa_cons (qe_B c_len M.n_len bo_len (qa_cons (qe_ix (qe_var 0) qe_int) qa_nil)) qa_nil))))
    (qs_one (qs_ret [] (qe_of (qf_listZip rfl (qa_cons (qe_var 2) (qa_cons (qe_sl (qe_var 2) (qo_some qe_int) qo_no) qa_nil)) M.n_list M.n_zip)))))
theorem cal_ends_of (M : Mod K mg) : Cal P w K mg base (L2.CX P w) "ends_of" false false 2 fn_ends_of 1 := mk_ends_of M (j := 0) fun f cdv A outer s H E G a hr => q_ends_of M hr
theorem S_good_bowing : FnScope N_good_bowing ["piece", "wishes", "value"] (defScope s_good_bowing) := ⟨rfl, rfl, rfl, by decide +kernel, rfl, by decide +kernel, by decide +kernel⟩
theorem mk_good_bowing (M : Mod K mg) {j : Nat} {b : SF} (hb : ∀ (f : Addr) (cdv : Value) (A : Around) (outer : List Env) (s : Shared) (H : Hp) (E : XK) (G : Hp) (a : Addr), Room j (A.deeper (envOfC "good_bowing" (defScope s_good_bowing) s.heap.objs.size f cdv)) →
      QSs (cxOf (L2.CX P w) P w K mg base N_good_bowing "good_bowing" (defScope s_good_bowing) f cdv A outer s H E) ⟨[], G, H, daF false a, false⟩ (fun cls d _ H => E cls d H) false (defBody s_good_bowing) b) : Cal P w K mg base (L2.CX P w) "good_bowing" false false 3 (fnOf false false 6 3 b) (j + 1) := by
  obtain ⟨f, fd, h, F⟩ := M.f_good_bowing
  exact cal_of F h S_good_bowing (F.binds fun _ _ _ _ _ _ us hl => match us, hl with | [_, _, _], _ => rfl) (by decide) (hb f)
theorem q_good_bowing (M : Mod K mg) {f : Addr} {cdv : Value} {A : Around} {outer : List Env} {s : Shared} {H : Hp} {E : XK} {G : Hp} {a : Addr} (hr : Room 2 (A.deeper (envOfC "good_bowing" (defScope s_good_bowing) s.heap.objs.size f cdv))) :
    QSs (cxOf (L2.CX P w) P w K mg base N_good_bowing "good_bowing" (defScope s_good_bowing) f cdv A outer s H E) ⟨[], G, H, daF false a, false⟩ (fun cls d _ H => E cls d H) false (defBody s_good_bowing) b_good_bowing :=
  have ok := okx_of (P := P) (w := w) (K := K) (mg := mg) (base := base) (outer := outer) (H := H) (E := E) S_good_bowing hr
  (qs_cons (qs_if (qt_not (qt_val (qe_call (cal_are_gaps M) ok (by decide) (qa_cons (qe_B c_len M.n_len bo_len (qa_cons (qe_ix (qe_var 0) qe_int) qa_nil)) (qa_cons (qe_var 2) qa_nil)) (al_cons (al_cons al_nil))))) (qs_one (qs_ret [] qe_bl)) qs_nil)
    (qs_cons (qs_for ok.own rfl (qi_enum M.n_enumerate (qa_cons (qe_call (cal_ends_of M) ok (by decide) (qa_cons (qe_var 0) (qa_cons (qe_var 2) qa_nil)) (al_cons (al_cons al_nil))) qa_nil)) (qg_tup rfl (qgs_cons (qg_name ok.nd 3) (qgs_cons (qg_tup rfl (qgs_cons (qg_name ok.nd 4) (qgs_cons (qg_name ok.nd 5) qgs_nil)) (gl_cons (gl_cons gl_nil))) qgs_nil)) (gl_cons (gl_cons gl_nil))) (qs_one (qs_if (qt_not (qt_val (qe_call (cal_stroke_right M) ok (by decide) (qa_cons (qe_var 0) (qa_cons (qe_var 1) (qa_cons (qe_var 4) (qa_cons (qe_var 5) (qa_cons (qe_call (cal_direction_of M) ok (by decide) (qa_cons (qe_var 1) (qa_cons (qe_bin op_uAdd (qe_var 3) qe_int) qa_nil)) (al_cons (al_cons al_nil))) qa_nil))))) (al_cons (al_cons (al_cons (al_cons (al_cons al_nil)))))))) (qs_one (qs_ret [] qe_bl)) qs_nil)))
    (qs_one (qs_ret [] qe_bl))))
theorem cal_good_bowing (M : Mod K mg) : Cal P w K mg base (L2.CX P w) "good_bowing" false false 3 fn_good_bowing 3 := mk_good_bowing M (j := 2) fun f cdv A outer s H E G a hr => q_good_bowing M hr
theorem S_is_bowing : FnScope N_is_bowing ["piece", "wishes", "value"] (defScope s_is_bowing) := ⟨rfl, rfl, rfl, by decide +kernel, rfl, by decide +kernel, by decide +kernel⟩
theorem mk_is_bowing (M : Mod K mg) {j : Nat} {b : SF} (hb : ∀ (f : Addr) (cdv : Value) (A : Around) (outer : List Env) (s : Shared) (H : Hp) (E : XK) (G : Hp) (a : Addr), Room j (A.deeper (envOfC "is_bowing" (defScope s_is_bowing) s.heap.objs.size f cdv)) →
      QSs (cxOf (L2.CX P w) P w K mg base N_is_bowing "is_bowing" (defScope s_is_bowing) f cdv A outer s H E) ⟨[], G, H, daF false a, false⟩ (fun cls d _ H => E cls d H) false (defBody s_is_bowing) b) : Cal P w K mg base (L2.CX P w) "is_bowing" false false 3 (fnOf false false 3 3 b) (j + 1) := by
  obtain ⟨f, fd, h, F⟩ := M.f_is_bowing
  exact cal_of F h S_is_bowing (F.binds fun _ _ _ _ _ _ us hl => match us, hl with | [_, _, _], _ => rfl) (by decide) (hb f)
theorem q_is_bowing (M : Mod K mg) {f : Addr} {cdv : Value} {A : Around} {outer : List Env} {s : Shared} {H : Hp} {E : XK} {G : Hp} {a : Addr} (hr : Room 4 (A.deeper (envOfC "is_bowing" (defScope s_is_bowing) s.heap.objs.size f cdv))) :
    QSs (cxOf (L2.CX P w) P w K mg base N_is_bowing "is_bowing" (defScope s_is_bowing) f cdv A outer s H E) ⟨[], G, H, daF false a, false⟩ (fun cls d _ H => E cls d H) false (defBody s_is_bowing) b_is_bowing :=
  have ok := okx_of (P := P) (w := w) (K := K) (mg := mg) (base := base) (outer := outer) (H := H) (E := E) S_is_bowing hr
  (qs_cons (qs_expr (qe_call (cal_need_wishes M) ok (by decide) (qa_cons (qe_var 0) (qa_cons (qe_var 1) qa_nil)) (al_cons (al_cons al_nil))))
    (qs_one (qs_ret [] (qe_call (cal_good_bowing M) ok (by decide) (qa_cons (qe_var 0) (qa_cons (qe_var 1) (qa_cons (qe_var 2) qa_nil))) (al_cons (al_cons (al_cons al_nil)))))))
theorem cal_is_bowing (M : Mod K mg) : Cal P w K mg base (L2.CX P w) "is_bowing" false false 3 fn_is_bowing 5 := mk_is_bowing M (j := 4) fun f cdv A outer s H E G a hr => q_is_bowing M hr
theorem S_need_bowing : FnScope N_need_bowing ["piece", "wishes", "breaks"] (defScope s_need_bowing) := ⟨rfl, rfl, rfl, by decide +kernel, rfl, by decide +kernel, by decide +kernel⟩
theorem mk_need_bowing (M : Mod K mg) {j : Nat} {b : SF} (hb : ∀ (f : Addr) (cdv : Value) (A : Around) (outer : List Env) (s : Shared) (H : Hp) (E : XK) (G : Hp) (a : Addr), Room j (A.deeper (envOfC "need_bowing" (defScope s_need_bowing) s.heap.objs.size f cdv)) →
      QSs (cxOf (L2.CX P w) P w K mg base N_need_bowing "need_bowing" (defScope s_need_bowing) f cdv A outer s H E) ⟨[], G, H, daF false a, false⟩ (fun cls d _ H => E cls d H) false (defBody s_need_bowing) b) : Cal P w K mg base (L2.CX P w) "need_bowing" false false 3 (fnOf false false 3 3 b) (j + 1) := by
  obtain ⟨f, fd, h, F⟩ := M.f_need_bowing
  exact cal_of F h S_need_bowing (F.binds fun _ _ _ _ _ _ us hl => match us, hl with | [_, _, _], _ => rfl) (by decide) (hb f)
theorem q_need_bowing (M : Mod K mg) {f : Addr} {cdv : Value} {A : Around} {outer : List Env} {s : Shared} {H : Hp} {E : XK} {G : Hp} {a : Addr} (hr : Room 3 (A.deeper (envOfC "need_bowing" (defScope s_need_bowing) s.heap.objs.size f cdv))) :
    QSs (cxOf (L2.CX P w) P w K mg base N_need_bowing "need_bowing" (defScope s_need_bowing) f cdv A outer s H E) ⟨[], G, H, daF false a, false⟩ (fun cls d _ H => E cls d H) false (defBody s_need_bowing) b_need_bowing :=
  have ok := okx_of (P := P) (w := w) (K := K) (mg := mg) (base := base) (outer := outer) (H := H) (E := E) S_need_bowing hr
  (qs_one (qs_if (qt_not (qt_val (qe_call (cal_good_bowing M) ok (by decide) (qa_cons (qe_var 0) (qa_cons (qe_var 1) (qa_cons (qe_var 2) qa_nil))) (al_cons (al_cons (al_cons al_nil)))))) (qs_one (qs_raiseM ok M.x_InvalidBowing)) qs_nil))
theorem cal_need_bowing (M : Mod K mg) : Cal P w K mg base (L2.CX P w) "need_bowing" false false 3 fn_need_bowing 4 := mk_need_bowing M (j := 3) fun f cdv A outer s H E G a hr => q_need_bowing M hr
theorem S_numbers_of : FnScope N_numbers_of ["piece", "breaks"] (defScope s_numbers_of) := ⟨rfl, rfl, rfl, by decide +kernel, rfl, by decide +kernel, by decide +kernel⟩
theorem mk_numbers_of (M : Mod K mg) {j : Nat} {b : SF} (hb : ∀ (f : Addr) (cdv : Value) (A : Around) (outer : List Env) (s : Shared) (H : Hp) (E : XK) (G : Hp) (a : Addr), Room j (A.deeper (envOfC "numbers_of" (defScope s_numbers_of) s.heap.objs.size f cdv)) →
      QSs (cxOf (L2.CX P w) P w K mg base N_numbers_of "numbers_of" (defScope s_numbers_of) f cdv A outer s H E) ⟨[2], G, H, daF false a, false⟩ (fun cls d _ H => E cls d H) true (defBody s_numbers_of) b) : Cal P w K mg base (L2.CX P w) "numbers_of" false true 2 (fnOf false true 6 2 b) (j + 1) := by
  obtain ⟨f, fd, h, F⟩ := M.f_numbers_of
  exact cal_of F h S_numbers_of (F.binds fun _ _ _ _ _ _ us hl => match us, hl with | [_, _], _ => rfl) (by decide) (hb f)
theorem q_numbers_of (M : Mod K mg) {f : Addr} {cdv : Value} {A : Around} {outer : List Env} {s : Shared} {H : Hp} {E : XK} {G : Hp} {a : Addr} (hr : Room 1 (A.deeper (envOfC "numbers_of" (defScope s_numbers_of) s.heap.objs.size f cdv))) :
    QSs (cxOf (L2.CX P w) P w K mg base N_numbers_of "numbers_of" (defScope s_numbers_of) f cdv A outer s H E) ⟨[2], G, H, daF false a, false⟩ (fun cls d _ H => E cls d H) true (defBody s_numbers_of) b_numbers_of :=
  have ok := okx_of (P := P) (w := w) (K := K) (mg := mg) (base := base) (outer := outer) (H := H) (E := E) S_numbers_of hr
  (qs_cons (qs_setF ok.nd 2 (qf_lst qa_nil))
    (qs_cons (qs_for ok.own rfl (qi_enum M.n_enumerate (qa_cons (qe_call (cal_ends_of M) ok (by decide) (qa_cons (qe_var 0) (qa_cons (qe_var 1) qa_nil)) (al_cons (al_cons al_nil))) qa_nil)) (qg_tup rfl (qgs_cons (qg_name ok.nd 3) (qgs_cons (qg_tup rfl (qgs_cons (qg_name ok.nd 4) (qgs_cons (qg_name ok.nd 5) qgs_nil)) (gl_cons (gl_cons gl_nil))) qgs_nil)) (gl_cons (gl_cons gl_nil))) (qs_one (qs_setF ok.nd 2 (qf_borrow rfl (qf_bin op_uAdd (qe_var 2) (qe_of (qf_rep (qf_lst (qa_cons (qe_bin op_uAdd (qe_var 3) qe_int) qa_nil)) (qe_bin op_uSub (qe_var 5) (qe_var 4)))))))))
    (qs_one (qs_retM 2))))
theorem cal_numbers_of (M : Mod K mg) : Cal P w K mg base (L2.CX P w) "numbers_of" false true 2 fn_numbers_of 2 := mk_numbers_of M (j := 1) fun f cdv A outer s H E G a hr => q_numbers_of M hr
theorem S_stroke_numbers : FnScope N_stroke_numbers ["piece", "wishes", "bowing"] (defScope s_stroke_numbers) := ⟨rfl, rfl, rfl, by decide +kernel, rfl, by decide +kernel, by decide +kernel⟩
theorem mk_stroke_numbers (M : Mod K mg) {j : Nat} {b : SF} (hb : ∀ (f : Addr) (cdv : Value) (A : Around) (outer : List Env) (s : Shared) (H : Hp) (E : XK) (G : Hp) (a : Addr), Room j (A.deeper (envOfC "stroke_numbers" (defScope s_stroke_numbers) s.heap.objs.size f cdv)) →
      QSs (cxOf (L2.CX P w) P w K mg base N_stroke_numbers "stroke_numbers" (defScope s_stroke_numbers) f cdv A outer s H E) ⟨[], G, H, daF false a, false⟩ (fun cls d _ H => E cls d H) true (defBody s_stroke_numbers) b) : Cal P w K mg base (L2.CX P w) "stroke_numbers" false true 3 (fnOf false true 3 3 b) (j + 1) := by
  obtain ⟨f, fd, h, F⟩ := M.f_stroke_numbers
  exact cal_of F h S_stroke_numbers (F.binds fun _ _ _ _ _ _ us hl => match us, hl with | [_, _, _], _ => rfl) (by decide) (hb f)
theorem q_stroke_numbers (M : Mod K mg) {f : Addr} {cdv : Value} {A : Around} {outer : List Env} {s : Shared} {H : Hp} {E : XK} {G : Hp} {a : Addr} (hr : Room 4 (A.deeper (envOfC "stroke_numbers" (defScope s_stroke_numbers) s.heap.objs.size f cdv))) :
    QSs (cxOf (L2.CX P w) P w K mg base N_stroke_numbers "stroke_numbers" (defScope s_stroke_numbers) f cdv A outer s H E) ⟨[], G, H, daF false a, false⟩ (fun cls d _ H => E cls d H) true (defBody s_stroke_numbers) b_stroke_numbers :=
  have ok := okx_of (P := P) (w := w) (K := K) (mg := mg) (base := base) (outer := outer) (H := H) (E := E) S_stroke_numbers hr
  (qs_cons (qs_expr (qe_call (cal_need_wishes M) ok (by decide) (qa_cons (qe_var 0) (qa_cons (qe_var 1) qa_nil)) (al_cons (al_cons al_nil))))
    (qs_cons (qs_expr (qe_call (cal_need_bowing M) ok (by decide) (qa_cons (qe_var 0) (qa_cons (qe_var 1) (qa_cons (qe_var 2) qa_nil))) (al_cons (al_cons (al_cons al_nil)))))
    (qs_one (qs_retF (qf_call (cal_numbers_of M) ok (by decide) (qa_cons (qe_var 0) (qa_cons (qe_var 2) qa_nil)) (al_cons (al_cons al_nil)))))))
theorem cal_stroke_numbers (M : Mod K mg) : Cal P w K mg base (L2.CX P w) "stroke_numbers" false true 3 fn_stroke_numbers 5 := mk_stroke_numbers M (j := 4) fun f cdv A outer s H E G a hr => q_stroke_numbers M hr
theorem S_directions : FnScope N_directions ["piece", "wishes", "bowing"] (defScope s_directions) := ⟨rfl, rfl, rfl, by decide +kernel, rfl, by decide +kernel, by decide +kernel⟩
theorem mk_directions (M : Mod K mg) {j : Nat} {b : SF} (hb : ∀ (f : Addr) (cdv : Value) (A : Around) (outer : List Env) (s : Shared) (H : Hp) (E : XK) (G : Hp) (a : Addr), Room j (A.deeper (envOfC "directions" (defScope s_directions) s.heap.objs.size f cdv)) →
      QSs (cxOf (L2.CX P w) P w K mg base N_directions "directions" (defScope s_directions) f cdv A outer s H E) ⟨[], G, H, daF false a, false⟩ (fun cls d _ H => E cls d H) false (defBody s_directions) b) : Cal P w K mg base (L2.CX P w) "directions" false false 3 (fnOf false false 4 3 b) (j + 1) := by
  obtain ⟨f, fd, h, F⟩ := M.f_directions
  exact cal_of F h S_directions (F.binds fun _ _ _ _ _ _ us hl => match us, hl with | [_, _, _], _ => rfl) (by decide) (hb f)
theorem q_directions (M : Mod K mg) {f : Addr} {cdv : Value} {A : Around} {outer : List Env} {s : Shared} {H : Hp} {E : XK} {G : Hp} {a : Addr} (hr : Room 4 (A.deeper (envOfC "directions" (defScope s_directions) s.heap.objs.size f cdv))) :
    QSs (cxOf (L2.CX P w) P w K mg base N_directions "directions" (defScope s_directions) f cdv A outer s H E) ⟨[], G, H, daF false a, false⟩ (fun cls d _ H => E cls d H) false (defBody s_directions) b_directions :=
  have ok := okx_of (P := P) (w := w) (K := K) (mg := mg) (base := base) (outer := outer) (H := H) (E := E) S_directions hr
  (qs_cons (qs_expr (qe_call (cal_need_wishes M) ok (by decide) (qa_cons (qe_var 0) (qa_cons (qe_var 1) qa_nil)) (al_cons (al_cons al_nil))))
    (qs_cons (qs_expr (qe_call (cal_need_bowing M) ok (by decide) (qa_cons (qe_var 0) (qa_cons (qe_var 1) (qa_cons (qe_var 2) qa_nil))) (al_cons (al_cons (al_cons al_nil)))))
    (qs_one (qs_ret [] (qe_of (qf_lc (own := [("number", 3)]) (sl := [3]) (fi := (iSeq (eCall fn_numbers_of (aCons (eV 0) (aCons (eV 2) aNil))))) (gt := (gN 3)) (ft := tTrue) (fe := (eCall fn_direction_of (aCons (eV 1) (aCons (eV 3) aNil)))) rfl ok.nd (qi_seq (qe_call (cal_numbers_of M) ok (by decide) (qa_cons (qe_var 0) (qa_cons (qe_var 2) qa_nil)) (al_cons (al_cons al_nil)))) (by rfl) (fun _ _ _ _ _ => (qg_name ok.blk.nd 3)) (fun _ _ _ _ _ => qts_nil) (fun _ _ _ _ _ => (qe_call (cal_direction_of M) ok.blk (by decide) (qa_cons (qe_var 1) (qa_cons (qe_var 3) qa_nil)) (al_cons (al_cons al_nil))))))))))
theorem cal_directions (M : Mod K mg) : Cal P w K mg base (L2.CX P w) "directions" false false 3 fn_directions 5 := mk_directions M (j := 4) fun f cdv A outer s H E G a hr => q_directions M hr
theorem S__law_deck : FnScope N__law_deck ["cell", "turn"] (defScope s__law_deck) := ⟨rfl, rfl, rfl, by decide +kernel, rfl, by decide +kernel, by decide +kernel⟩
theorem mk__law_deck (M : Mod K mg) {j : Nat} {b : SF} (hb : ∀ (f : Addr) (cdv : Value) (A : Around) (outer : List Env) (s : Shared) (H : Hp) (E : XK) (G : Hp) (a : Addr), Room j (A.deeper (envOfC "_law_deck" (defScope s__law_deck) s.heap.objs.size f cdv)) →
      QSs (cxOf (L2.CX P w) P w K mg base N__law_deck "_law_deck" (defScope s__law_deck) f cdv A outer s H E) ⟨[], G, H, daF false a, false⟩ (fun cls d _ H => E cls d H) true (defBody s__law_deck) b) : Cal P w K mg base (L2.CX P w) "_law_deck" false true 2 (fnOf false true 2 2 b) (j + 1) := by
  obtain ⟨f, fd, h, F⟩ := M.f__law_deck
  exact cal_of F h S__law_deck (F.binds fun _ _ _ _ _ _ us hl => match us, hl with | [_, _], _ => rfl) (by decide) (hb f)
theorem q__law_deck (M : Mod K mg) {f : Addr} {cdv : Value} {A : Around} {outer : List Env} {s : Shared} {H : Hp} {E : XK} {G : Hp} {a : Addr} (hr : Room 0 (A.deeper (envOfC "_law_deck" (defScope s__law_deck) s.heap.objs.size f cdv))) :
    QSs (cxOf (L2.CX P w) P w K mg base N__law_deck "_law_deck" (defScope s__law_deck) f cdv A outer s H E) ⟨[], G, H, daF false a, false⟩ (fun cls d _ H => E cls d H) true (defBody s__law_deck) b__law_deck :=
  have ok := okx_of (P := P) (w := w) (K := K) (mg := mg) (base := base) (outer := outer) (H := H) (E := E) S__law_deck hr
  (qs_cons (qs_if (qt_cmp op_uGeI (qe_var 0) (qe_bin op_uPow qe_int qe_int)) (qs_one (qs_retF (qf_lst (qa_cons (qe_bin op_uSub (qe_var 0) (qe_bin op_uPow qe_int qe_int)) (qa_cons (qe_bin op_uMod (qe_var 0) qe_int) (qa_cons (qe_var 1) qa_nil)))))) qs_nil)
    (qs_one (qs_retF (qf_lst (qa_cons qe_int (qa_cons (qe_bin op_uMod (qe_var 0) qe_int) (qa_cons (qe_var 1) qa_nil)))))))
theorem cal__law_deck (M : Mod K mg) : Cal P w K mg base (L2.CX P w) "_law_deck" false true 2 fn__law_deck 1 := mk__law_deck M (j := 0) fun f cdv A outer s H E G a hr => q__law_deck M hr
theorem S__law_pick : FnScope N__law_pick ["deck", "limit"] (defScope s__law_pick) := ⟨rfl, rfl, rfl, by decide +kernel, rfl, by decide +kernel, by decide +kernel⟩
theorem mk__law_pick (M : Mod K mg) {j : Nat} {b : SF} (hb : ∀ (f : Addr) (cdv : Value) (A : Around) (outer : List Env) (s : Shared) (H : Hp) (E : XK) (G : Hp) (a : Addr), Room j (A.deeper (envOfC "_law_pick" (defScope s__law_pick) s.heap.objs.size f cdv)) →
      QSs (cxOf (L2.CX P w) P w K mg base N__law_pick "_law_pick" (defScope s__law_pick) f cdv A outer s H E) ⟨[0], G, H, daF true a, false⟩ (fun cls d _ H => E cls d H) false (defBody s__law_pick) b) : Cal P w K mg base (L2.CX P w) "_law_pick" true false 2 (fnOf true false 4 2 b) (j + 1) := by
  obtain ⟨f, fd, h, F⟩ := M.f__law_pick
  exact cal_of F h S__law_pick (F.binds fun _ _ _ _ _ _ us hl => match us, hl with | [_, _], _ => rfl) (by decide) (hb f)
theorem q__law_pick (M : Mod K mg) {f : Addr} {cdv : Value} {A : Around} {outer : List Env} {s : Shared} {H : Hp} {E : XK} {G : Hp} {a : Addr} (hr : Room 0 (A.deeper (envOfC "_law_pick" (defScope s__law_pick) s.heap.objs.size f cdv))) :
    QSs (cxOf (L2.CX P w) P w K mg base N__law_pick "_law_pick" (defScope s__law_pick) f cdv A outer s H E) ⟨[0], G, H, daF true a, false⟩ (fun cls d _ H => E cls d H) false (defBody s__law_pick) b__law_pick :=
  have ok := okx_of (P := P) (w := w) (K := K) (mg := mg) (base := base) (outer := outer) (H := H) (E := E) S__law_pick hr
  (qs_cons (qs_if (qt_cmp op_uGtI (qe_ixM 0 qe_int) qe_int) (qs_cons (qs_set ok.nd 2 (qe_bin op_uMod (qe_ixM 0 qe_int) (qe_var 1)))
    (qs_cons (qs_put 0 (qe_bin op_uFdiv (qe_ixM 0 qe_int) (qe_var 1)) qe_int)
    (qs_one (qs_ret [0] (qe_var 2))))) qs_nil)
    (qs_cons (qs_put 0 (qe_bin op_uAdd (qe_ixM 0 qe_int) qe_int) qe_int)
    (qs_cons (qs_set ok.nd 3 (qe_bin op_uMod (qe_bin op_uPow (qe_bin op_uAdd (qe_ixM 0 qe_int) (qe_bin op_uMul qe_int (qe_ixM 0 qe_int))) qe_int) qe_int))
    (qs_cons (qs_set ok.nd 2 (qe_bin op_uFdiv (qe_bin op_uMod (qe_bin op_uPow (qe_bin op_uAdd (qe_var 3) (qe_bin op_uMul qe_int (qe_ixM 0 qe_int))) qe_int) qe_int) qe_int))
    (qs_cons (qs_if (qt_cmp op_uGtI (qe_var 1) qe_int) (qs_one (qs_ret [0] (qe_bin op_uMod (qe_bin op_uAdd (qe_bin op_uMul (qe_var 2) qe_int) (qe_var 3)) (qe_var 1)))) qs_nil)
    (qs_one (qs_ret [0] (qe_bin op_uMod (qe_var 2) (qe_var 1)))))))))
theorem cal__law_pick (M : Mod K mg) : Cal P w K mg base (L2.CX P w) "_law_pick" true false 2 fn__law_pick 1 := mk__law_pick M (j := 0) fun f cdv A outer s H E G a hr => q__law_pick M hr
theorem S__law_sets : FnScope N__law_sets ["count"] (defScope s__law_sets) := ⟨rfl, rfl, rfl, by decide +kernel, rfl, by decide +kernel, by decide +kernel⟩
theorem mk__law_sets (M : Mod K mg) {j : Nat} {b : SF} (hb : ∀ (f : Addr) (cdv : Value) (A : Around) (outer : List Env) (s : Shared) (H : Hp) (E : XK) (G : Hp) (a : Addr), Room j (A.deeper (envOfC "_law_sets" (defScope s__law_sets) s.heap.objs.size f cdv)) →
      QSs (cxOf (L2.CX P w) P w K mg base N__law_sets "_law_sets" (defScope s__law_sets) f cdv A outer s H E) ⟨[], G, H, daF false a, false⟩ (fun cls d _ H => E cls d H) false (defBody s__law_sets) b) : Cal P w K mg base (L2.CX P w) "_law_sets" false false 1 (fnOf false false 4 1 b) (j + 1) := by
  obtain ⟨f, fd, h, F⟩ := M.f__law_sets
  exact cal_of F h S__law_sets (F.binds fun _ _ _ _ _ _ us hl => match us, hl with | [_], _ => rfl) (by decide) (hb f)
theorem q__law_sets (M : Mod K mg) {f : Addr} {cdv : Value} {A : Around} {outer : List Env} {s : Shared} {H : Hp} {E : XK} {G : Hp} {a : Addr} (hr : Room 0 (A.deeper (envOfC "_law_sets" (defScope s__law_sets) s.heap.objs.size f cdv))) :
    QSs (cxOf (L2.CX P w) P w K mg base N__law_sets "_law_sets" (defScope s__law_sets) f cdv A outer s H E) ⟨[], G, H, daF false a, false⟩ (fun cls d _ H => E cls d H) false (defBody s__law_sets) b__law_sets :=
  have ok := okx_of (P := P) (w := w) (K := K) (mg := mg) (base := base) (outer := outer) (H := H) (E := E) S__law_sets hr
  (qs_cons (qs_set ok.nd 1 (qe_of (qf_lst (qa_cons (qe_tup qa_nil) qa_nil))))
    (qs_cons (qs_for ok.own rfl (qi_range2 M.n_range (qa_cons qe_int (qa_cons (qe_var 0) qa_nil))) (qg_name ok.nd 2) (qs_one (qs_set ok.nd 1 (qe_bin op_uAdd (qe_var 1) (qe_of (qf_lc (own := [("row", 3)]) (sl := [3]) (fi := (iSeq (eV 1))) (gt := (gN 3)) (ft := tTrue) (fe := (e2 uAdd (eV 3) (eTup (aCons (eV 2) aNil)))) rfl ok.nd (qi_seq (qe_var 1)) (by rfl) (fun _ _ _ _ _ => (qg_name ok.blk.nd 3)) (fun _ _ _ _ _ => qts_nil) (fun _ _ _ _ _ => (qe_bin op_uAdd (qe_var 3) (qe_tup (qa_cons (qe_var 2) qa_nil))))))))))
    (qs_one (qs_ret [] (qe_BN (c_sortedI ok.room) M.n_sorted bo_sorted (qa_cons (qe_var 1) qa_nil))))))
theorem cal__law_sets (M : Mod K mg) : Cal P w K mg base (L2.CX P w) "_law_sets" false false 1 fn__law_sets 1 := mk__law_sets M (j := 0) fun f cdv A outer s H E G a hr => q__law_sets M hr
theorem S__law_one : FnScope N__law_one ["deck", "some"] (defScope s__law_one) := ⟨rfl, rfl, rfl, by decide +kernel, rfl, by decide +kernel, by decide +kernel⟩
theorem mk__law_one (M : Mod K mg) {j : Nat} {b : SF} (hb : ∀ (f : Addr) (cdv : Value) (A : Around) (outer : List Env) (s : Shared) (H : Hp) (E : XK) (G : Hp) (a : Addr), Room j (A.deeper (envOfC "_law_one" (defScope s__law_one) s.heap.objs.size f cdv)) →
      QSs (cxOf (L2.CX P w) P w K mg base N__law_one "_law_one" (defScope s__law_one) f cdv A outer s H E) ⟨[0], G, H, daF true a, false⟩ (fun cls d _ H => E cls d H) false (defBody s__law_one) b) : Cal P w K mg base (L2.CX P w) "_law_one" true false 2 (fnOf true false 2 2 b) (j + 1) := by
  obtain ⟨f, fd, h, F⟩ := M.f__law_one
  exact cal_of F h S__law_one (F.binds fun _ _ _ _ _ _ us hl => match us, hl with | [_, _], _ => rfl) (by decide) (hb f)
theorem q__law_one (M : Mod K mg) {f : Addr} {cdv : Value} {A : Around} {outer : List Env} {s : Shared} {H : Hp} {E : XK} {G : Hp} {a : Addr} (hr : Room 1 (A.deeper (envOfC "_law_one" (defScope s__law_one) s.heap.objs.size f cdv))) :
    QSs (cxOf (L2.CX P w) P w K mg base N__law_one "_law_one" (defScope s__law_one) f cdv A outer s H E) ⟨[0], G, H, daF true a, false⟩ (fun cls d _ H => E cls d H) false (defBody s__law_one) b__law_one :=
  have ok := okx_of (P := P) (w := w) (K := K) (mg := mg) (base := base) (outer := outer) (H := H) (E := E) S__law_one hr
  (qs_one (qs_ret [0] (qe_ix (qe_var 1) (qe_callD 0 (cal__law_pick M) ok (by decide) (qa_cons (qe_B c_len M.n_len bo_len (qa_cons (qe_var 1) qa_nil)) qa_nil) (al_cons al_nil)))))
theorem cal__law_one (M : Mod K mg) : Cal P w K mg base (L2.CX P w) "_law_one" true false 2 fn__law_one 2 := mk__law_one M (j := 1) fun f cdv A outer s H E G a hr => q__law_one M hr
theorem S__law_piece : FnScope N__law_piece ["deck", "few", "many"] (defScope s__law_piece) := ⟨rfl, rfl, rfl, by decide +kernel, rfl, by decide +kernel, by decide +kernel⟩
theorem mk__law_piece (M : Mod K mg) {j : Nat} {b : SF} (hb : ∀ (f : Addr) (cdv : Value) (A : Around) (outer : List Env) (s : Shared) (H : Hp) (E : XK) (G : Hp) (a : Addr), Room j (A.deeper (envOfC "_law_piece" (defScope s__law_piece) s.heap.objs.size f cdv)) →
      QSs (cxOf (L2.CX P w) P w K mg base N__law_piece "_law_piece" (defScope s__law_piece) f cdv A outer s H E) ⟨[0, 6, 7], G, H, daF true a, false⟩ (fun cls d _ H => E cls d H) false (defBody s__law_piece) b) : Cal P w K mg base (L2.CX P w) "_law_piece" true false 3 (fnOf true false 13 3 b) (j + 1) := by
  obtain ⟨f, fd, h, F⟩ := M.f__law_piece
  exact cal_of F h S__law_piece (F.binds fun _ _ _ _ _ _ us hl => match us, hl with | [_, _, _], _ => rfl) (by decide) (hb f)
theorem q__law_piece (M : Mod K mg) {f : Addr} {cdv : Value} {A : Around} {outer : List Env} {s : Shared} {H : Hp} {E : XK} {G : Hp} {a : Addr} (hr : Room 2 (A.deeper (envOfC "_law_piece" (defScope s__law_piece) s.heap.objs.size f cdv))) :
    QSs (cxOf (L2.CX P w) P w K mg base N__law_piece "_law_piece" (defScope s__law_piece) f cdv A outer s H E) ⟨[0, 6, 7], G, H, daF true a, false⟩ (fun cls d _ H => E cls d H) false (defBody s__law_piece) b__law_piece :=
  have ok := okx_of (P := P) (w := w) (K := K) (mg := mg) (base := base) (outer := outer) (H := H) (E := E) S__law_piece hr
  (qs_cons (qs_set ok.nd 3 (qe_callD 0 (cal__law_one M) ok (by decide) (qa_cons (qe_of (qf_lst (qa_cons qe_int (qa_cons qe_int (qa_cons qe_int qa_nil))))) qa_nil) (al_cons al_nil)))
    (qs_cons (qs_set ok.nd 4 (qe_Ty c_tuple M.n_tuple bo_tuple (qa_cons (qe_of (qf_lc (own := [("note", 12)]) (sl := [12]) (fi := (iRange1 (aCons (e2 uAdd (eV 1) (eCallD 0 fn__law_pick (aCons (e2 uAdd (e2 uSub (eV 2) (eV 1)) (eC (.int 1))) aNil))) aNil))) (gt := (gN 12)) (ft := tTrue) (fe := (e2 uAdd (eC (.int 1)) (eCallD 0 fn__law_pick (aCons (eV 3) aNil)))) rfl ok.nd (qi_range1 M.n_range (qa_cons (qe_bin op_uAdd (qe_var 1) (qe_callD 0 (cal__law_pick M) ok (by decide) (qa_cons (qe_bin op_uAdd (qe_bin op_uSub (qe_var 2) (qe_var 1)) qe_int) qa_nil) (al_cons al_nil))) qa_nil)) (by rfl) (fun _ _ _ _ _ => (qg_name ok.blk.nd 12)) (fun _ _ _ _ _ => qts_nil) (fun _ _ _ _ _ => (qe_bin op_uAdd qe_int (qe_callD 0 (cal__law_pick M) ok.blk (by decide) (qa_cons (qe_var 3) qa_nil) (al_cons al_nil)))))) qa_nil)))
    (qs_cons (qs_set ok.nd 5 (qe_B (c_min2 rfl) M.n_min bo_min (qa_cons qe_int (qa_cons (qe_bin op_uAdd (qe_B (c_max rfl ok.room) M.n_max bo_max (qa_cons (qe_var 4) qa_nil)) (qe_callD 0 (cal__law_pick M) ok (by decide) (qa_cons (qe_callD 0 (cal__law_one M) ok (by decide) (qa_cons (qe_of (qf_lst (qa_cons qe_int (qa_cons (qe_bin op_uMul qe_int (qe_var 3)) (qa_cons (qe_B (c_sum rfl) M.n_sum bo_sum (qa_cons (qe_var 4) qa_nil)) qa_nil))))) qa_nil) (al_cons al_nil)) qa_nil) (al_cons al_nil))) qa_nil))))
    (qs_cons (qs_par3 6 7 8 rfl ok.nd (qk_f (qf_lst qa_nil) (qk_f (qf_lst qa_nil) (qk_s (qe_ix (qe_var 4) qe_int) qk_nil))))
    (qs_cons (qs_for ok.own rfl (qi_range2 M.n_range (qa_cons qe_int (qa_cons (qe_B c_len M.n_len bo_len (qa_cons (qe_var 4) qa_nil)) qa_nil))) (qg_name ok.nd 9) (qs_cons (qs_set ok.nd 10 (qe_callD 0 (cal__law_pick M) ok (by decide) (qa_cons qe_int qa_nil) (al_cons al_nil)))
    (qs_cons (qs_set ok.nd 11 (qe_bin op_uAdd (qe_var 8) (qe_ix (qe_var 4) (qe_var 9))))
    (qs_cons (qs_set ok.nd 8 (qe_if (qt_of (qw_and (qt_cmp (op_uEq ok.room) (qe_var 10) qe_int) (qw_and1 (qt_cmp op_uLeI (qe_var 11) (qe_var 5))))) (qe_var 11) (qe_ix (qe_var 4) (qe_var 9))))
    (qs_one (qs_if (qt_cmp op_uGtI (qe_var 8) (qe_ix (qe_var 4) (qe_var 9))) (qs_one (qs_append 6 (qe_var 9))) (qs_one (qs_if (qt_cmp (op_uEq ok.room) (qe_var 10) qe_int) (qs_one (qs_append 7 (qe_var 9))) qs_nil))))))))
    (qs_one (qs_ret [0] (qe_tup (qa_cons (qe_var 4) (qa_cons (qe_var 5) (qa_cons (qe_Ty c_tuple M.n_tuple bo_tuple (qa_cons (qe_var 6) qa_nil)) (qa_cons (qe_Ty c_tuple M.n_tuple bo_tuple (qa_cons (qe_var 7) qa_nil)) qa_nil))))))))))))
theorem cal__law_piece (M : Mod K mg) : Cal P w K mg base (L2.CX P w) "_law_piece" true false 3 fn__law_piece 3 := mk__law_piece M (j := 2) fun f cdv A outer s H E G a hr => q__law_piece M hr
theorem S__law_numbers : FnScope N__law_numbers ["count", "gaps"] (defScope s__law_numbers) := ⟨rfl, rfl, rfl, by decide +kernel, rfl, by decide +kernel, by decide +kernel⟩
theorem mk__law_numbers (M : Mod K mg) {j : Nat} {b : SF} (hb : ∀ (f : Addr) (cdv : Value) (A : Around) (outer : List Env) (s : Shared) (H : Hp) (E : XK) (G : Hp) (a : Addr), Room j (A.deeper (envOfC "_law_numbers" (defScope s__law_numbers) s.heap.objs.size f cdv)) →
      QSs (cxOf (L2.CX P w) P w K mg base N__law_numbers "_law_numbers" (defScope s__law_numbers) f cdv A outer s H E) ⟨[2], G, H, daF false a, false⟩ (fun cls d _ H => E cls d H) false (defBody s__law_numbers) b) : Cal P w K mg base (L2.CX P w) "_law_numbers" false false 2 (fnOf false false 5 2 b) (j + 1) := by
  obtain ⟨f, fd, h, F⟩ := M.f__law_numbers
  exact cal_of F h S__law_numbers (F.binds fun _ _ _ _ _ _ us hl => match us, hl with | [_, _], _ => rfl) (by decide) (hb f)
theorem q__law_numbers (M : Mod K mg) {f : Addr} {cdv : Value} {A : Around} {outer : List Env} {s : Shared} {H : Hp} {E : XK} {G : Hp} {a : Addr} (hr : Room 0 (A.deeper (envOfC "_law_numbers" (defScope s__law_numbers) s.heap.objs.size f cdv))) :
    QSs (cxOf (L2.CX P w) P w K mg base N__law_numbers "_law_numbers" (defScope s__law_numbers) f cdv A outer s H E) ⟨[2], G, H, daF false a, false⟩ (fun cls d _ H => E cls d H) false (defBody s__law_numbers) b__law_numbers :=
  have ok := okx_of (P := P) (w := w) (K := K) (mg := mg) (base := base) (outer := outer) (H := H) (E := E) S__law_numbers hr
  (qs_cons (qs_par2 2 3 rfl ok.nd (qk_f (qf_lst qa_nil) (qk_s qe_int qk_nil)))
    (qs_cons (qs_for ok.own rfl (qi_range1 M.n_range (qa_cons (qe_var 0) qa_nil)) (qg_name ok.nd 4) (qs_cons (qs_set ok.nd 3 (qe_bin op_uAdd (qe_var 3) (qe_Ty c_int M.n_int bo_int (qa_cons (qe_cmp (op_uIn ok.room) (qe_var 4) (qe_var 1)) qa_nil))))
    (qs_one (qs_append 2 (qe_var 3)))))
    (qs_one (qs_ret [] (qe_var 2)))))
theorem cal__law_numbers (M : Mod K mg) : Cal P w K mg base (L2.CX P w) "_law_numbers" false false 2 fn__law_numbers 1 := mk__law_numbers M (j := 0) fun f cdv A outer s H E G a hr => q__law_numbers M hr
theorem S__law_random : FnScope N__law_random ["deck", "piece"] (defScope s__law_random) := ⟨rfl, rfl, rfl, by decide +kernel, rfl, by decide +kernel, by decide +kernel⟩
theorem mk__law_random (M : Mod K mg) {j : Nat} {b : SF} (hb : ∀ (f : Addr) (cdv : Value) (A : Around) (outer : List Env) (s : Shared) (H : Hp) (E : XK) (G : Hp) (a : Addr), Room j (A.deeper (envOfC "_law_random" (defScope s__law_random) s.heap.objs.size f cdv)) →
      QSs (cxOf (L2.CX P w) P w K mg base N__law_random "_law_random" (defScope s__law_random) f cdv A outer s H E) ⟨[0, 7], G, H, daF true a, false⟩ (fun cls d _ H => E cls d H) false (defBody s__law_random) b) : Cal P w K mg base (L2.CX P w) "_law_random" true false 2 (fnOf true false 14 2 b) (j + 1) := by
  obtain ⟨f, fd, h, F⟩ := M.f__law_random
  exact cal_of F h S__law_random (F.binds fun _ _ _ _ _ _ us hl => match us, hl with | [_, _], _ => rfl) (by decide) (hb f)
theorem q__law_random (M : Mod K mg) {f : Addr} {cdv : Value} {A : Around} {outer : List Env} {s : Shared} {H : Hp} {E : XK} {G : Hp} {a : Addr} (hr : Room 1 (A.deeper (envOfC "_law_random" (defScope s__law_random) s.heap.objs.size f cdv))) :
    QSs (cxOf (L2.CX P w) P w K mg base N__law_random "_law_random" (defScope s__law_random) f cdv A outer s H E) ⟨[0, 7], G, H, daF true a, false⟩ (fun cls d _ H => E cls d H) false (defBody s__law_random) b__law_random :=
  have ok := okx_of (P := P) (w := w) (K := K) (mg := mg) (base := base) (outer := outer) (H := H) (E := E) S__law_random hr
  (qs_cons (qs_asg (qe_var 1) (qg_tup rfl (qgs_cons (qg_name ok.nd 2) (qgs_cons (qg_name ok.nd 3) (qgs_cons (qg_name ok.nd 4) (qgs_cons (qg_name ok.nd 5) qgs_nil)))) (gl_cons (gl_cons (gl_cons (gl_cons gl_nil))))))
    (qs_cons (qs_set ok.nd 6 (qe_bin op_uAdd (qe_bin op_uAdd (qe_of (qf_lst (qa_cons qe_int qa_nil))) (qe_of (qf_lc (own := [("gap", 13)]) (sl := [13]) (fi := (iRange2 (aCons (eC (.int 1)) (aCons (eB bLen (aCons (eV 2) aNil)) aNil)))) (gt := (gN 13)) (ft := (tB (e2 uNotIn (eV 13) (eV 4)))) (fe := (eV 13)) rfl ok.nd (qi_range2 M.n_range (qa_cons qe_int (qa_cons (qe_B c_len M.n_len bo_len (qa_cons (qe_var 2) qa_nil)) qa_nil))) (by rfl) (fun _ _ _ _ _ => (qg_name ok.blk.nd 13)) (fun _ _ _ _ _ => (qts_one (qt_cmp (op_uNotIn ok.blk.room) (qe_var 13) (qe_var 4)))) (fun _ _ _ _ _ => (qe_var 13))))) (qe_of (qf_lst (qa_cons (qe_B c_len M.n_len bo_len (qa_cons (qe_var 2) qa_nil)) qa_nil)))))
    (qs_cons (qs_par2 7 8 rfl ok.nd (qk_f (qf_lst qa_nil) (qk_s qe_int qk_nil)))
    (qs_cons (qs_for ok.own rfl (qi_zip2 M.n_zip (qa_cons (qe_var 6) (qa_cons (qe_sl (qe_var 6) (qo_some qe_int) qo_no) qa_nil))) (qg_tup rfl (qgs_cons (qg_name ok.nd 9) (qgs_cons (qg_name ok.nd 10) qgs_nil)) (gl_cons (gl_cons gl_nil))) (qs_cons (qs_set ok.nd 11 (qe_B (c_sum rfl) M.n_sum bo_sum (qa_cons (qe_sl (qe_var 2) (qo_some (qe_var 9)) (qo_some (qe_var 10))) qa_nil)))
    (qs_cons (qs_set ok.nd 12 (qe_or (qe_cmp (op_uIn ok.room) (qe_var 9) (qe_var 5)) (qe_one (qe_cmp op_uGtI (qe_bin op_uAdd (qe_var 8) (qe_var 11)) (qe_var 3)))))
    (qs_cons (qs_if (qt_of (qw_and (qt_cmp op_uGtI (qe_var 9) qe_int) (qw_and1 (qt_of (qw_or (qt_val (qe_var 12)) (qw_or1 (qt_cmp (op_uEq ok.room) (qe_callD 0 (cal__law_pick M) ok (by decide) (qa_cons qe_int qa_nil) (al_cons al_nil)) qe_int))))))) (qs_cons (qs_append 7 (qe_var 9))
    (qs_one (qs_set ok.nd 8 qe_int))) qs_nil)
    (qs_one (qs_set ok.nd 8 (qe_bin op_uAdd (qe_var 8) (qe_var 11))))))))
    (qs_one (qs_ret [0] (qe_Ty c_tuple M.n_tuple bo_tuple (qa_cons (qe_var 7) qa_nil))))))))
theorem cal__law_random (M : Mod K mg) : Cal P w K mg base (L2.CX P w) "_law_random" true false 2 fn__law_random 2 := mk__law_random M (j := 1) fun f cdv A outer s H E G a hr => q__law_random M hr
theorem S__law_wishes : FnScope N__law_wishes ["deck", "piece"] (defScope s__law_wishes) := ⟨rfl, rfl, rfl, by decide +kernel, rfl, by decide +kernel, by decide +kernel⟩
theorem mk__law_wishes (M : Mod K mg) {j : Nat} {b : SF} (hb : ∀ (f : Addr) (cdv : Value) (A : Around) (outer : List Env) (s : Shared) (H : Hp) (E : XK) (G : Hp) (a : Addr), Room j (A.deeper (envOfC "_law_wishes" (defScope s__law_wishes) s.heap.objs.size f cdv)) →
      QSs (cxOf (L2.CX P w) P w K mg base N__law_wishes "_law_wishes" (defScope s__law_wishes) f cdv A outer s H E) ⟨[0, 3], G, H, daF true a, false⟩ (fun cls d _ H => E cls d H) false (defBody s__law_wishes) b) : Cal P w K mg base (L2.CX P w) "_law_wishes" true false 2 (fnOf true false 10 2 b) (j + 1) := by
  obtain ⟨f, fd, h, F⟩ := M.f__law_wishes
  exact cal_of F h S__law_wishes (F.binds fun _ _ _ _ _ _ us hl => match us, hl with | [_, _], _ => rfl) (by decide) (hb f)
theorem q__law_wishes (M : Mod K mg) {f : Addr} {cdv : Value} {A : Around} {outer : List Env} {s : Shared} {H : Hp} {E : XK} {G : Hp} {a : Addr} (hr : Room 2 (A.deeper (envOfC "_law_wishes" (defScope s__law_wishes) s.heap.objs.size f cdv))) :
    QSs (cxOf (L2.CX P w) P w K mg base N__law_wishes "_law_wishes" (defScope s__law_wishes) f cdv A outer s H E) ⟨[0, 3], G, H, daF true a, false⟩ (fun cls d _ H => E cls d H) false (defBody s__law_wishes) b__law_wishes :=
  have ok := okx_of (P := P) (w := w) (K := K) (mg := mg) (base := base) (outer := outer) (H := H) (E := E) S__law_wishes hr
  (qs_cons (qs_par2 2 3 rfl ok.nd (qk_s (qe_B c_len M.n_len bo_len (qa_cons (qe_ix (qe_var 1) qe_int) qa_nil)) (qk_f (qf_lst qa_nil) qk_nil)))
    (qs_cons (qs_par2 4 5 rfl ok.nd (qk_s (qe_callD 0 (cal__law_one M) ok (by decide) (qa_cons (qe_of (qf_lst (qa_cons qe_int (qa_cons qe_int (qa_cons qe_int qa_nil))))) qa_nil) (al_cons al_nil)) (qk_s (qe_callD 0 (cal__law_random M) ok (by decide) (qa_cons (qe_var 1) qa_nil) (al_cons al_nil)) qk_nil)))
    (qs_cons (qs_set ok.nd 6 (qe_cmp op_uGtI (qe_callD 0 (cal__law_pick M) ok (by decide) (qa_cons qe_int qa_nil) (al_cons al_nil)) qe_int))
    (qs_cons (qs_for ok.own rfl (qi_enum M.n_enumerate (qa_cons (qe_call (cal__law_numbers M) ok (by decide) (qa_cons (qe_var 2) (qa_cons (qe_var 5) qa_nil)) (al_cons (al_cons al_nil))) qa_nil)) (qg_tup rfl (qgs_cons (qg_name ok.nd 7) (qgs_cons (qg_name ok.nd 8) qgs_nil)) (gl_cons (gl_cons gl_nil))) (qs_one (qs_if (qt_cmp (op_uEq ok.room) (qe_callD 0 (cal__law_pick M) ok (by decide) (qa_cons (qe_var 4) qa_nil) (al_cons al_nil)) qe_int) (qs_cons (qs_set ok.nd 9 (qe_ix (qe_of (qf_lst (qa_cons (qe_str [117, 112]) (qa_cons (qe_str [100, 111, 119, 110]) qa_nil)))) (qe_bin op_uMod (qe_var 8) qe_int)))
    (qs_one (qs_append 3 (qe_tup (qa_cons (qe_var 7) (qa_cons (qe_if (qt_val (qe_var 6)) (qe_var 9) (qe_callD 0 (cal__law_one M) ok (by decide) (qa_cons (qe_of (qf_lst (qa_cons (qe_str [117, 112]) (qa_cons (qe_str [100, 111, 119, 110]) qa_nil)))) qa_nil) (al_cons al_nil))) qa_nil)))))) qs_nil)))
    (qs_one (qs_ret [0] (qe_Ty c_tuple M.n_tuple bo_tuple (qa_cons (qe_var 3) qa_nil))))))))
theorem cal__law_wishes (M : Mod K mg) : Cal P w K mg base (L2.CX P w) "_law_wishes" true false 2 fn__law_wishes 3 := mk__law_wishes M (j := 2) fun f cdv A outer s H E G a hr => q__law_wishes M hr
theorem S__law_sort : FnScope N__law_sort ["thing"] (defScope s__law_sort) := ⟨rfl, rfl, rfl, by decide +kernel, rfl, by decide +kernel, by decide +kernel⟩
theorem mk__law_sort (M : Mod K mg) {j : Nat} {b : SF} (hb : ∀ (f : Addr) (cdv : Value) (A : Around) (outer : List Env) (s : Shared) (H : Hp) (E : XK) (G : Hp) (a : Addr), Room j (A.deeper (envOfC "_law_sort" (defScope s__law_sort) s.heap.objs.size f cdv)) →
      QSs (cxOf (L2.CX P w) P w K mg base N__law_sort "_law_sort" (defScope s__law_sort) f cdv A outer s H E) ⟨[], G, H, daF false a, false⟩ (fun cls d _ H => E cls d H) false (defBody s__law_sort) b) : Cal P w K mg base (L2.CX P w) "_law_sort" false false 1 (fnOf false false 1 1 b) (j + 1) := by
  obtain ⟨f, fd, h, F⟩ := M.f__law_sort
  exact cal_of F h S__law_sort (F.binds fun _ _ _ _ _ _ us hl => match us, hl with | [_], _ => rfl) (by decide) (hb f)
theorem q__law_sort (M : Mod K mg) {f : Addr} {cdv : Value} {A : Around} {outer : List Env} {s : Shared} {H : Hp} {E : XK} {G : Hp} {a : Addr} (hr : Room 0 (A.deeper (envOfC "_law_sort" (defScope s__law_sort) s.heap.objs.size f cdv))) :
    QSs (cxOf (L2.CX P w) P w K mg base N__law_sort "_law_sort" (defScope s__law_sort) f cdv A outer s H E) ⟨[], G, H, daF false a, false⟩ (fun cls d _ H => E cls d H) false (defBody s__law_sort) b__law_sort :=
  have ok := okx_of (P := P) (w := w) (K := K) (mg := mg) (base := base) (outer := outer) (H := H) (E := E) S__law_sort hr
  (qs_cons (qs_if (qt_val (qe_B c_isInst M.n_isinstance bo_isinstance (qa_cons (qe_var 0) (qa_cons (qe_ty "bool" M.n_bool bo_bool) qa_nil)))) (qs_one (qs_ret [] qe_int)) qs_nil)
    (qs_cons (qs_if (qt_val (qe_B c_isInst M.n_isinstance bo_isinstance (qa_cons (qe_var 0) (qa_cons (qe_ty "int" M.n_int bo_int) qa_nil)))) (qs_one (qs_ret [] qe_int)) qs_nil)
    (qs_cons (qs_if (qt_val (qe_B c_isInst M.n_isinstance bo_isinstance (qa_cons (qe_var 0) (qa_cons (qe_ty "str" M.n_str bo_str) qa_nil)))) (qs_one (qs_ret [] qe_int)) qs_nil)
    (qs_cons (qs_if (qt_val (qe_B c_isInst M.n_isinstance bo_isinstance (qa_cons (qe_var 0) (qa_cons (qe_ty "list" M.n_list bo_list) qa_nil)))) (qs_one (qs_ret [] qe_int)) qs_nil)
    (qs_one (qs_ret [] (qe_if (qt_val (qe_B c_isInst M.n_isinstance bo_isinstance (qa_cons (qe_var 0) (qa_cons (qe_ty "tuple" M.n_tuple bo_tuple) qa_nil)))) qe_int qe_int)))))))
theorem cal__law_sort (M : Mod K mg) : Cal P w K mg base (L2.CX P w) "_law_sort" false false 1 fn__law_sort 1 := mk__law_sort M (j := 0) fun f cdv A outer s H E G a hr => q__law_sort M hr
theorem S__law_same : FnScope N__law_same ["told", "due"] (defScope s__law_same) := ⟨rfl, rfl, rfl, by decide +kernel, rfl, by decide +kernel, by decide +kernel⟩
theorem mk__law_same (M : Mod K mg) {j : Nat} {b : SF} (hb : ∀ (f : Addr) (cdv : Value) (A : Around) (outer : List Env) (s : Shared) (H : Hp) (E : XK) (G : Hp) (a : Addr), Room j (A.deeper (envOfC "_law_same" (defScope s__law_same) s.heap.objs.size f cdv)) →
      QSs (cxOf (L2.CX P w) P w K mg base N__law_same "_law_same" (defScope s__law_same) f cdv A outer s H E) ⟨[], G, H, daF false a, false⟩ (fun cls d _ H => E cls d H) false (defBody s__law_same) b) : Cal P w K mg base (L2.CX P w) "_law_same" false false 2 (fnOf false false 4 2 b) (j + 1) := by
  obtain ⟨f, fd, h, F⟩ := M.f__law_same
  exact cal_of F h S__law_same (F.binds fun _ _ _ _ _ _ us hl => match us, hl with | [_, _], _ => rfl) (by decide) (hb f)
theorem q__law_same (M : Mod K mg) {φ : List U → FR} {j k : Nat} (C : Cal P w K mg base (L2.CX P w) "_law_same" false false 2 φ j) (hj : j ≤ k) (hk : 1 ≤ k) {f : Addr} {cdv : Value} {A : Around} {outer : List Env} {s : Shared} {H : Hp} {E : XK} {G : Hp} {a : Addr} (hr : Room k (A.deeper (envOfC "_law_same" (defScope s__law_same) s.heap.objs.size f cdv))) :
    QSs (cxOf (L2.CX P w) P w K mg base N__law_same "_law_same" (defScope s__law_same) f cdv A outer s H E) ⟨[], G, H, daF false a, false⟩ (fun cls d _ H => E cls d H) false (defBody s__law_same) (b__law_same φ) :=
  have ok := okx_of (P := P) (w := w) (K := K) (mg := mg) (base := base) (outer := outer) (H := H) (E := E) S__law_same hr
  show QSs _ _ _ _ _ ((sSeq (sIf (tB (e2 uNe (eCall fn__law_sort (aCons (eV 0) aNil)) (eCall fn__law_sort (aCons (eV 1) aNil)))) (sRet (eC (.bl false))) sNil)
    (sSeq (sIf (tAnd (tB (e2 uGtI (eCall fn__law_sort (aCons (eV 0) aNil)) (eC (.int 3)))) (tB (e2 uLtI (eCall fn__law_sort (aCons (eV 0) aNil)) (eC (.int 6))))) (sSeq (sIf (tB (e2 uNe (eB bLen (aCons (eV 0) aNil)) (eB bLen (aCons (eV 1) aNil)))) (sRet (eC (.bl false))) sNil)
    (sRet (e2 uEq (eComp [2, 3] (iEnum (aCons (eV 0) aNil)) (gT (gsCons (gN 2) (gsCons (gN 3) gsNil))) (tNot (tB (eCall φ (aCons (eV 3) (aCons (e2 uIx (eV 1) (eV 2)) aNil))))) (eV 2)) (eLst aNil)))) sNil)
    (sRet (e2 uEq (eV 0) (eV 1)))))) from
  (qs_cons (qs_if (qt_cmp (op_uNe ok.room) (qe_call (cal__law_sort M) ok (Nat.le_trans (by decide : 1 ≤ 1) hk) (qa_cons (qe_var 0) qa_nil) (al_cons al_nil)) (qe_call (cal__law_sort M) ok (Nat.le_trans (by decide : 1 ≤ 1) hk) (qa_cons (qe_var 1) qa_nil) (al_cons al_nil))) (qs_one (qs_ret [] qe_bl)) qs_nil)
    (qs_cons (qs_if (qt_of (qw_and (qt_cmp op_uGtI (qe_call (cal__law_sort M) ok (Nat.le_trans (by decide : 1 ≤ 1) hk) (qa_cons (qe_var 0) qa_nil) (al_cons al_nil)) qe_int) (qw_and1 (qt_cmp op_uLtI (qe_call (cal__law_sort M) ok (Nat.le_trans (by decide : 1 ≤ 1) hk) (qa_cons (qe_var 0) qa_nil) (al_cons al_nil)) qe_int)))) (qs_cons (qs_if (qt_cmp (op_uNe ok.room) (qe_B c_len M.n_len bo_len (qa_cons (qe_var 0) qa_nil)) (qe_B c_len M.n_len bo_len (qa_cons (qe_var 1) qa_nil))) (qs_one (qs_ret [] qe_bl)) qs_nil)
    (qs_one (qs_ret [] (qe_cmp (op_uEq ok.room) (qe_of (qf_lc (own := [("k", 2), ("part", 3)]) (sl := [2, 3]) (fi := (iEnum (aCons (eV 0) aNil))) (gt := (gT (gsCons (gN 2) (gsCons (gN 3) gsNil)))) (ft := (tNot (tB (eCall φ (aCons (eV 3) (aCons (e2 uIx (eV 1) (eV 2)) aNil)))))) (fe := (eV 2)) rfl ok.nd (qi_enum M.n_enumerate (qa_cons (qe_var 0) qa_nil)) (by rfl) (fun _ _ _ _ _ => (qg_tup rfl (qgs_cons (qg_name ok.blk.nd 2) (qgs_cons (qg_name ok.blk.nd 3) qgs_nil)) (gl_cons (gl_cons gl_nil)))) (fun _ _ _ _ _ => (qts_one (qt_not (qt_val (qe_call C ok.blk hj (qa_cons (qe_var 3) (qa_cons (qe_ix (qe_var 1) (qe_var 2)) qa_nil)) (al_cons (al_cons al_nil))))))) (fun _ _ _ _ _ => (qe_var 2)))) (qe_of (qf_lst qa_nil)))))) qs_nil)
    (qs_one (qs_ret [] (qe_cmp (op_uEq ok.room) (qe_var 0) (qe_var 1))))))
theorem cal__law_same (M : Mod K mg) : ∀ j : Nat, Cal P w K mg base (L2.CX P w) "_law_same" false false 2 (fn__law_same j) (2 + j)
  | 0 => stuck_cal (mk__law_same M (b := fun _ => .stuck) (j := 1) fun f cdv A outer s H E G a hr => qss_stuck)
  | j + 1 => mk__law_same M (j := 2 + j) fun f cdv A outer s H E G a hr => q__law_same M (cal__law_same M j) (Nat.le_refl _) (by omega) hr
theorem S__law_first : FnScope N__law_first ["wishes"] (defScope s__law_first) := ⟨rfl, rfl, rfl, by decide +kernel, rfl, by decide +kernel, by decide +kernel⟩
theorem mk__law_first (M : Mod K mg) {j : Nat} {b : SF} (hb : ∀ (f : Addr) (cdv : Value) (A : Around) (outer : List Env) (s : Shared) (H : Hp) (E : XK) (G : Hp) (a : Addr), Room j (A.deeper (envOfC "_law_first" (defScope s__law_first) s.heap.objs.size f cdv)) →
      QSs (cxOf (L2.CX P w) P w K mg base N__law_first "_law_first" (defScope s__law_first) f cdv A outer s H E) ⟨[], G, H, daF false a, false⟩ (fun cls d _ H => E cls d H) false (defBody s__law_first) b) : Cal P w K mg base (L2.CX P w) "_law_first" false false 1 (fnOf false false 1 1 b) (j + 1) := by
  obtain ⟨f, fd, h, F⟩ := M.f__law_first
  exact cal_of F h S__law_first (F.binds fun _ _ _ _ _ _ us hl => match us, hl with | [_], _ => rfl) (by decide) (hb f)
theorem q__law_first (M : Mod K mg) {f : Addr} {cdv : Value} {A : Around} {outer : List Env} {s : Shared} {H : Hp} {E : XK} {G : Hp} {a : Addr} (hr : Room 0 (A.deeper (envOfC "_law_first" (defScope s__law_first) s.heap.objs.size f cdv))) :
    QSs (cxOf (L2.CX P w) P w K mg base N__law_first "_law_first" (defScope s__law_first) f cdv A outer s H E) ⟨[], G, H, daF false a, false⟩ (fun cls d _ H => E cls d H) false (defBody s__law_first) b__law_first :=
  have ok := okx_of (P := P) (w := w) (K := K) (mg := mg) (base := base) (outer := outer) (H := H) (E := E) S__law_first hr
  (qs_one (qs_ret [] (qe_if (qt_cmp (op_uIn ok.room) (qe_tup (qa_cons qe_int (qa_cons (qe_str [117, 112]) qa_nil))) (qe_var 0)) (qe_str [117, 112]) (qe_str [100, 111, 119, 110]))))
theorem cal__law_first (M : Mod K mg) : Cal P w K mg base (L2.CX P w) "_law_first" false false 1 fn__law_first 1 := mk__law_first M (j := 0) fun f cdv A outer s H E G a hr => q__law_first M hr
theorem S__law_way : FnScope N__law_way ["wishes", "number"] (defScope s__law_way) := ⟨rfl, rfl, rfl, by decide +kernel, rfl, by decide +kernel, by decide +kernel⟩
theorem mk__law_way (M : Mod K mg) {j : Nat} {b : SF} (hb : ∀ (f : Addr) (cdv : Value) (A : Around) (outer : List Env) (s : Shared) (H : Hp) (E : XK) (G : Hp) (a : Addr), Room j (A.deeper (envOfC "_law_way" (defScope s__law_way) s.heap.objs.size f cdv)) →
      QSs (cxOf (L2.CX P w) P w K mg base N__law_way "_law_way" (defScope s__law_way) f cdv A outer s H E) ⟨[], G, H, daF false a, false⟩ (fun cls d _ H => E cls d H) false (defBody s__law_way) b) : Cal P w K mg base (L2.CX P w) "_law_way" false false 2 (fnOf false false 2 2 b) (j + 1) := by
  obtain ⟨f, fd, h, F⟩ := M.f__law_way
  exact cal_of F h S__law_way (F.binds fun _ _ _ _ _ _ us hl => match us, hl with | [_, _], _ => rfl) (by decide) (hb f)
theorem q__law_way (M : Mod K mg) {f : Addr} {cdv : Value} {A : Around} {outer : List Env} {s : Shared} {H : Hp} {E : XK} {G : Hp} {a : Addr} (hr : Room 1 (A.deeper (envOfC "_law_way" (defScope s__law_way) s.heap.objs.size f cdv))) :
    QSs (cxOf (L2.CX P w) P w K mg base N__law_way "_law_way" (defScope s__law_way) f cdv A outer s H E) ⟨[], G, H, daF false a, false⟩ (fun cls d _ H => E cls d H) false (defBody s__law_way) b__law_way :=
  have ok := okx_of (P := P) (w := w) (K := K) (mg := mg) (base := base) (outer := outer) (H := H) (E := E) S__law_way hr
  (qs_one (qs_ret [] (qe_ix (qe_of (qf_lst (qa_cons (qe_str [117, 112]) (qa_cons (qe_str [100, 111, 119, 110]) qa_nil)))) (qe_bin op_uMod (qe_bin op_uAdd (qe_var 1) (qe_Ty c_int M.n_int bo_int (qa_cons (qe_cmp (op_uEq ok.room) (qe_call (cal__law_first M) ok (by decide) (qa_cons (qe_var 0) qa_nil) (al_cons al_nil)) (qe_str [117, 112])) qa_nil))) qe_int))))
theorem cal__law_way (M : Mod K mg) : Cal P w K mg base (L2.CX P w) "_law_way" false false 2 fn__law_way 2 := mk__law_way M (j := 1) fun f cdv A outer s H E G a hr => q__law_way M hr
theorem S__law_good : FnScope N__law_good ["piece", "wishes", "gaps"] (defScope s__law_good) := ⟨rfl, rfl, rfl, by decide +kernel, rfl, by decide +kernel, by decide +kernel⟩
theorem mk__law_good (M : Mod K mg) {j : Nat} {b : SF} (hb : ∀ (f : Addr) (cdv : Value) (A : Around) (outer : List Env) (s : Shared) (H : Hp) (E : XK) (G : Hp) (a : Addr), Room j (A.deeper (envOfC "_law_good" (defScope s__law_good) s.heap.objs.size f cdv)) →
      QSs (cxOf (L2.CX P w) P w K mg base N__law_good "_law_good" (defScope s__law_good) f cdv A outer s H E) ⟨[], G, H, daF false a, false⟩ (fun cls d _ H => E cls d H) false (defBody s__law_good) b) : Cal P w K mg base (L2.CX P w) "_law_good" false false 3 (fnOf false false 14 3 b) (j + 1) := by
  obtain ⟨f, fd, h, F⟩ := M.f__law_good
  exact cal_of F h S__law_good (F.binds fun _ _ _ _ _ _ us hl => match us, hl with | [_, _, _], _ => rfl) (by decide) (hb f)
theorem q__law_good (M : Mod K mg) {f : Addr} {cdv : Value} {A : Around} {outer : List Env} {s : Shared} {H : Hp} {E : XK} {G : Hp} {a : Addr} (hr : Room 2 (A.deeper (envOfC "_law_good" (defScope s__law_good) s.heap.objs.size f cdv))) :
    QSs (cxOf (L2.CX P w) P w K mg base N__law_good "_law_good" (defScope s__law_good) f cdv A outer s H E) ⟨[], G, H, daF false a, false⟩ (fun cls d _ H => E cls d H) false (defBody s__law_good) b__law_good :=
  have ok := okx_of (P := P) (w := w) (K := K) (mg := mg) (base := base) (outer := outer) (H := H) (E := E) S__law_good hr
  (qs_cons (qs_asg (qe_var 0) (qg_tup rfl (qgs_cons (qg_name ok.nd 3) (qgs_cons (qg_name ok.nd 4) (qgs_cons (qg_name ok.nd 5) (qgs_cons (qg_name ok.nd 6) qgs_nil)))) (gl_cons (gl_cons (gl_cons (gl_cons gl_nil))))))
    (qs_cons (qs_set ok.nd 7 (qe_call (cal__law_numbers M) ok (by decide) (qa_cons (qe_B c_len M.n_len bo_len (qa_cons (qe_var 3) qa_nil)) (qa_cons (qe_var 2) qa_nil)) (al_cons (al_cons al_nil))))
    (qs_cons (qs_if (qt_of (qw_or (qt_cmp (op_uNe ok.room) (qe_of (qf_lc (own := [("gap", 9)]) (sl := [9]) (fi := (iSeq (eV 2))) (gt := (gN 9)) (ft := (tB (e2 uIn (eV 9) (eV 5)))) (fe := (eV 9)) rfl ok.nd (qi_seq (qe_var 2)) (by rfl) (fun _ _ _ _ _ => (qg_name ok.blk.nd 9)) (fun _ _ _ _ _ => (qts_one (qt_cmp (op_uIn ok.blk.room) (qe_var 9) (qe_var 5)))) (fun _ _ _ _ _ => (qe_var 9)))) (qe_of (qf_lst qa_nil))) (qw_or1 (qt_cmp (op_uNe ok.room) (qe_of (qf_lc (own := [("gap", 9)]) (sl := [9]) (fi := (iSeq (eV 6))) (gt := (gN 9)) (ft := (tB (e2 uNotIn (eV 9) (eV 2)))) (fe := (eV 9)) rfl ok.nd (qi_seq (qe_var 6)) (by rfl) (fun _ _ _ _ _ => (qg_name ok.blk.nd 9)) (fun _ _ _ _ _ => (qts_one (qt_cmp (op_uNotIn ok.blk.room) (qe_var 9) (qe_var 2)))) (fun _ _ _ _ _ => (qe_var 9)))) (qe_of (qf_lst qa_nil)))))) (qs_one (qs_ret [] qe_bl)) qs_nil)
    (qs_cons (qs_for ok.own rfl (qi_range2 M.n_range (qa_cons qe_int (qa_cons (qe_bin op_uAdd (qe_ix (qe_var 7) (qe_un un_uNeg qe_int)) qe_int) qa_nil))) (qg_name ok.nd 8) (qs_one (qs_if (qt_cmp op_uGtI (qe_B (c_sum rfl) M.n_sum bo_sum (qa_cons (qe_of (qf_lc (own := [("length", 10), ("own", 11)]) (sl := [10, 11]) (fi := (iZip2 (aCons (eV 3) (aCons (eV 7) aNil)))) (gt := (gT (gsCons (gN 10) (gsCons (gN 11) gsNil)))) (ft := (tB (e2 uEq (eV 11) (eV 8)))) (fe := (eV 10)) rfl ok.nd (qi_zip2 M.n_zip (qa_cons (qe_var 3) (qa_cons (qe_var 7) qa_nil))) (by rfl) (fun _ _ _ _ _ => (qg_tup rfl (qgs_cons (qg_name ok.blk.nd 10) (qgs_cons (qg_name ok.blk.nd 11) qgs_nil)) (gl_cons (gl_cons gl_nil)))) (fun _ _ _ _ _ => (qts_one (qt_cmp (op_uEq ok.blk.room) (qe_var 11) (qe_var 8)))) (fun _ _ _ _ _ => (qe_var 10)))) qa_nil)) (qe_var 4)) (qs_one (qs_ret [] qe_bl)) qs_nil)))
    (qs_one (qs_ret [] (qe_cmp (op_uEq ok.room) (qe_of (qf_lc (own := [("note", 12), ("wish", 13)]) (sl := [12, 13]) (fi := (iSeq (eV 1))) (gt := (gT (gsCons (gN 12) (gsCons (gN 13) gsNil)))) (ft := (tB (e2 uNe (eCall fn__law_way (aCons (eV 1) (aCons (e2 uIx (eV 7) (eV 12)) aNil))) (eV 13)))) (fe := (eV 12)) rfl ok.nd (qi_seq (qe_var 1)) (by rfl) (fun _ _ _ _ _ => (qg_tup rfl (qgs_cons (qg_name ok.blk.nd 12) (qgs_cons (qg_name ok.blk.nd 13) qgs_nil)) (gl_cons (gl_cons gl_nil)))) (fun _ _ _ _ _ => (qts_one (qt_cmp (op_uNe ok.blk.room) (qe_call (cal__law_way M) ok.blk (by decide) (qa_cons (qe_var 1) (qa_cons (qe_ix (qe_var 7) (qe_var 12)) qa_nil)) (al_cons (al_cons al_nil))) (qe_var 13)))) (fun _ _ _ _ _ => (qe_var 12)))) (qe_of (qf_lst qa_nil)))))))))
theorem cal__law_good (M : Mod K mg) : Cal P w K mg base (L2.CX P w) "_law_good" false false 3 fn__law_good 3 := mk__law_good M (j := 2) fun f cdv A outer s H E G a hr => q__law_good M hr
theorem S__law_right : FnScope N__law_right ["piece", "wishes", "gaps"] (defScope s__law_right) := ⟨rfl, rfl, rfl, by decide +kernel, rfl, by decide +kernel, by decide +kernel⟩
theorem mk__law_right (M : Mod K mg) {j : Nat} {b : SF} (hb : ∀ (f : Addr) (cdv : Value) (A : Around) (outer : List Env) (s : Shared) (H : Hp) (E : XK) (G : Hp) (a : Addr), Room j (A.deeper (envOfC "_law_right" (defScope s__law_right) s.heap.objs.size f cdv)) →
      QSs (cxOf (L2.CX P w) P w K mg base N__law_right "_law_right" (defScope s__law_right) f cdv A outer s H E) ⟨[5], G, H, daF false a, false⟩ (fun cls d _ H => E cls d H) false (defBody s__law_right) b) : Cal P w K mg base (L2.CX P w) "_law_right" false false 3 (fnOf false false 7 3 b) (j + 1) := by
  obtain ⟨f, fd, h, F⟩ := M.f__law_right
  exact cal_of F h S__law_right (F.binds fun _ _ _ _ _ _ us hl => match us, hl with | [_, _, _], _ => rfl) (by decide) (hb f)
theorem q__law_right (M : Mod K mg) {f : Addr} {cdv : Value} {A : Around} {outer : List Env} {s : Shared} {H : Hp} {E : XK} {G : Hp} {a : Addr} (hr : Room 6 (A.deeper (envOfC "_law_right" (defScope s__law_right) s.heap.objs.size f cdv))) :
    QSs (cxOf (L2.CX P w) P w K mg base N__law_right "_law_right" (defScope s__law_right) f cdv A outer s H E) ⟨[5], G, H, daF false a, false⟩ (fun cls d _ H => E cls d H) false (defBody s__law_right) b__law_right :=
  have ok := okx_of (P := P) (w := w) (K := K) (mg := mg) (base := base) (outer := outer) (H := H) (E := E) S__law_right hr
  (qs_cons (qs_set ok.nd 3 (qe_call (cal__law_good M) ok (by decide) (qa_cons (qe_var 0) (qa_cons (qe_var 1) (qa_cons (qe_var 2) qa_nil))) (al_cons (al_cons (al_cons al_nil)))))
    (qs_cons (qs_if (qt_not (qt_val (qe_call (cal__law_same M 4) ok (by decide) (qa_cons (qe_call (cal_is_bowing M) ok (by decide) (qa_cons (qe_var 0) (qa_cons (qe_var 1) (qa_cons (qe_var 2) qa_nil))) (al_cons (al_cons (al_cons al_nil)))) (qa_cons (qe_var 3) qa_nil)) (al_cons (al_cons al_nil))))) (qs_one (qs_ret [] qe_bl)) qs_nil)
    (qs_cons (qs_if (qt_not (qt_val (qe_var 3))) (qs_one (qs_ret [] qe_bl)) qs_nil)
    (qs_cons (qs_set ok.nd 4 (qe_call (cal__law_numbers M) ok (by decide) (qa_cons (qe_B c_len M.n_len bo_len (qa_cons (qe_ix (qe_var 0) qe_int) qa_nil)) (qa_cons (qe_var 2) qa_nil)) (al_cons (al_cons al_nil))))
    (qs_cons (qs_setF ok.nd 5 (qf_call (cal_stroke_numbers M) ok (by decide) (qa_cons (qe_var 0) (qa_cons (qe_var 1) (qa_cons (qe_var 2) qa_nil))) (al_cons (al_cons (al_cons al_nil)))))
    (qs_cons (qs_if (qt_not (qt_val (qe_borrow rfl (qe_call (cal__law_same M 4) ok (by decide) (qa_cons (qe_var 5) (qa_cons (qe_var 4) qa_nil)) (al_cons (al_cons al_nil)))))) (qs_one (qs_ret [] qe_bl)) qs_nil)
    (qs_cons (qs_append 5 qe_int)
    (qs_cons (qs_if (qt_cmp (op_uNe ok.room) (qe_call (cal_stroke_numbers M) ok (by decide) (qa_cons (qe_var 0) (qa_cons (qe_var 1) (qa_cons (qe_var 2) qa_nil))) (al_cons (al_cons (al_cons al_nil)))) (qe_var 4)) (qs_one (qs_ret [] qe_bl)) qs_nil)
    (qs_one (qs_ret [] (qe_call (cal__law_same M 4) ok (by decide) (qa_cons (qe_call (cal_directions M) ok (by decide) (qa_cons (qe_var 0) (qa_cons (qe_var 1) (qa_cons (qe_var 2) qa_nil))) (al_cons (al_cons (al_cons al_nil)))) (qa_cons (qe_of (qf_lc (own := [("number", 6)]) (sl := [6]) (fi := (iSeq (eV 4))) (gt := (gN 6)) (ft := tTrue) (fe := (eCall fn__law_way (aCons (eV 1) (aCons (eV 6) aNil)))) rfl ok.nd (qi_seq (qe_var 4)) (by rfl) (fun _ _ _ _ _ => (qg_name ok.blk.nd 6)) (fun _ _ _ _ _ => qts_nil) (fun _ _ _ _ _ => (qe_call (cal__law_way M) ok.blk (by decide) (qa_cons (qe_var 1) (qa_cons (qe_var 6) qa_nil)) (al_cons (al_cons al_nil)))))) qa_nil)) (al_cons (al_cons al_nil)))))))))))))
theorem cal__law_right (M : Mod K mg) : Cal P w K mg base (L2.CX P w) "_law_right" false false 3 fn__law_right 7 := mk__law_right M (j := 6) fun f cdv A outer s H E G a hr => q__law_right M hr
theorem S_law : FnScope N_law ["script"] (defScope s_law) := ⟨rfl, rfl, rfl, by decide +kernel, rfl, by decide +kernel, by decide +kernel⟩
theorem mk_law (M : Mod K mg) {j : Nat} {b : SF} (hb : ∀ (f : Addr) (cdv : Value) (A : Around) (outer : List Env) (s : Shared) (H : Hp) (E : XK) (G : Hp) (a : Addr), Room j (A.deeper (envOfC "law" (defScope s_law) s.heap.objs.size f cdv)) →
      QSs (cxOf (L2.CX P w) P w K mg base N_law "law" (defScope s_law) f cdv A outer s H E) ⟨[2], G, H, daF false a, false⟩ (fun cls d _ H => E cls d H) false (defBody s_law) b) : Cal P w K mg base (L2.CX P w) "law" false false 1 (fnOf false false 11 1 b) (j + 1) := by
  obtain ⟨f, fd, h, F⟩ := M.f_law
  exact cal_of F h S_law (F.binds fun _ _ _ _ _ _ us hl => match us, hl with | [_], _ => rfl) (by decide) (hb f)
theorem q_law (M : Mod K mg) {f : Addr} {cdv : Value} {A : Around} {outer : List Env} {s : Shared} {H : Hp} {E : XK} {G : Hp} {a : Addr} (hr : Room 7 (A.deeper (envOfC "law" (defScope s_law) s.heap.objs.size f cdv))) :
    QSs (cxOf (L2.CX P w) P w K mg base N_law "law" (defScope s_law) f cdv A outer s H E) ⟨[2], G, H, daF false a, false⟩ (fun cls d _ H => E cls d H) false (defBody s_law) b_law :=
  have ok := okx_of (P := P) (w := w) (K := K) (mg := mg) (base := base) (outer := outer) (H := H) (E := E) S_law hr
  (qs_cons (qs_for ok.own rfl (qi_seq (qe_sl (qe_bin op_uAdd (qe_of (qf_lst (qa_cons qe_int qa_nil))) (qe_var 0)) qo_no (qo_some qe_int))) (qg_name ok.nd 1) (qs_cons (qs_setF ok.nd 2 (qf_call (cal__law_deck M) ok (by decide) (qa_cons (qe_var 1) (qa_cons qe_int qa_nil)) (al_cons (al_cons al_nil))))
    (qs_cons (qs_set ok.nd 3 (qe_callD 2 (cal__law_piece M) ok (by decide) (qa_cons qe_int (qa_cons qe_int qa_nil)) (al_cons (al_cons al_nil))))
    (qs_cons (qs_set ok.nd 4 (qe_callD 2 (cal__law_wishes M) ok (by decide) (qa_cons (qe_var 3) qa_nil) (al_cons al_nil)))
    (qs_cons (qs_for ok.own rfl (qi_seq (qe_call (cal__law_sets M) ok (by decide) (qa_cons (qe_B c_len M.n_len bo_len (qa_cons (qe_ix (qe_var 3) qe_int) qa_nil)) qa_nil) (al_cons al_nil))) (qg_name ok.nd 5) (qs_one (qs_if (qt_not (qt_val (qe_call (cal__law_right M) ok (by decide) (qa_cons (qe_var 3) (qa_cons (qe_var 4) (qa_cons (qe_var 5) qa_nil))) (al_cons (al_cons (al_cons al_nil)))))) (qs_one (qs_ret [] qe_bl)) qs_nil)))
    (qs_cons (qs_set ok.nd 3 (qe_callD 2 (cal__law_piece M) ok (by decide) (qa_cons qe_int (qa_cons qe_int qa_nil)) (al_cons (al_cons al_nil))))
    (qs_cons (qs_for ok.own rfl (qi_range1 M.n_range (qa_cons qe_int qa_nil)) (qg_name ok.nd 6) (qs_cons (qs_par2 4 5 rfl ok.nd (qk_s (qe_callD 2 (cal__law_wishes M) ok (by decide) (qa_cons (qe_var 3) qa_nil) (al_cons al_nil)) (qk_s (qe_callD 2 (cal__law_random M) ok (by decide) (qa_cons (qe_var 3) qa_nil) (al_cons al_nil)) qk_nil)))
    (qs_cons (qs_set ok.nd 7 (qe_bin op_uAdd qe_int (qe_callD 2 (cal__law_pick M) ok (by decide) (qa_cons (qe_bin op_uSub (qe_B c_len M.n_len bo_len (qa_cons (qe_ix (qe_var 3) qe_int) qa_nil)) qe_int) qa_nil) (al_cons al_nil))))
    (qs_cons (qs_set ok.nd 8 (qe_if (qt_cmp (op_uIn ok.room) (qe_var 7) (qe_var 5)) (qe_of (qf_lc (own := [("one", 10)]) (sl := [10]) (fi := (iSeq (eV 5))) (gt := (gN 10)) (ft := (tB (e2 uNe (eV 10) (eV 7)))) (fe := (eV 10)) rfl ok.nd (qi_seq (qe_var 5)) (by rfl) (fun _ _ _ _ _ => (qg_name ok.blk.nd 10)) (fun _ _ _ _ _ => (qts_one (qt_cmp (op_uNe ok.blk.room) (qe_var 10) (qe_var 7)))) (fun _ _ _ _ _ => (qe_var 10)))) (qe_bin op_uAdd (qe_Ty c_list M.n_list bo_list (qa_cons (qe_var 5) qa_nil)) (qe_of (qf_lst (qa_cons (qe_var 7) qa_nil))))))
    (qs_one (qs_if (qt_of (qw_or (qt_not (qt_val (qe_call (cal__law_right M) ok (by decide) (qa_cons (qe_var 3) (qa_cons (qe_tup qa_nil) (qa_cons (qe_var 5) qa_nil))) (al_cons (al_cons (al_cons al_nil)))))) (qw_or1 (qt_not (qt_val (qe_call (cal__law_right M) ok (by decide) (qa_cons (qe_var 3) (qa_cons (qe_var 4) (qa_cons (qe_Ty c_tuple M.n_tuple bo_tuple (qa_cons (qe_BN (c_sortedI ok.room) M.n_sorted bo_sorted (qa_cons (qe_var 8) qa_nil)) qa_nil)) qa_nil))) (al_cons (al_cons (al_cons al_nil))))))))) (qs_one (qs_ret [] qe_bl)) qs_nil))))))
    (qs_one (qs_for ok.own rfl (qi_seq (qe_of (qf_lst (qa_cons qe_non (qa_cons qe_int (qa_cons (qe_of (qf_lst (qa_cons qe_int qa_nil))) (qa_cons (qe_tup (qa_cons qe_int qa_nil)) (qa_cons (qe_tup (qa_cons (qe_B c_len M.n_len bo_len (qa_cons (qe_ix (qe_var 3) qe_int) qa_nil)) qa_nil)) (qa_cons (qe_tup (qa_cons qe_int (qa_cons qe_int qa_nil))) (qa_cons (qe_tup (qa_cons qe_int (qa_cons qe_int qa_nil))) (qa_cons (qe_tup (qa_cons qe_bl qa_nil)) (qa_cons (qe_str [49]) (qa_cons (qe_tup (qa_cons qe_int (qa_cons qe_non qa_nil))) qa_nil))))))))))))) (qg_name ok.nd 9) (qs_one (qs_if (qt_cmp op_uNotB (qe_call (cal_is_bowing M) ok (by decide) (qa_cons (qe_var 3) (qa_cons (qe_tup qa_nil) (qa_cons (qe_var 9) qa_nil))) (al_cons (al_cons (al_cons al_nil)))) qe_bl) (qs_one (qs_ret [] qe_bl)) qs_nil)))))))))))
    (qs_cons (qs_set ok.nd 3 (qe_tup (qa_cons (qe_tup (qa_cons qe_int (qa_cons qe_int (qa_cons qe_int (qa_cons qe_int (qa_cons qe_int (qa_cons qe_int qa_nil))))))) (qa_cons qe_int (qa_cons (qe_tup qa_nil) (qa_cons (qe_tup qa_nil) qa_nil))))))
    (qs_cons (qs_if (qt_of (qw_or (qt_val (qe_call (cal_is_bowing M) ok (by decide) (qa_cons (qe_var 3) (qa_cons (qe_tup (qa_cons (qe_tup (qa_cons qe_int (qa_cons (qe_str [100, 111, 119, 110]) qa_nil))) (qa_cons (qe_tup (qa_cons qe_int (qa_cons (qe_str [100, 111, 119, 110]) qa_nil))) qa_nil))) (qa_cons (qe_tup (qa_cons qe_int qa_nil)) qa_nil))) (al_cons (al_cons (al_cons al_nil))))) (qw_or1 (qt_not (qt_val (qe_call (cal_is_bowing M) ok (by decide) (qa_cons (qe_var 3) (qa_cons (qe_tup (qa_cons (qe_tup (qa_cons qe_int (qa_cons (qe_str [117, 112]) qa_nil))) (qa_cons (qe_tup (qa_cons qe_int (qa_cons (qe_str [100, 111, 119, 110]) qa_nil))) qa_nil))) (qa_cons (qe_tup (qa_cons qe_int qa_nil)) qa_nil))) (al_cons (al_cons (al_cons al_nil))))))))) (qs_one (qs_ret [] qe_bl)) qs_nil)
    (qs_cons (qs_if (qt_cmp op_uNotB (qe_call (cal_is_bowing M) ok (by decide) (qa_cons (qe_var 3) (qa_cons (qe_tup (qa_cons (qe_tup (qa_cons qe_int (qa_cons (qe_str [117, 112]) qa_nil))) qa_nil)) (qa_cons (qe_tup (qa_cons qe_int qa_nil)) qa_nil))) (al_cons (al_cons (al_cons al_nil)))) qe_bl) (qs_one (qs_ret [] qe_bl)) qs_nil)
    (qs_cons (qs_if (qt_of (qw_or (qt_val (qe_call (cal_is_bowing M) ok (by decide) (qa_cons (qe_var 3) (qa_cons (qe_tup qa_nil) (qa_cons (qe_tup (qa_cons qe_int (qa_cons qe_int qa_nil))) qa_nil))) (al_cons (al_cons (al_cons al_nil))))) (qw_or1 (qt_cmp (op_uNe ok.room) (qe_call (cal_directions M) ok (by decide) (qa_cons (qe_var 3) (qa_cons (qe_tup (qa_cons (qe_tup (qa_cons qe_int (qa_cons (qe_str [117, 112]) qa_nil))) qa_nil)) (qa_cons (qe_tup (qa_cons qe_int qa_nil)) qa_nil))) (al_cons (al_cons (al_cons al_nil)))) (qe_bin op_uAdd (qe_of (qf_rep (qf_lst (qa_cons (qe_str [117, 112]) qa_nil)) qe_int)) (qe_of (qf_rep (qf_lst (qa_cons (qe_str [100, 111, 119, 110]) qa_nil)) qe_int))))))) (qs_one (qs_ret [] qe_bl)) qs_nil)
    (qs_one (qs_ret [] (qe_and (qe_cmp (op_uEq ok.room) (qe_call (cal_stroke_numbers M) ok (by decide) (qa_cons (qe_var 3) (qa_cons (qe_tup qa_nil) (qa_cons (qe_tup (qa_cons qe_int (qa_cons qe_int qa_nil))) qa_nil))) (al_cons (al_cons (al_cons al_nil)))) (qe_of (qf_lst (qa_cons qe_int (qa_cons qe_int (qa_cons qe_int (qa_cons qe_int (qa_cons qe_int (qa_cons qe_int qa_nil))))))))) (qe_one (qe_cmp op_uIsB (qe_call (cal_is_bowing M) ok (by decide) (qa_cons (qe_tup (qa_cons (qe_tup (qa_cons qe_int qa_nil)) (qa_cons qe_int (qa_cons (qe_tup qa_nil) (qa_cons (qe_tup qa_nil) qa_nil))))) (qa_cons (qe_tup qa_nil) (qa_cons (qe_tup qa_nil) qa_nil))) (al_cons (al_cons (al_cons al_nil)))) qe_bl))))))))))
theorem cal_law (M : Mod K mg) : Cal P w K mg base (L2.CX P w) "law" false false 1 fn_law 8 := mk_law M (j := 7) fun f cdv A outer s H E G a hr => q_law M hr
end
end K02
set_option maxRecDepth 100000
set_option maxHeartbeats 0
namespace K02
open Q LB
open PySem PySem.Spec PyProof.Rows L2
theorem law_all {w : World} {K : PySem.W.Frag} {h : Heap} {mg : Str → Option Value} {fa : Addr} (hfa : mg "law" = some (.ref fa)) (M : Mod K mg) :
    ∃ fd : FuncData, (∀ (s : Shared) (u : Value), BindsTo s fd ⟨[u], []⟩ [("script", u)]) ∧ ∀ base : Heap, K.In base → base.Ns mainGlobals mg → FnOk PySem.Challenge.rw_bowings_k02_bowings_recognized.prog w K mg base (L2.CX PySem.Challenge.rw_bowings_k02_bowings_recognized.prog w) 8 fa fd ["script"] (spLaw K) :=
  law_F hfa M.f_law S_law (fun _ _ _ _ _ _ _ _ => .of_eq rfl) (by decide) keeps fun base f cdv A outer s H E G a hr => q_law M hr
end K02
open PySem PySem.W PyProof.Rows
theorem PySem.Challenge.cw_bowings_k02_bowings_recognized_holds : PySem.Challenge.rw_bowings_k02_bowings_recognized.Holds := by
  w_on; o_law; k_head; (case hw => w_witness2)
  k_fill
  refine Q.law_walk (l := PySem.Challenge.rw_bowings_k02_bowings_recognized) (k := 8) rfl rfl ⟨rfl, by decide, by decide⟩ (fun w h Y => PySem.W.kIn_of Y) ?F
  case F =>
    intro w mg fa h KX G hmg
    refine K02.law_all (h := h) hmg ⟨?n_all, ?n_any, ?n_bool, ?n_enumerate, ?n_int, ?n_isinstance, ?n_len, ?n_list, ?n_max, ?n_min, ?n_range, ?n_sorted, ?n_str, ?n_sum, ?n_tuple, ?n_zip, ?i_MOST_NOTES, ?i_LONGEST, ?i_LONGEST_BOW, ?x_InvalidPiece, ?x_InvalidWishes, ?x_InvalidBowing, ?f_is_from, ?f_are_gaps, ?f_blocks_of, ?f_is_piece, ?f_is_direction, ?f_good_wishes, ?f_need_wishes, ?f_first_direction, ?f_turned, ?f_direction_of, ?f_stroke_right, ?f_ends_of, ?f_good_bowing, ?f_is_bowing, ?f_need_bowing, ?f_numbers_of, ?f_stroke_numbers, ?f_directions, ?f__law_deck, ?f__law_pick, ?f__law_sets, ?f__law_one, ?f__law_piece, ?f__law_numbers, ?f__law_random, ?f__law_wishes, ?f__law_sort, ?f__law_same, ?f__law_first, ?f__law_way, ?f__law_good, ?f__law_right, ?f_law⟩
    (case n_all => refine' Q.mod_n KX G ?a; (case a => k_is))
    (case n_any => refine' Q.mod_n KX G ?a; (case a => k_is))
    (case n_bool => refine' Q.mod_n KX G ?a; (case a => k_is))
    (case n_enumerate => refine' Q.mod_n KX G ?a; (case a => k_is))
    (case n_int => refine' Q.mod_n KX G ?a; (case a => k_is))
    (case n_isinstance => refine' Q.mod_n KX G ?a; (case a => k_is))
    (case n_len => refine' Q.mod_n KX G ?a; (case a => k_is))
    (case n_list => refine' Q.mod_n KX G ?a; (case a => k_is))
    (case n_max => refine' Q.mod_n KX G ?a; (case a => k_is))
    (case n_min => refine' Q.mod_n KX G ?a; (case a => k_is))
    (case n_range => refine' Q.mod_n KX G ?a; (case a => k_is))
    (case n_sorted => refine' Q.mod_n KX G ?a; (case a => k_is))
    (case n_str => refine' Q.mod_n KX G ?a; (case a => k_is))
    (case n_sum => refine' Q.mod_n KX G ?a; (case a => k_is))
    (case n_tuple => refine' Q.mod_n KX G ?a; (case a => k_is))
    (case n_zip => refine' Q.mod_n KX G ?a; (case a => k_is))
    (case i_MOST_NOTES => refine' Q.mod_i KX G ?a; (case a => k_is))
    (case i_LONGEST => refine' Q.mod_i KX G ?a; (case a => k_is))
    (case i_LONGEST_BOW => refine' Q.mod_i KX G ?a; (case a => k_is))
    (case x_InvalidPiece => refine' Q.mod_x KX G ?ca ?ck ?cq ?cs ?ct; (case ca => k_is); (case ck => k_is); (case cq => k_exc); (case cs => k_is); (case ct => k_is))
    (case x_InvalidWishes => refine' Q.mod_x KX G ?ca ?ck ?cq ?cs ?ct; (case ca => k_is); (case ck => k_is); (case cq => k_exc); (case cs => k_is); (case ct => k_is))
    (case x_InvalidBowing => refine' Q.mod_x KX G ?ca ?ck ?cq ?cs ?ct; (case ca => k_is); (case ck => k_is); (case cq => k_exc); (case cs => k_is); (case ct => k_is))
    (case f_is_from => refine' Q.mod_f KX G ?a ?l ?c ?k; (case a => k_is); (case l => k_is); (case c => k_is); (case k => k_is))
    (case f_are_gaps => refine' Q.mod_f KX G ?a ?l ?c ?k; (case a => k_is); (case l => k_is); (case c => k_is); (case k => k_is))
    (case f_blocks_of => refine' Q.mod_f KX G ?a ?l ?c ?k; (case a => k_is); (case l => k_is); (case c => k_is); (case k => k_is))
    (case f_is_piece => refine' Q.mod_f KX G ?a ?l ?c ?k; (case a => k_is); (case l => k_is); (case c => k_is); (case k => k_is))
    (case f_is_direction => refine' Q.mod_f KX G ?a ?l ?c ?k; (case a => k_is); (case l => k_is); (case c => k_is); (case k => k_is))
    (case f_good_wishes => refine' Q.mod_f KX G ?a ?l ?c ?k; (case a => k_is); (case l => k_is); (case c => k_is); (case k => k_is))
    (case f_need_wishes => refine' Q.mod_f KX G ?a ?l ?c ?k; (case a => k_is); (case l => k_is); (case c => k_is); (case k => k_is))
    (case f_first_direction => refine' Q.mod_f KX G ?a ?l ?c ?k; (case a => k_is); (case l => k_is); (case c => k_is); (case k => k_is))
    (case f_turned => refine' Q.mod_f KX G ?a ?l ?c ?k; (case a => k_is); (case l => k_is); (case c => k_is); (case k => k_is))
    (case f_direction_of => refine' Q.mod_f KX G ?a ?l ?c ?k; (case a => k_is); (case l => k_is); (case c => k_is); (case k => k_is))
    (case f_stroke_right => refine' Q.mod_f KX G ?a ?l ?c ?k; (case a => k_is); (case l => k_is); (case c => k_is); (case k => k_is))
    (case f_ends_of => refine' Q.mod_f KX G ?a ?l ?c ?k; (case a => k_is); (case l => k_is); (case c => k_is); (case k => k_is))
    (case f_good_bowing => refine' Q.mod_f KX G ?a ?l ?c ?k; (case a => k_is); (case l => k_is); (case c => k_is); (case k => k_is))
    (case f_is_bowing => refine' Q.mod_f KX G ?a ?l ?c ?k; (case a => k_is); (case l => k_is); (case c => k_is); (case k => k_is))
    (case f_need_bowing => refine' Q.mod_f KX G ?a ?l ?c ?k; (case a => k_is); (case l => k_is); (case c => k_is); (case k => k_is))
    (case f_numbers_of => refine' Q.mod_f KX G ?a ?l ?c ?k; (case a => k_is); (case l => k_is); (case c => k_is); (case k => k_is))
    (case f_stroke_numbers => refine' Q.mod_f KX G ?a ?l ?c ?k; (case a => k_is); (case l => k_is); (case c => k_is); (case k => k_is))
    (case f_directions => refine' Q.mod_f KX G ?a ?l ?c ?k; (case a => k_is); (case l => k_is); (case c => k_is); (case k => k_is))
    (case f__law_deck => refine' Q.mod_f KX G ?a ?l ?c ?k; (case a => k_is); (case l => k_is); (case c => k_is); (case k => k_is))
    (case f__law_pick => refine' Q.mod_f KX G ?a ?l ?c ?k; (case a => k_is); (case l => k_is); (case c => k_is); (case k => k_is))
    (case f__law_sets => refine' Q.mod_f KX G ?a ?l ?c ?k; (case a => k_is); (case l => k_is); (case c => k_is); (case k => k_is))
    (case f__law_one => refine' Q.mod_f KX G ?a ?l ?c ?k; (case a => k_is); (case l => k_is); (case c => k_is); (case k => k_is))
    (case f__law_piece => refine' Q.mod_f KX G ?a ?l ?c ?k; (case a => k_is); (case l => k_is); (case c => k_is); (case k => k_is))
    (case f__law_numbers => refine' Q.mod_f KX G ?a ?l ?c ?k; (case a => k_is); (case l => k_is); (case c => k_is); (case k => k_is))
    (case f__law_random => refine' Q.mod_f KX G ?a ?l ?c ?k; (case a => k_is); (case l => k_is); (case c => k_is); (case k => k_is))
    (case f__law_wishes => refine' Q.mod_f KX G ?a ?l ?c ?k; (case a => k_is); (case l => k_is); (case c => k_is); (case k => k_is))
    (case f__law_sort => refine' Q.mod_f KX G ?a ?l ?c ?k; (case a => k_is); (case l => k_is); (case c => k_is); (case k => k_is))
    (case f__law_same => refine' Q.mod_f KX G ?a ?l ?c ?k; (case a => k_is); (case l => k_is); (case c => k_is); (case k => k_is))
    (case f__law_first => refine' Q.mod_f KX G ?a ?l ?c ?k; (case a => k_is); (case l => k_is); (case c => k_is); (case k => k_is))
    (case f__law_way => refine' Q.mod_f KX G ?a ?l ?c ?k; (case a => k_is); (case l => k_is); (case c => k_is); (case k => k_is))
    (case f__law_good => refine' Q.mod_f KX G ?a ?l ?c ?k; (case a => k_is); (case l => k_is); (case c => k_is); (case k => k_is))
    (case f__law_right => refine' Q.mod_f KX G ?a ?l ?c ?k; (case a => k_is); (case l => k_is); (case c => k_is); (case k => k_is))
    (case f_law => refine' Q.mod_f KX G ?a ?l ?c ?k; (case a => k_is); (case l => k_is); (case c => k_is); (case k => k_is))
