import PyProof.Rows.All
import PySem.Str
import Wide.All
import OpenK.AllK
import Wide.FinOn
import HandS.ForMost
import HandS.ForExc
import HandS.Evl
import KE.KDictKeyed
import KE.KDictLaw
import HandS.Lambda
import HandS.ExcCtx
import HandS.Deep
import HandS.IsInst
import HandS.TupAny
import HandS.Style
import KE.KDictDisplayH
import KE.KTupSum
import KE.DataMinMax
import KE.DatumOrd
import KE.SortData
import HandS.Walk
import HandS.Zip
import HandS.WordsExc
import KE.KDictZip
import KE.KDictItemsList
import HandS.ListItems
import PyProof.EnumMake
import KE.GoesMore
import KE.GoesZip
import HandS.SortInts
import HandS.NamedTupSort
import KE.LtData
import HandS.Conv
import KE.DataCmp
import KE.KDictSum
import KE.KDictCopyH
import HandS.Ends
import HandS.EndTab
import HandS.Hot
import PyProof.TableCode
import HandS.ExcIs
import HandS.HotCalls
import HandS.Codes
import KE.KLam
import KE.KNestM
import HandS.TupMul
import HandS.SetFor
import HandS.Strs
import PySem.Challenge.RW_bowings_k21_whole_written_pieces
set_option Elab.async false
set_option linter.all false
/-! QPure: pure values and the pure meaning of the constructs -/
namespace Q
open PySem (Str)

/-- pure values -/
inductive U where
  | non | bl (b : Bool) | int (i : Int) | str (x : List Nat)
  | tup (xs : List U) | lst (xs : List U) | dct (ks vs : List U) | dci (ns : List Int) (vs : List U) | fn (x : Str) | ty (n : String) | obj (C : Str) (ns : List Str) (xs : List U)
  deriving Inhabited

abbrev Sl := List (Option U)
/-- what an expression comes to -/
inductive Rs (α : Type) where
  | ok (a : α) (ρ : Sl) | exc (C : Str) (ρ : Sl) | stuck
def Rs.bind {α β : Type} : Rs α → (α → Sl → Rs β) → Rs β
  | .ok a ρ, k => k a ρ
  | .exc C ρ, _ => .exc C ρ
  | .stuck, _ => .stuck
abbrev EF := Sl → Rs U
abbrev AF := Sl → Rs (List U)
abbrev BF := Sl → Rs Bool
/-- what a statement comes to -/
inductive Fl where
  | next (ρ : Sl) | brk (ρ : Sl) | cont (ρ : Sl) | ret (u : U) (ρ : Sl) | exc (C : Str) (ρ : Sl) | stuck
abbrev SF := Sl → Fl
/-- what a def comes to: its value, and its first argument's content behind it (where it changes it) -/
inductive FR where
  | ok (u : U) (d : U) | exc (C : Str) (d : U) | stuck

def rs {α : Type} : Option α → Sl → Rs α
  | some a, ρ => .ok a ρ
  | none, _ => .stuck

def eV (i : Nat) : EF := fun ρ => match ρ[i]? with
  | some (some u) => .ok u ρ
  | _ => .stuck
def eC (u : U) : EF := fun ρ => .ok u ρ
def e1 (op : U → Option U) (a : EF) : EF := fun ρ => (a ρ).bind fun x ρ1 => rs (op x) ρ1
def e2 (op : U → U → Option U) (a b : EF) : EF := fun ρ => (a ρ).bind fun x ρ1 => (b ρ1).bind fun y ρ2 => rs (op x y) ρ2
def eChain (op op' : U → U → Option U) (a b c : EF) : EF := fun ρ => (a ρ).bind fun x ρ1 => (b ρ1).bind fun y ρ2 => match op x y with
  | some (.bl true) => (c ρ2).bind fun z ρ3 => rs (op' y z) ρ3
  | some (.bl false) => .ok (.bl false) ρ2
  | _ => .stuck
def eAnd (a b : EF) : EF := fun ρ => (a ρ).bind fun x ρ1 => match x with
  | .bl true => b ρ1
  | .bl false => .ok (.bl false) ρ1
  | _ => .stuck
def eOr (a b : EF) : EF := fun ρ => (a ρ).bind fun x ρ1 => match x with
  | .bl true => .ok (.bl true) ρ1
  | .bl false => b ρ1
  | _ => .stuck
def eNot (a : EF) : EF := fun ρ => (a ρ).bind fun x ρ1 => match x with
  | .bl b => .ok (.bl !b) ρ1
  | _ => .stuck
/-- a test by a truth value -/
def tB (a : EF) : BF := fun ρ => (a ρ).bind fun x ρ1 => match x with
  | .bl b => .ok b ρ1
  | _ => .stuck
def tAnd (a b : BF) : BF := fun ρ => (a ρ).bind fun x ρ1 => if x then b ρ1 else .ok false ρ1
def tOr (a b : BF) : BF := fun ρ => (a ρ).bind fun x ρ1 => if x then .ok true ρ1 else b ρ1
def tNot (a : BF) : BF := fun ρ => (a ρ).bind fun x ρ1 => .ok (!x) ρ1
def tTrue : BF := fun ρ => .ok true ρ
def eIf (t : BF) (a b : EF) : EF := fun ρ => (t ρ).bind fun x ρ1 => if x then a ρ1 else b ρ1
def aNil : AF := fun ρ => .ok [] ρ
def aCons (a : EF) (r : AF) : AF := fun ρ => (a ρ).bind fun x ρ1 => (r ρ1).bind fun xs ρ2 => .ok (x :: xs) ρ2
def eTup (as : AF) : EF := fun ρ => (as ρ).bind fun xs ρ1 => if xs.length ≤ 100000 then .ok (.tup xs) ρ1 else .stuck
def eLst (as : AF) : EF := fun ρ => (as ρ).bind fun xs ρ1 => if xs.length ≤ 100000 then .ok (.lst xs) ρ1 else .stuck
/-- a built-in by its arguments -/
def eB (op : List U → Option U) (as : AF) : EF := fun ρ => (as ρ).bind fun xs ρ1 => rs (op xs) ρ1
/-- a def -/
def eCall (φ : List U → FR) (as : AF) : EF := fun ρ => (as ρ).bind fun xs ρ1 => match φ xs with
  | .ok u _ => .ok u ρ1
  | .exc C _ => .exc C ρ1
  | .stuck => .stuck
/-- a def that may change its first argument, the list in the slot i -/
def eCallD (i : Nat) (φ : List U → FR) (as : AF) : EF := fun ρ => match ρ[i]? with
  | some (some _) => (as ρ).bind fun xs ρ1 => match ρ1[i]? with
    | some (some d) => match φ (d :: xs) with
      | .ok u d' => .ok u (ρ1.set i (some d'))
      | .exc C d' => .exc C (ρ1.set i (some d'))
      | .stuck => .stuck
    | _ => .stuck
  | _ => .stuck
/-- x[k], x the list in the slot i -/
def eIxM (i : Nat) (op : U → U → Option U) (b : EF) : EF := fun ρ => match ρ[i]? with
  | some (some _) => (b ρ).bind fun y ρ1 => match ρ1[i]? with
    | some (some d) => rs (op d y) ρ1
    | _ => .stuck
  | _ => .stuck
def scalU : U → Bool
  | .non | .bl _ | .int _ | .str _ | .ty _ | .fn _ => true
  | _ => false
/-- a reading of the slots' own lists that leaves them as they are -/
def eBorrow (e : EF) : EF := fun ρ => match e ρ with
  | .ok u _ => if scalU u then .ok u ρ else .stuck
  | _ => .stuck
/-- .. whose value is a new list of scalars -/
def eBorrowF (e : EF) : EF := fun ρ => match e ρ with
  | .ok (.lst us) _ => if us.all scalU then .ok (.lst us) ρ else .stuck
  | _ => .stuck
/-- targets -/
abbrev TgF := U → Sl → Option Sl
abbrev TgsF := List U → Sl → Option Sl
def gN (i : Nat) : TgF := fun u ρ => some (ρ.set i (some u))
def gsNil : TgsF := fun us ρ => match us with
  | [] => some ρ
  | _ => none
def gsCons (g : TgF) (gs : TgsF) : TgsF := fun us ρ => match us with
  | u :: r => match g u ρ with
    | some ρ1 => gs r ρ1
    | none => none
  | [] => none
def gNs : List Nat → TgsF
  | [] => gsNil
  | i :: is => gsCons (gN i) (gNs is)
def gT (gs : TgsF) : TgF := fun u ρ => match u with
  | .tup us => gs us ρ
  | _ => none

def wipeU (ρ : Sl) : List Nat → Sl
  | [] => ρ
  | v :: vs => (wipeU ρ vs).set v none
/-- the comprehension's own slots as they stood -/
def backU (ρ0 ρ : Sl) : List Nat → Sl
  | [] => ρ
  | v :: vs => (backU ρ0 ρ vs).set v (ρ0.getD v none)
def compL (vs : List Nat) (g : TgF) (t : BF) (e : EF) : List U → Sl → List U → Rs (List U)
  | [], ρ, acc => .ok acc.reverse ρ
  | u :: us, ρ, acc => match g u (wipeU ρ vs) with
    | some ρ1 => match t ρ1 with
      | .ok true ρ2 => match e ρ2 with
        | .ok x ρ3 => compL vs g t e us ρ3 (x :: acc)
        | _ => .stuck
      | .ok false ρ2 => compL vs g t e us ρ2 acc
      | _ => .stuck
    | none => .stuck
/-- [e for g in it if t] -/
def eComp (vs : List Nat) (it : AF) (g : TgF) (t : BF) (e : EF) : EF := fun ρ => (it ρ).bind fun us ρ1 =>
  if us.length ≤ 100000 then (compL vs g t e us ρ1 []).bind fun xs ρ2 => .ok (.lst xs) (backU ρ1 ρ2 vs) else .stuck

/-! statements -/
def sNil : SF := fun ρ => .next ρ
def sSeq (a b : SF) : SF := fun ρ => match a ρ with
  | .next ρ1 => b ρ1
  | f => f
def Fl.of {α : Type} (r : Rs α) (k : α → Sl → Fl) : Fl := match r with
  | .ok a ρ => k a ρ
  | .exc C ρ => .exc C ρ
  | .stuck => .stuck
def sExpr (e : EF) : SF := fun ρ => .of (e ρ) fun _ ρ1 => .next ρ1
def sRet (e : EF) : SF := fun ρ => .of (e ρ) fun u ρ1 => .ret u ρ1
def sRetN : SF := fun ρ => .ret .non ρ
def sAsg (e : EF) (g : TgF) : SF := fun ρ => .of (e ρ) fun u ρ1 => match g u ρ1 with
  | some ρ2 => .next ρ2
  | none => .stuck
abbrev sSet (i : Nat) (e : EF) : SF := sAsg e (gN i)
/-- x, y = a, b -/
def sPar (gs : TgsF) (as : AF) : SF := fun ρ => .of (as ρ) fun us ρ1 => match gs us ρ1 with
  | some ρ2 => .next ρ2
  | none => .stuck
/-- x op= e -/
def sAug (i : Nat) (op : U → U → Option U) (e : EF) : SF := fun ρ => match ρ[i]? with
  | some (some x) => .of (e ρ) fun y ρ1 => match op x y with
    | some z => .next (ρ1.set i (some z))
    | none => .stuck
  | _ => .stuck
/-- x.append(e), x the list in the slot i -/
def sAppend (i : Nat) (e : EF) : SF := fun ρ => match ρ[i]? with
  | some (some (.lst _)) => .of (e ρ) fun y ρ1 => match ρ1[i]? with
    | some (some (.lst xs)) => if xs.length ≤ 100000 then .next (ρ1.set i (some (.lst (xs ++ [y])))) else .stuck
    | _ => .stuck
  | _ => .stuck
/-- x[k] = e, x the list in the slot i -/
def sPut (i : Nat) (k e : EF) : SF := fun ρ => .of (e ρ) fun y ρ1 => match ρ1[i]? with
  | some (some _) => .of (k ρ1) fun j ρ2 => match ρ2[i]?, j with
    | some (some (.lst xs)), .int n => if 0 ≤ n ∧ n < xs.length then .next (ρ2.set i (some (.lst (xs.set n.toNat y)))) else .stuck
    | _, _ => .stuck
  | _ => .stuck
def sIf (t : BF) (a b : SF) : SF := fun ρ => .of (t ρ) fun x ρ1 => if x then a ρ1 else b ρ1
def sRaise (C : Str) : SF := fun ρ => .exc C ρ
def sBreak : SF := fun ρ => .brk ρ
def sCont : SF := fun ρ => .cont ρ
def forL (g : TgF) (b : SF) : List U → Sl → Fl
  | [], ρ => .next ρ
  | u :: us, ρ => match g u ρ with
    | some ρ1 => match b ρ1 with
      | .next ρ2 => forL g b us ρ2
      | .cont ρ2 => forL g b us ρ2
      | .brk ρ2 => .next ρ2
      | f => f
    | none => .stuck
/-- the rest of a block, in which the lists of the slots vs are known; behind it they are forgotten -/
def sKnown (vs : List Nat) (b : SF) : SF := fun ρ => match b ρ with
  | .next ρ1 => .next (wipeU ρ1 vs)
  | .brk ρ1 => .brk (wipeU ρ1 vs)
  | .cont ρ1 => .cont (wipeU ρ1 vs)
  | f => f
def sFor (it : AF) (g : TgF) (b : SF) : SF := fun ρ => .of (it ρ) fun us ρ1 => forL g b us ρ1
def whileL (t : BF) (b : SF) : Nat → Sl → Fl
  | 0, _ => .stuck
  | n + 1, ρ => .of (t ρ) fun x ρ1 => if x then (match b ρ1 with
      | .next ρ2 => whileL t b n ρ2
      | .cont ρ2 => whileL t b n ρ2
      | .brk ρ2 => .next ρ2
      | f => f) else .next ρ1
def sWhile (n : Nat) (t : BF) (b : SF) : SF := fun ρ => whileL t b n ρ

/-! defs -/
def startU (n : Nat) (us : List U) : Sl := us.map some ++ List.replicate (n - us.length) none
def slot0 (ρ : Sl) : U := match ρ[0]? with
  | some (some d) => d
  | _ => .non
/-- a def by its body: n its slots, p its parameters -/
def fnEnd (io fr : Bool) : Fl → FR
  | .ret u ρ => .ok u (if io then slot0 ρ else .non)
  | .next ρ => if fr then .stuck else .ok .non (if io then slot0 ρ else .non)
  | .exc C ρ => .exc C (if io then slot0 ρ else .non)
  | _ => .stuck
def fnOf (io fr : Bool) (n p : Nat) (b : SF) (us : List U) : FR := if us.length = p then fnEnd io fr (b (startU n us)) else .stuck
end Q
set_option maxRecDepth 100000
/-! QBase: pure values in the abstract heap; the judgements -/
namespace Q
open PySem PySem.Spec PyProof.Rows L2
open Evl (Ex)

/-! ### pure values in the heap -/
structure Tab where
  K : PySem.W.Frag
  mg : Str → Option Value
  P : Program
  w : World
/-! keys of the tables: tuples of numbers, truth values, texts -/
def nkS : U → Option NestedKey
  | .int i => some (.num i)
  | .bl b => some (.num (if b then 1 else 0))
  | .str x => some (.text ⟨x.toArray⟩)
  | _ => none
def nkL : List U → Option (List NestedKey)
  | [] => some []
  | u :: us => match nkS u, nkL us with
    | some k, some ks => some (k :: ks)
    | _, _ => none
def nkU : U → Option NestedKey
  | .tup us => (nkL us).map .tup
  | _ => none
def nkUs : List U → Option (List NestedKey)
  | [] => some []
  | u :: us => match nkU u, nkUs us with
    | some k, some ks => some (k :: ks)
    | _, _ => none
/-- the entries of a table, side by side -/
inductive Ents : List NestedKey → List Addr → List V → List (NestedKey × Addr × Value) → Prop
  | nil : Ents [] [] [] []
  | cons {k : NestedKey} {b : Addr} {v : V} {x : Value} {ks bs vs ys} (h : RelV v x) (t : Ents ks bs vs ys) : Ents (k :: ks) (b :: bs) (v :: vs) ((k, b, x) :: ys)
/-- at a stands a table with these keys (and the tuples that are the keys), and these values -/
def DictAt (P : Program) (w : World) (a : Addr) (ks : List NestedKey) (bs : List Addr) (vs : List V) (h : Heap) : Prop :=
  (a == sysModules) = false ∧ vs.length ≤ sizeLine ∧ ∃ ys, Ents ks bs vs ys ∧ ∃ o es ep, h.get? a = some o ∧ o.ExactDict ∧ o.data = .dict es ep ∧ es.toList = ys.map (entryOfKey (nestedKind P w)) ∧ (ys.map (·.1)).Nodup
/-- a table whose keys are numbers -/
def dkOf (ns : List Int) (vs : List V) : List (Key × V) := List.zipWith (fun n v => ((Sum.inl n : Key), v)) ns vs
mutual
/-- the value v is u, by what stands in G -/
def Rep (T : Tab) (G : Hp) : U → V → Prop
  | .non, v => v = .non
  | .bl b, v => v = .bl b
  | .int i, v => v = .int i
  | .str x, v => v = .str ⟨x.toArray⟩
  | .ty n, v => v = .ty n
  | .tup us, v => ∃ a vs, v = .ref a ∧ SqT T.K G a vs ∧ Reps T G us vs
  | .lst us, v => ∃ a vs, v = .ref a ∧ SqL T.K G a vs ∧ Reps T G us vs
  | .fn x, v => ∃ a, v = .ref a ∧ T.mg x = some (.ref a)
  | .dct ks us, v => ∃ a nks bs vs, v = .ref a ∧ G a = some (.ext (DictAt T.P T.w a nks bs vs)) ∧ nkUs ks = some nks ∧ Reps T G ks (bs.map V.ref) ∧ Reps T G us vs
  | .dci ns us, v => ∃ a vs, v = .ref a ∧ G a = some (.dK (dkOf ns vs)) ∧ ns.length = vs.length ∧ Reps T G us vs
  | .obj C ns us, v => (ns = [] ∧ ∃ a : Addr, v = .ref a ∧ us = [.int (Int.ofNat a)]) ∨
    (ns ≠ [] ∧ ∃ a D dx vs, v = .ref a ∧ G a = some (.ins D dx (ns.zip vs)) ∧ G dx = some (.own a) ∧ T.mg C = some (.ref D) ∧ ns.length = vs.length ∧ Reps T G us vs)
def Reps (T : Tab) (G : Hp) : List U → List V → Prop
  | [], vs => vs = []
  | u :: us, vs => ∃ v r, vs = v :: r ∧ Rep T G u v ∧ Reps T G us r
end
mutual
theorem Rep.mono {T : Tab} {G G' : Hp} (e : Ex G G') : ∀ (u : U) (v : V), Rep T G u v → Rep T G' u v
  | .non, _, h => h
  | .bl _, _, h => h
  | .int _, _, h => h
  | .str _, _, h => h
  | .ty _, _, h => h
  | .fn _, _, h => h
  | .dct ks us, v, h => by
    rw [Rep] at h ⊢
    obtain ⟨a, nks, bs, vs, e1, h1, h2, h3, h4⟩ := h
    exact ⟨a, nks, bs, vs, e1, e _ _ h1, h2, Reps.mono e ks _ h3, Reps.mono e us vs h4⟩
  | .dci ns us, v, h => by
    rw [Rep] at h ⊢
    obtain ⟨a, vs, e1, h1, h2, h3⟩ := h
    exact ⟨a, vs, e1, e _ _ h1, h2, Reps.mono e us vs h3⟩
  | .obj C ns us, v, h => by
    rw [Rep] at h ⊢
    rcases h with h | ⟨h1, a, D, dx, vs, e1, g, gx, m, l, r⟩
    · exact .inl h
    · exact .inr ⟨h1, a, D, dx, vs, e1, e _ _ g, e _ _ gx, m, l, Reps.mono e us vs r⟩
  | .tup us, v, h => by
    rw [Rep] at h ⊢
    obtain ⟨a, vs, e1, h1, h2⟩ := h
    exact ⟨a, vs, e1, Evl.ex_t e h1, Reps.mono e us vs h2⟩
  | .lst us, v, h => by
    rw [Rep] at h ⊢
    obtain ⟨a, vs, e1, h1, h2⟩ := h
    exact ⟨a, vs, e1, Evl.ex_l e h1, Reps.mono e us vs h2⟩
theorem Reps.mono {T : Tab} {G G' : Hp} (e : Ex G G') : ∀ (us : List U) (vs : List V), Reps T G us vs → Reps T G' us vs
  | [], vs, h => by
    rw [Reps] at h ⊢
    exact h
  | u :: us, vs, h => by
    rw [Reps] at h ⊢
    obtain ⟨v, r, e1, h1, h2⟩ := h
    exact ⟨v, r, e1, Rep.mono e u v h1, Reps.mono e us r h2⟩
end
section
variable {T : Tab} {G : Hp}
theorem rep_non {v : V} : Rep T G .non v ↔ v = .non := by rw [Rep]
theorem rep_bl {b : Bool} {v : V} : Rep T G (.bl b) v ↔ v = .bl b := by rw [Rep]
theorem rep_int {i : Int} {v : V} : Rep T G (.int i) v ↔ v = .int i := by rw [Rep]
theorem rep_str {x : List Nat} {v : V} : Rep T G (.str x) v ↔ v = .str ⟨x.toArray⟩ := by rw [Rep]
theorem rep_ty {n : String} {v : V} : Rep T G (.ty n) v ↔ v = .ty n := by rw [Rep]
theorem rep_tup {us : List U} {v : V} : Rep T G (.tup us) v ↔ ∃ a vs, v = .ref a ∧ SqT T.K G a vs ∧ Reps T G us vs := by rw [Rep]
theorem rep_lst {us : List U} {v : V} : Rep T G (.lst us) v ↔ ∃ a vs, v = .ref a ∧ SqL T.K G a vs ∧ Reps T G us vs := by rw [Rep]
theorem rep_dct {ks us : List U} {v : V} : Rep T G (.dct ks us) v ↔ ∃ a nks bs vs, v = .ref a ∧ G a = some (.ext (DictAt T.P T.w a nks bs vs)) ∧ nkUs ks = some nks ∧ Reps T G ks (bs.map V.ref) ∧ Reps T G us vs := by rw [Rep]
theorem rep_dci {ns : List Int} {us : List U} {v : V} : Rep T G (.dci ns us) v ↔ ∃ a vs, v = .ref a ∧ G a = some (.dK (dkOf ns vs)) ∧ ns.length = vs.length ∧ Reps T G us vs := by rw [Rep]
theorem rep_exn {C : Str} {us : List U} {v : V} : Rep T G (.obj C [] us) v ↔ ∃ a : Addr, v = .ref a ∧ us = [.int (Int.ofNat a)] := by
  rw [Rep]
  constructor
  · rintro (⟨_, h⟩ | ⟨h, _⟩)
    · exact h
    · exact absurd rfl h
  · exact fun h => .inl ⟨rfl, h⟩
theorem rep_obj {C : Str} {ns : List Str} {us : List U} {v : V} (h : Rep T G (.obj C ns us) v) : ∃ a, v = .ref a := by
  rw [Rep] at h
  rcases h with ⟨_, a, e, _⟩ | ⟨_, a, _, _, _, e, _⟩
  · exact ⟨a, e⟩
  · exact ⟨a, e⟩
theorem rep_ins {C n : Str} {ns : List Str} {us : List U} {v : V} : Rep T G (.obj C (n :: ns) us) v ↔ ∃ a D dx vs, v = .ref a ∧ G a = some (.ins D dx ((n :: ns).zip vs)) ∧ G dx = some (.own a) ∧ T.mg C = some (.ref D) ∧ (n :: ns).length = vs.length ∧ Reps T G us vs := by
  rw [Rep]
  constructor
  · rintro (⟨h, _⟩ | ⟨_, h⟩)
    · cases h
    · exact h
  · exact fun h => .inr ⟨(fun z => by cases z), h⟩
theorem rep_fn {x : Str} {v : V} : Rep T G (.fn x) v ↔ ∃ a, v = .ref a ∧ T.mg x = some (.ref a) := by rw [Rep]
theorem reps_nil {vs : List V} : Reps T G [] vs ↔ vs = [] := by rw [Reps]
theorem reps_cons {u : U} {us : List U} {vs : List V} : Reps T G (u :: us) vs ↔ ∃ v r, vs = v :: r ∧ Rep T G u v ∧ Reps T G us r := by rw [Reps]
theorem Reps.nil : Reps T G [] [] := reps_nil.2 rfl
theorem Reps.cons {u : U} {us : List U} {v : V} {vs : List V} (h : Rep T G u v) (t : Reps T G us vs) : Reps T G (u :: us) (v :: vs) := reps_cons.2 ⟨v, vs, rfl, h, t⟩
theorem Reps.length : ∀ {us : List U} {vs : List V}, Reps T G us vs → us.length = vs.length
  | [], vs, h => by
    rw [reps_nil] at h
    rw [h]
    rfl
  | u :: us, vs, h => by
    obtain ⟨v, r, rfl, _, h2⟩ := reps_cons.1 h
    rw [List.length_cons, List.length_cons, Reps.length h2]
theorem Reps.append : ∀ {us us' : List U} {vs vs' : List V}, Reps T G us vs → Reps T G us' vs' → Reps T G (us ++ us') (vs ++ vs')
  | [], us', vs, vs', h, h' => by
    rw [reps_nil] at h
    rw [h]
    exact h'
  | u :: us, us', vs, vs', h, h' => by
    obtain ⟨v, r, rfl, h1, h2⟩ := reps_cons.1 h
    exact Reps.cons h1 (Reps.append h2 h')
theorem Reps.get : ∀ {us : List U} {vs : List V} {i : Nat} {u : U}, Reps T G us vs → us[i]? = some u → ∃ v, vs[i]? = some v ∧ Rep T G u v
  | [], _, _, _, _, h => by simp at h
  | u :: us, vs, 0, w, h, e => by
    obtain ⟨v, r, rfl, h1, _⟩ := reps_cons.1 h
    simp at e
    subst e
    exact ⟨v, rfl, h1⟩
  | u :: us, vs, i + 1, w, h, e => by
    obtain ⟨v, r, rfl, _, h2⟩ := reps_cons.1 h
    exact Reps.get (i := i) h2 (by simpa using e)
theorem Reps.get' {us : List U} {vs : List V} {i : Nat} {v : V} (h : Reps T G us vs) (e : vs[i]? = some v) : ∃ u, us[i]? = some u ∧ Rep T G u v := by
  have hl : i < us.length := by
    rw [h.length]
    exact (List.getElem?_eq_some_iff.mp e).1
  obtain ⟨w, hw, r⟩ := h.get (i := i) (u := us[i]) (by simp [hl])
  rw [e] at hw
  cases hw
  exact ⟨us[i], by simp [hl], r⟩
theorem Reps.take : ∀ {us : List U} {vs : List V} (n : Nat), Reps T G us vs → Reps T G (us.take n) (vs.take n)
  | _, _, 0, _ => by
    rw [List.take_zero, List.take_zero]
    exact .nil
  | [], vs, n + 1, h => by
    rw [reps_nil] at h
    subst h
    exact .nil
  | u :: us, vs, n + 1, h => by
    obtain ⟨v, r, rfl, h1, h2⟩ := reps_cons.1 h
    exact .cons h1 (Reps.take n h2)
theorem Reps.drop : ∀ {us : List U} {vs : List V} (n : Nat), Reps T G us vs → Reps T G (us.drop n) (vs.drop n)
  | _, _, 0, h => h
  | [], vs, n + 1, h => by
    rw [reps_nil] at h
    subst h
    exact .nil
  | u :: us, vs, n + 1, h => by
    obtain ⟨v, r, rfl, h1, h2⟩ := reps_cons.1 h
    exact Reps.drop n h2
theorem Reps.set : ∀ {us : List U} {vs : List V} (n : Nat) {u : U} {v : V}, Reps T G us vs → Rep T G u v → Reps T G (us.set n u) (vs.set n v)
  | [], vs, n, _, _, h, _ => by
    rw [reps_nil] at h
    subst h
    exact .nil
  | w :: us, vs, 0, u, v, h, hr => by
    obtain ⟨x, r, rfl, _, h2⟩ := reps_cons.1 h
    exact .cons hr h2
  | w :: us, vs, n + 1, u, v, h, hr => by
    obtain ⟨x, r, rfl, h1, h2⟩ := reps_cons.1 h
    exact .cons h1 (Reps.set n h2 hr)
theorem Reps.rep {us : List U} {vs : List V} (h : Reps T G us vs) : ∀ k : Nat, Reps T G (List.replicate k us).flatten (List.replicate k vs).flatten
  | 0 => by
    rw [List.replicate_zero, List.replicate_zero]
    exact .nil
  | k + 1 => by
    rw [List.replicate_succ, List.replicate_succ, List.flatten_cons, List.flatten_cons]
    exact h.append (Reps.rep h k)
theorem Reps.reverse : ∀ {us : List U} {vs : List V}, Reps T G us vs → Reps T G us.reverse vs.reverse
  | [], vs, h => by
    rw [reps_nil] at h
    subst h
    exact .nil
  | u :: us, vs, h => by
    obtain ⟨v, r, rfl, h1, h2⟩ := reps_cons.1 h
    rw [List.reverse_cons, List.reverse_cons]
    exact (Reps.reverse h2).append (.cons h1 .nil)
theorem reps_ints : ∀ {ns : List Int}, Reps T G (ns.map U.int) (ns.map V.int)
  | [] => .nil
  | n :: ns => .cons (rep_int.2 rfl) reps_ints
theorem reps_ints' : ∀ {ns : List Int} {vs : List V}, Reps T G (ns.map U.int) vs → vs = ns.map V.int
  | [], vs, h => reps_nil.1 h
  | n :: ns, vs, h => by
    obtain ⟨v, r, rfl, h1, h2⟩ := reps_cons.1 h
    rw [rep_int.1 h1, reps_ints' h2]
    rfl
end

/-! ### the state of a body -/
/-- fixed through a body: the slots that hold lists of their own; the known part of the heap at the entry, and the whole of it; the address of the list that the body may change -/
structure Cn where
  mu : List Nat
  G0 : Hp
  H0 : Hp
  da : Option Addr
  tr : Bool
  tb : List (Addr × Str)
def OwnAt (T : Tab) (G H : Hp) (a : Addr) : U → Prop
  | .lst us => ∃ vs, H a = some (.lst vs) ∧ Reps T G us vs
  | .dct ks us => ∃ nks bs vs, H a = some (.ext (DictAt T.P T.w a nks bs vs)) ∧ nkUs ks = some nks ∧ Reps T G ks (bs.map V.ref) ∧ Reps T G us vs
  | .dci ns us => ∃ vs, H a = some (.dK (dkOf ns vs)) ∧ ns.length = vs.length ∧ Reps T G us vs
  | _ => False
def Cn.to (c : Cn) (mu : List Nat) : Cn := { c with mu := mu }
structure R (T : Tab) (c : Cn) (G : Hp) (ρ : Sl) (σ : L2.St) (H : Hp) : Prop where
  dk : ∀ a, c.da = some a → 0 ∈ c.mu ∧ σ[0]? = some (some (.ref a)) ∧ ∃ d0, ρ[0]? = some (some d0)
  ex : Ex G H
  g0 : Ex c.G0 G
  nw : ∀ a o, c.H0 a = some o → c.G0 a = none → G a = none
  fr : ∀ a o, c.H0 a = some o → c.da ≠ some a → (∀ ps, o ≠ .tbl ps) → H a = some o
  ng : ∀ a ps, G a ≠ some (.tbl ps)
  dm : ∀ a o, c.H0 a = some o → ∃ o', H a = some o'
  th : LamX.Tabs c.tb H
  dd : ∀ a, c.da = some a → ∃ o, H a = some o
  len : ρ.length = σ.length
  sh : ∀ i u, ρ[i]? = some (some u) → i ∉ c.mu → ∃ v, σ[i]? = some (some v) ∧ Rep T G u v
  ow : ∀ i u, ρ[i]? = some (some u) → i ∈ c.mu → ∃ a, σ[i]? = some (some (.ref a)) ∧ G a = none ∧ (c.H0 a = none ∨ c.da = some a) ∧ OwnAt T G H a u
  ap : ∀ i j u w, ρ[i]? = some (some u) → ρ[j]? = some (some w) → i ∈ c.mu → j ∈ c.mu → i ≠ j → σ[i]? ≠ σ[j]?
  lv : ∀ i v, i ∈ c.mu → σ[i]? = some (some v) → ∃ u, ρ[i]? = some (some u)
/-- what grows: the known part and the heap; nothing that stood is changed, and nothing that stood outside the known part comes to be known -/
structure Grow (G H G' H' : Hp) : Prop where
  g : Ex G G'
  e : Ex G' H'
  h : Ex H H'
  n : ∀ a o, H a = some o → G a = none → G' a = none
  t : ∀ a ps, G' a = some (.tbl ps) → G a = some (.tbl ps)
section
variable {T : Tab} {c : Cn} {G G' H H' : Hp} {ρ : Sl} {σ : L2.St}
theorem OwnAt.mono {a : Addr} (e : Ex G G') (h : H' a = H a) : ∀ {u : U}, OwnAt T G H a u → OwnAt T G' H' a u
  | .lst us, ⟨vs, h1, h2⟩ => ⟨vs, h.trans h1, Reps.mono e _ _ h2⟩
  | .dct ks us, ⟨nks, bs, vs, h1, h2, h3, h4⟩ => ⟨nks, bs, vs, h.trans h1, h2, Reps.mono e _ _ h3, Reps.mono e _ _ h4⟩
  | .dci ns us, ⟨vs, h1, h2, h3⟩ => ⟨vs, h.trans h1, h2, Reps.mono e _ _ h3⟩
theorem OwnAt.at : ∀ {u : U} {a : Addr}, OwnAt T G H a u → ∃ o, H a = some o
  | .lst us, a, ⟨vs, h1, h2⟩ => ⟨_, h1⟩
  | .dct ks us, a, ⟨nks, bs, vs, h1, h2⟩ => ⟨_, h1⟩
  | .dci ns us, a, ⟨vs, h1, h2⟩ => ⟨_, h1⟩
theorem OwnAt.known : ∀ {u : U} {a : Addr}, OwnAt T G H a u → ∃ o, H a = some o ∧ ∀ G', Ex G G' → G' a = some o → Rep T G' u (.ref a)
  | .lst us, a, ⟨vs, h1, h2⟩ => ⟨_, h1, fun _ e q => rep_lst.2 ⟨a, vs, rfl, .inl (.inl q), Reps.mono e _ _ h2⟩⟩
  | .dct ks us, a, ⟨nks, bs, vs, h1, h2, h3, h4⟩ => ⟨_, h1, fun _ e q => rep_dct.2 ⟨a, nks, bs, vs, rfl, q, h2, Reps.mono e _ _ h3, Reps.mono e _ _ h4⟩⟩
  | .dci ns us, a, ⟨vs, h1, h2, h3⟩ => ⟨_, h1, fun _ e q => rep_dci.2 ⟨a, vs, rfl, q, h2, Reps.mono e _ _ h3⟩⟩
/-- a known table may be read as one's own -/
theorem Rep.tab {ks us : List U} {v : V} (e : Ex G H) (h : Rep T G (.dct ks us) v) : ∃ a, v = .ref a ∧ OwnAt T G H a (.dct ks us) := by
  obtain ⟨a, nks, bs, vs, e1, h1, h2, h3, h4⟩ := rep_dct.1 h
  exact ⟨a, e1, nks, bs, vs, e _ _ h1, h2, h3, h4⟩
theorem Rep.tabI {ns : List Int} {us : List U} {v : V} (e : Ex G H) (h : Rep T G (.dci ns us) v) : ∃ a, v = .ref a ∧ OwnAt T G H a (.dci ns us) := by
  obtain ⟨a, vs, e1, h1, h2, h3⟩ := rep_dci.1 h
  exact ⟨a, e1, vs, e _ _ h1, h2, h3⟩
theorem Grow.refl (e : Ex G H) : Grow G H G H := ⟨Ex.refl _, e, Ex.refl _, fun _ _ _ h => h, fun _ _ h => h⟩
theorem Grow.new {p : Addr} {o : HO} (e : Ex G H) (h : H p = none) (hn : ∀ ps, o ≠ .tbl ps := by intro ps z; cases z) : Grow G H (upd G p o) (upd H p o) := by
  have hg : G p = none := Evl.fresh_back e h
  refine ⟨Ex.new hg, fun a x q => ?_, Ex.new h, fun a x q z => ?_, fun a ps q => ?_⟩
  · by_cases ha : a = p
    · subst ha
      rw [upd_same] at q ⊢
      exact q
    · rw [upd_ne ha] at q ⊢
      exact e a x q
  · rw [upd_ne (ne_of_none q h)]
    exact z
  · by_cases ha : a = p
    · subst ha
      rw [upd_same] at q
      exact absurd (Option.some.inj q) (hn ps)
    · rw [upd_ne ha] at q
      exact q
theorem Grow.trans {G1 H1 G2 H2 : Hp} (a : Grow G H G1 H1) (b : Grow G1 H1 G2 H2) : Grow G H G2 H2 :=
  ⟨a.g.trans b.g, b.e, a.h.trans b.h, fun x o q z => b.n x o (a.h x o q) (a.n x o q z), fun x ps q => a.t x ps (b.t x ps q)⟩
/-- what is no table is none of the tables -/
theorem tne {T' : List (Addr × Str)} {a : Addr} {o : HO} (t : LamX.Tabs T' H) (h : H a = some o) (hn : ∀ ps, o ≠ .tbl ps) : ∀ p ∈ T', p.1 ≠ a := fun p hp z => by
  obtain ⟨ps, e, _⟩ := t p hp
  rw [z, h] at e
  exact hn ps (Option.some.inj e)
theorem tne0 {T' : List (Addr × Str)} {a : Addr} (t : LamX.Tabs T' H) (h : H a = none) : ∀ p ∈ T', p.1 ≠ a := fun p hp z => by
  obtain ⟨ps, e, _⟩ := t p hp
  rw [z, h] at e
  cases e
theorem OwnAt.not {a : Addr} {o : HO} : ∀ {u : U}, OwnAt T G H a u → H a = some o → ∀ ps, o ≠ .tbl ps
  | .lst us, ⟨vs, h1, h2⟩, e, ps, z => by rw [h1] at e; cases e; cases z
  | .dct ks us, ⟨nks, bs, vs, h1, h2⟩, e, ps, z => by rw [h1] at e; cases e; cases z
  | .dci ns us, ⟨vs, h1, h2⟩, e, ps, z => by rw [h1] at e; cases e; cases z
theorem OwnAt.tne {T' : List (Addr × Str)} {a : Addr} {u : U} (t : LamX.Tabs T' H) (h : OwnAt T G H a u) : ∀ p ∈ T', p.1 ≠ a := by
  obtain ⟨o, e⟩ := h.at
  exact Q.tne t e (h.not e)
theorem code_not {P : Program} {w : World} {a c : Addr} {q : Str} {nks : List NestedKey} {bs : List Addr} {vs : List V} : HO.ext (DictAt P w a nks bs vs) ≠ LamX.CodeO c q := fun z => by
  unfold LamX.CodeO at z
  injection z with z
  have hz := congrFun z { objs := (List.replicate (max a c + 1) ({ cls := .none, data := .fields #[.none, .str q 0] } : Obj)).toArray }
  have hg : ∀ b, b ≤ max a c → ({ objs := (List.replicate (max a c + 1) ({ cls := .none, data := .fields #[.none, .str q 0] } : Obj)).toArray } : Heap).get? b = some { cls := .none, data := .fields #[.none, .str q 0] } := fun b hb => by
    unfold Heap.get?
    have : (List.replicate (max a c + 1) ({ cls := .none, data := .fields #[.none, .str q 0] } : Obj)).toArray[b]? = some { cls := .none, data := .fields #[.none, .str q 0] } := by
      rw [List.getElem?_toArray, List.getElem?_replicate, if_pos (Nat.lt_succ_of_le hb)]
    simp only [this]
  have h2 := hz.mpr ⟨_, _, 0, hg c (Nat.le_max_right _ _), rfl, rfl⟩
  obtain ⟨_, _, ys, _, o, es, ep, e1, _, e2, _⟩ := h2
  rw [hg a (Nat.le_max_left _ _)] at e1
  cases e1
  cases e2
theorem OwnAt.code {a : Addr} : ∀ {u : U}, OwnAt T G H a u → ∀ q, H a ≠ some (LamX.CodeO a q)
  | .lst us, ⟨vs, h1, h2⟩, q, z => by rw [h1] at z; cases z
  | .dct ks us, ⟨nks, bs, vs, h1, h2⟩, q, z => by
    rw [h1] at z
    exact code_not (Option.some.inj z)
  | .dci ns us, ⟨vs, h1, h2⟩, q, z => by rw [h1] at z; cases z
/-- tables stay, where what is written is none -/
theorem tabs_upd {T' : List (Addr × Str)} {a : Addr} {o : HO} (t : LamX.Tabs T' H) (h : ∀ p ∈ T', p.1 ≠ a) (hc : ∀ q, H a ≠ some (LamX.CodeO a q)) : LamX.Tabs T' (upd H a o) := fun p hp => by
  obtain ⟨ps, e1, e2, e3⟩ := t p hp
  refine ⟨ps, by rw [upd_ne (h p hp)]; exact e1, e2, fun pos cv hcv => ?_⟩
  obtain ⟨c, rfl, e⟩ := e3 pos cv hcv
  refine ⟨c, rfl, ?_⟩
  by_cases z : c = a
  · subst z
    exact absurd e (hc _)
  · rw [upd_ne z]
    exact e
theorem R.grow (r : R T c G ρ σ H) (w : Grow G H G' H') : R T c G' ρ σ H' where
  dk := r.dk
  ex := w.e
  g0 := r.g0.trans w.g
  nw := fun a o h z => by
    obtain ⟨o', h'⟩ := r.dm a o h
    exact w.n a o' h' (r.nw a o h z)
  fr := fun a o h d t => w.h a o (r.fr a o h d t)
  ng := fun a ps h => r.ng a ps (w.t a ps h)
  dm := fun a o h => by
    obtain ⟨o', q⟩ := r.dm a o h
    exact ⟨o', w.h a o' q⟩
  th := r.th.ext w.h
  dd := fun a h => by
    obtain ⟨o, q⟩ := r.dd a h
    exact ⟨o, w.h a o q⟩
  len := r.len
  sh := fun i u h m => by
    obtain ⟨v, e1, e2⟩ := r.sh i u h m
    exact ⟨v, e1, Rep.mono w.g _ _ e2⟩
  ow := fun i u h m => by
    obtain ⟨a, e1, e2, e3, e4⟩ := r.ow i u h m
    obtain ⟨o, ho⟩ := e4.at
    exact ⟨a, e1, w.n a o ho e2, e3, e4.mono w.g ((w.h a o ho).trans ho.symm)⟩
  ap := r.ap
  lv := r.lv
/-- a slot that holds a shared value is stored -/
theorem R.store {i : Nat} {u : U} {v : V} (r : R T c G ρ σ H) (hi : i ∉ c.mu) (h : Rep T G u v) : R T c G (ρ.set i (some u)) (σ.set i (some v)) H where
  dk := fun a h => by
    obtain ⟨h1, h2, dl, h3⟩ := r.dk a h
    have h0 : i ≠ 0 := fun z => hi (z ▸ h1)
    rw [List.getElem?_set_ne h0, List.getElem?_set_ne h0]
    exact ⟨h1, h2, dl, h3⟩
  ex := r.ex
  g0 := r.g0
  nw := r.nw
  fr := r.fr
  ng := r.ng
  dm := r.dm
  th := r.th
  dd := r.dd
  len := by rw [List.length_set, List.length_set, r.len]
  sh := fun j w e m => by
    by_cases hj : i = j
    · subst hj
      have hl : i < ρ.length := by
        have := (List.getElem?_eq_some_iff.mp e).1
        rwa [List.length_set] at this
      rw [List.getElem?_set_self hl] at e
      cases e
      exact ⟨v, List.getElem?_set_self (by rw [← r.len]; exact hl), h⟩
    · rw [List.getElem?_set_ne hj] at e ⊢
      exact r.sh j w e m
  ow := fun j w e m => by
    have hj : i ≠ j := fun z => hi (z ▸ m)
    rw [List.getElem?_set_ne hj] at e ⊢
    exact r.ow j w e m
  ap := fun j k w x e1 e2 m1 m2 ne => by
    have hj : i ≠ j := fun z => hi (z ▸ m1)
    have hk : i ≠ k := fun z => hi (z ▸ m2)
    rw [List.getElem?_set_ne hj] at e1 ⊢
    rw [List.getElem?_set_ne hk] at e2 ⊢
    exact r.ap j k w x e1 e2 m1 m2 ne
  lv := fun j w m e => by
    have hj : i ≠ j := fun z => hi (z ▸ m)
    rw [List.getElem?_set_ne hj] at e ⊢
    exact r.lv j w m e
/-- a slot of its own is stored anew: a list that no other slot holds -/
theorem R.storeOwnG {i : Nat} {ow : U} {a : Addr} (r : R T c G ρ σ H) (hi : i ∈ c.mu) (h1 : G a = none) (h2 : c.H0 a = none ∨ c.da = some a) (h3 : OwnAt T G H a ow)
    (h5 : ∀ j u, ρ[j]? = some (some u) → j ∈ c.mu → j ≠ i → σ[j]? ≠ some (some (.ref a))) (h0 : c.da = none ∨ i ≠ 0) : R T c G (ρ.set i (some ow)) (σ.set i (some (.ref a))) H where
  dk := fun b h => by
    obtain ⟨k1, k2, dl, k3⟩ := r.dk b h
    have h0 : i ≠ 0 := by
      rcases h0 with z | z
      · rw [h] at z
        cases z
      · exact z
    rw [List.getElem?_set_ne h0, List.getElem?_set_ne h0]
    exact ⟨k1, k2, dl, k3⟩
  ex := r.ex
  g0 := r.g0
  nw := r.nw
  fr := r.fr
  ng := r.ng
  dm := r.dm
  th := r.th
  dd := r.dd
  len := by rw [List.length_set, List.length_set, r.len]
  sh := fun j w e m => by
    have hj : i ≠ j := fun z => m (z ▸ hi)
    rw [List.getElem?_set_ne hj] at e ⊢
    exact r.sh j w e m
  ow := fun j w e m => by
    by_cases hj : i = j
    · subst hj
      have hl : i < ρ.length := by
        have := (List.getElem?_eq_some_iff.mp e).1
        rwa [List.length_set] at this
      rw [List.getElem?_set_self hl] at e
      cases e
      exact ⟨a, List.getElem?_set_self (by rw [← r.len]; exact hl), h1, h2, h3⟩
    · rw [List.getElem?_set_ne hj] at e ⊢
      exact r.ow j w e m
  ap := fun j k w x e1 e2 m1 m2 ne => by
    by_cases hj : i = j
    · subst hj
      have hl : i < ρ.length := by
        have := (List.getElem?_eq_some_iff.mp e1).1
        rwa [List.length_set] at this
      rw [List.getElem?_set_ne ne] at e2
      rw [List.getElem?_set_self (by rw [← r.len]; exact hl), List.getElem?_set_ne ne]
      exact fun z => h5 k x e2 m2 (Ne.symm ne) z.symm
    · rw [List.getElem?_set_ne hj] at e1 ⊢
      by_cases hk : i = k
      · subst hk
        have hl : i < ρ.length := by
          have := (List.getElem?_eq_some_iff.mp e2).1
          rwa [List.length_set] at this
        rw [List.getElem?_set_self (by rw [← r.len]; exact hl)]
        exact h5 j w e1 m1 (Ne.symm hj)
      · rw [List.getElem?_set_ne hk] at e2 ⊢
        exact r.ap j k w x e1 e2 m1 m2 ne
  lv := fun j w m e => by
    by_cases hj : i = j
    · subst hj
      have hl : i < σ.length := by
        have := (List.getElem?_eq_some_iff.mp e).1
        rwa [List.length_set] at this
      exact ⟨_, List.getElem?_set_self (by rw [r.len]; exact hl)⟩
    · rw [List.getElem?_set_ne hj] at e ⊢
      exact r.lv j w m e
theorem R.storeOwn {i : Nat} {us : List U} {vs : List V} {a : Addr} (r : R T c G ρ σ H) (hi : i ∈ c.mu) (h1 : G a = none) (h2 : c.H0 a = none ∨ c.da = some a) (h3 : H a = some (.lst vs)) (h4 : Reps T G us vs)
    (h5 : ∀ j u, ρ[j]? = some (some u) → j ∈ c.mu → j ≠ i → σ[j]? ≠ some (some (.ref a))) (h0 : c.da = none ∨ i ≠ 0) : R T c G (ρ.set i (some (.lst us))) (σ.set i (some (.ref a))) H :=
  r.storeOwnG hi h1 h2 ⟨vs, h3, h4⟩ h5 h0
/-- the list of a slot of its own is changed in its place -/
theorem R.mutG {i : Nat} {ow : U} {o1 : HO} {a : Addr} {u0 : U} (r : R T c G ρ σ H) (hi : i ∈ c.mu) (h0 : ρ[i]? = some (some u0)) (hs : σ[i]? = some (some (.ref a))) (h4 : OwnAt T G (upd H a o1) a ow) : R T c G (ρ.set i (some ow)) σ (upd H a o1) := by
  obtain ⟨a', e1, e2, e3, e4⟩ := r.ow i u0 h0 hi
  rw [hs] at e1
  cases e1
  have hl : i < ρ.length := (List.getElem?_eq_some_iff.mp h0).1
  have nea : ∀ {b : Addr} {o : HO}, G b = some o → b ≠ a := fun q => ne_of_none q e2
  have ta : ∀ p ∈ c.tb, p.1 ≠ a := e4.tne r.th
  refine ⟨fun b q => ?_, fun b o q => by rw [upd_ne (nea q)]; exact r.ex b o q, r.g0, r.nw, fun b o q d t => ?_, r.ng, (fun b o q => by
    obtain ⟨o', q'⟩ := r.dm b o q
    by_cases hb : b = a
    · subst hb
      exact ⟨_, upd_same⟩
    · exact ⟨o', by rw [upd_ne hb]; exact q'⟩), tabs_upd r.th ta (e4.code), fun b q => ?_, by rw [List.length_set, r.len], fun j w e m => ?_, fun j w e m => ?_, fun j k w x f1 f2 m1 m2 ne => ?_, fun j w m e => ?_⟩
  · obtain ⟨k1, k2, dl, k3⟩ := r.dk b q
    refine ⟨k1, k2, ?_⟩
    by_cases hi0 : i = 0
    · subst hi0
      exact ⟨_, List.getElem?_set_self hl⟩
    · rw [List.getElem?_set_ne hi0]
      exact ⟨dl, k3⟩
  · have hb : b ≠ a := by
      rintro rfl
      rcases e3 with z | z
      · rw [z] at q
        cases q
      · exact d z
    rw [upd_ne hb]
    exact r.fr b o q d t
  · by_cases hb : b = a
    · subst hb
      exact ⟨_, upd_same⟩
    · rw [upd_ne hb]
      exact r.dd b q
  · have hj : i ≠ j := fun z => m (z ▸ hi)
    rw [List.getElem?_set_ne hj] at e
    exact r.sh j w e m
  · by_cases hj : i = j
    · subst hj
      rw [List.getElem?_set_self hl] at e
      cases e
      exact ⟨a, hs, e2, e3, h4⟩
    · rw [List.getElem?_set_ne hj] at e
      obtain ⟨b, f1, f2, f3, f4⟩ := r.ow j w e m
      have hb : b ≠ a := by
        rintro rfl
        exact r.ap i j u0 w h0 e hi m hj (hs.trans f1.symm)
      exact ⟨b, f1, f2, f3, f4.mono (Ex.refl _) (upd_ne hb)⟩
  · have get : ∀ {l : Nat} {y : U}, (ρ.set i (some ow))[l]? = some (some y) → ∃ y', ρ[l]? = some (some y') := fun {l y} q => by
      by_cases hq : i = l
      · subst hq
        exact ⟨u0, h0⟩
      · rw [List.getElem?_set_ne hq] at q
        exact ⟨y, q⟩
    obtain ⟨w', g1⟩ := get f1
    obtain ⟨x', g2⟩ := get f2
    exact r.ap j k w' x' g1 g2 m1 m2 ne
  · obtain ⟨u, q⟩ := r.lv j w m e
    by_cases hj : i = j
    · subst hj
      exact ⟨_, List.getElem?_set_self hl⟩
    · rw [List.getElem?_set_ne hj]
      exact ⟨u, q⟩
theorem R.mut {i : Nat} {us : List U} {vs : List V} {a : Addr} {u0 : U} (r : R T c G ρ σ H) (hi : i ∈ c.mu) (h0 : ρ[i]? = some (some u0)) (hs : σ[i]? = some (some (.ref a))) (h4 : Reps T G us vs) : R T c G (ρ.set i (some (.lst us))) σ (upd H a (.lst vs)) :=
  r.mutG hi h0 hs ⟨vs, upd_same, h4⟩
theorem R.notOwn {a : Addr} (r : R T c G ρ σ H) (h : H a = none) : ∀ i ∈ c.mu, σ[i]? ≠ some (some (.ref a)) := fun i m e => by
  obtain ⟨u, q⟩ := r.lv i _ m e
  obtain ⟨b, e1, _, _, e4⟩ := r.ow i u q m
  rw [e] at e1
  cases e1
  obtain ⟨o, q2⟩ := e4.at
  rw [h] at q2
  cases q2
end

/-! ### how a body ends -/
structure Fin (T : Tab) (c : Cn) (G : Hp) (ρ : Sl) (H : Hp) : Prop where
  ex : Ex G H
  g0 : Ex c.G0 G
  nw : ∀ a o, c.H0 a = some o → c.G0 a = none → G a = none
  fr : ∀ a o, c.H0 a = some o → c.da ≠ some a → (∀ ps, o ≠ .tbl ps) → H a = some o
  ng : ∀ a ps, G a ≠ some (.tbl ps)
  dm : ∀ a o, c.H0 a = some o → ∃ o', H a = some o'
  th : LamX.Tabs c.tb H
  dk : ∀ a, c.da = some a → ∃ d0, ρ[0]? = some (some d0) ∧ OwnAt T G H a d0
theorem R.fin {T : Tab} {c : Cn} {G H : Hp} {ρ : Sl} {σ : L2.St} (r : R T c G ρ σ H) : Fin T c G ρ H where
  ex := r.ex
  g0 := r.g0
  nw := r.nw
  fr := r.fr
  ng := r.ng
  dm := r.dm
  th := r.th
  dk := fun a h => by
    obtain ⟨h1, h2, dl, h3⟩ := r.dk a h
    obtain ⟨b, e1, _, _, e4⟩ := r.ow 0 _ h3 h1
    rw [h2] at e1
    cases e1
    exact ⟨dl, h3, e4⟩
theorem Fin.to {T : Tab} {c : Cn} {mu : List Nat} {G H : Hp} {ρ : Sl} (f : Fin T (c.to mu) G ρ H) : Fin T c G ρ H := ⟨f.ex, f.g0, f.nw, f.fr, f.ng, f.dm, f.th, f.dk⟩
/-- what is told with an exception: within a try the whole state, else how the body ends -/
def XR (T : Tab) (c : Cn) (G : Hp) (ρ : Sl) (σ : L2.St) (H : Hp) : Prop := match c.tr with
  | true => R T c G ρ σ H
  | false => Fin T c G ρ H
theorem R.xr {T : Tab} {c : Cn} {G H : Hp} {ρ : Sl} {σ : L2.St} (r : R T c G ρ σ H) : XR T c G ρ σ H := by
  unfold XR
  split
  · exact r
  · exact r.fin

theorem R.fresh0 {T : Tab} {c : Cn} {G H : Hp} {ρ : Sl} {σ : L2.St} {a : Addr} (r : R T c G ρ σ H) (ha : H a = none) : c.H0 a = none ∧ c.da ≠ some a := by
  constructor
  · cases e : c.H0 a with
    | none => rfl
    | some o =>
      obtain ⟨o', q⟩ := r.dm a o e
      rw [ha] at q
      cases q
  · intro d
    obtain ⟨o', q⟩ := r.dd a d
    rw [ha] at q
    cases q
/-! ### the wishes -/
/-- how a result lies: by the known part, the heap, the slots -/
abbrev Rel (α β : Type) := Hp → Hp → Sl → L2.St → α → β → Prop
/-- a step of an expression: the known part grows, by what is new; what stood stands, but the slots' own lists -/
structure Stp (c : Cn) (σ : L2.St) (G H G' H' : Hp) : Prop where
  g : Ex G G'
  k : ∀ a o, H a = some o → (∀ i ∈ c.mu, σ[i]? ≠ some (some (.ref a))) → (∀ ps, o ≠ .tbl ps) → H' a = some o
  n : ∀ a o, H a = some o → G a = none → G' a = none
  d : ∀ a o, H a = some o → ∃ o', H' a = some o'
theorem Stp.refl {c : Cn} {σ : L2.St} {G H : Hp} : Stp c σ G H G H := ⟨Ex.refl _, fun _ _ h _ _ => h, fun _ _ _ h => h, fun _ o h => ⟨o, h⟩⟩
theorem Stp.trans {c : Cn} {σ : L2.St} {G H G1 H1 G2 H2 : Hp} (a : Stp c σ G H G1 H1) (b : Stp c σ G1 H1 G2 H2) : Stp c σ G H G2 H2 :=
  ⟨a.g.trans b.g, fun x o h m t => b.k x o (a.k x o h m t) m t, fun x o h z => by
    obtain ⟨o', h'⟩ := a.d x o h
    exact b.n x o' h' (a.n x o h z), fun x o h => by
    obtain ⟨o', h'⟩ := a.d x o h
    exact b.d x o' h'⟩
theorem Grow.stp {c : Cn} {σ : L2.St} {G H G' H' : Hp} (w : Grow G H G' H') : Stp c σ G H G' H' := ⟨w.g, fun a o h _ _ => w.h a o h, w.n, fun a o h => ⟨o, w.h a o h⟩⟩
def PQ (T : Tab) (c : Cn) (W : WX) {α β : Type} (rel : Rel α β) (G H : Hp) (σ : L2.St) (r : Rs α) (Q : β → Hp → Prop) : Prop := match r with
  | .ok u ρ' => ∀ v G' H', Stp c σ G H G' H' → R T c G' ρ' σ H' → rel G' H' ρ' σ u v → Q v H'
  | .exc C ρ' => ∀ G' H' d, Stp c σ G H G' H' → XR T c G' ρ' σ H' → T.mg C = some (.ref d) → W (.ref d) none σ H'
  | .stuck => False
def tq (T : Tab) (c : Cn) (W : WX) {α β : Type} (rel : Rel α β) (f : Sl → Rs α) : L2.St → Hp → (β → Hp → Prop) → Prop := fun σ H Q => ∃ G ρ, R T c G ρ σ H ∧ PQ T c W rel G H σ (f ρ) Q
abbrev relU (T : Tab) : Rel U V := fun G _ _ _ u v => Rep T G u v
abbrev relUs (T : Tab) : Rel (List U) (List V) := fun G _ _ _ us vs => Reps T G us vs
abbrev relB : Rel Bool Bool := fun _ _ _ _ a b => a = b
/-- a new list, known to none, new since Hs -/
def relF (T : Tab) (c : Cn) (Hs : Hp) : Rel U V := fun G H ρ σ u v => ∃ a, v = .ref a ∧ G a = none ∧ c.H0 a = none ∧ c.da ≠ some a ∧ OwnAt T G H a u ∧ Hs a = none ∧ ∀ j ∈ c.mu, σ[j]? ≠ some (some (.ref a))
def tqF (T : Tab) (c : Cn) (W : WX) (f : EF) : TE := fun σ H Q => ∃ G ρ, R T c G ρ σ H ∧ PQ T c W (relF T c H) G H σ (f ρ) Q
section
variable {T : Tab} {c : Cn} {W : WX} {α β γ δ : Type} {rel : Rel α β} {rel' : Rel γ δ} {G G1 H H1 : Hp} {σ : L2.St} {r : Rs α}
theorem PQ.mono {Q : β → Hp → Prop} (e : Stp c σ G H G1 H1) (h : PQ T c W rel G H σ r Q) : PQ T c W rel G1 H1 σ r Q := by
  cases r with
  | ok u ρ => exact fun v G' H' e' => h v G' H' (e.trans e')
  | exc C ρ => exact fun G' H' d e' => h G' H' d (e.trans e')
  | stuck => exact h
theorem PQ.imp {Q Q' : β → Hp → Prop} (h : PQ T c W rel G H σ r Q) (k : ∀ v H, Q v H → Q' v H) : PQ T c W rel G H σ r Q' := by
  cases r with
  | ok u ρ => exact fun v G' H' e' r' l => k _ _ (h v G' H' e' r' l)
  | exc C ρ => exact h
  | stuck => exact h
/-- a first step taken out -/
theorem PQ.bind {k : α → Sl → Rs γ} {Q : δ → Hp → Prop} (h : PQ T c W rel' G H σ (r.bind k) Q) :
    PQ T c W rel G H σ r fun x H1 => ∃ G1 ρ1 u, Stp c σ G H G1 H1 ∧ R T c G1 ρ1 σ H1 ∧ rel G1 H1 ρ1 σ u x ∧ PQ T c W rel' G1 H1 σ (k u ρ1) Q := by
  cases r with
  | ok u ρ => exact fun v G' H' e r' l => ⟨G', ρ, u, e, r', l, PQ.mono e h⟩
  | exc C ρ => exact h
  | stuck => exact h
end

/-! ### weaker readings -/
section
variable {X : Cx}
theorem PE.weak {e : Expr} {t t' : TE} (h : PE X e t) (w : ∀ σ H Q, t' σ H Q → t σ H Q) : PE X e t' := ⟨fun pins s σ H Q I q => h.run pins s σ H Q I (w _ _ _ q)⟩
theorem PT.weak {e : Expr} {t t' : TT} (h : PT X e t) (w : ∀ σ H Q, t' σ H Q → t σ H Q) : PT X e t' := ⟨fun pins s σ H Q I q => h.run pins s σ H Q I (w _ _ _ q)⟩
theorem PW.weak {e : Expr} {t t' : TT} (h : PW X e t) (w : ∀ σ H Q, t' σ H Q → t σ H Q) : PW X e t' := ⟨fun wh pins s σ H Q I q => h.run wh pins s σ H Q I (w _ _ _ q)⟩
theorem PTs.weak {e : List Expr} {t t' : TT} (h : PTs X e t) (w : ∀ σ H Q, t' σ H Q → t σ H Q) : PTs X e t' := ⟨fun pins s σ H Q I q => h.run pins s σ H Q I (w _ _ _ q)⟩
theorem PA.weak {e : List Expr} {t t' : TA} (h : PA X e t) (w : ∀ σ H Q, t' σ H Q → t σ H Q) : PA X e t' := ⟨fun pos pins s σ H Q I q => h.run pos pins s σ H Q I (w _ _ _ q)⟩
theorem PO.weak {e : Option Expr} {t t' : TO} (h : PO X e t) (w : ∀ σ H Q, t' σ H Q → t σ H Q) : PO X e t' := ⟨fun pins s σ H Q I q => h.run pins s σ H Q I (w _ _ _ q)⟩
theorem PS.weak {e : Stmt} {t t' : TS} (h : PS X e t) (w : ∀ D σ H, t' D σ H → t D σ H) : PS X e t' := ⟨fun pins s σ H D I q => h.run pins s σ H D I (w _ _ _ q)⟩
theorem PSs.weak {e : List Stmt} {t t' : TS} (h : PSs X e t) (w : ∀ D σ H, t' D σ H → t D σ H) : PSs X e t' := ⟨fun pins s σ H D I q => h.run pins s σ H D I (w _ _ _ q)⟩
theorem PI.weak {tg e : Expr} {t t' : TI} (h : PI X tg e t) (w : ∀ σ H Q, t' σ H Q → t σ H Q) : PI X tg e t' := ⟨fun pins s σ H Q I q => h.run pins s σ H Q I (w _ _ _ q)⟩
theorem PG.weak {tg : Expr} {t t' : TG} (h : PG X tg t) (w : ∀ v σ H Q, t' v σ H Q → t v σ H Q) : PG X tg t' := ⟨fun pins s σ H v u Q I r q => h.run pins s σ H v u Q I r (w _ _ _ _ q)⟩
end
abbrev Cx.T (X : Cx) : Tab := ⟨X.K, X.mg, X.prog, X.w⟩
/-- what a body's rules lean on -/
structure OkX (X : Cx) (CX : CXT) (W : WX) (k : Nat) : Prop where
  nd : X.N.Nodup
  calm : X.calm = true
  room : Room k X.A
  pa : ∀ σ, PassesAt CX X σ (WE W σ)
  own : PassesOwn (model X.prog X.w) X.A X.env X.xe
  tk : L2N.Takes X W

section
variable (X : Cx) (c : Cn) (W : WX)
def QE (e : Expr) (f : EF) : Prop := PE X e (tq (Cx.T X) c W (relU (Cx.T X)) f)
def QF (e : Expr) (f : EF) : Prop := PE X e (tqF (Cx.T X) c W f)
def QT (e : Expr) (f : BF) : Prop := PT X e (tq (Cx.T X) c W relB f)
def QW (e : Expr) (f : BF) : Prop := PW X e (tq (Cx.T X) c W relB f)
def QA (es : List Expr) (f : AF) : Prop := PA X es (tq (Cx.T X) c W (relUs (Cx.T X)) f)
end
end Q
/-! QOps: the operations on pure values -/
namespace Q
open PySem (Str)

/-! == -/
mutual
def eqvU : U → U → Bool
  | .non, .non => true
  | .bl a, .bl b => a == b
  | .bl a, .int j => (if a then 1 else 0) == j
  | .int i, .bl b => i == (if b then 1 else 0)
  | .int i, .int j => i == j
  | .str x, .str y => x == y
  | .lst xs, .lst ys => eqvUs xs ys
  | .tup xs, .tup ys => eqvUs xs ys
  | _, _ => false
def eqvUs : List U → List U → Bool
  | [], [] => true
  | x :: xs, y :: ys => eqvU x y && eqvUs xs ys
  | _, _ => false
end
mutual
/-- plain data -/
def plU : U → Bool
  | .non | .bl _ | .int _ => true
  | .str x => x.all (· < 0x110000)
  | .lst xs | .tup xs => plUs xs
  | _ => false
def plUs : List U → Bool
  | [] => true
  | x :: xs => plU x && plUs xs
end
mutual
def depU : U → Nat
  | .lst xs | .tup xs => depUs xs + 1
  | _ => 0
def depUs : List U → Nat
  | [] => 0
  | x :: xs => max (depU x) (depUs xs)
end
def okU (u : U) : Bool := plU u && decide (depU u ≤ 64)
def uEq (a b : U) : Option U := match a, b with
  | .str x, .str y => some (.bl (x == y))
  | _, _ => if okU a && okU b then some (.bl (eqvU a b)) else none
def uNe (a b : U) : Option U := match a, b with
  | .str x, .str y => some (.bl (!(x == y)))
  | _, _ => if okU a && okU b then some (.bl (!eqvU a b)) else none
/-! tables -/
def hkS : U → Bool
  | .int _ | .bl _ | .str _ => true
  | _ => false
/-- a key of a table: a tuple of numbers, truth values, texts -/
def hkU : U → Bool
  | .tup us => us.all hkS
  | _ => false
/-- what a table holds at a key (keys as Python compares them) -/
def dIdx : List U → List U → U → Option U
  | k :: ks, v :: vs, x => if eqvU k x then some v else dIdx ks vs x
  | _, _, _ => none
def dPut : List U → List U → U → U → List U × List U
  | k :: ks, v :: vs, x, y => if eqvU k x then (k :: ks, y :: vs) else (k :: (dPut ks vs x y).1, v :: (dPut ks vs x y).2)
  | _, _, x, y => ([x], [y])
def dIdxI : List Int → List U → Int → Option U
  | k :: ks, v :: vs, x => if k = x then some v else dIdxI ks vs x
  | _, _, _ => none
def dRepI : List Int → List U → Int → U → List U
  | k :: ks, v :: vs, x, y => (if k = x then y else v) :: dRepI ks vs x y
  | _, _, _, _ => []
def dPutI (ns : List Int) (us : List U) (n : Int) (y : U) : List Int × List U := if n ∈ ns then (ns, dRepI ns us n y) else (ns ++ [n], us ++ [y])
def uInB (a b : U) : Option Bool := match b with
  | .lst xs => if okU a && okU (.lst xs) then some (xs.any fun z => eqvU z a) else none
  | .tup xs => if okU a && okU (.tup xs) then some (xs.any fun z => eqvU z a) else none
  | .dct ks us => if hkU a then some (dIdx ks us a).isSome else none
  | .dci ns us => match a with
    | .int n => some (dIdxI ns us n).isSome
    | _ => none
  | _ => none
def uIn (a b : U) : Option U := (uInB a b).map .bl
def uNotIn (a b : U) : Option U := (uInB a b).map fun x => .bl (!x)
/-! arithmetic -/
def uAdd : U → U → Option U
  | .int i, .int j => some (.int (i + j))
  | .lst xs, .lst ys => if xs.length + ys.length ≤ 100000 then some (.lst (xs ++ ys)) else none
  | .tup xs, .tup ys => if xs.length + ys.length ≤ 100000 then some (.tup (xs ++ ys)) else none
  | .str x, .str y => if x.length + y.length ≤ 100000 then some (.str (x ++ y)) else none
  | _, _ => none
def uAddI : U → U → Option U
  | .int i, .int j => some (.int (i + j))
  | _, _ => none
def uSub : U → U → Option U
  | .int i, .int j => some (.int (i - j))
  | _, _ => none
def uMul : U → U → Option U
  | .int i, .int j => if (-(2 ^ 64) < i ∧ i < 2 ^ 64) ∨ (-(2 ^ 64) < j ∧ j < 2 ^ 64) then some (.int (i * j)) else none
  | _, _ => none
/-- a list times a number -/
def uRep : U → U → Option U
  | .lst xs, .int k => if k ≤ 100000 ∧ -100000 ≤ k ∧ xs.length * k.toNat ≤ 100000 then some (.lst (List.replicate k.toNat xs).flatten) else none
  | _, _ => none
def uMod : U → U → Option U
  | .int i, .int j => if 0 < j then some (.int (i % j)) else none
  | _, _ => none
def uFdiv : U → U → Option U
  | .int i, .int j => if 0 < j ∧ j < 1073741824 then some (.int (i / j)) else none
  | _, _ => none
def uPow : U → U → Option U
  | .int i, .int j => if 0 ≤ j ∧ j ≤ 1000000 ∧ i.natAbs < 2 ^ 64 then some (.int (i ^ j.toNat)) else none
  | _, _ => none
def uNeg : U → Option U
  | .int i => some (.int (-i))
  | _ => none
def uLtI : U → U → Option U
  | .int i, .int j => some (.bl (decide (i < j)))
  | _, _ => none
def uLeI : U → U → Option U
  | .int i, .int j => some (.bl (decide (i ≤ j)))
  | _, _ => none
def uGtI : U → U → Option U
  | .int i, .int j => some (.bl (decide (j < i)))
  | _, _ => none
def uGeI : U → U → Option U
  | .int i, .int j => some (.bl (decide (j ≤ i)))
  | _, _ => none
/-- is, is not, of truth values -/
def uIsB : U → U → Option U
  | .bl a, .bl b => some (.bl (decide (a = b)))
  | _, _ => none
def uNotB : U → U → Option U
  | .bl a, .bl b => some (.bl (!decide (a = b)))
  | _, _ => none
/-! subscripts -/
def atU {α : Type} (xs : List α) (i : Int) : Option α := if 0 ≤ i then xs[i.toNat]? else if -(xs.length : Int) ≤ i then xs[(i + xs.length).toNat]? else none
def uIx : U → U → Option U
  | .lst xs, .int i => atU xs i
  | .tup xs, .int i => atU xs i
  | .dct ks us, .tup xs => if hkU (.tup xs) then dIdx ks us (.tup xs) else none
  | .dci ns us, .int n => dIdxI ns us n
  | _, _ => none
/-- d.get(k, x) -/
def bGet : List U → Option U
  | [.dct ks us, .tup xs, x] => if hkU (.tup xs) then some ((dIdx ks us (.tup xs)).getD x) else none
  | [.dci ns us, .int n, x] => some ((dIdxI ns us n).getD x)
  | _ => none
def isTab : U → Bool
  | .dct _ _ | .dci _ _ => true
  | _ => false
def eGet (a b c : EF) : EF := fun ρ => (a ρ).bind fun d ρ1 => if isTab d then (b ρ1).bind fun y ρ2 => (c ρ2).bind fun z ρ3 => rs (bGet [d, y, z]) ρ3 else .stuck
/-- d.get(k, x), d the table in the slot i -/
def eGetM (i : Nat) (b c : EF) : EF := fun ρ => match ρ[i]? with
  | some (some d) => if isTab d then (b ρ).bind fun y ρ2 => (c ρ2).bind fun z ρ3 => match ρ3[i]? with
      | some (some d) => rs (bGet [d, y, z]) ρ3
      | _ => .stuck
    else .stuck
  | _ => .stuck
/-- d[k] = e, d the table in the slot i -/
def uPut : U → U → U → Option U
  | .dct ks us, .tup xs, y => if hkU (.tup xs) && decide (us.length ≤ 100000) then some (.dct (dPut ks us (.tup xs) y).1 (dPut ks us (.tup xs) y).2) else none
  | .dci ns us, .int n, y => if us.length ≤ 100000 then some (.dci (dPutI ns us n y).1 (dPutI ns us n y).2) else none
  | _, _, _ => none
def sDPut (i : Nat) (k e : EF) : SF := fun ρ => .of (e ρ) fun y ρ1 => match ρ1[i]? with
  | some (some _) => .of (k ρ1) fun j ρ2 => match ρ2[i]? with
    | some (some d) => match uPut d j y with
      | some d' => .next (ρ2.set i (some d'))
      | none => .stuck
    | _ => .stuck
  | _ => .stuck
/-- {k: v, ..} -/
def apr : List (EF × EF) → AF
  | [] => aNil
  | p :: r => aCons p.1 (aCons p.2 (apr r))
def dMkA : List U → List U × List U → Option (List U × List U)
  | [], acc => some acc
  | k :: v :: r, acc => if hkU k then dMkA r (dPut acc.1 acc.2 k v) else none
  | _, _ => none
def eDct (ps : List (EF × EF)) : EF := fun ρ => (apr ps ρ).bind fun us ρ1 => match dMkA us ([], []) with
  | some r => .ok (.dct r.1 r.2) ρ1
  | none => .stuck
def sxU (n d : Nat) : Option Int → Nat
  | none => d
  | some v => if v < 0 then (v + (n : Int)).toNat else min v.toNat n
def cutU {α : Type} (xs : List α) (lo hi : Option Int) : List α := (xs.drop (sxU xs.length 0 lo)).take (sxU xs.length xs.length hi - sxU xs.length 0 lo)
abbrev OF := Sl → Rs (Option Int)
def oNo : OF := fun ρ => .ok none ρ
def oSome (e : EF) : OF := fun ρ => (e ρ).bind fun x ρ1 => match x with
  | .int i => .ok (some i) ρ1
  | _ => .stuck
def uSl (x : U) (lo hi : Option Int) : Option U := match x with
  | .lst xs => some (.lst (cutU xs lo hi))
  | .tup xs => some (.tup (cutU xs lo hi))
  | _ => none
def eSl (a : EF) (lo hi : OF) : EF := fun ρ => (a ρ).bind fun x ρ1 => (lo ρ1).bind fun l ρ2 => (hi ρ2).bind fun h ρ3 => rs (uSl x l h) ρ3
/-- only lists -/
def lo (f : U → U → Option U) (x y : U) : Option U := match f x y with
  | some (.lst us) => some (.lst us)
  | _ => none
/-- x is None -/
def isNonU : U → Bool
  | .non => true
  | _ => false
def uIsN : U → U → Option U
  | a, .non => some (.bl (isNonU a))
  | _, _ => none
def uNotN : U → U → Option U
  | a, .non => some (.bl (!isNonU a))
  | _, _ => none
/-! order of alike values: numbers, texts, tuples of these -/
mutual
def likeU : U → U → Bool
  | .bl _, .bl _ => true
  | .int _, .int _ => true
  | .str x, .str y => x.all (· < 0x110000) && y.all (· < 0x110000)
  | .tup xs, .tup ys => likeUs xs ys
  | _, _ => false
def likeUs : List U → List U → Bool
  | x :: xs, y :: ys => likeU x y && likeUs xs ys
  | _, _ => true
end
def ltS : List Nat → List Nat → Bool
  | [], [] => false
  | [], _ :: _ => true
  | _ :: _, [] => false
  | x :: xs, y :: ys => if x = y then ltS xs ys else decide (x < y)
mutual
def ltU : U → U → Bool
  | .bl a, .bl b => !a && b
  | .int i, .int j => decide (i < j)
  | .str x, .str y => ltS x y
  | .tup xs, .tup ys => ltUs xs ys
  | _, _ => false
def ltUs : List U → List U → Bool
  | [], [] => false
  | [], _ :: _ => true
  | _ :: _, [] => false
  | x :: xs, y :: ys => if eqvU x y then ltUs xs ys else ltU x y
end
def uLt (a b : U) : Option U := match a, b with
  | .int i, .int j => some (.bl (decide (i < j)))
  | _, _ => if okU a && okU b && likeU a b then some (.bl (ltU a b)) else none
/-! built-ins -/
def bLen : List U → Option U
  | [.lst xs] => some (.int xs.length)
  | [.tup xs] => some (.int xs.length)
  | _ => none
def tyOf : U → Option String
  | .non => some "NoneType"
  | .bl _ => some "bool"
  | .int _ => some "int"
  | .str _ => some "str"
  | .tup _ => some "tuple"
  | .lst _ => some "list"
  | _ => none
/-- isinstance(x, T) for T one of int, bool, str, list, tuple -/
def bIsInst : List U → Option U
  | [x, .ty T] => (tyOf x).bind fun t => if ["int", "bool", "str", "list", "tuple"].contains T then some (.bl (t == T || (t == "bool" && T == "int"))) else none
  | _ => none
def blsOf : List U → Option (List Bool)
  | [] => some []
  | .bl b :: r => (blsOf r).map (b :: ·)
  | _ => none
def intsOf : List U → Option (List Int)
  | [] => some []
  | .int b :: r => (intsOf r).map (b :: ·)
  | _ => none
def bAll : List U → Option U
  | [.lst xs] => (blsOf xs).map fun bs => .bl (bs.all id)
  | _ => none
def bAny : List U → Option U
  | [.lst xs] => (blsOf xs).map fun bs => .bl (bs.any id)
  | _ => none
def bSum : List U → Option U
  | [.lst xs] => (intsOf xs).map fun ns => .int ns.sum
  | [.tup xs] => (intsOf xs).map fun ns => .int ns.sum
  | _ => none
def maxL : List Int → Int
  | [] => 0
  | x :: xs => xs.foldl (fun a y => if a < y then y else a) x
def minL : List Int → Int
  | [] => 0
  | x :: xs => xs.foldl (fun a y => if y < a then y else a) x
def bMax1 : List U → Option U
  | [.lst xs] => (intsOf xs).bind fun ns => if ns.length = 0 then none else some (.int (maxL ns))
  | [.tup xs] => (intsOf xs).bind fun ns => if ns.length = 0 then none else some (.int (maxL ns))
  | _ => none
def bMin1 : List U → Option U
  | [.lst xs] => (intsOf xs).bind fun ns => if ns.length = 0 then none else some (.int (minL ns))
  | [.tup xs] => (intsOf xs).bind fun ns => if ns.length = 0 then none else some (.int (minL ns))
  | _ => none
def bMax2 : List U → Option U
  | [.int i, .int j] => some (.int (if j > i then j else i))
  | _ => none
def bMin2 : List U → Option U
  | [.int i, .int j] => some (.int (if j < i then j else i))
  | _ => none
def bInt : List U → Option U
  | [.int i] => some (.int i)
  | [.bl b] => some (.int (if b then 1 else 0))
  | _ => none
def bList : List U → Option U
  | [.lst xs] => some (.lst xs)
  | [.tup xs] => some (.lst xs)
  | _ => none
def bTuple : List U → Option U
  | [.lst xs] => some (.tup xs)
  | [.tup xs] => some (.tup xs)
  | _ => none
/-! sorting -/
def lexL : List Int → List Int → Bool
  | [], [] => false
  | [], _ :: _ => true
  | _ :: _, [] => false
  | x :: xs, y :: ys => if x = y then lexL xs ys else decide (x < y)
def insB {α : Type} (lt : α → α → Bool) (x : α) : List α → List α
  | [] => [x]
  | y :: ys => if lt y x then y :: insB lt x ys else x :: y :: ys
def sortB {α : Type} (lt : α → α → Bool) : List α → List α
  | [] => []
  | x :: xs => insB lt x (sortB lt xs)
theorem insB_perm {α : Type} (lt : α → α → Bool) (x : α) : ∀ l : List α, (insB lt x l).Perm (x :: l)
  | [] => .refl _
  | y :: ys => by
    rw [insB]
    split
    · exact ((insB_perm lt x ys).cons y).trans (.swap x y ys)
    · exact .refl _
theorem sortB_perm {α : Type} (lt : α → α → Bool) : ∀ l : List α, (sortB lt l).Perm l
  | [] => .refl _
  | x :: xs => (insB_perm lt x _).trans ((sortB_perm lt xs).cons x)
theorem insB_sorted {α : Type} {lt : α → α → Bool} (as : ∀ a b, lt a b = true → lt b a = false) (tr : ∀ a b c, lt b a = false → lt c b = false → lt c a = false) (x : α) : ∀ l : List α, l.Pairwise (fun a b => lt b a = false) → (insB lt x l).Pairwise (fun a b => lt b a = false)
  | [], _ => List.pairwise_singleton _ _
  | y :: ys, h => by
    obtain ⟨h1, h2⟩ := List.pairwise_cons.mp h
    rw [insB]
    split
    · rename_i hl
      refine List.pairwise_cons.mpr ⟨fun z hz => ?_, insB_sorted as tr x ys h2⟩
      have hm := (insB_perm lt x ys).mem_iff.mp hz
      rcases List.mem_cons.mp hm with e | hm
      · subst e
        exact as _ _ hl
      · exact h1 z hm
    · rename_i hl
      have hl' : lt y x = false := by simpa using hl
      refine List.pairwise_cons.mpr ⟨fun z hz => ?_, h⟩
      rcases List.mem_cons.mp hz with e | hz
      · subst e
        exact hl'
      · exact tr _ _ _ hl' (h1 z hz)
theorem sortB_sorted {α : Type} {lt : α → α → Bool} (as : ∀ a b, lt a b = true → lt b a = false) (tr : ∀ a b c, lt b a = false → lt c b = false → lt c a = false) : ∀ l : List α, (sortB lt l).Pairwise (fun a b => lt b a = false)
  | [] => .nil
  | x :: xs => insB_sorted as tr x _ (sortB_sorted as tr xs)
abbrev sortI : List Int → List Int := sortB fun a b => decide (a < b)
def keysOf : List U → Option (List (List Int))
  | [] => some []
  | .tup xs :: r => (intsOf xs).bind fun ns => (keysOf r).map (ns :: ·)
  | _ => none
/-- sorted(xs): whole numbers; or tuples of whole numbers, the first of them empty -/
def bSorted : List U → Option U
  | [.lst xs] => match intsOf xs with
    | some ns => some (.lst ((sortI ns).map .int))
    | none => match keysOf xs with
      | some ([] :: ks) => some (.lst ((sortB lexL ([] :: ks)).map fun l => .tup (l.map .int)))
      | _ => none
  | _ => none
/-! min, sorted by the order of alike values -/
def minU (x : U) (xs : List U) : U := xs.foldl (fun a y => if ltU y a then y else a) x
def likeAllB (xs : List U) : Bool := xs.all fun a => xs.all fun b => likeU a b
def bMinA (as : List U) : Option U := match bMin1 as with
  | some z => some z
  | none => match as with
    | [.lst (x :: xs)] => if (x :: xs).all okU && likeAllB (x :: xs) then some (minU x xs) else none
    | _ => none
def neTup : U → Bool
  | .tup (_ :: _) => true
  | _ => false
def noTup : U → Bool
  | .int _ | .str _ | .bl _ => true
  | _ => false
def sortD (xs : List U) : Option U := if xs.all okU && likeAllB xs && (xs.all neTup || xs.all noTup) && decide (xs.length ≤ 100000) then some (.lst (sortB ltU xs)) else none
def bSortedA (as : List U) : Option U := match bSorted as with
  | some z => some z
  | none => match as with
    | [.lst xs] => sortD xs
    | [.dct ks _] => sortD ks
    | _ => none
/-! what is walked -/
def iSeq (e : EF) : AF := fun ρ => (e ρ).bind fun x ρ1 => match x with
  | .lst xs => .ok xs ρ1
  | .tup xs => .ok xs ρ1
  | _ => .stuck
def rangeU (lo : Int) : Nat → List U
  | 0 => []
  | n + 1 => .int lo :: rangeU (lo + 1) n
def iRange1 (as : AF) : AF := fun ρ => (as ρ).bind fun xs ρ1 => match xs with
  | [.int j] => if -(2 ^ 62) ≤ j ∧ j < 2 ^ 62 then .ok (rangeU 0 j.toNat) ρ1 else .stuck
  | _ => .stuck
def iRange2 (as : AF) : AF := fun ρ => (as ρ).bind fun xs ρ1 => match xs with
  | [.int i, .int j] => if -(2 ^ 62) ≤ i ∧ i < 2 ^ 62 ∧ -(2 ^ 62) ≤ j ∧ j < 2 ^ 62 then .ok (rangeU i (j - i).toNat) ρ1 else .stuck
  | _ => .stuck
/-- how many: range(i, j, c) -/
def rangeN (i j c : Int) : Option Nat :=
  if -(2 ^ 60) ≤ i ∧ i < 2 ^ 60 ∧ -(2 ^ 60) ≤ j ∧ j < 2 ^ 60 then
    if c = -1 then some (i - j).toNat else if 0 < c ∧ c ≤ 1000 then some (if i < j then ((j - i - 1) / c + 1).toNat else 0) else none
  else none
def rangeC (lo c : Int) : Nat → List U
  | 0 => []
  | n + 1 => .int lo :: rangeC (lo + c) c n
def iRange3 (as : AF) : AF := fun ρ => (as ρ).bind fun xs ρ1 => match xs with
  | [.int i, .int j, .int c] => match rangeN i j c with
    | some n => .ok (rangeC i c n) ρ1
    | none => .stuck
  | _ => .stuck
def rgArgs : List U → Option (Int × Int × Int)
  | [.int j] => some (0, j, 1)
  | [.int i, .int j] => some (i, j, 1)
  | [.int i, .int j, .int c] => some (i, j, c)
  | _ => none
def bRange (xs : List U) : Option (List U) := (rgArgs xs).bind fun r => (rangeN r.1 r.2.1 r.2.2).bind fun n => if n ≤ 100000 then some (rangeC r.1 r.2.2 n) else none
/-- list(range(..)), tuple(range(..)) -/
def eListRg (as : AF) : EF := fun ρ => (as ρ).bind fun xs ρ1 => match bRange xs with
  | some ys => .ok (.lst ys) ρ1
  | none => .stuck
def eTupRg (as : AF) : EF := fun ρ => (as ρ).bind fun xs ρ1 => match bRange xs with
  | some ys => .ok (.tup ys) ρ1
  | none => .stuck
def seqU : U → Option (List U)
  | .lst xs => some xs
  | .tup xs => some xs
  | _ => none
def zipU (xs ys : List U) : List U := List.zipWith (fun x y => .tup [x, y]) xs ys
def enumU (xs : List U) : List U := zipU (rangeU 0 xs.length) xs
/-- zip of two lists, of two tuples -/
def iZip (as : AF) : AF := fun ρ => (as ρ).bind fun xs ρ1 => match xs with
  | [.lst a, .lst b] => .ok (zipU a b) ρ1
  | [.tup a, .tup b] => .ok (zipU a b) ρ1
  | _ => .stuck
/-- zip of two sequences -/
def iZip2 (as : AF) : AF := fun ρ => (as ρ).bind fun xs ρ1 => match xs with
  | [a, b] => match seqU a, seqU b with
    | some us, some ws => .ok (zipU us ws) ρ1
    | _, _ => .stuck
  | _ => .stuck
/-- list(zip(t, u)) of two tuples -/
def eListZip (as : AF) : EF := fun ρ => (as ρ).bind fun xs ρ1 => match xs with
  | [.tup a, .tup b] => .ok (.lst (zipU a b)) ρ1
  | _ => .stuck
def iEnum (as : AF) : AF := fun ρ => (as ρ).bind fun xs ρ1 => match xs with
  | [.lst a] => .ok (enumU a) ρ1
  | [.tup a] => .ok (enumU a) ρ1
  | _ => .stuck
/-! a list of lists of numbers, marked by strokes (numbers_by_note) -/
def mark1 (rows : List (List Int)) (i : Nat) (n : Int) : List (List Int) := rows.set i (if n ∈ rows.getD i [] then rows.getD i [] else rows.getD i [] ++ [n])
def markN : Nat → Nat → Int → List (List Int) → List (List Int)
  | 0, _, _, rows => rows
  | k + 1, i, n, rows => markN k (i + 1) n (mark1 rows i n)
def nbnRun : List U → List (List Int) → Option (List (List Int))
  | [], rows => some rows
  | .tup [.int s, .int t, .int n, .int _] :: us, rows => if 0 ≤ s ∧ s ≤ t ∧ t ≤ rows.length then nbnRun us (markN (t - s).toNat s.toNat n rows) else none
  | _, _ => none
def sNbn (f v : Nat) (vs : List Nat) (it it2 : AF) : SF := fun ρ => .of (it ρ) fun us ρ1 => if us.length ≤ 100 then .of (it2 (wipeU ρ1 [v, f])) fun ts ρ2 => match nbnRun ts (List.replicate us.length []) with
    | some rows => if ts.length ≤ 40000 ∧ (f :: vs).all (fun a => decide (a < ρ2.length)) = true then .next ((wipeU ρ2 (f :: v :: vs)).set f (some (.lst (rows.map fun r => .lst (r.map .int))))) else .stuck
    | none => .stuck
  else .stuck
/-- x[k] += e: numbers, x the list in the slot i -/
def sAugIx (i : Nat) (k e : EF) : SF := fun ρ => match ρ[i]? with
  | some (some _) => .of (k ρ) fun j ρ1 => match ρ1[i]?, j with
    | some (some (.lst xs)), .int n => match (if 0 ≤ n then xs[n.toNat]? else none) with
      | some (.int m) => .of (e ρ1) fun y ρ2 => match ρ2[i]?, y with
        | some (some (.lst ys)), .int q => if n.toNat < ys.length then .next (ρ2.set i (some (.lst (ys.set n.toNat (.int (m + q)))))) else .stuck
        | _, _ => .stuck
      | _ => .stuck
    | _, _ => .stuck
  | _ => .stuck
/-- the rest of a body, that ends the def -/
def sEnd (f : SF) : SF := fun ρ => match f ρ with
  | .ret u ρ1 => .ret u ρ1
  | .exc C ρ1 => .exc C ρ1
  | _ => .stuck
def tBorrow (t : BF) : BF := fun ρ => match t ρ with
  | .ok b _ => .ok b ρ
  | _ => .stuck
end Q
set_option maxRecDepth 100000
set_option maxHeartbeats 1000000
/-! QExpr: the rules of expressions -/
namespace Q
open PySem PySem.Spec PyProof.Rows L2
open Evl (Ex)

section
variable {X : Cx} {c : Cn} {W : WX} {k : Nat} {pos : Pos}
/-! ### names, constants -/
theorem notIn {i : Nat} {l : List Nat} (h : l.contains i = false) : i ∉ l := fun m => by
  rw [List.contains_iff_mem.mpr m] at h
  cases h
theorem isIn {i : Nat} {l : List Nat} (h : l.contains i = true) : i ∈ l := List.contains_iff_mem.mp h
theorem tq_pure {T : Tab} {α β : Type} {rel : Rel α β} {f : Sl → Rs α} {u : α} {v : β} {σ : L2.St} {H : Hp} {Q : β → Hp → Prop} (hf : ∀ ρ, f ρ = .ok u ρ) (hr : ∀ G ρ, R T c G ρ σ H → rel G H ρ σ u v) (h : tq T c W rel f σ H Q) : Q v H := by
  obtain ⟨G, ρ, r, h⟩ := h
  rw [hf] at h
  exact h v G H Stp.refl r (hr G ρ r)
theorem qe_var (i : Nat) {x : Str} (hm : c.mu.contains i = false := by rfl) (hN : X.N[i]? = some x := by rfl) (hv : Vis X.env.scope x := by first | exact Or.inl rfl | exact Or.inr (Or.inl rfl) | exact Or.inr (Or.inr rfl)) (hd : (x == ("__debug__" : Str)) = false := by decide)
    (hcd : (x == ("__classdict__" : Str)) = false := by decide) : QE X c W (.Name x pos) (eV i) :=
  PE.weak (pe_var hN hv hd hcd) fun σ H Q ⟨G, ρ, r, h⟩ => by
    unfold eV at h
    split at h
    · rename_i u e
      obtain ⟨v, e1, e2⟩ := r.sh i u e (notIn hm)
      exact ⟨v, e1, h v G H Stp.refl r e2⟩
    · exact h.elim
theorem qe_c {e : Expr} {v : V} {u : U} (h : PE X e (tC v)) (hr : ∀ G, Rep (Cx.T X) G u v) : QE X c W e (eC u) := PE.weak h fun σ H Q q => tq_pure (fun _ => rfl) (fun G ρ _ => hr G) q
theorem qe_int {i : Int} {j : Nat} : QE X c W (.Constant (.int i) j pos) (eC (.int i)) := qe_c pe_int fun _ => rep_int.2 rfl
theorem qe_bl {b : Bool} {j : Nat} : QE X c W (.Constant (.bool b) j pos) (eC (.bl b)) := qe_c pe_bl fun _ => rep_bl.2 rfl
theorem qe_non {j : Nat} : QE X c W (.Constant .none j pos) (eC .non) := qe_c pe_non fun _ => rep_non.2 rfl
theorem qe_str {x : Str} {j : Nat} (y : List Nat) (h : x = ⟨y.toArray⟩ := by decide +kernel) : QE X c W (.Constant (.str x) j pos) (eC (.str y)) := qe_c pe_str fun _ => rep_str.2 (by rw [h])
/-- a whole number of the module -/
theorem qe_globI {x : Str} (i : Int) (hm : ∃ t, X.mg x = some (.int i t)) (hg : Gl X x := by rfl) (hd : (x == ("__debug__" : Str)) = false := by decide) : QE X c W (.Name x pos) (eC (.int i)) := by
  obtain ⟨t, hm⟩ := hm
  exact qe_c (pe_glob hg hm (v := .int i) ⟨t, rfl⟩ hd) fun _ => rep_int.2 rfl
/-- a def of the module, as a value -/
theorem qe_fn {x : Str} (hm : ∃ a, X.mg x = some (.ref a)) (hg : Gl X x := by rfl) (hd : (x == ("__debug__" : Str)) = false := by decide) : QE X c W (.Name x pos) (eC (.fn x)) := by
  obtain ⟨a, hm⟩ := hm
  exact qe_c (pe_glob hg hm (v := .ref a) rfl hd) fun _ => rep_fn.2 ⟨a, rfl, hm⟩
/-- a type's name, as a value -/
theorem qe_ty {x : Str} (n : String) (hm : X.mg x = none) (hv : bootBuiltins x = some (.type n)) (hg : Gl X x := by rfl) (hn : x ≠ "__name__" := by decide) (hd : (x == ("__debug__" : Str)) = false := by decide) : QE X c W (.Name x pos) (eC (.ty n)) :=
  qe_c (pe_bltn hg hm hv (v := .ty n) rfl hn hd) fun _ => rep_ty.2 rfl

/-! ### a new list is known from now on -/
theorem R.freezeF {T : Tab} {G H Hs : Hp} {ρ : Sl} {σ : L2.St} {u : U} {v : V} (r : R T c G ρ σ H) (h : relF T c Hs G H ρ σ u v) : ∃ a o, v = .ref a ∧ Hs a = none ∧ Ex G (upd G a o) ∧ R T c (upd G a o) ρ σ H ∧ Rep T (upd G a o) u v := by
  obtain ⟨a, rfl, h1, h2, h3, h5, hs, h6⟩ := h
  obtain ⟨o1, h4, hk⟩ := h5.known
  have ex : Ex G (upd G a o1) := Ex.new h1
  refine ⟨a, o1, rfl, hs, ex, ⟨r.dk, fun b o q => ?_, r.g0.trans ex, fun b o q z => ?_, r.fr, (fun b ps q => by
    by_cases hb : b = a
    · subst hb
      rw [upd_same] at q
      exact h5.not h4 ps (Option.some.inj q)
    · rw [upd_ne hb] at q
      exact r.ng b ps q), r.dm, r.th, r.dd, r.len, fun i w e m => ?_, fun i w e m => ?_, r.ap, r.lv⟩, hk _ ex upd_same⟩
  · by_cases hb : b = a
    · subst hb
      rw [upd_same] at q
      cases q
      exact h4
    · rw [upd_ne hb] at q
      exact r.ex b o q
  · have hb : b ≠ a := by
      rintro rfl
      rw [h2] at q
      cases q
    rw [upd_ne hb]
    exact r.nw b o q z
  · obtain ⟨x, e1, e2⟩ := r.sh i w e m
    exact ⟨x, e1, Rep.mono ex _ _ e2⟩
  · obtain ⟨b, e1, e2, e3, e4⟩ := r.ow i w e m
    have hb : b ≠ a := by
      rintro rfl
      exact h6 i m e1
    exact ⟨b, e1, by rw [upd_ne hb]; exact e2, e3, e4.mono ex rfl⟩
theorem PQ.freeze {T : Tab} {z : Rs U} {G H : Hp} {σ : L2.St} {Q : VK} (h : PQ T c W (relU T) G H σ z Q) : PQ T c W (relF T c H) G H σ z Q := by
  cases z with
  | ok u ρ' =>
    intro v G' H' e r' l
    obtain ⟨a, o1, rfl, ha, ex, r2, rp⟩ := r'.freezeF l
    refine h _ _ _ ⟨e.g.trans ex, e.k, fun b o q z => ?_, e.d⟩ r2 rp
    rw [upd_ne (ne_of_none q ha)]
    exact e.n b o q z
  | exc C ρ' => exact h
  | stuck => exact h
theorem qe_of {e : Expr} {f : EF} (h : QF X c W e f) : QE X c W e f := PE.weak h fun _ _ _ ⟨G, ρ, r, q⟩ => ⟨G, ρ, r, q.freeze⟩
/-- new since an earlier state -/
theorem PQ.since {T : Tab} {z : Rs U} {G H G1 H1 : Hp} {σ : L2.St} {Q : VK} (e : Stp c σ G H G1 H1) (h : PQ T c W (relF T c H) G1 H1 σ z Q) : PQ T c W (relF T c H1) G1 H1 σ z Q := by
  cases z with
  | ok u ρ' =>
    intro v G' H' e' r' ⟨a, h0, h2, h3, h4, h5, h7, h8⟩
    refine h v G' H' e' r' ⟨a, h0, h2, h3, h4, h5, ?_, h8⟩
    cases q : H a with
    | none => rfl
    | some o =>
      obtain ⟨o', q'⟩ := e.d a o q
      rw [h7] at q'
      cases q'
  | exc C ρ' => exact h
  | stuck => exact h

/-! ### what an operation gives -/
/-- a value that may stand in what was known, or new but no list -/
def nuS (T : Tab) (G H : Hp) (z : U) (Q : VK) : Prop := ∀ v G' H', Grow G H G' H' → Rep T G' z v → Q v H'
/-- a list is new -/
def nuN (T : Tab) (G H : Hp) (z : U) (Q : VK) : Prop := match z with
  | .lst us => ∀ a vs, H a = none → Reps T G us vs → Q (.ref a) (upd H a (.lst vs))
  | z => nuS T G H z Q
theorem nuS_of {T : Tab} {G H G0 : Hp} {ρ : Sl} {σ : L2.St} {z : U} {Q : VK} (r : R T c G ρ σ H) (h : PQ T c W (relU T) G H σ (.ok z ρ) Q) : nuS T G H z Q := fun v G' H' w q => h v G' H' w.stp (r.grow w) q
theorem relF_newG {T : Tab} {G H Hs : Hp} {ρ : Sl} {σ : L2.St} {u : U} {o1 : HO} {a : Addr} (r : R T c G ρ σ H) (ha : H a = none) (hr : OwnAt T G (upd H a o1) a u) (hs : ∀ b o, Hs b = some o → ∃ o', H b = some o') :
    R T c G ρ σ (upd H a o1) ∧ Stp c σ G H G (upd H a o1) ∧ relF T c Hs G (upd H a o1) ρ σ u (.ref a) := by
  have h0 : c.H0 a = none := (r.fresh0 ha).1
  have hd : c.da ≠ some a := fun d => by
    obtain ⟨o', q⟩ := r.dd a d
    rw [ha] at q
    cases q
  have hg : G a = none := Evl.fresh_back r.ex ha
  have ne : ∀ {b : Addr} {o : HO}, H b = some o → b ≠ a := fun q => ne_of_none q ha
  refine ⟨⟨r.dk, fun b o q => ?_, r.g0, r.nw, fun b o q d t => ?_, r.ng, (fun b o q => by
    obtain ⟨o', q'⟩ := r.dm b o q
    exact ⟨o', by rw [upd_ne (ne q')]; exact q'⟩), r.th.ext fun b o q => by rw [upd_ne (ne q)]; exact q, fun b q => ?_, r.len, r.sh, fun i w e m => ?_, r.ap, r.lv⟩, ⟨Ex.refl _, fun b o q _ _ => ?_, fun _ _ _ z => z, fun b o q => ⟨o, ?_⟩⟩, a, rfl, hg, h0, hd, hr, ?_, r.notOwn ha⟩
  · rw [upd_ne (ne (r.ex b o q))]
    exact r.ex b o q
  · rw [upd_ne (ne (r.fr b o q d t))]
    exact r.fr b o q d t
  · obtain ⟨o, q⟩ := r.dd b q
    exact ⟨o, by rw [upd_ne (ne q)]; exact q⟩
  · obtain ⟨b, e1, e2, e3, e4⟩ := r.ow i w e m
    obtain ⟨o, q⟩ := e4.at
    exact ⟨b, e1, e2, e3, e4.mono (Ex.refl _) (upd_ne (ne q))⟩
  · rw [upd_ne (ne q)]
    exact q
  · rw [upd_ne (ne q)]
    exact q
  · cases q : Hs a with
    | none => rfl
    | some o =>
      obtain ⟨o', q'⟩ := hs a o q
      rw [ha] at q'
      cases q'
theorem relF_new {T : Tab} {G H Hs : Hp} {ρ : Sl} {σ : L2.St} {us : List U} {vs : List V} {a : Addr} (r : R T c G ρ σ H) (ha : H a = none) (hr : Reps T G us vs) (hs : ∀ b o, Hs b = some o → ∃ o', H b = some o') :
    R T c G ρ σ (upd H a (.lst vs)) ∧ Stp c σ G H G (upd H a (.lst vs)) ∧ relF T c Hs G (upd H a (.lst vs)) ρ σ (.lst us) (.ref a) :=
  relF_newG r ha ⟨vs, upd_same, hr⟩ hs
theorem nuN_F {T : Tab} {G H Hs : Hp} {ρ : Sl} {σ : L2.St} {us : List U} {Q : VK} (r : R T c G ρ σ H) (hs : ∀ b o, Hs b = some o → ∃ o', H b = some o') (h : PQ T c W (relF T c Hs) G H σ (.ok (.lst us) ρ) Q) : nuN T G H (.lst us) Q := fun a vs ha hr =>
  let ⟨r2, st, l⟩ := relF_new r ha hr hs
  h _ G _ st r2 l
theorem nuN_S {T : Tab} {G H : Hp} {ρ : Sl} {σ : L2.St} {z : U} {Q : VK} (r : R T c G ρ σ H) (h : PQ T c W (relU T) G H σ (.ok z ρ) Q) : nuN T G H z Q := by
  cases z with
  | lst us =>
    intro a vs ha hr
    have gn := Grow.new (o := .lst vs) r.ex ha
    exact h _ (upd G a (.lst vs)) _ gn.stp (r.grow gn) (rep_lst.2 ⟨a, vs, rfl, .inl (.inl upd_same), Reps.mono gn.g _ _ hr⟩)
  | _ => exact fun v G' H' w q => h v G' H' w.stp (r.grow w) q

/-! ### operators -/
abbrev NU := Tab → Hp → Hp → U → VK → Prop
def r2 (nu : NU) (T : Tab) (op : U → U → Option U) : R2 := fun x y H Q => ∃ G u w z, Ex G H ∧ Rep T G u x ∧ Rep T G w y ∧ op u w = some z ∧ nu T G H z Q
def r1 (nu : NU) (T : Tab) (op : U → Option U) : V → Hp → VK → Prop := fun x H Q => ∃ G u z, Ex G H ∧ Rep T G u x ∧ op u = some z ∧ nu T G H z Q
theorem rs_ok {T : Tab} {rel : Rel U V} {G H : Hp} {σ : L2.St} {o : Option U} {ρ : Sl} {Q : VK} (h : PQ T c W rel G H σ (rs o ρ) Q) : ∃ z, o = some z ∧ PQ T c W rel G H σ (.ok z ρ) Q := by
  cases o with
  | none => exact h.elim
  | some z => exact ⟨z, rfl, h⟩
/-- two operands -/
theorem tq2 {nu : NU} {op : U → U → Option U} {fa fb : EF} {rel : Rel U V} {σ : L2.St} {H : Hp} {Q : VK}
    (hn : ∀ {G H : Hp} {ρ : Sl} {z : U}, R (Cx.T X) c G ρ σ H → PQ (Cx.T X) c W rel G H σ (.ok z ρ) Q → nu (Cx.T X) G H z Q) (h : tq (Cx.T X) c W rel (e2 op fa fb) σ H Q) :
    tOp (r2 nu (Cx.T X) op) (tq (Cx.T X) c W (relU (Cx.T X)) fa) (tq (Cx.T X) c W (relU (Cx.T X)) fb) σ H Q := by
  obtain ⟨G, ρ, r, h⟩ := h
  refine ⟨G, ρ, r, (PQ.bind (rel := relU (Cx.T X)) h).imp fun x H1 ⟨G1, ρ1, u, e1, r1, l1, h1⟩ => ?_⟩
  refine ⟨G1, ρ1, r1, (PQ.bind (rel := relU (Cx.T X)) h1).imp fun y H2 ⟨G2, ρ2, w, e2, r2, l2, h2⟩ => ?_⟩
  obtain ⟨z, hz, h3⟩ := rs_ok h2
  exact ⟨G2, u, w, z, r2.ex, Rep.mono e2.g _ _ l1, l2, hz, hn r2 h3⟩
theorem qe_bin {a b : Expr} {op : Operator} {f : U → U → Option U} {fa fb : EF} (ho : OpR X (binaryOp op) (r2 nuN (Cx.T X) f)) (ha : QE X c W a fa) (hb : QE X c W b fb) : QE X c W (.BinOp a op b pos) (e2 f fa fb) :=
  PE.weak (pe_op ho ha hb) fun _ _ _ q => tq2 nuN_S q
/-- .. whose value is a new list -/
theorem qf_bin {a b : Expr} {op : Operator} {f : U → U → Option U} {fa fb : EF} (ho : OpR X (binaryOp op) (r2 nuN (Cx.T X) f)) (ha : QE X c W a fa) (hb : QE X c W b fb) : QF X c W (.BinOp a op b pos) (e2 (lo f) fa fb) :=
  PE.weak (pe_op ho ha hb) fun σ H Q ⟨G, ρ, r, h⟩ => by
    refine ⟨G, ρ, r, (PQ.bind (rel := relU (Cx.T X)) h).imp fun x H1 ⟨G1, ρ1, u, e1, r1, l1, h1⟩ => ?_⟩
    refine ⟨G1, ρ1, r1, (PQ.bind (rel := relU (Cx.T X)) h1).imp fun y H2 ⟨G2, ρ2, w, e2, r2, l2, h2⟩ => ?_⟩
    obtain ⟨z, hz, h3⟩ := rs_ok h2
    unfold lo at hz
    split at hz
    · rename_i us e
      cases hz
      exact ⟨G2, u, w, _, r2.ex, Rep.mono e2.g _ _ l1, l2, e, nuN_F r2 (fun b o q => (e1.trans e2).d b o q) h3⟩
    · cases hz
theorem qe_un {a : Expr} {op : UnaryOp} {f : U → Option U} {fa : EF} (ho : UnR X (unaryOp op) (r1 nuN (Cx.T X) f)) (ha : QE X c W a fa) : QE X c W (.UnaryOp op a pos) (e1 f fa) :=
  PE.weak (pe_un ho ha) fun σ H Q ⟨G, ρ, r, h⟩ => by
    refine ⟨G, ρ, r, (PQ.bind (rel := relU (Cx.T X)) h).imp fun x H1 ⟨G1, ρ1, u, e1, r1, l1, h1⟩ => ?_⟩
    obtain ⟨z, hz, h3⟩ := rs_ok h1
    exact ⟨G1, u, z, r1.ex, l1, hz, nuN_S r1 h3⟩
theorem qe_cmp {a b : Expr} {op : CmpOp} {f : U → U → Option U} {fa fb : EF} (ho : OpR X (compareOp op) (r2 nuS (Cx.T X) f)) (ha : QE X c W a fa) (hb : QE X c W b fb) (hm : behindInMarks op b = false := by first | exact nomark _ | rfl) : QE X c W (.Compare a [op] [b] pos) (e2 f fa fb) :=
  PE.weak (pe_cmpR ho ha hb hm) fun _ _ _ q => tq2 (fun r h => nuS_of (G0 := c.G0) r h) q
/-- a truth value as a test -/
theorem tq_test {T : Tab} {f : EF} {σ : L2.St} {H : Hp} {Q : Bool → Hp → Prop} (h : tq T c W relB (tB f) σ H Q) : tq T c W (relU T) f σ H fun x H1 => ∃ b, x = .bl b ∧ Q b H1 := by
  obtain ⟨G, ρ, r, h⟩ := h
  refine ⟨G, ρ, r, (PQ.bind (rel := relU T) h).imp fun x H1 ⟨G1, ρ1, u, e1, r1, l1, h1⟩ => ?_⟩
  cases u with
  | bl b =>
    have l2 : x = .bl b := rep_bl.1 l1
    exact ⟨b, l2, h1 b G1 H1 Stp.refl r1 rfl⟩
  | _ => exact h1.elim
theorem qt_cmp {a b : Expr} {op : CmpOp} {f : U → U → Option U} {fa fb : EF} (ho : OpR X (compareOp op) (r2 nuS (Cx.T X) f)) (ha : QE X c W a fa) (hb : QE X c W b fb) (hm : behindInMarks op b = false := by first | exact nomark _ | rfl) : QT X c W (.Compare a [op] [b] pos) (tB (e2 f fa fb)) :=
  PT.weak (pt_cmpR ho ha hb hm) fun σ H Q q => tq2 (fun r h => nuS_of (G0 := c.G0) r h) (tq_test q)
/-- any other truth value as a test -/
theorem qt_val {e : Expr} {f : EF} (h : QE X c W e f) (he : ∀ whole, isTrue e X.env whole = (do let v ← whole; standAt e.pos; holding [v] (truthy v)) := by intro _; rfl) : QT X c W e (tB f) :=
  PT.weak (pt_val h he) fun σ H Q q => by
    show tq _ _ _ _ _ _ _ _
    exact tq_test q
/-- a op b op' c -/
theorem tqC {f f' : U → U → Option U} {fa fb fc : EF} {σ : L2.St} {H : Hp} {Q : VK} (h : tq (Cx.T X) c W (relU (Cx.T X)) (eChain f f' fa fb fc) σ H Q) :
    tChain (r2 nuS (Cx.T X) f) (r2 nuS (Cx.T X) f') (tq (Cx.T X) c W (relU (Cx.T X)) fa) (tq (Cx.T X) c W (relU (Cx.T X)) fb) (tq (Cx.T X) c W (relU (Cx.T X)) fc) σ H Q := by
  obtain ⟨G, ρ, r, h⟩ := h
  refine ⟨G, ρ, r, (PQ.bind (rel := relU (Cx.T X)) h).imp fun x H1 ⟨G1, ρ1, u, e1, r1, l1, h1⟩ => ?_⟩
  refine ⟨G1, ρ1, r1, (PQ.bind (rel := relU (Cx.T X)) h1).imp fun y H2 ⟨G2, ρ2, w, e2, r2, l2, h2⟩ => ?_⟩
  split at h2
  · rename_i hz
    refine ⟨G2, u, w, _, r2.ex, Rep.mono e2.g _ _ l1, l2, hz, fun v G' H' gw rv => ?_⟩
    have rv' : v = .bl true := rep_bl.1 rv
    subst rv'
    refine ⟨true, rfl, ?_⟩
    show tq _ _ _ _ _ _ _ _
    refine ⟨G', ρ2, r2.grow gw, (PQ.bind (rel := relU (Cx.T X)) (PQ.mono gw.stp h2)).imp fun v3 H3 ⟨G3, ρ3, x3, e3, r3, l3, h3⟩ => ?_⟩
    obtain ⟨z, hz', h4⟩ := rs_ok h3
    exact ⟨G3, w, x3, z, r3.ex, Rep.mono (gw.g.trans e3.g) _ _ l2, l3, hz', nuS_of (G0 := c.G0) r3 h4⟩
  · rename_i hz
    refine ⟨G2, u, w, _, r2.ex, Rep.mono e2.g _ _ l1, l2, hz, fun v G' H' gw rv => ?_⟩
    have rv' : v = .bl false := rep_bl.1 rv
    subst rv'
    refine ⟨false, rfl, ?_⟩
    exact h2 _ _ _ gw.stp (r2.grow gw) (rep_bl.2 rfl)
  · exact h2.elim
theorem qe_chain {a b d : Expr} {op op' : CmpOp} {f f' : U → U → Option U} {fa fb fd : EF} (ho : OpR X (compareOp op) (r2 nuS (Cx.T X) f)) (ho' : OpR X (compareOp op') (r2 nuS (Cx.T X) f')) (ha : QE X c W a fa) (hb : QE X c W b fb) (hd : QE X c W d fd)
    (hm : lastMarks [op, op'] [b, d] = false := by with_unfolding_all rfl) : QE X c W (.Compare a [op, op'] [b, d] pos) (eChain f f' fa fb fd) := PE.weak (pe_chain ho ho' ha hb hd hm) fun _ _ _ q => tqC q
theorem qt_chain {a b d : Expr} {op op' : CmpOp} {f f' : U → U → Option U} {fa fb fd : EF} (ho : OpR X (compareOp op) (r2 nuS (Cx.T X) f)) (ho' : OpR X (compareOp op') (r2 nuS (Cx.T X) f')) (ha : QE X c W a fa) (hb : QE X c W b fb) (hd : QE X c W d fd)
    (hm : lastMarks [op, op'] [b, d] = false := by with_unfolding_all rfl) : QT X c W (.Compare a [op, op'] [b, d] pos) (tB (eChain f f' fa fb fd)) := PT.weak (pt_chain ho ho' ha hb hd hm) fun _ _ _ q => tqC (tq_test q)
/-! ### and, or, not, if -/
variable {a b : Expr} {rest : List Expr} {fa fb : EF} {ta tb : BF}
theorem qe_one {op : BoolOp} (h : QE X c W a fa) : QE X c W (.BoolOp op [a] pos) fa := pe_one h
theorem qe_and (ha : QE X c W a fa) (hb : QE X c W (.BoolOp .And (b :: rest) pos) fb) : QE X c W (.BoolOp .And (a :: b :: rest) pos) (eAnd fa fb) :=
  PE.weak (pe_and ha hb) fun σ H Q ⟨G, ρ, r, h⟩ => by
    refine ⟨G, ρ, r, (PQ.bind (rel := relU (Cx.T X)) h).imp fun x H1 ⟨G1, ρ1, u, e1, r1, l1, h1⟩ => ?_⟩
    cases u with
    | bl b =>
      have l2 : x = .bl b := rep_bl.1 l1
      subst l2
      cases b with
      | true => exact ⟨true, rfl, (⟨G1, ρ1, r1, h1⟩ : tq _ _ _ _ _ _ _ _)⟩
      | false => exact ⟨false, rfl, h1 _ G1 H1 Stp.refl r1 l1⟩
    | _ => exact h1.elim
theorem qe_or (ha : QE X c W a fa) (hb : QE X c W (.BoolOp .Or (b :: rest) pos) fb) : QE X c W (.BoolOp .Or (a :: b :: rest) pos) (eOr fa fb) :=
  PE.weak (pe_or ha hb) fun σ H Q ⟨G, ρ, r, h⟩ => by
    refine ⟨G, ρ, r, (PQ.bind (rel := relU (Cx.T X)) h).imp fun x H1 ⟨G1, ρ1, u, e1, r1, l1, h1⟩ => ?_⟩
    cases u with
    | bl b =>
      have l2 : x = .bl b := rep_bl.1 l1
      subst l2
      cases b with
      | true => exact ⟨true, rfl, h1 _ G1 H1 Stp.refl r1 l1⟩
      | false => exact ⟨false, rfl, (⟨G1, ρ1, r1, h1⟩ : tq _ _ _ _ _ _ _ _)⟩
    | _ => exact h1.elim
theorem qe_not (ha : QE X c W a fa) : QE X c W (.UnaryOp .Not a pos) (eNot fa) :=
  PE.weak (pe_not ha) fun σ H Q ⟨G, ρ, r, h⟩ => by
    refine ⟨G, ρ, r, (PQ.bind (rel := relU (Cx.T X)) h).imp fun x H1 ⟨G1, ρ1, u, e1, r1, l1, h1⟩ => ?_⟩
    cases u with
    | bl b =>
      have l2 : x = .bl b := rep_bl.1 l1
      exact ⟨b, l2, h1 _ G1 H1 Stp.refl r1 (rep_bl.2 rfl)⟩
    | _ => exact h1.elim
theorem qw_and1 (ha : QT X c W a ta) : QW X c W (.BoolOp .And [a] pos) ta := pw_and1 ha
theorem qw_or1 (ha : QT X c W a ta) : QW X c W (.BoolOp .Or [a] pos) ta := pw_or1 ha
theorem qw_and (ha : QT X c W a ta) (hb : QW X c W (.BoolOp .And (b :: rest) pos) tb) : QW X c W (.BoolOp .And (a :: b :: rest) pos) (tAnd ta tb) :=
  PW.weak (pw_and ha hb) fun σ H Q ⟨G, ρ, r, h⟩ => by
    refine ⟨G, ρ, r, (PQ.bind (rel := relB) h).imp fun x H1 ⟨G1, ρ1, u, e1, r1, l1, h1⟩ => ?_⟩
    subst l1
    cases u with
    | true => exact (⟨G1, ρ1, r1, h1⟩ : tq _ _ _ _ _ _ _ _)
    | false => exact h1 false G1 H1 Stp.refl r1 rfl
theorem qw_or (ha : QT X c W a ta) (hb : QW X c W (.BoolOp .Or (b :: rest) pos) tb) : QW X c W (.BoolOp .Or (a :: b :: rest) pos) (tOr ta tb) :=
  PW.weak (pw_or ha hb) fun σ H Q ⟨G, ρ, r, h⟩ => by
    refine ⟨G, ρ, r, (PQ.bind (rel := relB) h).imp fun x H1 ⟨G1, ρ1, u, e1, r1, l1, h1⟩ => ?_⟩
    subst l1
    cases u with
    | true => exact h1 true G1 H1 Stp.refl r1 rfl
    | false => exact (⟨G1, ρ1, r1, h1⟩ : tq _ _ _ _ _ _ _ _)
theorem qt_of {e : Expr} (h : QW X c W e ta) : QT X c W e ta := h.pt
theorem qt_not (ha : QT X c W a ta) : QT X c W (.UnaryOp .Not a pos) (tNot ta) :=
  PT.weak (pt_not ha) fun σ H Q ⟨G, ρ, r, h⟩ => by
    refine ⟨G, ρ, r, (PQ.bind (rel := relB) h).imp fun x H1 ⟨G1, ρ1, u, e1, r1, l1, h1⟩ => ?_⟩
    subst l1
    exact h1 _ G1 H1 Stp.refl r1 rfl
theorem qe_if {d : Expr} (hc : QT X c W d ta) (ha : QE X c W a fa) (hb : QE X c W b fb) : QE X c W (.IfExp d a b pos) (eIf ta fa fb) :=
  PE.weak (pe_ifExp hc ha hb) fun σ H Q ⟨G, ρ, r, h⟩ => by
    refine ⟨G, ρ, r, (PQ.bind (rel := relB) h).imp fun x H1 ⟨G1, ρ1, u, e1, r1, l1, h1⟩ => ?_⟩
    subst l1
    cases u with
    | true => exact (⟨G1, ρ1, r1, h1⟩ : tq _ _ _ _ _ _ _ _)
    | false => exact (⟨G1, ρ1, r1, h1⟩ : tq _ _ _ _ _ _ _ _)
/-! ### argument lists, displays -/
variable {es : List Expr} {as : AF}
theorem qa_nil : QA X c W [] aNil := PA.weak pa_nil fun σ H Q q => tq_pure (fun _ => rfl) (fun G ρ _ => .nil) q
theorem qa_cons (ha : QE X c W a fa) (hr : QA X c W es as) (hs : starEach (a :: es) X.env = (false, eval a X.env) :: starEach es X.env := by rfl) : QA X c W (a :: es) (aCons fa as) :=
  PA.weak (pa_cons ha hr hs) fun σ H Q ⟨G, ρ, r, h⟩ => by
    refine ⟨G, ρ, r, (PQ.bind (rel := relU (Cx.T X)) h).imp fun x H1 ⟨G1, ρ1, u, e1, r1, l1, h1⟩ => ?_⟩
    refine ⟨G1, ρ1, r1, (PQ.bind (rel := relUs (Cx.T X)) h1).imp fun y H2 ⟨G2, ρ2, w, e2, r2, l2, h2⟩ => ?_⟩
    exact h2 _ G2 H2 Stp.refl r2 (.cons (Rep.mono e2.g _ _ l1) l2)
theorem small100 {n : Nat} (h : n ≤ 100000) : n ≤ sizeLine := Nat.le_trans h (by decide)
theorem qe_tup {j : Nat} (h : QA X c W es as) : QE X c W (.Tuple es j pos) (eTup as) :=
  PE.weak (pe_tup h) fun σ H Q ⟨G, ρ, r, h⟩ => by
    refine ⟨G, ρ, r, (PQ.bind (rel := relUs (Cx.T X)) h).imp fun xs H1 ⟨G1, ρ1, us, e1, r1, l1, h1⟩ => ?_⟩
    split at h1
    · rename_i hl
      rw [l1.length] at hl
      refine ⟨small100 hl, fun p hp => ?_⟩
      have gn := Grow.new (o := .tup xs) r1.ex hp
      exact h1 _ _ _ gn.stp (r1.grow gn) (rep_tup.2 ⟨p, xs, rfl, .inl (.inl upd_same), Reps.mono gn.g _ _ l1⟩)
    · exact h1.elim
theorem qf_lst (h : QA X c W es as) : QF X c W (.List es pos) (eLst as) :=
  PE.weak (pe_lst h) fun σ H Q ⟨G, ρ, r, h⟩ => by
    refine ⟨G, ρ, r, (PQ.bind (rel := relUs (Cx.T X)) h).imp fun xs H1 ⟨G1, ρ1, us, e1, r1, l1, h1⟩ => ?_⟩
    split at h1
    · rename_i hl
      rw [l1.length] at hl
      refine ⟨small100 hl, fun p hp => ?_⟩
      obtain ⟨r2, st, l2⟩ := relF_new r1 hp l1 (fun b o q => e1.d b o q)
      exact h1 _ G1 _ st r2 l2
    · exact h1.elim
theorem qe_lst (h : QA X c W es as) : QE X c W (.List es pos) (eLst as) := qe_of (qf_lst h)
/-! ### built-ins -/
def rc (nu : NU) (T : Tab) (op : List U → Option U) : List V → Hp → VK → Prop := fun xs H Q => ∃ G us z, Ex G H ∧ Reps T G us xs ∧ op us = some z ∧ nu T G H z Q
theorem tqB {nu : NU} {op : List U → Option U} {rel : Rel U V} {σ : L2.St} {H : Hp} {Q : VK} (hn : ∀ {G H : Hp} {ρ : Sl} {z : U}, R (Cx.T X) c G ρ σ H → PQ (Cx.T X) c W rel G H σ (.ok z ρ) Q → nu (Cx.T X) G H z Q)
    (h : tq (Cx.T X) c W rel (eB op as) σ H Q) : tCB (rc nu (Cx.T X) op) (tq (Cx.T X) c W (relUs (Cx.T X)) as) σ H Q := by
  obtain ⟨G, ρ, r, h⟩ := h
  refine ⟨G, ρ, r, (PQ.bind (rel := relUs (Cx.T X)) h).imp fun x H1 ⟨G1, ρ1, u, e1, r1, l1, h1⟩ => ?_⟩
  obtain ⟨z, hz, h3⟩ := rs_ok h1
  exact ⟨G1, u, z, r1.ex, l1, hz, hn r1 h3⟩
variable {x : Str} {p : Pos} {id : String} {op : List U → Option U}
theorem qe_B (hc : CallR X (.builtin id) (rc nuS (Cx.T X) op)) (hm : X.mg x = none) (hv : bootBuiltins x = some (.builtin id)) (ha : QA X c W (a :: es) as) (hg : Gl X x := by rfl) (hn : x ≠ "__name__" := by decide) (hdb : (x == ("__debug__" : Str)) = false := by decide)
    (he : starEach (a :: es) X.env = (false, eval a X.env) :: starEach es X.env := by rfl) (hpl : (backTo pos (starEach es X.env)).any (·.1) = false := by rfl) : QE X c W (.Call (.Name x p) (a :: es) [] pos) (eB op as) :=
  PE.weak (pe_callB hc hg hm hv ha hn hdb he hpl) fun _ _ _ q => tqB (fun r h => nuS_of (G0 := c.G0) r h) q
theorem qe_Ty (hc : CallR X (.type id) (rc nuN (Cx.T X) op)) (hm : X.mg x = none) (hv : bootBuiltins x = some (.type id)) (ha : QA X c W (a :: es) as) (hg : Gl X x := by rfl) (hn : x ≠ "__name__" := by decide) (hdb : (x == ("__debug__" : Str)) = false := by decide)
    (he : starEach (a :: es) X.env = (false, eval a X.env) :: starEach es X.env := by rfl) (hpl : (backTo pos (starEach es X.env)).any (·.1) = false := by rfl) : QE X c W (.Call (.Name x p) (a :: es) [] pos) (eB op as) :=
  PE.weak (pe_callTy hc hg hm hv ha hn hdb he hpl) fun _ _ _ q => tqB nuN_S q
/-- a built-in that gives a new list: sorted -/
theorem qe_BN (hc : CallR X (.builtin id) (rc nuN (Cx.T X) op)) (hm : X.mg x = none) (hv : bootBuiltins x = some (.builtin id)) (ha : QA X c W (a :: es) as) (hg : Gl X x := by rfl) (hn : x ≠ "__name__" := by decide) (hdb : (x == ("__debug__" : Str)) = false := by decide)
    (he : starEach (a :: es) X.env = (false, eval a X.env) :: starEach es X.env := by rfl) (hpl : (backTo pos (starEach es X.env)).any (·.1) = false := by rfl) : QE X c W (.Call (.Name x p) (a :: es) [] pos) (eB op as) :=
  PE.weak (pe_callB hc hg hm hv ha hn hdb he hpl) fun _ _ _ q => tqB nuN_S q
end
end Q
set_option maxRecDepth 100000
set_option maxHeartbeats 1000000
/-! QTab: tables whose keys are tuples of numbers, truth values, texts; tables whose keys are numbers -/
namespace Q
open PySem PySem.Spec PyProof.Rows L2
open Evl (Ex)

/-! ### keys -/
theorem str_mk (x y : List Nat) : ((⟨x.toArray⟩ : Str) = ⟨y.toArray⟩) ↔ x = y := ⟨fun h => by injection h with h; injection h, fun h => by rw [h]⟩
theorem nkS_eqv {a b : U} {i j : NestedKey} (ha : nkS a = some i) (hb : nkS b = some j) : eqvU a b = decide (i = j) := by
  have num : ∀ x y : Int, decide (NestedKey.num x = .num y) = (x == y) := fun x y => by
    by_cases h : x = y
    · subst h
      simp
    · rw [decide_eq_false (fun e => h (by injection e)), beq_eq_false_iff_ne.mpr h]
  cases a <;> simp only [nkS, Option.some.injEq, reduceCtorEq] at ha <;> subst ha <;> cases b <;> simp only [nkS, Option.some.injEq, reduceCtorEq] at hb <;> subst hb <;> simp only [eqvU]
  · rename_i x y
    rw [num]
    cases x <;> cases y <;> rfl
  · rw [num]
  · exact (decide_eq_false (by intro e; cases e)).symm
  · rw [num]
  · rw [num]
  · exact (decide_eq_false (by intro e; cases e)).symm
  · exact (decide_eq_false (by intro e; cases e)).symm
  · exact (decide_eq_false (by intro e; cases e)).symm
  · rename_i x y
    by_cases h : x = y
    · subst h
      simp
    · rw [beq_eq_false_iff_ne.mpr h, decide_eq_false]
      intro e
      injection e with e
      exact h ((str_mk x y).1 e)
theorem nkL_eqv : ∀ {xs ys : List U} {is js : List NestedKey}, nkL xs = some is → nkL ys = some js → eqvUs xs ys = decide (is = js)
  | [], [], is, js, h1, h2 => by
    cases h1
    cases h2
    rfl
  | [], y :: ys, is, js, h1, h2 => by
    rw [nkL] at h2
    cases h1
    split at h2
    · cases h2
      rfl
    · cases h2
  | x :: xs, [], is, js, h1, h2 => by
    rw [nkL] at h1
    cases h2
    split at h1
    · cases h1
      rfl
    · cases h1
  | x :: xs, y :: ys, is, js, h1, h2 => by
    rw [nkL] at h1 h2
    split at h1
    · rename_i k ks e1 e2
      cases h1
      split at h2
      · rename_i k' ks' e3 e4
        cases h2
        rw [eqvUs, nkS_eqv e1 e3, nkL_eqv e2 e4]
        by_cases c : k = k' <;> by_cases d : ks = ks' <;> simp [c, d]
      · cases h2
    · cases h1
theorem nkU_eqv {a b : U} {i j : NestedKey} (ha : nkU a = some i) (hb : nkU b = some j) : eqvU a b = decide (i = j) := by
  cases a <;> simp only [nkU, reduceCtorEq] at ha
  cases b <;> simp only [nkU, reduceCtorEq] at hb
  obtain ⟨is, e1, rfl⟩ := Option.map_eq_some_iff.mp ha
  obtain ⟨js, e2, rfl⟩ := Option.map_eq_some_iff.mp hb
  rw [eqvU, nkL_eqv e1 e2]
  by_cases c : is = js
  · subst c
    simp
  · rw [decide_eq_false c, decide_eq_false]
    intro e
    injection e with e
    exact c e
theorem hkL_nk : ∀ {us : List U}, us.all hkS = true → ∃ ks, nkL us = some ks
  | [], _ => ⟨[], rfl⟩
  | u :: us, h => by
    rw [List.all_cons, Bool.and_eq_true] at h
    obtain ⟨ks, e⟩ := hkL_nk h.2
    have : ∃ k, nkS u = some k := by
      cases u <;> simp only [hkS, Bool.false_eq_true, and_true, false_and] at h <;> exact ⟨_, rfl⟩
    obtain ⟨k, e2⟩ := this
    exact ⟨k :: ks, by rw [nkL, e2, e]⟩
theorem hkU_nk {u : U} (h : hkU u = true) : ∃ us k, u = .tup us ∧ nkU u = some k := by
  cases u <;> simp only [hkU, Bool.false_eq_true] at h
  obtain ⟨ks, e⟩ := hkL_nk h
  exact ⟨_, .tup ks, rfl, by rw [nkU, e]; rfl⟩
theorem nkS_depth {u : U} {k : NestedKey} (h : nkS u = some k) : k.depth = 0 := by
  cases u <;> simp only [nkS, Option.some.injEq, reduceCtorEq] at h <;> subst h <;> rfl
theorem nkL_depth : ∀ {us : List U} {ks : List NestedKey}, nkL us = some ks → NestedKey.depthAll ks = 0
  | [], ks, h => by
    cases h
    rfl
  | u :: us, ks, h => by
    rw [nkL] at h
    split at h
    · rename_i k ks' e1 e2
      cases h
      rw [NestedKey.depthAll, nkS_depth e1, nkL_depth e2]
      rfl
    · cases h
theorem nested_one {T : Tab} {G : Hp} {h : Heap} {u : U} {v : V} {x : Value} {k : NestedKey} (hk : nkS u = some k) (hr : Rep T G u v) (hv : RelV v x) : NestedIs h k x := by
  cases u <;> simp only [nkS, Option.some.injEq, reduceCtorEq] at hk <;> subst hk
  · rw [rep_bl.1 hr] at hv
    cases hv
    exact .bool rfl
  · rw [rep_int.1 hr] at hv
    obtain ⟨t, rfl⟩ := hv
    exact .int _ t
  · rw [rep_str.1 hr] at hv
    obtain ⟨t, rfl⟩ := hv
    exact .text _ t
theorem nested_all {T : Tab} {G : Hp} {h : Heap} : ∀ {us : List U} {vs : List V} {xs : List Value} {ks : List NestedKey}, nkL us = some ks → Reps T G us vs → Vals vs xs → NestedAll h ks xs
  | [], vs, xs, ks, h1, h2, h3 => by
    cases h1
    rw [reps_nil] at h2
    subst h2
    cases h3
    exact .nil
  | u :: us, vs, xs, ks, h1, h2, h3 => by
    rw [nkL] at h1
    split at h1
    · rename_i k ks' e1 e2
      cases h1
      obtain ⟨v, r, rfl, r1, r2⟩ := reps_cons.1 h2
      cases h3 with
      | cons a b => exact .cons (nested_one e1 r1 a) (nested_all e2 r2 b)
    · cases h1
section
variable {X : Cx} {pins : List (Addr × Obj)} {σ : L2.St} {G H : Hp} {s : Shared}
theorem key_is (I : Inv X pins σ H s) (e : Ex G H) {u : U} {v : V} {k : NestedKey} (hk : nkU u = some k) (hr : Rep (Cx.T X) G u v) : ∃ b, v = .ref b ∧ (nestedKind X.prog X.w).is s.heap k b := by
  cases u <;> simp only [nkU, reduceCtorEq] at hk
  obtain ⟨ks, e1, rfl⟩ := Option.map_eq_some_iff.mp hk
  obtain ⟨b, vs, rfl, h1, h2⟩ := rep_tup.1 hr
  obtain ⟨its, r, p, _⟩ := I.tuple (Evl.ex_t e h1)
  obtain ⟨o, ho, hc, n, hd⟩ := p
  refine ⟨b, rfl, .tup ho hc hd (by simpa using nested_all e1 h2 r), ?_⟩
  rw [NestedKey.depth, nkL_depth e1]
  decide
/-! ### entries -/
theorem ents_is (I : Inv X pins σ H s) (e : Ex G H) : ∀ {ks : List U} {nks : List NestedKey} {bs : List Addr} {vs : List V} {ys : List (NestedKey × Addr × Value)}, Ents nks bs vs ys → nkUs ks = some nks → Reps (Cx.T X) G ks (bs.map V.ref) → ∀ y ∈ ys, (nestedKind X.prog X.w).is s.heap y.1 y.2.1
  | _, _, _, _, _, .nil, _, _, y, hy => by cases hy
  | [], _, _, _, _, .cons _ _, h, _, _, _ => by cases h
  | k :: ks, _, _, _, _, .cons hv ht, h, hr, y, hy => by
    rw [nkUs] at h
    split at h
    · rename_i nk nks' e1 e2
      cases h
      obtain ⟨v, r, e3, r1, r2⟩ := reps_cons.1 hr
      rw [List.map_cons] at e3
      cases e3
      rcases List.mem_cons.mp hy with rfl | hy
      · obtain ⟨b', e4, q⟩ := key_is I e e1 r1
        cases e4
        exact q
      · exact ents_is I e ht e2 r2 y hy
    · cases h
theorem reps_cons' {T : Tab} {G : Hp} {us : List U} {v : V} {vs : List V} (h : Reps T G us (v :: vs)) : ∃ u r, us = u :: r ∧ Rep T G u v ∧ Reps T G r vs := by
  cases us with
  | nil => cases reps_nil.1 h
  | cons u r =>
    obtain ⟨v', r', e, h1, h2⟩ := reps_cons.1 h
    cases e
    exact ⟨u, r, rfl, h1, h2⟩
theorem nkUs_cons {ks : List U} {nk : NestedKey} {nks : List NestedKey} (h : nkUs ks = some (nk :: nks)) : ∃ k r, ks = k :: r ∧ nkU k = some nk ∧ nkUs r = some nks := by
  cases ks with
  | nil => cases h
  | cons k r =>
    rw [nkUs] at h
    split at h
    · rename_i a b e1 e2
      cases h
      exact ⟨k, r, rfl, e1, e2⟩
    · cases h
theorem nkUs_nil {ks : List U} (h : nkUs ks = some []) : ks = [] := by
  cases ks with
  | nil => rfl
  | cons k r =>
    rw [nkUs] at h
    split at h <;> cases h
theorem atKey_cons {y : NestedKey × Addr × Value} {ys : List (NestedKey × Addr × Value)} {nk : NestedKey} : atKey (y :: ys) nk = if y.1 = nk then some y.2 else atKey ys nk := by
  unfold atKey
  rw [List.find?_cons]
  by_cases c : y.1 = nk
  · rw [if_pos c, decide_eq_true c]
    rfl
  · rw [if_neg c, decide_eq_false c]
theorem ents_at {T : Tab} {G : Hp} {k : U} {nk : NestedKey} (hk : nkU k = some nk) : ∀ {ks us : List U} {nks : List NestedKey} {bs : List Addr} {vs : List V} {ys : List (NestedKey × Addr × Value)}, Ents nks bs vs ys → nkUs ks = some nks → Reps T G us vs →
    (dIdx ks us k = none → atKey ys nk = none) ∧ ∀ z, dIdx ks us k = some z → ∃ p v, atKey ys nk = some p ∧ RelV v p.2 ∧ Rep T G z v
  | ks, us, _, _, _, _, .nil, h, hr => by
    rw [nkUs_nil h]
    exact ⟨fun _ => rfl, fun z hz => by cases us <;> cases hz⟩
  | ks, us, _, _, _, _, .cons (k := nk1) (b := b1) (v := v1) (x := x1) (ks := nks1) (bs := bs1) (vs := vs1) (ys := ys1) hv ht, h, hr => by
    obtain ⟨k1, ks', rfl, e1, e2⟩ := nkUs_cons h
    obtain ⟨u1, us', rfl, r1, r2⟩ := reps_cons' hr
    obtain ⟨i1, i2⟩ := ents_at hk ht e2 r2
    rw [dIdx, nkU_eqv e1 hk, atKey_cons]
    by_cases c : nk1 = nk
    · rw [if_pos (decide_eq_true c), if_pos c]
      exact ⟨fun z => (by cases z), fun z hz => (by cases hz; exact ⟨_, _, rfl, hv, r1⟩)⟩
    · rw [if_neg (by simpa using c), if_neg c]
      exact ⟨i1, i2⟩
/-- stored, from the front -/
def sto (k : NestedKey) (b : Addr) (x : Value) : List (NestedKey × Addr × Value) → List (NestedKey × Addr × Value)
  | [] => [(k, b, x)]
  | y :: r => if y.1 = k then (y.1, y.2.1, x) :: r else y :: sto k b x r
theorem putAt_off {k : NestedKey} {x : Value} : ∀ {ys : List (NestedKey × Addr × Value)}, k ∉ ys.map (·.1) → ys.map (putAt k x) = ys
  | [], _ => rfl
  | y :: r, h => by
    rw [List.map_cons, List.mem_cons, not_or] at h
    rw [List.map_cons, putAt_off h.2]
    unfold putAt
    rw [if_neg fun e => h.1 e.symm]
theorem storedH_sto {k : NestedKey} {b : Addr} {x : Value} : ∀ {ys : List (NestedKey × Addr × Value)}, (ys.map (·.1)).Nodup → storedH ys k b x = sto k b x ys
  | [], _ => rfl
  | y :: r, h => by
    rw [List.map_cons, List.nodup_cons] at h
    have ih := storedH_sto (k := k) (b := b) (x := x) h.2
    rw [sto]
    unfold storedH at ih ⊢
    rw [atKey_cons]
    by_cases c : y.1 = k
    · rw [if_pos c, if_pos c]
      rw [if_pos (by rfl), List.map_cons, putAt_off (by rw [← c]; exact h.1)]
      unfold putAt
      rw [if_pos c]
    · rw [if_neg c, if_neg c]
      split
      · rename_i hs
        rw [if_pos hs] at ih
        rw [List.map_cons, ih]
        unfold putAt
        rw [if_neg c]
      · rename_i hs
        rw [if_neg hs] at ih
        rw [List.cons_append, ih]
theorem ents_put {T : Tab} {G : Hp} {k z : U} {nk : NestedKey} {b : Addr} {v : V} {x : Value} (hk : nkU k = some nk) (hb : Rep T G k (.ref b)) (hv : RelV v x) (hz : Rep T G z v) : ∀ {ks us : List U} {nks : List NestedKey} {bs : List Addr} {vs : List V} {ys : List (NestedKey × Addr × Value)},
    Ents nks bs vs ys → nkUs ks = some nks → Reps T G ks (bs.map V.ref) → Reps T G us vs →
    ∃ nks' bs' vs', nkUs (dPut ks us k z).1 = some nks' ∧ Ents nks' bs' vs' (sto nk b x ys) ∧ Reps T G (dPut ks us k z).1 (bs'.map V.ref) ∧ Reps T G (dPut ks us k z).2 vs' ∧ vs'.length ≤ vs.length + 1
  | ks, us, _, _, _, _, .nil, h, hr, hu => by
    rw [nkUs_nil h]
    have e : dPut [] us k z = ([k], [z]) := by cases us <;> rfl
    rw [e]
    refine ⟨[nk], [b], [v], ?_, .cons hv .nil, .cons hb .nil, .cons hz .nil, Nat.le_refl _⟩
    rw [nkUs, hk]
    rfl
  | ks, us, _, _, _, _, .cons (k := nk1) (b := b1) (v := v1) (x := x1) (ks := nks1) (bs := bs1) (vs := vs1) (ys := ys1) hv1 ht, h, hr, hu => by
    obtain ⟨k1, ks', rfl, e1, e2⟩ := nkUs_cons h
    obtain ⟨u1, us', rfl, r1, r2⟩ := reps_cons' hu
    rw [List.map_cons] at hr
    obtain ⟨_, _, e3, q1, q2⟩ := reps_cons.1 hr
    cases e3
    rw [dPut, nkU_eqv e1 hk, sto]
    by_cases c : nk1 = nk
    · rw [if_pos (decide_eq_true c), if_pos c]
      exact ⟨_, _, _, h, .cons hv ht, hr, .cons hz r2, Nat.le_succ _⟩
    · rw [if_neg (by simpa using c), if_neg c]
      obtain ⟨nks', bs', vs', p1, p2, p3, p4, p5⟩ := ents_put hk hb hv hz ht e2 q2 r2
      refine ⟨nk1 :: nks', b1 :: bs', v1 :: vs', ?_, .cons hv1 p2, .cons q1 p3, .cons r1 p4, Nat.succ_le_succ p5⟩
      show nkUs (k1 :: _) = _
      rw [nkUs, e1, p1]
theorem ents_len : ∀ {nks : List NestedKey} {bs : List Addr} {vs : List V} {ys : List (NestedKey × Addr × Value)}, Ents nks bs vs ys → ys.length = vs.length
  | _, _, _, _, .nil => rfl
  | _, _, _, _, .cons _ t => by rw [List.length_cons, List.length_cons, ents_len t]
/-! ### a table as it lies -/
theorem tab_of (I : Inv X pins σ H s) (e : Ex G H) {a : Addr} {ks us : List U} (h : OwnAt (Cx.T X) G H a (.dct ks us)) : ∃ nks bs vs ys, H a = some (.ext (DictAt X.prog X.w a nks bs vs)) ∧ nkUs ks = some nks ∧ Reps (Cx.T X) G ks (bs.map V.ref) ∧ Reps (Cx.T X) G us vs ∧ Ents nks bs vs ys ∧ vs.length ≤ sizeLine ∧ (a == sysModules) = false ∧ s.heap.DictOfH (nestedKind X.prog X.w) a ys := by
  obtain ⟨nks, bs, vs, h1, h2, h3, h4⟩ := h
  obtain ⟨hs, hl, ys, he, o, es, ep, k1, k2, k3, k4, k5⟩ := (I.hok a _ h1).1
  exact ⟨nks, bs, vs, ys, h1, h2, h3, h4, he, hl, hs, o, es, ep, k1, k2, k3, k4, ents_is I e he h2 h3, k5⟩
theorem tabI_of (I : Inv X pins σ H s) {a : Addr} {ns : List Int} {us : List U} (h : OwnAt (Cx.T X) G H a (.dci ns us)) : ∃ vs, H a = some (.dK (dkOf ns vs)) ∧ ns.length = vs.length ∧ Reps (Cx.T X) G us vs := h
theorem dk_at {T : Tab} {G : Hp} {n : Int} : ∀ {ns : List Int} {us : List U} {vs : List V}, ns.length = vs.length → Reps T G us vs →
    (dIdxI ns us n = none → valV (dkOf ns vs) (.inl n) = none) ∧ ∀ z, dIdxI ns us n = some z → ∃ v, valV (dkOf ns vs) (.inl n) = some v ∧ Rep T G z v
  | [], us, [], _, h => ⟨fun _ => rfl, fun z hz => by cases us <;> cases hz⟩
  | m :: ns, us, v :: vs, hl, h => by
    obtain ⟨u, us', rfl, r1, r2⟩ := reps_cons' h
    obtain ⟨i1, i2⟩ := dk_at (n := n) (Nat.succ.inj hl) r2
    have e : dkOf (m :: ns) (v :: vs) = (.inl m, v) :: dkOf ns vs := rfl
    rw [e, dIdxI]
    by_cases c : m = n
    · rw [if_pos c, valV_pos (by rw [c])]
      exact ⟨fun z => (by cases z), fun z hz => (by cases hz; exact ⟨_, rfl, r1⟩)⟩
    · rw [if_neg c, valV_neg fun z => c (by injection z)]
      exact ⟨i1, i2⟩
theorem dk_any {n : Int} : ∀ {ns : List Int} {vs : List V}, ns.length = vs.length → ((dkOf ns vs).any fun kv => decide (kv.1 = (Sum.inl n : Key))) = decide (n ∈ ns)
  | [], [], _ => rfl
  | m :: ns, v :: vs, hl => by
    have e : dkOf (m :: ns) (v :: vs) = (.inl m, v) :: dkOf ns vs := rfl
    rw [e, List.any_cons, dk_any (Nat.succ.inj hl)]
    by_cases c : m = n
    · subst c
      simp
    · have c' : ¬ n = m := fun z => c z.symm
      have d : ¬ ((Sum.inl m : Key) = Sum.inl n) := fun z => c (by injection z)
      simp only [List.mem_cons, c', false_or, d, decide_false, Bool.false_or]
theorem dk_rep {T : Tab} {G : Hp} {n : Int} {z : U} {v : V} (hz : Rep T G z v) : ∀ {ns : List Int} {us : List U} {vs : List V}, ns.length = vs.length → Reps T G us vs →
    ∃ vs', ((dkOf ns vs).map fun kv => if kv.1 = (Sum.inl n : Key) then (kv.1, v) else kv) = dkOf ns vs' ∧ ns.length = vs'.length ∧ Reps T G (dRepI ns us n z) vs'
  | [], us, [], _, h => ⟨[], rfl, rfl, by rw [reps_nil.1 (show Reps T G [] [] from .nil)] <;> (cases us <;> exact .nil)⟩
  | m :: ns, us, w :: vs, hl, h => by
    obtain ⟨u, us', rfl, r1, r2⟩ := reps_cons' h
    obtain ⟨vs', e1, e2, e3⟩ := dk_rep hz (n := n) (Nat.succ.inj hl) r2
    have e : ∀ y ys, dkOf (m :: ns) (y :: ys) = (.inl m, y) :: dkOf ns ys := fun _ _ => rfl
    refine ⟨(if m = n then v else w) :: vs', ?_, by rw [List.length_cons, List.length_cons, e2], ?_⟩
    · rw [e, e, List.map_cons, e1]
      by_cases c : m = n
      · rw [if_pos (by rw [c]), if_pos c]
      · rw [if_neg (fun z => c (by injection z)), if_neg c]
    · rw [dRepI]
      by_cases c : m = n
      · rw [if_pos c, if_pos c]
        exact .cons hz e3
      · rw [if_neg c, if_neg c]
        exact .cons r1 e3
theorem dkOf_snoc {n : Int} {v : V} : ∀ {ns : List Int} {vs : List V}, ns.length = vs.length → dkOf ns vs ++ [((Sum.inl n : Key), v)] = dkOf (ns ++ [n]) (vs ++ [v])
  | [], [], _ => rfl
  | m :: ns, w :: vs, hl => by
    show ((Sum.inl m : Key), w) :: (dkOf ns vs ++ _) = ((Sum.inl m : Key), w) :: dkOf (ns ++ [n]) (vs ++ [v])
    rw [dkOf_snoc (Nat.succ.inj hl)]
theorem dk_put {T : Tab} {G : Hp} {n : Int} {z : U} {v : V} (hz : Rep T G z v) {ns : List Int} {us : List U} {vs : List V} (hl : ns.length = vs.length) (h : Reps T G us vs) :
    ∃ vs', putK (dkOf ns vs) (.inl n) v = dkOf (dPutI ns us n z).1 vs' ∧ (dPutI ns us n z).1.length = vs'.length ∧ Reps T G (dPutI ns us n z).2 vs' := by
  unfold putK dPutI
  rw [dk_any hl]
  by_cases c : n ∈ ns
  · rw [if_pos (decide_eq_true c), if_pos c]
    exact dk_rep hz hl h
  · rw [if_neg (by simpa using c), if_neg c]
    exact ⟨vs ++ [v], dkOf_snoc hl, by simp [hl], h.append (.cons hz .nil)⟩
theorem dkOf_len {ns : List Int} {vs : List V} (hl : ns.length = vs.length) : (dkOf ns vs).length = vs.length := by
  unfold dkOf
  rw [List.length_zipWith, hl, Nat.min_self]
/-! ### what is asked of a table -/
variable {k : Nat} {A : Around} {E : Value → Shared → Prop}
theorem nroom (hr : Room k X.A) : (nestedKind X.prog X.w).room X.A.in1 := by
  show X.A.units + 1 + 8 < cLine
  have := hr.un
  omega
theorem nroom1 (hr : Room k X.A) : X.A.units + 1 < cLine := by
  have := hr.un
  omega
theorem t_isdict (I : Inv X pins σ H s) (e : Ex G H) {a : Addr} {ks us : List U} (h : OwnAt (Cx.T X) G H a (.dct ks us)) : s.TypeIs (.ref a) "dict" := by
  obtain ⟨_, _, _, _, _, _, _, _, _, _, _, dd⟩ := tab_of I e h
  exact dd.typeIs
theorem t_nodict (I : Inv X pins σ H s) (e : Ex G H) {a : Addr} {ks us : List U} (h : OwnAt (Cx.T X) G H a (.dct ks us)) : ∀ b, Value.ref a = .ref b → ∃ ob, s.heap.get? b = some ob ∧ ob.dict = none := fun b q => by
  cases q
  obtain ⟨_, _, _, _, _, _, _, _, _, _, _, o, es, ep, h1, h2, _⟩ := tab_of I e h
  exact ⟨o, h1, h2.2.1⟩
theorem t_get (hr : Room k X.A) (I : Inv X pins σ H s) (e : Ex G H) {a : Addr} {ks us : List U} (h : OwnAt (Cx.T X) G H a (.dct ks us)) {y : U} {yv : V} {u : Value} (hy : hkU y = true) (ry : Rep (Cx.T X) G y yv) (rv : RelV yv u) {z : U} (hz : dIdx ks us y = some z) {Q : Value → Shared → Prop}
    (q : ∀ w v s', Inv X pins σ H s' → RelV v w → Rep (Cx.T X) G z v → Q w s') : wpAny (model X.prog X.w) X.A (getItem (.ref a) u) Q E s := by
  obtain ⟨nks, bs, vs, ys, h1, h2, h3, h4, he, hl, hs, dd⟩ := tab_of I e h
  obtain ⟨_, nk, _, hk⟩ := hkU_nk hy
  obtain ⟨b, rfl, kis⟩ := key_is I e hk ry
  obtain rfl : u = Value.ref b := rv
  obtain ⟨p, v, e1, e2, e3⟩ := (ents_at hk he h2 h4).2 z hz
  exact wpAny_getItem_heap (nroom hr) kis dd e1 (q _ v _ (I.tok _) e2 e3)
theorem t_in (hr : Room k X.A) (I : Inv X pins σ H s) (e : Ex G H) {a : Addr} {ks us : List U} (h : OwnAt (Cx.T X) G H a (.dct ks us)) {y : U} {yv : V} {u : Value} (hy : hkU y = true) (ry : Rep (Cx.T X) G y yv) (rv : RelV yv u) :
    (∀ Q : Value → Shared → Prop, (∀ s', Inv X pins σ H s' → Q (.bool (dIdx ks us y).isSome) s') → wpAny (model X.prog X.w) X.A (compareOp .In u (.ref a)) Q E s) ∧
    ∀ Q : Value → Shared → Prop, (∀ s', Inv X pins σ H s' → Q (.bool (!(dIdx ks us y).isSome)) s') → wpAny (model X.prog X.w) X.A (compareOp .NotIn u (.ref a)) Q E s := by
  obtain ⟨nks, bs, vs, ys, h1, h2, h3, h4, he, hl, hs, dd⟩ := tab_of I e h
  obtain ⟨_, nk, _, hk⟩ := hkU_nk hy
  obtain ⟨b, rfl, kis⟩ := key_is I e hk ry
  obtain rfl : u = Value.ref b := rv
  obtain ⟨i1, i2⟩ := ents_at hk he h2 h4
  have es : (atKey ys nk).isSome = (dIdx ks us y).isSome := by
    cases q : dIdx ks us y with
    | none =>
      rw [i1 q]
      rfl
    | some z =>
      obtain ⟨p, v, e1, _⟩ := i2 z q
      rw [e1]
      rfl
  refine ⟨fun Q q => wpAny_in_heap (nroom hr) kis hs dd ?_, fun Q q => wpAny_notIn_heap (nroom hr) kis hs dd ?_⟩
  · rw [es]
    exact q _ (I.tok _)
  · rw [es]
    exact q _ (I.tok _)
theorem t_getD (hr : Room k X.A) (I : Inv X pins σ H s) (e : Ex G H) {a : Addr} {ks us : List U} (h : OwnAt (Cx.T X) G H a (.dct ks us)) {y : U} {yv : V} {u : Value} (hy : hkU y = true) (ry : Rep (Cx.T X) G y yv) (rv : RelV yv u) {z : U} {zv : V} {zu : Value} (rz : Rep (Cx.T X) G z zv) (rzv : RelV zv zu) {Q : Value → Shared → Prop}
    (q : ∀ w v s', Inv X pins σ H s' → RelV v w → Rep (Cx.T X) G ((dIdx ks us y).getD z) v → Q w s') : wpAny (model X.prog X.w) X.A (call (.builtin "dict.get") [.ref a, u, zu]) Q E s := by
  obtain ⟨nks, bs, vs, ys, h1, h2, h3, h4, he, hl, hs, dd⟩ := tab_of I e h
  obtain ⟨_, nk, _, hk⟩ := hkU_nk hy
  obtain ⟨b, rfl, kis⟩ := key_is I e hk ry
  obtain rfl : u = Value.ref b := rv
  obtain ⟨i1, i2⟩ := ents_at hk he h2 h4
  refine getOr_keyed (nroom hr) kis hs ⟨ys, dd, rfl⟩ ?_
  rw [valueAt_pairsH]
  cases c : dIdx ks us y with
  | none =>
    rw [i1 c]
    rw [c] at q
    exact q _ _ _ (I.tok _) rzv rz
  | some z' =>
    obtain ⟨p, v, e1, e2, e3⟩ := i2 z' c
    rw [e1]
    rw [c] at q
    exact q _ v _ (I.tok _) e2 e3
theorem t_put (hr : Room k X.A) (I : Inv X pins σ H s) (e : Ex G H) {a : Addr} {ks us : List U} (h : OwnAt (Cx.T X) G H a (.dct ks us)) (hg : G a = none) (hl : us.length ≤ 100000) {y : U} {yv : V} {u : Value} (hy : hkU y = true) (ry : Rep (Cx.T X) G y yv) (rv : RelV yv u) {z : U} {zv : V} {zu : Value} (rz : Rep (Cx.T X) G z zv) (rzv : RelV zv zu) {Q : Unit → Shared → Prop}
    (q : ∀ o s', Inv X pins σ (upd H a o) s' → OwnAt (Cx.T X) G (upd H a o) a (.dct (dPut ks us y z).1 (dPut ks us y z).2) → Q () s') : wpAny (model X.prog X.w) X.A (setItem (.ref a) u zu) Q E s := by
  obtain ⟨nks, bs, vs, ys, h1, h2, h3, h4, he, hlv, hs, dd⟩ := tab_of I e h
  obtain ⟨_, nk, _, hk⟩ := hkU_nk hy
  obtain ⟨b, rfl, kis⟩ := key_is I e hk ry
  obtain rfl : u = Value.ref b := rv
  have hz : ys.length ≤ sizeLine := by rw [ents_len he]; exact hlv
  have hnd : (ys.map (·.1)).Nodup := by
    obtain ⟨_, _, _, _, _, _, _, _, hn⟩ := dd
    exact hn
  obtain ⟨nks', bs', vs', p1, p2, p3, p4, p5⟩ := ents_put hk ry rzv rz he h2 h3 h4
  rw [h4.length] at hl
  have hl' : vs'.length ≤ sizeLine := Nat.le_trans p5 (Nat.le_trans (Nat.succ_le_succ hl) (by decide))
  refine wpAny_setItem_heap (hsz := hz) (nroom hr) kis dd fun h' dd' sb => q (.ext (DictAt X.prog X.w a nks' bs' vs')) _ ?_ ⟨nks', bs', vs', upd_same, p1, p3, p4⟩
  obtain ⟨o, es, ep, q1, q2, q3, q4, _, q6⟩ := dd'
  refine d_write I (by rw [h1]; exact True.intro) sb ⟨o, q1⟩ ⟨⟨hs, hl', sto nk b zu ys, p2, o, es, ep, q1, q2, q3, ?_, ?_⟩, ⟨o, q1⟩, ?_⟩
  · rw [q4, storedH_sto hnd]
  · rw [← storedH_sto hnd]
    exact q6
  · rintro h1 h2 ⟨k1, k2, zs, k3, o, es, ep, k4, k5⟩ hk
    exact ⟨k1, k2, zs, k3, o, es, ep, hk o k4, k5⟩
/-! numbers as keys -/
theorem ti_get (hr : Room k X.A) (I : Inv X pins σ H s) {a : Addr} {ns : List Int} {us : List U} (h : OwnAt (Cx.T X) G H a (.dci ns us)) {n : Int} {u : Value} (rv : RelV (.int n) u) {z : U} (hz : dIdxI ns us n = some z) {Q : Value → Shared → Prop}
    (q : ∀ w v s', Inv X pins σ H s' → RelV v w → Rep (Cx.T X) G z v → Q w s') : wpAny (model X.prog X.w) X.A (getItem (.ref a) u) Q E s := by
  obtain ⟨vs, h1, h2, h3⟩ := h
  obtain ⟨v, e1, e2⟩ := (dk_at h2 h3).2 z hz
  exact d_getItem (nroom1 hr) I (e1 ▸ DGet.k (k := .inl n) h1 : DGet H a (.int n) (some v)) rv fun w s' I' rw' => q w v s' I' rw' e2
theorem ti_at {a : Addr} {ns : List Int} {us : List U} {vs : List V} (h1 : H a = some (.dK (dkOf ns vs))) {n : Int} : DGet H a (.int n) (valV (dkOf ns vs) (.inl n)) := DGet.k (k := .inl n) h1
theorem ti_some {T : Tab} {ns : List Int} {us : List U} {vs : List V} (h2 : ns.length = vs.length) (h3 : Reps T G us vs) {n : Int} : (valV (dkOf ns vs) (.inl n)).isSome = (dIdxI ns us n).isSome := by
  obtain ⟨i1, i2⟩ := dk_at (n := n) h2 h3
  cases q : dIdxI ns us n with
  | none =>
    rw [i1 q]
    rfl
  | some z =>
    obtain ⟨v, e1, _⟩ := i2 z q
    rw [e1]
    rfl
theorem ti_isdict (I : Inv X pins σ H s) {a : Addr} {ns : List Int} {us : List U} (h : OwnAt (Cx.T X) G H a (.dci ns us)) : s.TypeIs (.ref a) "dict" := by
  obtain ⟨vs, h1, h2, h3⟩ := h
  obtain ⟨_, _, _, _, dd⟩ := dk_of I.hok h1
  exact dd.typeIs
theorem ti_nodict (I : Inv X pins σ H s) {a : Addr} {ns : List Int} {us : List U} (h : OwnAt (Cx.T X) G H a (.dci ns us)) : ∀ b, Value.ref a = .ref b → ∃ ob, s.heap.get? b = some ob ∧ ob.dict = none := fun b q => by
  cases q
  obtain ⟨vs, h1, h2, h3⟩ := h
  obtain ⟨_, _, _, _, o, es, ep, k1, k2, _⟩ := dk_of I.hok h1
  exact ⟨o, k1, k2.2.1⟩
theorem ti_in (hr : Room k X.A) (I : Inv X pins σ H s) {a : Addr} {ns : List Int} {us : List U} (h : OwnAt (Cx.T X) G H a (.dci ns us)) {n : Int} {u : Value} (rv : RelV (.int n) u) :
    (∀ Q : Value → Shared → Prop, (∀ s', Inv X pins σ H s' → Q (.bool (dIdxI ns us n).isSome) s') → wpAny (model X.prog X.w) X.A (compareOp .In u (.ref a)) Q E s) ∧
    ∀ Q : Value → Shared → Prop, (∀ s', Inv X pins σ H s' → Q (.bool (!(dIdxI ns us n).isSome)) s') → wpAny (model X.prog X.w) X.A (compareOp .NotIn u (.ref a)) Q E s := by
  obtain ⟨vs, h1, h2, h3⟩ := h
  rw [← ti_some h2 h3]
  exact ⟨fun Q q => d_in (nroom1 hr) I (ti_at h1 (us := us)) rv q, fun Q q => d_notIn (nroom1 hr) I (ti_at h1 (us := us)) rv q⟩
theorem ti_getD (hr : Room k X.A) (I : Inv X pins σ H s) {a : Addr} {ns : List Int} {us : List U} (h : OwnAt (Cx.T X) G H a (.dci ns us)) {n : Int} {u : Value} (rv : RelV (.int n) u) {z : U} {zv : V} {zu : Value} (rz : Rep (Cx.T X) G z zv) (rzv : RelV zv zu) {Q : Value → Shared → Prop}
    (q : ∀ w v s', Inv X pins σ H s' → RelV v w → Rep (Cx.T X) G ((dIdxI ns us n).getD z) v → Q w s') : wpAny (model X.prog X.w) X.A (call (.builtin "dict.get") [.ref a, u, zu]) Q E s := by
  obtain ⟨vs, h1, h2, h3⟩ := h
  obtain ⟨i1, i2⟩ := dk_at (n := n) h2 h3
  refine d_get2 (nroom1 hr) I (ti_at h1 (us := us)) rv rzv fun w s' I' rw' => q w _ s' I' rw' ?_
  cases c : dIdxI ns us n with
  | none =>
    rw [i1 c]
    exact rz
  | some z' =>
    obtain ⟨v, e1, e2⟩ := i2 z' c
    rw [e1]
    exact e2
theorem ti_put (hr : Room k X.A) (I : Inv X pins σ H s) {a : Addr} {ns : List Int} {us : List U} (h : OwnAt (Cx.T X) G H a (.dci ns us)) (hl : us.length ≤ 100000) {n : Int} {u : Value} (rv : RelV (.int n) u) {z : U} {zv : V} {zu : Value} (rz : Rep (Cx.T X) G z zv) (rzv : RelV zv zu) {Q : Unit → Shared → Prop}
    (q : ∀ o s', Inv X pins σ (upd H a o) s' → OwnAt (Cx.T X) G (upd H a o) a (.dci (dPutI ns us n z).1 (dPutI ns us n z).2) → Q () s') : wpAny (model X.prog X.w) X.A (setItem (.ref a) u zu) Q E s := by
  obtain ⟨vs, h1, h2, h3⟩ := h
  obtain ⟨vs', e1, e2, e3⟩ := dk_put (n := n) rz h2 h3
  have hlt : (dkOf ns vs).length < sizeLine := by
    rw [dkOf_len h2, ← h3.length]
    exact Nat.lt_of_le_of_lt hl (by decide)
  refine d_setItem (nroom1 hr) I (DPut.k (k := .inl n) (v := zv) h1 hlt) rv rzv fun s' I' => q (.dK (putK (dkOf ns vs) (.inl n) zv)) s' I' ⟨vs', ?_, e2, e3⟩
  rw [upd_same, e1]
end
end Q
set_option maxRecDepth 100000
set_option maxHeartbeats 1000000
/-! QOpS: the operations are what Python does -/
namespace Q
open PySem PySem.Spec PyProof.Rows L2
open Evl (Ex)

/-! ### data -/
mutual
def toD : U → PyData
  | .non => .none
  | .bl b => .bool b
  | .int i => .int i
  | .str x => .str ⟨x.toArray⟩
  | .tup xs => .tuple (toDs xs)
  | .lst xs => .list (toDs xs)
  | _ => .dict []
def toDs : List U → List PyData
  | [] => []
  | x :: xs => toD x :: toDs xs
end
theorem toDs_map : ∀ xs : List U, toDs xs = xs.map toD
  | [] => by rw [toDs]; rfl
  | x :: xs => by rw [toDs, toDs_map xs]; rfl
theorem str_eq (x y : List Nat) : ((⟨x.toArray⟩ : Str) == ⟨y.toArray⟩) = (x == y) := by
  rw [Bool.eq_iff_iff]
  simp
mutual
theorem eqv_D : ∀ a b : U, PyData.eqv (toD a) (toD b) = eqvU a b
  | .non, b => by cases b <;> simp [toD, PyData.eqv, eqvU]
  | .bl _, b => by cases b <;> simp [toD, PyData.eqv, eqvU]
  | .int _, b => by cases b <;> simp [toD, PyData.eqv, eqvU]
  | .str x, b => by
    cases b with
    | str y => rw [toD, toD, PyData.eqv, eqvU]; exact str_eq x y
    | _ => simp [toD, PyData.eqv, eqvU]
  | .tup xs, b => by
    cases b with
    | tup ys => rw [toD, toD, PyData.eqv, eqvU]; exact eqv_Ds xs ys
    | _ => simp [toD, PyData.eqv, eqvU]
  | .lst xs, b => by
    cases b with
    | lst ys => rw [toD, toD, PyData.eqv, eqvU]; exact eqv_Ds xs ys
    | _ => simp [toD, PyData.eqv, eqvU]
  | .dct _ _, b => by cases b <;> simp [toD, PyData.eqv, eqvU]
  | .dci _ _, b => by cases b <;> simp [toD, PyData.eqv, eqvU]
  | .fn _, b => by cases b <;> simp [toD, PyData.eqv, eqvU]
  | .ty _, b => by cases b <;> simp [toD, PyData.eqv, eqvU]
  | .obj _ _ _, b => by cases b <;> simp [toD, PyData.eqv, eqvU]
theorem eqv_Ds : ∀ xs ys : List U, PyData.eqvAll (toDs xs) (toDs ys) = eqvUs xs ys
  | [], [] => by simp [toDs, PyData.eqvAll, eqvUs]
  | [], _ :: _ => by simp [toDs, PyData.eqvAll, eqvUs]
  | _ :: _, [] => by simp [toDs, PyData.eqvAll, eqvUs]
  | x :: xs, y :: ys => by rw [toDs, toDs, PyData.eqvAll, eqvUs, eqv_D x y, eqv_Ds xs ys]
end
mutual
theorem lay_D : ∀ a : U, plU a = true → PyData.canLay0 (toD a) = true
  | .non, _ => by simp [toD, PyData.canLay0]
  | .bl _, _ => by simp [toD, PyData.canLay0]
  | .int _, _ => by simp [toD, PyData.canLay0]
  | .str x, h => by
    rw [plU] at h
    rw [toD, PyData.canLay0]
    simpa [PyData.strOk] using h
  | .tup xs, h => by
    rw [plU] at h
    rw [toD, PyData.canLay0]
    exact lay_Ds xs h
  | .lst xs, h => by
    rw [plU] at h
    rw [toD, PyData.canLay0]
    exact lay_Ds xs h
  | .dct _ _, h => by simp [plU] at h
  | .dci _ _, h => by simp [plU] at h
  | .fn _, h => by simp [plU] at h
  | .ty _, h => by simp [plU] at h
  | .obj _ _ _, h => by simp [plU] at h
theorem lay_Ds : ∀ xs : List U, plUs xs = true → PyData.canLayAll0 (toDs xs) = true
  | [], _ => by simp [toDs, PyData.canLayAll0]
  | x :: xs, h => by
    rw [plUs, Bool.and_eq_true] at h
    rw [toDs, PyData.canLayAll0, lay_D x h.1, lay_Ds xs h.2]
    rfl
end
mutual
theorem dep_D : ∀ a : U, plU a = true → PyData.depth (toD a) ≤ depU a
  | .non, _ => by simp [toD, PyData.depth]
  | .bl _, _ => by simp [toD, PyData.depth]
  | .int _, _ => by simp [toD, PyData.depth]
  | .str x, _ => by simp [toD, PyData.depth]
  | .tup xs, h => by
    rw [plU] at h
    rw [toD, PyData.depth, depU]
    have := dep_Ds xs h
    omega
  | .lst xs, h => by
    rw [plU] at h
    rw [toD, PyData.depth, depU]
    have := dep_Ds xs h
    omega
  | .dct _ _, h => by simp [plU] at h
  | .dci _ _, h => by simp [plU] at h
  | .fn _, h => by simp [plU] at h
  | .ty _, h => by simp [plU] at h
  | .obj _ _ _, h => by simp [plU] at h
theorem dep_Ds : ∀ xs : List U, plUs xs = true → PyData.depthAll (toDs xs) ≤ depUs xs
  | [], _ => by simp [toDs, PyData.depthAll]
  | x :: xs, h => by
    rw [plUs, Bool.and_eq_true] at h
    rw [toDs, PyData.depthAll, depUs]
    have h1 := dep_D x h.1
    have h2 := dep_Ds xs h.2
    omega
end
mutual
theorem dp_D {T : Tab} {G : Hp} : ∀ (a : U) (v : V), plU a = true → Rep T G a v → Dp T.K G v (toD a)
  | .non, v, _, h => by rw [rep_non] at h; subst h; rw [toD]; exact .non
  | .bl b, v, _, h => by rw [rep_bl] at h; subst h; rw [toD]; exact .bl b
  | .int i, v, _, h => by rw [rep_int] at h; subst h; rw [toD]; exact .int i
  | .str x, v, _, h => by rw [rep_str] at h; subst h; rw [toD]; exact .str _
  | .tup xs, v, p, h => by
    rw [plU] at p
    obtain ⟨a, vs, rfl, h1, h2⟩ := rep_tup.1 h
    rw [toD]
    exact .tup h1 (dp_Ds xs vs p h2)
  | .lst xs, v, p, h => by
    rw [plU] at p
    obtain ⟨a, vs, rfl, h1, h2⟩ := rep_lst.1 h
    rw [toD]
    exact .lst h1 (dp_Ds xs vs p h2)
  | .dct _ _, _, p, _ => by simp [plU] at p
  | .dci _ _, _, p, _ => by simp [plU] at p
  | .fn _, _, p, _ => by simp [plU] at p
  | .ty _, _, p, _ => by simp [plU] at p
  | .obj _ _ _, _, p, _ => by simp [plU] at p
theorem dp_Ds {T : Tab} {G : Hp} : ∀ (xs : List U) (vs : List V), plUs xs = true → Reps T G xs vs → DpAll T.K G vs (toDs xs)
  | [], vs, _, h => by rw [reps_nil] at h; subst h; rw [toDs]; exact .nil
  | x :: xs, vs, p, h => by
    rw [plUs, Bool.and_eq_true] at p
    obtain ⟨v, r, rfl, h1, h2⟩ := reps_cons.1 h
    rw [toDs]
    exact .cons (dp_D x v p.1 h1) (dp_Ds xs r p.2 h2)
end
theorem ok_shaped {a : U} (h : okU a = true) : plU a = true ∧ SeqAt.shaped (toD a) = true := by
  unfold okU at h
  rw [Bool.and_eq_true, decide_eq_true_eq] at h
  refine ⟨h.1, ?_⟩
  unfold SeqAt.shaped
  rw [lay_D a h.1, Bool.true_and, decide_eq_true_eq]
  have := dep_D a h.1
  omega

section
variable {X : Cx} {k : Nat}
theorem hu64 {A : Around} (r : Room k A) : A.units + 65 < cLine := by have := r.un; omega
/-! ### == -/
theorem fin {pins : List (Addr × Obj)} {σ : L2.St} {s : Shared} {H : Hp} {Q : VK} {u : Value} {v : V} (I : Inv X pins σ H s) (r : RelV v u) (q : Q v H) : EP X pins σ Q u s := ⟨v, H, I, r, q⟩
theorem nuS_bl {T : Tab} {G H : Hp} {b : Bool} {Q : VK} (e : Ex G H) (h : nuS T G H (.bl b) Q) : Q (.bl b) H := h _ G H (Grow.refl e) (rep_bl.2 rfl)
theorem nuS_int {T : Tab} {G H : Hp} {b : Int} {Q : VK} (e : Ex G H) (h : nuS T G H (.int b) Q) : Q (.int b) H := h _ G H (Grow.refl e) (rep_int.2 rfl)
theorem op_uEq (hr : Room k X.A) : OpR X (compareOp .Eq) (r2 nuS (Cx.T X) uEq) := by
  intro pins s σ H x y v u Q I rx ry ⟨G, a, b, z, e, ra, rb, hz, q⟩
  have gen : okU a = true → okU b = true → Q (.bl (eqvU a b)) H → wpAny (model X.prog X.w) X.A (compareOp .Eq v u) (EP X pins σ Q) X.xe s := fun ha hb q => by
    obtain ⟨pa, sa⟩ := ok_shaped ha
    obtain ⟨pb, sb⟩ := ok_shaped hb
    refine op_eqD (by have := hu64 hr; omega) pins s σ H x y v u Q I rx ry ⟨toD a, toD b, dp_D a x pa (Rep.mono e _ _ ra), dp_D b y pb (Rep.mono e _ _ rb), sa, sb, ?_⟩
    rw [eqv_D]
    exact q
  unfold uEq at hz
  split at hz
  · rename_i i j
    cases hz
    have e1 : x = .str ⟨i.toArray⟩ := rep_str.1 ra
    have e2 : y = .str ⟨j.toArray⟩ := rep_str.1 rb
    subst e1 e2
    refine op_eq pins s σ H _ _ v u Q I rx ry ⟨rfl, ?_⟩
    rw [dec_str, str_eq]
    exact nuS_bl e q
  · split at hz
    · rename_i h
      rw [Bool.and_eq_true] at h
      cases hz
      exact gen h.1 h.2 (nuS_bl e q)
    · cases hz
theorem op_uNe (hr : Room k X.A) : OpR X (compareOp .NotEq) (r2 nuS (Cx.T X) uNe) := by
  intro pins s σ H x y v u Q I rx ry ⟨G, a, b, z, e, ra, rb, hz, q⟩
  have gen : okU a = true → okU b = true → Q (.bl (!eqvU a b)) H → wpAny (model X.prog X.w) X.A (compareOp .NotEq v u) (EP X pins σ Q) X.xe s := fun ha hb q => by
    obtain ⟨pa, sa⟩ := ok_shaped ha
    obtain ⟨pb, sb⟩ := ok_shaped hb
    refine op_neD (by have := hu64 hr; omega) pins s σ H x y v u Q I rx ry ⟨toD a, toD b, dp_D a x pa (Rep.mono e _ _ ra), dp_D b y pb (Rep.mono e _ _ rb), sa, sb, ?_⟩
    rw [eqv_D]
    exact q
  unfold uNe at hz
  split at hz
  · rename_i i j
    cases hz
    have e1 : x = .str ⟨i.toArray⟩ := rep_str.1 ra
    have e2 : y = .str ⟨j.toArray⟩ := rep_str.1 rb
    subst e1 e2
    refine op_ne pins s σ H _ _ v u Q I rx ry ⟨rfl, ?_⟩
    rw [dec_str, str_eq]
    exact nuS_bl e q
  · split at hz
    · rename_i h
      rw [Bool.and_eq_true] at h
      cases hz
      exact gen h.1 h.2 (nuS_bl e q)
    · cases hz
/-! ### in -/
theorem any_D (x : U) : ∀ xs : List U, (toDs xs).any (fun z => PyData.eqv z (toD x)) = xs.any fun z => eqvU z x
  | [] => by rw [toDs]; rfl
  | y :: ys => by rw [toDs, List.any_cons, List.any_cons, any_D x ys, eqv_D]
theorem in_core (hr : Room k X.A) {pins : List (Addr × Obj)} {s : Shared} {σ : L2.St} {H : Hp} {x y : V} {v u : Value} {a b : U} {t : Bool} (I : Inv X pins σ H s) (rx : RelV x v) (ry : RelV y u) (ra : Rep (Cx.T X) H a x) (rb : Rep (Cx.T X) H b y) (h : uInB a b = some t) :
    (∀ Q : Value → Shared → Prop, (∀ s', Inv X pins σ H s' → Q (.bool t) s') → wpAny (model X.prog X.w) X.A (compareOp .In v u) Q X.xe s) ∧ ∀ Q : Value → Shared → Prop, (∀ s', Inv X pins σ H s' → Q (.bool (!t)) s') → wpAny (model X.prog X.w) X.A (compareOp .NotIn v u) Q X.xe s := by
  have hu := hu64 hr
  unfold uInB at h
  split at h
  · rename_i xs
    split at h
    · rename_i hk
      rw [Bool.and_eq_true] at hk
      cases h
      obtain ⟨pa, sa⟩ := ok_shaped hk.1
      obtain ⟨pb, sb⟩ := ok_shaped hk.2
      obtain ⟨as, r1⟩ := Dp.reads I (toD a) x v (dp_D a x pa ra) rx
      obtain ⟨bs, r2⟩ := Dp.reads I (toD (.lst xs)) y u (dp_D _ y pb rb) ry
      rw [toD] at r2 sb
      exact ⟨fun Q q => SeqAt.in_list_reads r2 r1 (SeqAt.canLay_of_shaped sb) (SeqAt.canLay_of_shaped sa) (room_in_shaped sa hu) (by rw [any_D]; exact q s I),
        fun Q q => SeqAt.notIn_list_reads r2 r1 (SeqAt.canLay_of_shaped sb) (SeqAt.canLay_of_shaped sa) (room_in_shaped sa hu) (by rw [any_D]; exact q s I)⟩
    · cases h
  · rename_i xs
    split at h
    · rename_i hk
      rw [Bool.and_eq_true] at hk
      cases h
      obtain ⟨pa, sa⟩ := ok_shaped hk.1
      obtain ⟨pb, sb⟩ := ok_shaped hk.2
      obtain ⟨as, r1⟩ := Dp.reads I (toD a) x v (dp_D a x pa ra) rx
      obtain ⟨bs, r2⟩ := Dp.reads I (toD (.tup xs)) y u (dp_D _ y pb rb) ry
      rw [toD] at r2 sb
      exact ⟨fun Q q => SeqAt.in_tuple_reads r2 r1 (SeqAt.canLay_of_shaped sb) (SeqAt.canLay_of_shaped sa) (room_in_shaped sa hu) (by rw [any_D]; exact q s I),
        fun Q q => SeqAt.notIn_tuple_reads r2 r1 (SeqAt.canLay_of_shaped sb) (SeqAt.canLay_of_shaped sa) (room_in_shaped sa hu) (by rw [any_D]; exact q s I)⟩
    · cases h
  · rename_i ks us
    split at h
    · rename_i hk
      cases h
      obtain ⟨a, rfl, ow⟩ := Rep.tab (Ex.refl _) rb
      obtain rfl : u = Value.ref a := ry
      exact t_in hr I (Ex.refl _) ow hk ra rx
    · cases h
  · rename_i ns us
    split at h
    · rename_i n
      cases h
      obtain ⟨a, rfl, ow⟩ := Rep.tabI (Ex.refl _) rb
      obtain rfl : u = Value.ref a := ry
      rw [rep_int] at ra
      subst ra
      exact ti_in hr I ow rx
    · cases h
  · cases h
theorem op_uIn (hr : Room k X.A) : OpR X (compareOp .In) (r2 nuS (Cx.T X) uIn) := by
  intro pins s σ H x y v u Q I rx ry ⟨G, a, b, z, e, ra, rb, hz, q⟩
  unfold uIn at hz
  obtain ⟨t, ht, rfl⟩ := Option.map_eq_some_iff.mp hz
  exact (in_core hr I rx ry (Rep.mono e _ _ ra) (Rep.mono e _ _ rb) ht).1 _ fun s' I' => fin (v := .bl t) I' rfl (nuS_bl e q)
theorem op_uNotIn (hr : Room k X.A) : OpR X (compareOp .NotIn) (r2 nuS (Cx.T X) uNotIn) := by
  intro pins s σ H x y v u Q I rx ry ⟨G, a, b, z, e, ra, rb, hz, q⟩
  unfold uNotIn at hz
  obtain ⟨t, ht, rfl⟩ := Option.map_eq_some_iff.mp hz
  exact (in_core hr I rx ry (Rep.mono e _ _ ra) (Rep.mono e _ _ rb) ht).2 _ fun s' I' => fin (v := .bl !t) I' rfl (nuS_bl e q)
/-! ### arithmetic -/
theorem nuN_int {T : Tab} {G H : Hp} {b : Int} {Q : VK} (e : Ex G H) (h : nuN T G H (.int b) Q) : Q (.int b) H := nuS_int e h
theorem nuN_tup {T : Tab} {G H : Hp} {us : List U} {vs : List V} {Q : VK} (e : Ex G H) (h : nuN T G H (.tup us) Q) (hr : Reps T G us vs) : ∀ p, H p = none → Q (.ref p) (upd H p (.tup vs)) := fun p hp => by
  have gn := Grow.new (o := .tup vs) e hp
  exact h _ _ _ gn (rep_tup.2 ⟨p, vs, rfl, .inl (.inl upd_same), Reps.mono gn.g _ _ hr⟩)
theorem nuN_old {T : Tab} {G H : Hp} {us : List U} {v : V} {Q : VK} (e : Ex G H) (h : nuN T G H (.tup us) Q) (hr : Rep T G (.tup us) v) : Q v H := h _ G H (Grow.refl e) hr
theorem op_catS : OpR X (binaryOp .Add) (fun x y H Q => ∃ l b xs zs, x = .ref l ∧ y = .ref b ∧ SqL X.K H l xs ∧ SqL X.K H b zs ∧ xs.length + zs.length ≤ sizeLine ∧ ∀ p, H p = none → Q (.ref p) (upd H p (.lst (xs ++ zs)))) := by
  intro pins s σ H x y v u Q I rx ry h
  obtain ⟨l, b, xs, zs, rfl, rfl, hH, hB, hz, q⟩ := h
  cases rx
  cases ry
  obtain ⟨its, r, pl, _⟩ := I.list hH
  obtain ⟨its2, r2, pl2, _⟩ := I.list hB
  obtain ⟨⟨cls, dd, data, sl⟩, ho, hc, n, hd⟩ := pl.isList
  obtain ⟨⟨cls2, dd2, data2, sl2⟩, ho2, hc2, n2, hd2⟩ := pl2.isList
  simp only at hc hd hc2 hd2
  subst hc hd hc2 hd2
  have hl := r.length
  have hl2 := r2.length
  have e : its.toArray ++ its2.toArray = (its ++ its2).toArray := by simp
  refine concat_meets ⟨_, ho, rfl⟩ ⟨_, ho2, rfl⟩ noFill_list_add seq_list_add PySem.F.slot_list_add PySem.F.entry_list_add (PySem.F.args_list_add_2 _ _) (list_addW l b its.toArray its2.toArray n n2 dd dd2 sl sl2 (by simp; omega)) ⟨ho, ho2, ?_⟩
  rw [e]
  exact ⟨.ref _, _, I.lnew (t' := s.toks) (r.append r2) (by rw [List.length_append]; omega), rfl, q _ I.fresh⟩
theorem op_uAdd : OpR X (binaryOp .Add) (r2 nuN (Cx.T X) uAdd) := by
  intro pins s σ H x y v u Q I rx ry ⟨G, a, b, z, e, ra, rb, hz, q⟩
  unfold uAdd at hz
  split at hz
  · rename_i i j
    cases hz
    exact op_add pins s σ H x y v u Q I rx ry ⟨i, j, rep_int.1 ra, rep_int.1 rb, nuN_int e q⟩
  · rename_i xs ys
    split at hz
    · rename_i hl
      cases hz
      obtain ⟨p, vs, e1, h1, h2⟩ := rep_lst.1 ra
      obtain ⟨p', vs', e2, h1', h2'⟩ := rep_lst.1 rb
      rw [h2.length, h2'.length] at hl
      exact op_catS pins s σ H x y v u Q I rx ry ⟨p, p', vs, vs', e1, e2, Evl.ex_l e h1, Evl.ex_l e h1', small100 hl, fun d hd => q d _ hd (h2.append h2')⟩
    · cases hz
  · rename_i xs ys
    split at hz
    · rename_i hl
      cases hz
      obtain ⟨p, vs, e1, h1, h2⟩ := rep_tup.1 ra
      obtain ⟨p', vs', e2, h1', h2'⟩ := rep_tup.1 rb
      rw [h2.length, h2'.length] at hl
      refine op_catA pins s σ H x y v u Q I rx ry ⟨p, p', vs, vs', e1, e2, Evl.ex_t e h1, Evl.ex_t e h1', small100 hl, fun z => ?_, fun z z' => ?_, fun z z' => nuN_tup e q (h2.append h2')⟩
      · have hx : xs = [] := by
          rw [z] at h2
          have := h2.length
          exact List.eq_nil_of_length_eq_zero this
        subst hx
        rw [← e2]
        exact nuN_old e q rb
      · have hy : ys = [] := by
          rw [z'] at h2'
          have := h2'.length
          exact List.eq_nil_of_length_eq_zero this
        subst hy
        rw [List.append_nil] at q
        rw [← e1]
        exact nuN_old e q ra
    · cases hz
  · rename_i i j
    split at hz
    · rename_i hl
      cases hz
      have e1 := rep_str.1 ra
      have e2 := rep_str.1 rb
      refine op_add_str pins s σ H x y v u Q I rx ry ⟨_, _, e1, e2, by simp [Str.length]; exact small100 hl, ?_⟩
      have e3 : (⟨i.toArray⟩ : Str) ++ (⟨j.toArray⟩ : Str) = ⟨(i ++ j).toArray⟩ := by
        show Str.mk _ = _
        simp
      rw [e3]
      exact q _ G H (Grow.refl e) (rep_str.2 rfl)
    · cases hz
  · cases hz
theorem op_uSub : OpR X (binaryOp .Sub) (r2 nuN (Cx.T X) uSub) := by
  intro pins s σ H x y v u Q I rx ry ⟨G, a, b, z, e, ra, rb, hz, q⟩
  unfold uSub at hz
  split at hz
  · rename_i i j
    cases hz
    exact op_sub pins s σ H x y v u Q I rx ry ⟨i, j, rep_int.1 ra, rep_int.1 rb, nuN_int e q⟩
  · cases hz
theorem op_uMul : OpR X (binaryOp .Mult) (r2 nuN (Cx.T X) uMul) := by
  intro pins s σ H x y v u Q I rx ry ⟨G, a, b, z, e, ra, rb, hz, q⟩
  unfold uMul at hz
  split at hz
  · rename_i i j
    split at hz
    · rename_i hc
      cases hz
      exact op_mul pins s σ H x y v u Q I rx ry ⟨i, j, rep_int.1 ra, rep_int.1 rb, hc, nuN_int e q⟩
    · cases hz
  · cases hz
theorem op_uMod : OpR X (binaryOp .Mod) (r2 nuN (Cx.T X) uMod) := by
  intro pins s σ H x y v u Q I rx ry ⟨G, a, b, z, e, ra, rb, hz, q⟩
  unfold uMod at hz
  split at hz
  · rename_i i j
    split at hz
    · rename_i hc
      cases hz
      exact op_mod pins s σ H x y v u Q I rx ry ⟨i, j, rep_int.1 ra, rep_int.1 rb, hc, nuN_int e q⟩
    · cases hz
  · cases hz
theorem op_uFdiv : OpR X (binaryOp .FloorDiv) (r2 nuN (Cx.T X) uFdiv) := by
  intro pins s σ H x y v u Q I rx ry ⟨G, a, b, z, e, ra, rb, hz, q⟩
  unfold uFdiv at hz
  split at hz
  · rename_i i j
    split at hz
    · rename_i hc
      cases hz
      exact op_fdiv pins s σ H x y v u Q I rx ry ⟨i, j, rep_int.1 ra, rep_int.1 rb, hc, nuN_int e q⟩
    · cases hz
  · cases hz
theorem op_uPow : OpR X (binaryOp .Pow) (r2 nuN (Cx.T X) uPow) := by
  intro pins s σ H x y v u Q I rx ry ⟨G, a, b, z, e, ra, rb, hz, q⟩
  unfold uPow at hz
  split at hz
  · rename_i i j
    split at hz
    · rename_i hc
      cases hz
      exact op_pow pins s σ H x y v u Q I rx ry ⟨i, j, rep_int.1 ra, rep_int.1 rb, hc, nuN_int e q⟩
    · cases hz
  · cases hz
theorem un_uNeg : UnR X (unaryOp .USub) (r1 nuN (Cx.T X) uNeg) := by
  intro pins s σ H x v Q I rx ⟨G, a, z, e, ra, hz, q⟩
  unfold uNeg at hz
  split at hz
  · rename_i i
    cases hz
    exact un_neg pins s σ H x v Q I rx ⟨i, rep_int.1 ra, nuN_int e q⟩
  · cases hz
theorem op_uLtI : OpR X (compareOp .Lt) (r2 nuS (Cx.T X) uLtI) := by
  intro pins s σ H x y v u Q I rx ry ⟨G, a, b, z, e, ra, rb, hz, q⟩
  unfold uLtI at hz
  split at hz
  · rename_i i j
    cases hz
    exact op_lt pins s σ H x y v u Q I rx ry ⟨i, j, rep_int.1 ra, rep_int.1 rb, nuS_bl e q⟩
  · cases hz
theorem op_uLeI : OpR X (compareOp .LtE) (r2 nuS (Cx.T X) uLeI) := by
  intro pins s σ H x y v u Q I rx ry ⟨G, a, b, z, e, ra, rb, hz, q⟩
  unfold uLeI at hz
  split at hz
  · rename_i i j
    cases hz
    exact op_le pins s σ H x y v u Q I rx ry ⟨i, j, rep_int.1 ra, rep_int.1 rb, nuS_bl e q⟩
  · cases hz
theorem op_uGtI : OpR X (compareOp .Gt) (r2 nuS (Cx.T X) uGtI) := by
  intro pins s σ H x y v u Q I rx ry ⟨G, a, b, z, e, ra, rb, hz, q⟩
  unfold uGtI at hz
  split at hz
  · rename_i i j
    cases hz
    exact op_gt pins s σ H x y v u Q I rx ry ⟨i, j, rep_int.1 ra, rep_int.1 rb, nuS_bl e q⟩
  · cases hz
theorem op_uGeI : OpR X (compareOp .GtE) (r2 nuS (Cx.T X) uGeI) := by
  intro pins s σ H x y v u Q I rx ry ⟨G, a, b, z, e, ra, rb, hz, q⟩
  unfold uGeI at hz
  split at hz
  · rename_i i j
    cases hz
    exact op_ge pins s σ H x y v u Q I rx ry ⟨i, j, rep_int.1 ra, rep_int.1 rb, nuS_bl e q⟩
  · cases hz
theorem op_uIsB : OpR X (compareOp .Is) (r2 nuS (Cx.T X) uIsB) := by
  intro pins s σ H x y v u Q I rx ry ⟨G, a, b, z, e, ra, rb, hz, q⟩
  unfold uIsB at hz
  split at hz
  · rename_i i j
    cases hz
    exact op_isBl pins s σ H x y v u Q I rx ry ⟨i, j, rep_bl.1 ra, rep_bl.1 rb, nuS_bl e q⟩
  · cases hz
theorem op_uNotB : OpR X (compareOp .IsNot) (r2 nuS (Cx.T X) uNotB) := by
  intro pins s σ H x y v u Q I rx ry ⟨G, a, b, z, e, ra, rb, hz, q⟩
  unfold uNotB at hz
  split at hz
  · rename_i i j
    cases hz
    exact op_notBl pins s σ H x y v u Q I rx ry ⟨i, j, rep_bl.1 ra, rep_bl.1 rb, nuS_bl e q⟩
  · cases hz
end
end Q
set_option maxRecDepth 100000
set_option maxHeartbeats 1000000
/-! QOpT: subscripts, slices, built-ins are what Python does -/
namespace Q
open PySem PySem.Spec PyProof.Rows L2
open Evl (Ex)

theorem bls_of : ∀ {xs : List U} {bs : List Bool}, blsOf xs = some bs → xs = bs.map U.bl
  | [], bs, h => by
    rw [blsOf] at h
    cases h
    rfl
  | x :: xs, bs, h => by
    cases x with
    | bl b =>
      rw [blsOf] at h
      obtain ⟨r, hr, rfl⟩ := Option.map_eq_some_iff.mp h
      rw [bls_of hr]
      rfl
    | _ => simp [blsOf] at h
theorem ints_of : ∀ {xs : List U} {bs : List Int}, intsOf xs = some bs → xs = bs.map U.int
  | [], bs, h => by
    rw [intsOf] at h
    cases h
    rfl
  | x :: xs, bs, h => by
    cases x with
    | int b =>
      rw [intsOf] at h
      obtain ⟨r, hr, rfl⟩ := Option.map_eq_some_iff.mp h
      rw [ints_of hr]
      rfl
    | _ => simp [intsOf] at h
theorem maxL_fold : ∀ (xs : List Int) (x : Int), (xs.foldl (fun a y => if a < y then y else a) x = x ∨ xs.foldl (fun a y => if a < y then y else a) x ∈ xs) ∧ x ≤ xs.foldl (fun a y => if a < y then y else a) x ∧ ∀ y ∈ xs, y ≤ xs.foldl (fun a y => if a < y then y else a) x
  | [], x => ⟨.inl rfl, Int.le_refl _, fun y h => by cases h⟩
  | z :: xs, x => by
    rw [List.foldl_cons]
    obtain ⟨h1, h2, h3⟩ := maxL_fold xs (if x < z then z else x)
    refine ⟨?_, ?_, fun y hy => ?_⟩
    · rcases h1 with h1 | h1
      · by_cases c : x < z
        · right
          rw [h1, if_pos c]
          exact List.mem_cons_self
        · left
          rw [h1, if_neg c]
      · exact .inr (List.mem_cons_of_mem _ h1)
    · refine Int.le_trans ?_ h2
      split <;> omega
    · rcases List.mem_cons.mp hy with rfl | hy
      · refine Int.le_trans ?_ h2
        split <;> omega
      · exact h3 y hy
theorem minL_fold : ∀ (xs : List Int) (x : Int), (xs.foldl (fun a y => if y < a then y else a) x = x ∨ xs.foldl (fun a y => if y < a then y else a) x ∈ xs) ∧ xs.foldl (fun a y => if y < a then y else a) x ≤ x ∧ ∀ y ∈ xs, xs.foldl (fun a y => if y < a then y else a) x ≤ y
  | [], x => ⟨.inl rfl, Int.le_refl _, fun y h => by cases h⟩
  | z :: xs, x => by
    rw [List.foldl_cons]
    obtain ⟨h1, h2, h3⟩ := minL_fold xs (if z < x then z else x)
    refine ⟨?_, ?_, fun y hy => ?_⟩
    · rcases h1 with h1 | h1
      · by_cases c : z < x
        · right
          rw [h1, if_pos c]
          exact List.mem_cons_self
        · left
          rw [h1, if_neg c]
      · exact .inr (List.mem_cons_of_mem _ h1)
    · refine Int.le_trans h2 ?_
      split <;> omega
    · rcases List.mem_cons.mp hy with rfl | hy
      · refine Int.le_trans h2 ?_
        split <;> omega
      · exact h3 y hy
theorem maxL_mem {ns : List Int} (h : ns ≠ []) : maxL ns ∈ ns := by
  cases ns with
  | nil => exact absurd rfl h
  | cons x xs =>
    rcases (maxL_fold xs x).1 with e | e
    · show xs.foldl (fun a y => if a < y then y else a) x ∈ _
      rw [e]
      exact List.mem_cons_self
    · exact List.mem_cons_of_mem _ e
theorem le_maxL {ns : List Int} {y : Int} (h : y ∈ ns) : y ≤ maxL ns := by
  cases ns with
  | nil => cases h
  | cons x xs =>
    rcases List.mem_cons.mp h with rfl | h
    · exact (maxL_fold xs y).2.1
    · exact (maxL_fold xs x).2.2 y h
theorem minL_mem {ns : List Int} (h : ns ≠ []) : minL ns ∈ ns := by
  cases ns with
  | nil => exact absurd rfl h
  | cons x xs =>
    rcases (minL_fold xs x).1 with e | e
    · show xs.foldl (fun a y => if y < a then y else a) x ∈ _
      rw [e]
      exact List.mem_cons_self
    · exact List.mem_cons_of_mem _ e
theorem minL_le {ns : List Int} {y : Int} (h : y ∈ ns) : minL ns ≤ y := by
  cases ns with
  | nil => cases h
  | cons x xs =>
    rcases List.mem_cons.mp h with rfl | h
    · exact (minL_fold xs y).2.1
    · exact (minL_fold xs x).2.2 y h

section
variable {X : Cx} {c : Cn} {W : WX} {k : Nat} {pos : Pos}
/-! ### subscripts -/
theorem reps_at {T : Tab} {G : Hp} {us : List U} {vs : List V} {i : Int} {z : U} (h : Reps T G us vs) (e : atU us i = some z) : ∃ v, atI vs i = some v ∧ Rep T G z v := by
  unfold atU at e
  unfold atI ixN
  have hl := h.length
  by_cases h0 : 0 ≤ i
  · rw [if_pos h0] at e ⊢
    obtain ⟨v, e1, e2⟩ := h.get e
    have hlt := (List.getElem?_eq_some_iff.mp e1).1
    rw [if_pos (by omega)]
    exact ⟨v, e1, e2⟩
  · rw [if_neg h0] at e ⊢
    by_cases h1 : -(us.length : Int) ≤ i
    · rw [if_pos h1] at e
      obtain ⟨v, e1, e2⟩ := h.get e
      rw [hl] at e1 h1
      rw [if_pos h1]
      exact ⟨v, e1, e2⟩
    · rw [if_neg h1] at e
      cases e
theorem ix_u (hr : Room k X.A) : IxR X (r2 nuS (Cx.T X) uIx) := by
  intro value slice pins s σ H x y v u Q I rx ry ⟨G, a, b, z, e, ra, rb, hz, q⟩ hs
  unfold uIx at hz
  split at hz
  · rename_i xs i
    obtain ⟨p, vs, e1, h1, h2⟩ := rep_lst.1 ra
    obtain ⟨w, e3, e4⟩ := reps_at h2 hz
    exact ix_list value slice pins s σ H x y v u Q I rx ry ⟨p, vs, i, w, e1, rep_int.1 rb, Evl.ex_l e h1, e3, q w G H (Grow.refl e) e4⟩ hs
  · rename_i xs i
    obtain ⟨p, vs, e1, h1, h2⟩ := rep_tup.1 ra
    obtain ⟨w, e3, e4⟩ := reps_at h2 hz
    exact ix_tup value slice pins s σ H x y v u Q I rx ry ⟨p, vs, i, w, e1, rep_int.1 rb, Evl.ex_t e h1, e3, q w G H (Grow.refl e) e4⟩ hs
  · rename_i ks us xs
    split at hz
    · rename_i hk
      obtain ⟨a, rfl, ow⟩ := Rep.tab e ra
      obtain rfl : v = Value.ref a := rx
      exact tail_any (t_isdict I e ow) PySem.F.slot_dict_getitem.lookup (t_get hr I e ow hk rb ry hz fun w z' s' I' rw' rz => ⟨z', H, I', rw', q z' G H (Grow.refl e) rz⟩) hs
    · cases hz
  · rename_i ns us n
    obtain ⟨a, rfl, ow⟩ := Rep.tabI e ra
    obtain rfl : v = Value.ref a := rx
    rw [rep_int] at rb
    subst rb
    exact tail_any (ti_isdict I ow) PySem.F.slot_dict_getitem.lookup (ti_get hr I ow ry hz fun w z' s' I' rw' rz => ⟨z', H, I', rw', q z' G H (Grow.refl e) rz⟩) hs
  · cases hz
theorem qe_ix {a b : Expr} {fa fb : EF} (hr : Room k X.A) (ha : QE X c W a fa) (hb : QE X c W b fb) (hs : PlainIx b := by exact fun _ _ => rfl) : QE X c W (.Subscript a b pos) (e2 uIx fa fb) :=
  PE.weak (pe_ix (ix_u hr) ha hb hs) fun _ _ _ q => tq2 (fun r h => nuS_of (G0 := c.G0) r h) q
/-! ### slices -/
theorem sx_eq (n d : Nat) (o : Option Int) : HT.sIx n d o = sxU n d o := by cases o <;> rfl
theorem reps_cut {T : Tab} {G : Hp} {us : List U} {vs : List V} (h : Reps T G us vs) (lo hi : Option Int) : Reps T G (cutU us lo hi) (cutV vs lo hi) := by
  unfold cutU cutV
  rw [sx_eq, sx_eq, h.length]
  exact (h.drop _).take _
def rSlU (T : Tab) : V → Option Int → Option Int → Hp → VK → Prop := fun x lo hi H Q => ∃ G u z, Ex G H ∧ Rep T G u x ∧ uSl u lo hi = some z ∧ nuN T G H z Q
theorem sl_u : SlR X (rSlU (Cx.T X)) := by
  intro pins s σ H x v vl vu lo hi sl Q I rx hs pl pu ⟨G, a, z, e, ra, hz, q⟩
  unfold uSl at hz
  split at hz
  · rename_i xs
    cases hz
    obtain ⟨p, vs, e1, h1, h2⟩ := rep_lst.1 ra
    exact sl_list pins s σ H x v vl vu lo hi sl Q I rx hs pl pu ⟨p, vs, e1, Evl.ex_l e h1, fun d hd => q d _ hd (reps_cut h2 lo hi)⟩
  · rename_i xs
    cases hz
    obtain ⟨p, vs, e1, h1, h2⟩ := rep_tup.1 ra
    refine sl_tupA pins s σ H x v vl vu lo hi sl Q I rx hs pl pu ⟨p, vs, e1, Evl.ex_t e h1, fun w => ?_, fun w => nuN_tup e q (reps_cut h2 lo hi)⟩
    have hc : cutU xs lo hi = xs := by
      unfold cutU
      rw [← sx_eq, ← sx_eq, h2.length, w.1, w.2]
      rw [List.drop_zero, ← h2.length]
      exact List.take_of_length_le (by omega)
    rw [hc] at q
    rw [← e1]
    exact nuN_old e q ra
  · cases hz
abbrev relO : Rel (Option Int) (Option Int) := fun _ _ _ _ a b => a = b
def QO (X : Cx) (c : Cn) (W : WX) (e : Option Expr) (f : OF) : Prop := PO X e (tq (Cx.T X) c W relO f)
theorem qo_no : QO X c W none oNo := PO.weak po_none fun σ H Q q => tq_pure (fun _ => rfl) (fun G ρ _ => rfl) q
theorem qo_some {e : Expr} {f : EF} (h : QE X c W e f) : QO X c W (some e) (oSome f) :=
  PO.weak (po_some h) fun σ H Q ⟨G, ρ, r, h⟩ => by
    refine ⟨G, ρ, r, (PQ.bind (rel := relU (Cx.T X)) h).imp fun x H1 ⟨G1, ρ1, u, e1, r1, l1, h1⟩ => ?_⟩
    cases u with
    | int i => exact ⟨i, rep_int.1 l1, h1 _ G1 H1 Stp.refl r1 rfl⟩
    | _ => exact h1.elim
theorem qe_sl {e : Expr} {lo hi : Option Expr} {f : EF} {l h : OF} {p2 : Pos} (he : QE X c W e f) (hl : QO X c W lo l) (hh : QO X c W hi h) : QE X c W (.Subscript e (.Slice lo hi none p2) pos) (eSl f l h) :=
  PE.weak (pe_slice sl_u he hl hh) fun σ H Q ⟨G, ρ, r, h⟩ => by
    refine ⟨G, ρ, r, (PQ.bind (rel := relU (Cx.T X)) h).imp fun x H1 ⟨G1, ρ1, u, e1, r1, l1, h1⟩ => ?_⟩
    refine ⟨G1, ρ1, r1, (PQ.bind (rel := relO) h1).imp fun x2 H2 ⟨G2, ρ2, u2, e2, r2, l2, h2⟩ => ?_⟩
    refine ⟨G2, ρ2, r2, (PQ.bind (rel := relO) h2).imp fun x3 H3 ⟨G3, ρ3, u3, e3, r3, l3, h3⟩ => ?_⟩
    subst l2 l3
    obtain ⟨z, hz, h4⟩ := rs_ok h3
    exact ⟨G3, u, z, r3.ex, Rep.mono (e2.g.trans e3.g) _ _ l1, hz, nuN_S r3 h4⟩
/-! ### built-ins -/
theorem reps1 {T : Tab} {G : Hp} {u : U} {vs : List V} (h : Reps T G [u] vs) : ∃ v, vs = [v] ∧ Rep T G u v := by
  obtain ⟨v, r, e, h1, h2⟩ := reps_cons.1 h
  rw [reps_nil] at h2
  subst h2
  exact ⟨v, e, h1⟩
theorem reps2 {T : Tab} {G : Hp} {u w : U} {vs : List V} (h : Reps T G [u, w] vs) : ∃ v x, vs = [v, x] ∧ Rep T G u v ∧ Rep T G w x := by
  obtain ⟨v, r, e, h1, h2⟩ := reps_cons.1 h
  obtain ⟨x, rfl, h3⟩ := reps1 h2
  exact ⟨v, x, e, h1, h3⟩
theorem c_len : CallR X (.builtin "len") (rc nuS (Cx.T X) bLen) := by
  intro pins s σ H xs us Q I r ⟨G, ws, z, e, hr, hz, q⟩
  unfold bLen at hz
  split at hz
  · cases hz
    obtain ⟨v, e1, h1⟩ := reps1 hr
    obtain ⟨p, vs, e2, h2, h3⟩ := rep_lst.1 h1
    subst e1 e2
    rw [h3.length] at q
    exact call_len_seq pins s σ H _ us Q I r ⟨p, vs, rfl, .inl (Evl.ex_l e h2), nuS_int e q⟩
  · cases hz
    obtain ⟨v, e1, h1⟩ := reps1 hr
    obtain ⟨p, vs, e2, h2, h3⟩ := rep_tup.1 h1
    subst e1 e2
    rw [h3.length] at q
    exact call_len_seq pins s σ H _ us Q I r ⟨p, vs, rfl, .inr (Evl.ex_t e h2), nuS_int e q⟩
  · cases hz
theorem tyX_of {T : Tab} {G H : Hp} (e : Ex G H) {u : U} {v : V} {t : String} (h : Rep T G u v) (ht : tyOf u = some t) : TyX T.K H v (.type t) := by
  cases u with
  | non =>
    cases ht
    rw [rep_non.1 h]
    exact .base .non
  | bl b =>
    cases ht
    rw [rep_bl.1 h]
    exact .base (.bl b)
  | int i =>
    cases ht
    rw [rep_int.1 h]
    exact .base (.int i)
  | str x =>
    cases ht
    rw [rep_str.1 h]
    exact .base (.str _)
  | tup us =>
    cases ht
    obtain ⟨a, vs, rfl, h1, _⟩ := rep_tup.1 h
    rcases h1 with (h1 | ⟨o, h1⟩) | ⟨o, its, n, hk, hc, _⟩
    · exact .base (.tup (e _ _ h1))
    · exact .fTuple (e _ _ h1)
    · exact .kTuple hk hc
  | lst us =>
    cases ht
    obtain ⟨a, vs, rfl, h1, _⟩ := rep_lst.1 h
    rcases h1 with (h1 | ⟨o, h1⟩) | ⟨o, its, n, hk, hc, _⟩
    · exact .base (.lst (e _ _ h1))
    · exact .base (.frz (e _ _ h1))
    · exact .kList hk hc
  | _ => cases ht
theorem kit_all : (["NoneType", "bool", "int", "str", "tuple", "list"].all fun t => ["int", "bool", "str", "list", "tuple"].all fun T => kitB t T == some (t == T || (t == "bool" && T == "int"))) = true := by decide +kernel
theorem kit_at {t T : String} (ht : t ∈ ["NoneType", "bool", "int", "str", "tuple", "list"]) (hT : T ∈ ["int", "bool", "str", "list", "tuple"]) : kitB t T = some (t == T || (t == "bool" && T == "int")) := by
  have h := kit_all
  rw [List.all_eq_true] at h
  have h2 := h t ht
  rw [List.all_eq_true] at h2
  exact beq_iff_eq.mp (h2 T hT)
theorem ty_in {u : U} {t : String} (h : tyOf u = some t) : t ∈ ["NoneType", "bool", "int", "str", "tuple", "list"] := by
  cases u <;> simp [tyOf] at h <;> subst h <;> decide
theorem c_isInst : CallR X (.builtin "isinstance") (rc nuS (Cx.T X) bIsInst) := by
  intro pins s σ H xs us Q I r ⟨G, ws, z, e, hr, hz, q⟩
  unfold bIsInst at hz
  split at hz
  · rename_i x T
    obtain ⟨t, ht, h2⟩ := Option.bind_eq_some_iff.mp hz
    split at h2
    · rename_i hT
      cases h2
      obtain ⟨v, w, e1, h1, h3⟩ := reps2 hr
      rw [rep_ty] at h3
      subst e1 h3
      have hT' : T ∈ ["int", "bool", "str", "list", "tuple"] := by simpa using hT
      exact call_isi pins s σ H _ us Q I r ⟨v, .ty T, .type t, .type T, _, rfl, .ty T, tyX_of e h1 ht, kit_ty (kit_at (ty_in ht) hT'), nuS_bl e q⟩
    · cases h2
  · cases hz
theorem reps_bls {T : Tab} {G : Hp} : ∀ {bs : List Bool} {vs : List V}, Reps T G (bs.map U.bl) vs → vs = bs.map V.bl
  | [], vs, h => reps_nil.1 h
  | n :: ns, vs, h => by
    obtain ⟨v, r, rfl, h1, h2⟩ := reps_cons.1 h
    rw [rep_bl.1 h1, reps_bls h2]
    rfl
theorem c_all (hc : X.calm = true) : CallR X (.builtin "all") (rc nuS (Cx.T X) bAll) := by
  intro pins s σ H xs us Q I r ⟨G, ws, z, e, hr, hz, q⟩
  unfold bAll at hz
  split at hz
  · rename_i ys
    obtain ⟨bs, hb, rfl⟩ := Option.map_eq_some_iff.mp hz
    obtain ⟨v, e1, h1⟩ := reps1 hr
    rw [bls_of hb] at h1
    obtain ⟨p, vs, e2, h2, h3⟩ := rep_lst.1 h1
    subst e1 e2
    rw [reps_bls h3] at h2
    exact cr_all hc pins s σ H _ us Q I r ⟨p, bs, rfl, Evl.ex_l e h2, nuS_bl e q⟩
  · cases hz
theorem c_any (hc : X.calm = true) : CallR X (.builtin "any") (rc nuS (Cx.T X) bAny) := by
  intro pins s σ H xs us Q I r ⟨G, ws, z, e, hr, hz, q⟩
  unfold bAny at hz
  split at hz
  · rename_i ys
    obtain ⟨bs, hb, rfl⟩ := Option.map_eq_some_iff.mp hz
    obtain ⟨v, e1, h1⟩ := reps1 hr
    rw [bls_of hb] at h1
    obtain ⟨p, vs, e2, h2, h3⟩ := rep_lst.1 h1
    subst e1 e2
    rw [reps_bls h3] at h2
    exact cr_any hc pins s σ H _ us Q I r ⟨p, bs, rfl, Evl.ex_l e h2, nuS_bl e q⟩
  · cases hz
theorem c_sum (hc : X.calm = true) : CallR X (.builtin "sum") (rc nuS (Cx.T X) bSum) := by
  intro pins s σ H xs us Q I r ⟨G, ws, z, e, hr, hz, q⟩
  unfold bSum at hz
  split at hz
  · rename_i ys
    obtain ⟨bs, hb, rfl⟩ := Option.map_eq_some_iff.mp hz
    obtain ⟨v, e1, h1⟩ := reps1 hr
    rw [ints_of hb] at h1
    obtain ⟨p, vs, e2, h2, h3⟩ := rep_lst.1 h1
    subst e1 e2
    rw [reps_ints' h3] at h2
    exact cr_sum hc pins s σ H _ us Q I r ⟨p, bs, rfl, Evl.ex_l e h2, nuS_int e q⟩
  · rename_i ys
    obtain ⟨bs, hb, rfl⟩ := Option.map_eq_some_iff.mp hz
    obtain ⟨v, e1, h1⟩ := reps1 hr
    rw [ints_of hb] at h1
    obtain ⟨p, vs, e2, h2, h3⟩ := rep_tup.1 h1
    subst e1 e2
    rw [reps_ints' h3] at h2
    obtain ⟨its, rv, ht, _⟩ := I.tuple (Evl.ex_t e h2)
    rw [Vals.ref1 r]
    obtain ⟨ys', hx⟩ := rv.ints.allInts.items
    have hn : numsOf (intItems ys').toList = bs := by rw [← hx]; exact rv.ints.numsOf
    rw [nums_intItems] at hn
    rw [hx] at ht
    refine PySem.W.ktm_sumG (I.ok.hd hc) ht fun h' tk t' hk => ?_
    rw [preSum_eq, List.take_of_length_le (by simp), hn]
    exact ⟨.int bs.sum, H, I.kept hk, ⟨_, rfl⟩, nuS_int e q⟩
  · cases hz
theorem holds_ints {h : Heap} : ∀ {us : List Value} {ns : List Int}, IntsAre us ns → PySem.W.HoldAll h us ns := by
  intro us ns hi
  induction hi with
  | nil => exact ⟨_, ReadsAll.nil⟩
  | cons n t _ ih =>
    obtain ⟨as, q⟩ := ih
    exact ⟨_, ReadsAll.cons (Reads.int n t) q⟩
theorem c_max (hc : X.calm = true) (hr : Room k X.A) : CallR X (.builtin "max") (rc nuS (Cx.T X) bMax1) := by
  intro pins s σ H xs us Q I r ⟨G, ws, z, e, hrr, hz, q⟩
  unfold bMax1 at hz
  split at hz
  · rename_i ys
    obtain ⟨bs, hb, h2⟩ := Option.bind_eq_some_iff.mp hz
    split at h2
    · cases h2
    · rename_i h0
      cases h2
      obtain ⟨v, e1, h1⟩ := reps1 hrr
      rw [ints_of hb] at h1
      obtain ⟨p, vs, e2, h2, h3⟩ := rep_lst.1 h1
      subst e1 e2
      rw [reps_ints' h3] at h2
      have hne : bs ≠ [] := fun z => h0 (by rw [z]; rfl)
      refine cr_max hc pins s σ H _ us Q I r ⟨p, bs, rfl, Evl.ex_l e h2, Nat.pos_of_ne_zero h0, fun m hm1 hm2 => ?_⟩
      have : m = maxL bs := Int.le_antisymm (le_maxL hm1) (hm2 _ (maxL_mem hne))
      subst this
      exact nuS_int e q
  · rename_i ys
    obtain ⟨bs, hb, h2⟩ := Option.bind_eq_some_iff.mp hz
    split at h2
    · cases h2
    · rename_i h0
      cases h2
      obtain ⟨v, e1, h1⟩ := reps1 hrr
      rw [ints_of hb] at h1
      obtain ⟨p, vs, e2, h2, h3⟩ := rep_tup.1 h1
      subst e1 e2
      rw [reps_ints' h3] at h2
      obtain ⟨its, rv, ht, _⟩ := I.tuple (Evl.ex_t e h2)
      rw [Vals.ref1 r]
      cases bs with
      | nil => exact absurd rfl h0
      | cons b bs =>
        refine PySem.W.max_tuple_datum (α := Int) (x := b) (xs := bs) (I.ok.hd hc) ht (holds_ints rv.ints) (by have := hu64 hr; show X.A.units + 1 + 0 < _; omega) fun i v h' tk hi ⟨as, hv⟩ hk => ?_
        have e3 : PySem.W.maxOf b bs = maxL (b :: bs) := by
          unfold PySem.W.maxOf maxL
          congr 1
          funext a y
          show (if decide (a < y) = true then y else a) = _
          simp
        rw [e3] at hv
        cases hv with
        | int _ t => exact ⟨.int _, H, I.kept hk, ⟨_, rfl⟩, nuS_int e q⟩
  · cases hz
theorem c_min (hc : X.calm = true) (hr : Room k X.A) : CallR X (.builtin "min") (rc nuS (Cx.T X) bMin1) := by
  intro pins s σ H xs us Q I r ⟨G, ws, z, e, hrr, hz, q⟩
  unfold bMin1 at hz
  split at hz
  · rename_i ys
    obtain ⟨bs, hb, h2⟩ := Option.bind_eq_some_iff.mp hz
    split at h2
    · cases h2
    · rename_i h0
      cases h2
      obtain ⟨v, e1, h1⟩ := reps1 hrr
      rw [ints_of hb] at h1
      obtain ⟨p, vs, e2, h2, h3⟩ := rep_lst.1 h1
      subst e1 e2
      rw [reps_ints' h3] at h2
      have hne : bs ≠ [] := fun z => h0 (by rw [z]; rfl)
      refine cr_min hc pins s σ H _ us Q I r ⟨p, bs, rfl, Evl.ex_l e h2, Nat.pos_of_ne_zero h0, fun m hm1 hm2 => ?_⟩
      have : m = minL bs := Int.le_antisymm (hm2 _ (minL_mem hne)) (minL_le hm1)
      subst this
      exact nuS_int e q
  · rename_i ys
    obtain ⟨bs, hb, h2⟩ := Option.bind_eq_some_iff.mp hz
    split at h2
    · cases h2
    · rename_i h0
      cases h2
      obtain ⟨v, e1, h1⟩ := reps1 hrr
      rw [ints_of hb] at h1
      obtain ⟨p, vs, e2, h2, h3⟩ := rep_tup.1 h1
      subst e1 e2
      rw [reps_ints' h3] at h2
      obtain ⟨its, rv, ht, _⟩ := I.tuple (Evl.ex_t e h2)
      rw [Vals.ref1 r]
      cases bs with
      | nil => exact absurd rfl h0
      | cons b bs =>
        refine PySem.W.min_tuple_datum (α := Int) (x := b) (xs := bs) (I.ok.hd hc) ht (holds_ints rv.ints) (by have := hu64 hr; show X.A.units + 1 + 0 < _; omega) fun i v h' tk hi ⟨as, hv⟩ hk => ?_
        have e3 : PySem.W.minOf b bs = minL (b :: bs) := by
          unfold PySem.W.minOf minL
          congr 1
          funext a y
          show (if decide (y < a) = true then y else a) = _
          simp
        rw [e3] at hv
        cases hv with
        | int _ t => exact ⟨.int _, H, I.kept hk, ⟨_, rfl⟩, nuS_int e q⟩
  · cases hz
theorem c_max2 (hc : X.calm = true) : CallR X (.builtin "max") (rc nuS (Cx.T X) bMax2) := by
  intro pins s σ H xs us Q I r ⟨G, ws, z, e, hr, hz, q⟩
  unfold bMax2 at hz
  split at hz
  · rename_i i j
    cases hz
    obtain ⟨v, w, e1, h1, h3⟩ := reps2 hr
    rw [rep_int] at h1 h3
    subst e1 h1 h3
    exact call_max2 hc pins s σ H _ us Q I r ⟨i, j, rfl, nuS_int e q⟩
  · cases hz
theorem c_min2 (hc : X.calm = true) : CallR X (.builtin "min") (rc nuS (Cx.T X) bMin2) := by
  intro pins s σ H xs us Q I r ⟨G, ws, z, e, hr, hz, q⟩
  unfold bMin2 at hz
  split at hz
  · rename_i i j
    cases hz
    obtain ⟨v, w, e1, h1, h3⟩ := reps2 hr
    rw [rep_int] at h1 h3
    subst e1 h1 h3
    exact call_min2 hc pins s σ H _ us Q I r ⟨i, j, rfl, nuS_int e q⟩
  · cases hz
theorem c_int : CallR X (.type "int") (rc nuN (Cx.T X) bInt) := by
  intro pins s σ H xs us Q I r ⟨G, ws, z, e, hr, hz, q⟩
  unfold bInt at hz
  split at hz
  · rename_i i
    cases hz
    obtain ⟨v, e1, h1⟩ := reps1 hr
    rw [rep_int] at h1
    subst e1 h1
    exact call_int1 pins s σ H _ us Q I r (.inl ⟨i, rfl, nuN_int e q⟩)
  · rename_i b
    cases hz
    obtain ⟨v, e1, h1⟩ := reps1 hr
    rw [rep_bl] at h1
    subst e1 h1
    exact call_int1 pins s σ H _ us Q I r (.inr ⟨b, rfl, nuN_int e q⟩)
  · cases hz
theorem c_list : CallR X (.type "list") (rc nuN (Cx.T X) bList) := by
  intro pins s σ H xs us Q I r ⟨G, ws, z, e, hr, hz, q⟩
  unfold bList at hz
  split at hz
  · cases hz
    obtain ⟨v, e1, h1⟩ := reps1 hr
    obtain ⟨p, vs, e2, h2, h3⟩ := rep_lst.1 h1
    subst e1 e2
    exact call_list_of pins s σ H _ us Q I r ⟨p, vs, rfl, .inl (Evl.ex_l e h2), fun d hd => q d _ hd h3⟩
  · cases hz
    obtain ⟨v, e1, h1⟩ := reps1 hr
    obtain ⟨p, vs, e2, h2, h3⟩ := rep_tup.1 h1
    subst e1 e2
    exact call_list_of pins s σ H _ us Q I r ⟨p, vs, rfl, .inr (Evl.ex_t e h2), fun d hd => q d _ hd h3⟩
  · cases hz
theorem c_tuple : CallR X (.type "tuple") (rc nuN (Cx.T X) bTuple) := by
  intro pins s σ H xs us Q I r ⟨G, ws, z, e, hr, hz, q⟩
  unfold bTuple at hz
  split at hz
  · cases hz
    obtain ⟨v, e1, h1⟩ := reps1 hr
    obtain ⟨p, vs, e2, h2, h3⟩ := rep_lst.1 h1
    subst e1 e2
    exact call_tuple_of pins s σ H _ us Q I r ⟨p, vs, rfl, .inl ⟨Evl.ex_l e h2, nuN_tup e q h3⟩⟩
  · cases hz
    obtain ⟨v, e1, h1⟩ := reps1 hr
    obtain ⟨p, vs, e2, h2, h3⟩ := rep_tup.1 h1
    subst e1
    have q' := nuN_old e q h1
    subst e2
    exact call_tuple_of pins s σ H _ us Q I r ⟨p, vs, rfl, .inr ⟨Evl.ex_t e h2, q'⟩⟩
  · cases hz
end
end Q
set_option maxRecDepth 100000
set_option maxHeartbeats 1000000
/-! QStmt: statements, loops, comprehensions, calls, defs -/
namespace Q
open PySem PySem.Spec PyProof.Rows L2
open Evl (Ex)

/-- the slots' own lists, but those of mu', are known from now on -/
theorem R.freeze {T : Tab} {c : Cn} {G H : Hp} {ρ : Sl} {σ : L2.St} (r : R T c G ρ σ H) (mu' : List Nat) (hs : ∀ i ∈ mu', i ∈ c.mu) (h0 : c.da = none ∨ 0 ∈ mu') : ∃ G', Ex G G' ∧ R T (c.to mu') G' ρ σ H ∧ ∀ a o, G' a = some o → G a = none → ∃ i u, i ∈ c.mu ∧ ρ[i]? = some (some u) ∧ σ[i]? = some (some (.ref a)) := by
  classical
  let S : Addr → Prop := fun a => ∃ i u, i ∈ c.mu ∧ i ∉ mu' ∧ ρ[i]? = some (some u) ∧ σ[i]? = some (some (.ref a))
  let G' : Hp := fun a => if S a then H a else G a
  have hS : ∀ a, S a → G a = none ∧ c.H0 a = none := fun a ⟨i, u, m, m', e, e'⟩ => by
    obtain ⟨b, f1, f2, f3, f4⟩ := r.ow i u e m
    rw [e'] at f1
    cases f1
    refine ⟨f2, ?_⟩
    rcases f3 with z | z
    · exact z
    · exfalso
      obtain ⟨k1, k2, dl, k3⟩ := r.dk a z
      have h00 : 0 ∈ mu' := by
        rcases h0 with q | q
        · rw [z] at q
          cases q
        · exact q
      have hi : i ≠ 0 := fun q => m' (q ▸ h00)
      exact r.ap i 0 u _ e k3 m k1 hi (e'.trans k2.symm)
  have gs : ∀ a, S a → G' a = H a := fun a s => if_pos s
  have gn : ∀ a, ¬ S a → G' a = G a := fun a s => if_neg s
  have ex : Ex G G' := fun a o q => by
    by_cases s : S a
    · rw [(hS a s).1] at q
      cases q
    · rw [gn a s]
      exact q
  refine ⟨G', ex, ⟨fun a h => ?_, fun a o q => ?_, r.g0.trans ex, fun a o q z => ?_, r.fr, (fun a ps q => by
    by_cases s : S a
    · rw [gs a s] at q
      obtain ⟨i, u, m, m', e, e'⟩ := s
      obtain ⟨b, f1, f2, f3, f4⟩ := r.ow i u e m
      rw [e'] at f1
      cases f1
      exact f4.not q ps rfl
    · rw [gn a s] at q
      exact r.ng a ps q), r.dm, r.th, r.dd, r.len, fun i u e m => ?_, fun i u e m => ?_, fun i j u w e1 e2 m1 m2 ne => r.ap i j u w e1 e2 (hs i m1) (hs j m2) ne, fun i v m e => r.lv i v (hs i m) e⟩, fun a o q z => ?_⟩
  · obtain ⟨h1, h2, dl, h3⟩ := r.dk a h
    refine ⟨?_, h2, dl, h3⟩
    rcases h0 with q | q
    · exact absurd ((show c.da = some a from h).symm.trans q) (by simp)
    · exact q
  · by_cases s : S a
    · rw [gs a s] at q
      exact q
    · rw [gn a s] at q
      exact r.ex a o q
  · by_cases s : S a
    · have := (hS a s).2
      have q' : c.H0 a = some o := q
      rw [this] at q'
      cases q'
    · rw [gn a s]
      exact r.nw a o q z
  · by_cases m2 : i ∈ c.mu
    · obtain ⟨b, f1, f2, f3, f4⟩ := r.ow i u e m2
      have s : S b := ⟨i, u, m2, m, e, f1⟩
      obtain ⟨o, g1, kn⟩ := f4.known
      exact ⟨.ref b, f1, kn _ ex ((gs b s).trans g1)⟩
    · obtain ⟨v, f1, f2⟩ := r.sh i u e m2
      exact ⟨v, f1, Rep.mono ex _ _ f2⟩
  · obtain ⟨b, f1, f2, f3, f4⟩ := r.ow i u e (hs i m)
    have s : ¬ S b := fun ⟨j, w, n1, n2, e1, e2⟩ => by
      have ne : j ≠ i := fun q => n2 (q ▸ m)
      exact r.ap j i w u e1 e n1 (hs i m) ne (e2.trans f1.symm)
    exact ⟨b, f1, by rw [gn b s]; exact f2, f3, f4.mono ex rfl⟩
  · by_cases s : S a
    · obtain ⟨i, u, m, _, e, e'⟩ := s
      exact ⟨i, u, m, e, e'⟩
    · rw [gn a s, z] at q
      cases q
/-- back to the wider list of own slots: not possible; a result in the narrower context serves a return -/
def retR (T : Tab) (fr : Bool) (H0 : Hp) (da : Option Addr) (G H : Hp) (u : U) (v : V) : Prop := match fr with
  | false => Rep T G u v
  | true => ∃ a, v = .ref a ∧ G a = none ∧ H0 a = none ∧ da ≠ some a ∧ OwnAt T G H a u
def PFl (T : Tab) (c : Cn) (W : WX) (fr : Bool) (G : Hp) (f : Fl) (D : Ends) : Prop := match f with
  | .next ρ' => ∀ σ' G' H', Ex G G' → R T c G' ρ' σ' H' → D.nx σ' H'
  | .brk ρ' => ∀ σ' G' H', Ex G G' → R T c G' ρ' σ' H' → D.bk σ' H'
  | .cont ρ' => ∀ σ' G' H', Ex G G' → R T c G' ρ' σ' H' → D.ct σ' H'
  | .ret u ρ' => ∀ v G' H', Ex G G' → Fin T c G' ρ' H' → retR T fr c.H0 c.da G' H' u v → D.rt v H'
  | .exc C ρ' => ∀ σ' G' H' d, Ex G G' → XR T c G' ρ' σ' H' → T.mg C = some (.ref d) → W (.ref d) none σ' H'
  | .stuck => False
def tqs (T : Tab) (c : Cn) (W : WX) (fr : Bool) (f : SF) : TS := fun D σ H => ∃ G ρ, R T c G ρ σ H ∧ PFl T c W fr G (f ρ) D
section
variable {T : Tab} {c : Cn} {W : WX} {fr : Bool} {G G1 : Hp} {f : Fl} {D D' : Ends}
theorem PFl.mono (e : Ex G G1) (h : PFl T c W fr G f D) : PFl T c W fr G1 f D := by
  cases f with
  | next ρ => exact fun σ' G' H' e' => h σ' G' H' (e.trans e')
  | brk ρ => exact fun σ' G' H' e' => h σ' G' H' (e.trans e')
  | cont ρ => exact fun σ' G' H' e' => h σ' G' H' (e.trans e')
  | ret u ρ => exact fun v G' H' e' => h v G' H' (e.trans e')
  | exc C ρ => exact fun σ' G' H' d e' => h σ' G' H' d (e.trans e')
  | stuck => exact h
/-- an expression first -/
theorem PFl.of {α β : Type} {rel : Rel α β} {r : Rs α} {k : α → Sl → Fl} {σ : L2.St} {H : Hp} (h : PFl T c W fr G (.of r k) D) :
    PQ T c W rel G H σ r fun x H1 => ∃ G1 ρ1 u, Stp c σ G H G1 H1 ∧ R T c G1 ρ1 σ H1 ∧ rel G1 H1 ρ1 σ u x ∧ PFl T c W fr G1 (k u ρ1) D := by
  cases r with
  | ok u ρ => exact fun v G' H' e r' l => ⟨G', ρ, u, e, r', l, PFl.mono e.g h⟩
  | exc C ρ => exact fun G' H' d e r' => h σ G' H' d e.g r'
  | stuck => exact h
end
section
variable (X : Cx) (c : Cn) (W : WX) (fr : Bool)
def QS (st : Stmt) (f : SF) : Prop := PS X st (tqs (Cx.T X) c W fr f)
def QSs (st : List Stmt) (f : SF) : Prop := PSs X st (tqs (Cx.T X) c W fr f)
/-- a target: sl its slots -/
def tqg (T : Tab) (c : Cn) (sl : List Nat) (g : TgF) : TG := fun v σ H Q => ∃ G ρ u ρ', R T c G ρ σ H ∧ Rep T G u v ∧ g u ρ = some ρ' ∧ ∀ σ', R T c G ρ' σ' H → σ'.length = σ.length → (∀ i, i ∉ sl → σ'[i]? = σ[i]?) → Q σ' H
def tqgs (T : Tab) (c : Cn) (sl : List Nat) (g : TgsF) : TGs := fun vs σ H Q => ∃ G ρ us ρ', R T c G ρ σ H ∧ Reps T G us vs ∧ g us ρ = some ρ' ∧ ∀ σ', R T c G ρ' σ' H → σ'.length = σ.length → (∀ i, i ∉ sl → σ'[i]? = σ[i]?) → Q σ' H
def QG (sl : List Nat) (tg : Expr) (g : TgF) : Prop := PG X tg (tqg (Cx.T X) c sl g)
def QGs (sl : List Nat) (tgs : List Expr) (g : TgsF) : Prop := PGs X tgs (tqgs (Cx.T X) c sl g)
end
section
variable {X : Cx} {c : Cn} {W : WX} {k : Nat} {fr : Bool} {pos : Pos} {st : Stmt} {rest : List Stmt} {f g : SF} {e : Expr} {fe : EF}
theorem qs_nil : QSs X c W fr [] sNil := PSs.weak pss_nil fun D σ H ⟨G, ρ, r, h⟩ => h σ G H (Ex.refl _) r
theorem tqs_seq {D : Ends} {σ : L2.St} {H : Hp} (h : tqs (Cx.T X) c W fr (sSeq f g) D σ H) : tSeq (tqs (Cx.T X) c W fr f) (tqs (Cx.T X) c W fr g) D σ H := by
  obtain ⟨G, ρ, r, h⟩ := h
  refine ⟨G, ρ, r, ?_⟩
  unfold sSeq at h
  generalize f ρ = z at h ⊢
  cases z with
  | next ρ1 => exact fun σ' G' H' e r' => ⟨G', ρ1, r', PFl.mono e h⟩
  | brk ρ1 => exact h
  | cont ρ1 => exact h
  | ret u ρ1 => exact h
  | exc C ρ1 => exact h
  | stuck => exact h
theorem qs_cons (h1 : QS X c W fr st f) (h2 : QSs X c W fr rest g) : QSs X c W fr (st :: rest) (sSeq f g) := PSs.weak (pss_cons h1 h2) fun D σ H h => tqs_seq h
theorem qs_one (h1 : QS X c W fr st f) : QSs X c W fr [st] f := pss_one h1
theorem qs_pass : QS X c W fr (.Pass pos) sNil := PS.weak ps_pass fun D σ H ⟨G, ρ, r, h⟩ => h σ G H (Ex.refl _) r
theorem qs_break : QS X c W fr (.Break pos) sBreak := PS.weak ps_break fun D σ H ⟨G, ρ, r, h⟩ => h σ G H (Ex.refl _) r
theorem qs_cont : QS X c W fr (.Continue pos) sCont := PS.weak ps_continue fun D σ H ⟨G, ρ, r, h⟩ => h σ G H (Ex.refl _) r
theorem qs_expr (he : QE X c W e fe) (hs : swapsWith e none pos.line X.env = pure false := by rfl) : QS X c W fr (.Expr e pos) (sExpr fe) :=
  PS.weak (ps_expr he hs) fun D σ H ⟨G, ρ, r, h⟩ => ⟨G, ρ, r, (PFl.of (rel := relU (Cx.T X)) h).imp fun x H1 ⟨G1, ρ1, u, e1, r1, l1, h1⟩ => h1 σ G1 H1 (Ex.refl _) r1⟩
/-! ### return -/
/-- return e: the lists of its own are known from now on -/
theorem qs_ret (mu' : List Nat) (he : QE X (c.to mu') W e fe) (ht : c.tr = false := by rfl) (hs : (mu'.all fun i => c.mu.contains i) = true := by rfl) (h0 : c.da = none ∨ (0 : Nat) ∈ mu' := by first | exact .inr (by decide) | exact .inl rfl | assumption) : QS X c W false (.Return (some e) pos) (sRet fe) :=
  PS.weak (ps_ret he) fun D σ H ⟨G, ρ, r, h⟩ => by
    have hs' : ∀ i ∈ mu', i ∈ c.mu := fun i hi => isIn (List.all_eq_true.mp hs i hi)
    obtain ⟨G', eg, r', _⟩ := r.freeze mu' hs' h0
    refine ⟨G', ρ, r', ?_⟩
    unfold sRet at h
    generalize fe ρ = z at h ⊢
    cases z with
    | ok u ρ' => exact fun v G2 H2 e2 r2 l => h v G2 H2 (eg.trans e2.g) r2.fin.to l
    | exc C ρ' =>
      intro G2 H2 d e2 r2 hm
      refine h σ G2 H2 d (eg.trans e2.g) ?_ hm
      unfold XR at r2 ⊢
      rw [show (c.to mu').tr = false from ht] at r2
      rw [ht]
      exact r2.to
    | stuck => exact h
/-- return e, e a new list -/
theorem qs_retF (he : QF X c W e fe) : QS X c W true (.Return (some e) pos) (sRet fe) :=
  PS.weak (ps_ret he) fun D σ H ⟨G, ρ, r, h⟩ => by
    refine ⟨G, ρ, r, ?_⟩
    unfold sRet at h
    generalize fe ρ = z at h ⊢
    cases z with
    | ok u ρ' => exact fun v G2 H2 e2 r2 ⟨a, h1, h3, h4, h5, h6, h8, h9⟩ => h v G2 H2 e2.g r2.fin ⟨a, h1, h3, h4, h5, h6⟩
    | exc C ρ' => exact fun G2 H2 d e2 r2 hm => h σ G2 H2 d e2.g r2 hm
    | stuck => exact h
/-- return x, x a list of its own -/
theorem qs_retM (i : Nat) {x : Str} {p : Pos} (hm : c.mu.contains i = true := by rfl) (h0 : c.da = none ∨ i ≠ 0 := by first | exact .inr (by decide) | exact .inl rfl | assumption) (hN : X.N[i]? = some x := by rfl)
    (hv : Vis X.env.scope x := by first | exact Or.inl rfl | exact Or.inr (Or.inl rfl) | exact Or.inr (Or.inr rfl)) (hd : (x == ("__debug__" : Str)) = false := by decide) (hcd : (x == ("__classdict__" : Str)) = false := by decide) :
    QS X c W true (.Return (some (.Name x p)) pos) (sRet (eV i)) :=
  PS.weak (ps_ret (pe_var hN hv hd hcd)) fun D σ H ⟨G, ρ, r, h⟩ => by
    unfold sRet eV at h
    split at h
    · rename_i u e
      obtain ⟨a, e1, e2, e3, e4⟩ := r.ow i u e (isIn hm)
      have hn : c.da ≠ some a := fun q => by
        obtain ⟨k1, k2, dl, k3⟩ := r.dk a q
        have hi : i ≠ 0 := by
          rcases h0 with z | z
          · rw [z] at q
            cases q
          · exact z
        exact r.ap i 0 _ _ e k3 (isIn hm) k1 hi (e1.trans k2.symm)
      have hz : c.H0 a = none := by
        rcases e3 with z | z
        · exact z
        · exact absurd z hn
      exact ⟨.ref a, e1, h (.ref a) G H (Ex.refl _) r.fin ⟨a, rfl, e2, hz, hn, e4⟩⟩
    · exact h.elim
theorem qs_retN : QS X c W false (.Return none pos) sRetN := PS.weak ps_retN fun D σ H ⟨G, ρ, r, h⟩ => h .non G H (Ex.refl _) r.fin (rep_non.2 rfl : Rep (Cx.T X) G .non .non)
/-! ### targets, assignments -/
theorem qg_name (ok : X.N.Nodup) (i : Nat) {x : Str} (hm : c.mu.contains i = false := by rfl) (hi : X.N[i]? = some x := by rfl) (hx : Loc X.env.scope x := by first | exact Or.inl rfl | exact Or.inr rfl) (hf : X.fn x = true ∨ X.env.scope.names.lookup x = some .local := by first | exact .inl rfl | exact .inr rfl) :
    QG X c [i] (.Name x pos) (gN i) :=
  PG.weak (pg_name ok hi hx hf) fun v σ H Q ⟨G, ρ, u, ρ', r, l, e, h⟩ => by
    cases e
    exact h _ (r.store (notIn hm) l) (List.length_set ..) fun j hj => List.getElem?_set_ne (fun z => hj (by simp [z]))
theorem qgs_nil : QGs X c [] [] gsNil :=
  show PGs _ _ _ from ⟨fun pins s σ H vs us Q I r h => pgs_nil.run pins s σ H vs us Q I r (by
    obtain ⟨G, ρ, ws, ρ', rr, l, e, h⟩ := h
    cases ws with
    | nil =>
      cases e
      exact ⟨reps_nil.1 l, h σ rr rfl fun _ _ => rfl⟩
    | cons w ws => cases e)⟩
theorem qgs_cons {s1 s2 : List Nat} {e : Expr} {es : List Expr} {g : TgF} {gs : TgsF} (h1 : QG X c s1 e g) (h2 : QGs X c s2 es gs) (hs : (assignEach (e :: es) X.env).map (·.2) = assign e X.env :: (assignEach es X.env).map (·.2) := by rfl) : QGs X c (s1 ++ s2) (e :: es) (gsCons g gs) :=
  show PGs _ _ _ from ⟨fun pins s σ H vs us Q I r h => (pgs_cons h1 h2 hs).run pins s σ H vs us Q I r (by
    obtain ⟨G, ρ, ws, ρ', rr, l, e, h⟩ := h
    unfold gsCons at e
    cases ws with
    | nil => cases e
    | cons w ws =>
      obtain ⟨v, vr, rfl, l1, l2⟩ := reps_cons.1 l
      simp only at e
      split at e
      · rename_i ρ1 e1
        refine ⟨v, vr, rfl, G, ρ, w, ρ1, rr, l1, e1, fun σ' r' hl ha => ?_⟩
        refine ⟨G, ρ1, ws, ρ', r', l2, e, fun σ2 r2 hl2 ha2 => h σ2 r2 (hl2.trans hl) fun i hi => ?_⟩
        rw [List.mem_append, not_or] at hi
        exact (ha2 i hi.2).trans (ha i hi.1)
      · cases e)⟩
theorem gs_len {s : List Nat} : True := trivial
theorem qg_tup {sl : List Nat} {es : List Expr} {k : Nat} {n : Nat} {gs : TgsF} (hc : X.calm = true) (h : QGs X c sl es gs) (hg : ∀ us ρ ρ', gs us ρ = some ρ' → us.length = n) (hn : (assignEach es X.env).length = n := by rfl) (hst : (assignEach es X.env).findIdx? (·.1) = none := by rfl) :
    QG X c sl (.Tuple es k pos) (gT gs) :=
  PG.weak (pg_tup hc h hn hst) fun v σ H Q ⟨G, ρ, u, ρ', r, l, e, h⟩ => by
    unfold gT at e
    split at e
    · rename_i us
      obtain ⟨a, vs, rfl, h1, h2⟩ := rep_tup.1 l
      exact ⟨a, vs, rfl, Evl.ex_t r.ex h1, h2.length.symm.trans (hg _ _ _ e), G, ρ, us, ρ', r, h2, e, h⟩
    · cases e
theorem gl_nil : ∀ us ρ ρ', gsNil us ρ = some ρ' → us.length = 0 := fun us ρ ρ' h => by
  cases us with
  | nil => rfl
  | cons a b => cases h
theorem gl_cons {n : Nat} {g : TgF} {gs : TgsF} (h : ∀ us ρ ρ', gs us ρ = some ρ' → us.length = n) : ∀ us ρ ρ', gsCons g gs us ρ = some ρ' → us.length = n + 1 := fun us ρ ρ' e => by
  unfold gsCons at e
  cases us with
  | nil => cases e
  | cons a b =>
    simp only at e
    split at e
    · rw [List.length_cons, h _ _ _ e]
    · cases e
/-- target = e -/
theorem qs_asg {tg : Expr} {sl : List Nat} {g : TgF} (he : QE X c W e fe) (hg : QG X c sl tg g) (hs : swapsWithSole [tg] e pos.line X.env = pure false := by rfl) (hw : swappedStores [tg] e X.env = pure none := by rfl)
    (h1 : (assignEach [tg] X.env).map (·.2) = [assign tg X.env] := by rfl) : QS X c W fr (.Assign [tg] e pos) (sAsg fe g) :=
  PS.weak (ps_asg he hg hs hw h1) fun D σ H ⟨G, ρ, r, h⟩ => by
    refine ⟨G, ρ, r, (PFl.of (rel := relU (Cx.T X)) h).imp fun x H1 ⟨G1, ρ1, u, e1, r1, l1, h1⟩ => ?_⟩
    split at h1
    · rename_i ρ2 e2
      exact ⟨G1, ρ1, u, ρ2, r1, l1, e2, fun σ' r' _ _ => h1 σ' G1 H1 (Ex.refl _) r'⟩
    · exact h1.elim
/-- x = e -/
theorem qs_set (ok : X.N.Nodup) (i : Nat) {x : Str} {p : Pos} (he : QE X c W e fe) (hm : c.mu.contains i = false := by rfl) (hi : X.N[i]? = some x := by rfl) (hx : Loc X.env.scope x := by first | exact Or.inl rfl | exact Or.inr rfl)
    (hs : swapsWith e (some (.Name x p)) pos.line X.env = pure false := by rfl) (hf : X.fn x = true ∨ X.env.scope.names.lookup x = some .local := by first | exact .inl rfl | exact .inr rfl) : QS X c W fr (.Assign [.Name x p] e pos) (sSet i fe) :=
  PS.weak (ps_set ok hi hx he hs hf) fun D σ H ⟨G, ρ, r, h⟩ => by
    refine ⟨G, ρ, r, (PFl.of (rel := relU (Cx.T X)) h).imp fun x H1 ⟨G1, ρ1, u, e1, r1, l1, h1⟩ => ?_⟩
    exact h1 _ G1 H1 (Ex.refl _) (r1.store (notIn hm) l1)
/-- x = e, e a new list, x a slot of its own -/
theorem tqF_set {i : Nat} {D : Ends} {σ : L2.St} {H : Hp} (hm : c.mu.contains i = true) (h0 : c.da = none ∨ i ≠ 0) (h : tqs (Cx.T X) c W fr (sSet i fe) D σ H) : tAsg (tqF (Cx.T X) c W fe) (gName i) D σ H := by
  obtain ⟨G, ρ, r, h⟩ := h
  refine ⟨G, ρ, r, (PFl.of (rel := relF (Cx.T X) c H) h).imp fun x H1 ⟨G1, ρ1, u, e1, r1, ⟨a, q1, l1, l2, l3, l4, l6, l7⟩, h1⟩ => ?_⟩
  subst q1
  exact h1 _ G1 H1 (Ex.refl _) (r1.storeOwnG (isIn hm) l1 (.inl l2) l4 (fun j u q m ne => l7 j m) h0)
theorem qs_setF (ok : X.N.Nodup) (i : Nat) {x : Str} {p : Pos} (he : QF X c W e fe) (hm : c.mu.contains i = true := by rfl) (h0 : c.da = none ∨ i ≠ 0 := by first | exact .inr (by decide) | exact .inl rfl | assumption) (hi : X.N[i]? = some x := by rfl) (hx : Loc X.env.scope x := by first | exact Or.inl rfl | exact Or.inr rfl)
    (hs : swapsWith e (some (.Name x p)) pos.line X.env = pure false := by rfl) (hf : X.fn x = true ∨ X.env.scope.names.lookup x = some .local := by first | exact .inl rfl | exact .inr rfl) : QS X c W fr (.Assign [.Name x p] e pos) (sSet i fe) :=
  PS.weak (ps_set ok hi hx he hs hf) fun D σ H h => tqF_set hm h0 h
/-- x op= e -/
theorem qs_aug (ok : X.N.Nodup) (i : Nat) {x : Str} {p : Pos} {op : Operator} {o : U → U → Option U} (ho : OpR X (inplaceOp op) (r2 nuN (Cx.T X) o)) (he : QE X c W e fe) (hm : c.mu.contains i = false := by rfl) (hi : X.N[i]? = some x := by rfl) (hx : Loc X.env.scope x := by first | exact Or.inl rfl | exact Or.inr rfl)
    (hf : X.fn x = true ∨ X.env.scope.names.lookup x = some .local := by first | exact .inl rfl | exact .inr rfl) : QS X c W fr (.AugAssign (.Name x p) op e pos) (sAug i o fe) :=
  PS.weak (ps_aug ok hi hx he ho hf) fun D σ H ⟨G, ρ, r, h⟩ => by
    unfold sAug at h
    split at h
    · rename_i u e
      obtain ⟨v, e1, e2⟩ := r.sh i u e (notIn hm)
      refine ⟨v, e1, G, ρ, r, (PFl.of (rel := relU (Cx.T X)) h).imp fun x H1 ⟨G1, ρ1, w, e3, r1, l1, h1⟩ => ?_⟩
      split at h1
      · rename_i z ez
        exact ⟨G1, u, w, z, r1.ex, Rep.mono e3.g _ _ e2, l1, ez, nuN_S (c := c) (W := fun _ _ _ _ => False) (ρ := ρ1) (σ := σ) r1 fun v2 G2 H2 s2 r2 l2 => h1 _ G2 H2 s2.g (r2.store (notIn hm) l2)⟩
      · exact h1.elim
    · exact h.elim
theorem iop_uAddI : OpR X (inplaceOp .Add) (r2 nuN (Cx.T X) uAddI) := by
  intro pins s σ H x y v u Q I rx ry ⟨G, a, b, z, e, ra, rb, hz, q⟩
  unfold uAddI at hz
  split at hz
  · rename_i i j
    cases hz
    exact iop_add pins s σ H x y v u Q I rx ry ⟨i, j, rep_int.1 ra, rep_int.1 rb, nuN_int e q⟩
  · cases hz
theorem iop_uSub : OpR X (inplaceOp .Sub) (r2 nuN (Cx.T X) uSub) := by
  intro pins s σ H x y v u Q I rx ry ⟨G, a, b, z, e, ra, rb, hz, q⟩
  unfold uSub at hz
  split at hz
  · rename_i i j
    cases hz
    exact iop_sub pins s σ H x y v u Q I rx ry ⟨i, j, rep_int.1 ra, rep_int.1 rb, nuN_int e q⟩
  · cases hz
/-! ### a list of its own is changed, read -/
/-- x.append(e) -/
theorem qs_append (i : Nat) {x : Str} {p apos cpos : Pos} (he : QE X c W e fe) (hm : c.mu.contains i = true := by rfl) (hN : X.N[i]? = some x := by rfl)
    (hv : Vis X.env.scope x := by first | exact Or.inl rfl | exact Or.inr (Or.inl rfl) | exact Or.inr (Or.inr rfl)) (hd : (x == ("__debug__" : Str)) = false := by decide) (hcd : (x == ("__classdict__" : Str)) = false := by decide)
    (hst : starEach [e] X.env = [(false, eval e X.env)] := by rfl)
    (hfew : ((backTo cpos (starEach [e] X.env)).all (fun x => !x.1) && (backToKw cpos (keywordEach [] X.env)).all (fun x => x.1.isSome)
      && decide ([e].length + ([] : List Keyword).length + (if ([] : List Keyword).isEmpty then 0 else 1) < 30)) = true := by rfl)
    (hbase : attributeBase (.Name x p) "append" X.env (eval (.Name x p) X.env) = eval (.Name x p) X.env := by rfl)
    (hline : (apos.endLine == cpos.line) = true := by rfl) (hplain : (backTo cpos (starEach [] X.env)).any (·.1) = false := by rfl)
    (hsw : swapsWith (.Call (.Attribute (.Name x p) "append" apos) [e] [] cpos) none pos.line X.env = pure false := by rfl) :
    QS X c W fr (.Expr (.Call (.Attribute (.Name x p) "append" apos) [e] [] cpos) pos) (sAppend i fe) :=
  PS.weak (ps_expr (pe_bm PySem.F.plainAttrs_list PySem.F.slot_list_append PySem.F.type_list_append mt_append (pe_var hN hv hd hcd) (pa_cons he pa_nil hst) hbase hfew hline hst hplain) hsw) fun D σ H ⟨G, ρ, r, h⟩ => by
    unfold sAppend at h
    split at h
    · rename_i u0 e0
      obtain ⟨a, e1, e2, e3, e4⟩ := r.ow i _ e0 (isIn hm)
      · obtain ⟨vs0, e5, e6⟩ := e4
        refine ⟨.ref a, e1, .inl ⟨rfl, vs0, .inl (.inl e5)⟩, ?_⟩
        refine ⟨G, ρ, r, (PFl.of (rel := relU (Cx.T X)) h).imp fun y H1 ⟨G1, ρ1, w, s1, r1, l1, h1⟩ => ?_⟩
        split at h1
        · rename_i xs ex
          obtain ⟨a', f1, f2, f3, vs, f5, f6⟩ := r1.ow i _ ex (isIn hm)
          rw [e1] at f1
          cases f1
          split at h1
          · rename_i hl
            refine ⟨a, vs, y, rfl, rfl, f5, ?_, ?_⟩
            · rw [f6.length] at hl
              exact Nat.lt_of_le_of_lt hl (by decide)
            · exact h1 σ G1 _ (Ex.refl _) (r1.mut (isIn hm) ex e1 (f6.append (.cons l1 .nil)))
          · exact h1.elim
        · exact h1.elim
    · exact h.elim
/-- x[k] = e -/
theorem qs_put (i : Nat) {x : Str} {p p2 : Pos} {ix : Expr} {fk : EF} (he : QE X c W e fe) (hk : QE X c W ix fk) (hm : c.mu.contains i = true := by rfl) (hN : X.N[i]? = some x := by rfl)
    (hv : Vis X.env.scope x := by first | exact Or.inl rfl | exact Or.inr (Or.inl rfl) | exact Or.inr (Or.inr rfl)) (hd : (x == ("__debug__" : Str)) = false := by decide) (hcd : (x == ("__classdict__" : Str)) = false := by decide)
    (ha : ∀ v, assign (.Subscript (.Name x p) ix p2) X.env v = (do
      let ov ← holding [v] (eval (.Name x p) X.env)
      let iv ← holding [v, ov] (eval ix X.env)
      standAt p2
      holding [v, ov, iv] (setItem ov iv v)
      release [v, ov, iv] []) := by intro _; rfl)
    (hs : swapsWithSole [.Subscript (.Name x p) ix p2] e pos.line X.env = pure false := by rfl) (hw : swappedStores [.Subscript (.Name x p) ix p2] e X.env = pure none := by rfl)
    (h1 : (assignEach [.Subscript (.Name x p) ix p2] X.env).map (·.2) = [assign (.Subscript (.Name x p) ix p2) X.env] := by rfl) :
    QS X c W fr (.Assign [.Subscript (.Name x p) ix p2] e pos) (sPut i fk fe) :=
  PS.weak (ps_asg he (pg_sub (pe_var hN hv hd hcd) hk set_list ha) hs hw h1) fun D σ H ⟨G, ρ, r, h⟩ => by
    refine ⟨G, ρ, r, (PFl.of (rel := relU (Cx.T X)) h).imp fun y H1 ⟨G1, ρ1, w, s1, r1, l1, h1⟩ => ?_⟩
    split at h1
    · rename_i u0 e0
      obtain ⟨a, e1, e2, e3, e4⟩ := r1.ow i u0 e0 (isIn hm)
      refine ⟨.ref a, e1, G1, ρ1, r1, (PFl.of (rel := relU (Cx.T X)) h1).imp fun z H2 ⟨G2, ρ2, j, s2, r2, l2, h2⟩ => ?_⟩
      split at h2
      · rename_i xs n ex
        obtain ⟨a', f1, f2, f3, vs, f5, f6⟩ := r2.ow i _ ex (isIn hm)
        rw [e1] at f1
        cases f1
        split at h2
        · rename_i hl
          refine ⟨a, vs, n, n.toNat, rfl, rep_int.1 l2, f5, ?_, ?_⟩
          · unfold ixN
            rw [if_pos hl.1, if_pos (by rw [← f6.length]; exact hl.2)]
          · exact h2 σ G2 _ (Ex.refl _) (r2.mut (isIn hm) ex e1 (f6.set _ (Rep.mono s2.g _ _ l1)))
        · exact h2.elim
      · exact h2.elim
    · exact h1.elim
/-- x[k], x a list or a table of its own -/
def rIxO (X : Cx) : R2 := fun x y H Q => ∃ (G : Hp) (a : Addr) (d k z : U), Ex G H ∧ x = .ref a ∧ OwnAt (Cx.T X) G H a d ∧ Rep (Cx.T X) G k y ∧ uIx d k = some z ∧ ∀ v, Rep (Cx.T X) G z v → Q v H
theorem ix_own (hr : Room k X.A) : IxR X (rIxO X) := by
  intro value slice pins s σ H x y v u Q I rx ry ⟨G, a, d, j, z, e, ex, ow, rb, hz, q⟩ hs
  subst ex
  obtain rfl : v = Value.ref a := rx
  unfold uIx at hz
  split at hz
  · rename_i xs i
    obtain ⟨vs, h1, h2⟩ := ow
    obtain ⟨w, e3, e4⟩ := reps_at h2 hz
    exact ix_list value slice pins s σ H (.ref a) y (.ref a) u Q I rfl ry ⟨a, vs, i, w, rfl, rep_int.1 rb, .inl (.inl h1), e3, q w e4⟩ hs
  · exact ow.elim
  · rename_i ks us xs
    split at hz
    · rename_i hk
      exact tail_any (t_isdict I e ow) PySem.F.slot_dict_getitem.lookup (t_get hr I e ow hk rb ry hz fun w z' s' I' rw' rz => ⟨z', H, I', rw', q z' rz⟩) hs
    · cases hz
  · rename_i ns us n
    rw [rep_int] at rb
    subst rb
    exact tail_any (ti_isdict I ow) PySem.F.slot_dict_getitem.lookup (ti_get hr I ow ry hz fun w z' s' I' rw' rz => ⟨z', H, I', rw', q z' rz⟩) hs
  · cases hz
theorem qe_ixM (hr : Room k X.A) (i : Nat) {x : Str} {p : Pos} {ix : Expr} {fk : EF} (hk : QE X c W ix fk) (hm : c.mu.contains i = true := by rfl) (hN : X.N[i]? = some x := by rfl)
    (hv : Vis X.env.scope x := by first | exact Or.inl rfl | exact Or.inr (Or.inl rfl) | exact Or.inr (Or.inr rfl)) (hd : (x == ("__debug__" : Str)) = false := by decide) (hcd : (x == ("__classdict__" : Str)) = false := by decide) (hs : PlainIx ix := by exact fun _ _ => rfl) :
    QE X c W (.Subscript (.Name x p) ix pos) (eIxM i uIx fk) :=
  PE.weak (pe_ix (ix_own hr) (pe_var hN hv hd hcd) hk hs) fun σ H Q ⟨G, ρ, r, h⟩ => by
    unfold eIxM at h
    split at h
    · rename_i u0 e0
      obtain ⟨a, e1, e2, e3, e4⟩ := r.ow i u0 e0 (isIn hm)
      refine ⟨.ref a, e1, G, ρ, r, (PQ.bind (rel := relU (Cx.T X)) h).imp fun z H2 ⟨G2, ρ2, j, s2, r2, l2, h2⟩ => ?_⟩
      split at h2
      · rename_i d ex
        obtain ⟨a', f1, f2, f3, f4⟩ := r2.ow i _ ex (isIn hm)
        rw [e1] at f1
        cases f1
        obtain ⟨w, hw, h3⟩ := rs_ok h2
        exact ⟨G2, a, d, j, w, r2.ex, rfl, f4, l2, hw, fun v e6 => h3 v G2 H2 Stp.refl r2 e6⟩
      · exact h2.elim
    · exact h.elim
end
end Q
set_option maxRecDepth 100000
set_option maxHeartbeats 1000000
/-! QFlow: tests, loops, comprehensions, calls, defs -/
namespace Q
open PySem PySem.Spec PyProof.Rows L2
open Evl (Ex)

section
variable {X : Cx} {c : Cn} {W : WX} {k : Nat} {fr : Bool} {pos : Pos} {st : Stmt} {rest : List Stmt} {f g : SF} {e : Expr} {fe : EF}
/-! ### if -/
theorem qs_if {d : Expr} {a b : List Stmt} {t : BF} (hd : QT X c W d t) (ha : QSs X c W fr a f) (hb : QSs X c W fr b g) : QS X c W fr (.If d a b pos) (sIf t f g) :=
  PS.weak (ps_if hd ha hb) fun D σ H ⟨G, ρ, r, h⟩ => by
    refine ⟨G, ρ, r, (PFl.of (rel := relB) h).imp fun x H1 ⟨G1, ρ1, u, e1, r1, l1, h1⟩ => ?_⟩
    subst l1
    cases u with
    | true => exact ⟨G1, ρ1, r1, h1⟩
    | false => exact ⟨G1, ρ1, r1, h1⟩
/-! ### what is walked -/
def ItOk (T : Tab) (G : Hp) (J : It) (us : List U) : Prop :=
  ∀ G' H', Ex G G' → Ex G' H' → ∀ i : Nat, (us.length ≤ i → i ≤ us.length → J.stop i H') ∧ ∀ u, us[i]? = some u → J.go i H' ∧ ∀ x H'', J.yld i H' x H'' → ∃ G'', Grow G' H' G'' H'' ∧ Rep T G'' u x
abbrev relI (T : Tab) : Rel (List U) It := fun G _ _ _ us J => ItOk T G J us
theorem ItOk.mono {T : Tab} {G G' : Hp} {J : It} {us : List U} (e : Ex G G') (h : ItOk T G J us) : ItOk T G' J us := fun G2 H2 e2 => h G2 H2 (e.trans e2)
def QI (X : Cx) (c : Cn) (W : WX) (tg it : Expr) (f : AF) : Prop := PI X tg it (tq (Cx.T X) c W (relI (Cx.T X)) f)
theorem it_list {T : Tab} {G : Hp} {a : Addr} {us : List U} {vs : List V} (h : SqL T.K G a vs) (hr : Reps T G us vs) : ItOk T G (Itl T.K a) us := fun G' H' e1 e2 i => by
  have hl := hr.length
  have hs := Evl.ex_l (e1.trans e2) h
  refine ⟨fun q _ => ⟨vs, hs, by omega⟩, fun u hu => ?_⟩
  obtain ⟨v, hv, rv⟩ := hr.get hu
  refine ⟨⟨vs, v, hs, hv⟩, fun x H'' y => ?_⟩
  obtain ⟨q1, q2⟩ := y
  subst q1
  have := q2 vs hs
  rw [hv] at this
  cases this
  exact ⟨G', Grow.refl e2, Rep.mono e1 _ _ rv⟩
theorem it_tup {T : Tab} {G : Hp} {a : Addr} {us : List U} {vs : List V} (h : SqT T.K G a vs) (hr : Reps T G us vs) : ItOk T G (Itt T.K a) us := fun G' H' e1 e2 i => by
  have hl := hr.length
  have hs := Evl.ex_t (e1.trans e2) h
  refine ⟨fun q _ => ⟨vs, hs, by omega⟩, fun u hu => ?_⟩
  obtain ⟨v, hv, rv⟩ := hr.get hu
  refine ⟨⟨vs, v, hs, hv⟩, fun x H'' y => ?_⟩
  obtain ⟨q1, q2⟩ := y
  subst q1
  have := q2 vs hs
  rw [hv] at this
  cases this
  exact ⟨G', Grow.refl e2, Rep.mono e1 _ _ rv⟩
theorem rangeU_len : ∀ (n : Nat) (lo : Int), (rangeU lo n).length = n
  | 0, _ => rfl
  | n + 1, lo => by rw [rangeU, List.length_cons, rangeU_len n]
theorem rangeU_get : ∀ (n : Nat) (lo : Int) (i : Nat), i < n → (rangeU lo n)[i]? = some (.int (lo + i))
  | n + 1, lo, 0, _ => by simp [rangeU]
  | n + 1, lo, i + 1, h => by
    rw [rangeU, List.getElem?_cons_succ, rangeU_get n (lo + 1) i (by omega)]
    congr 2
    omega
theorem it_range {T : Tab} {G : Hp} {lo : Int} {n : Nat} : ItOk T G (Itr lo n) (rangeU lo n) := fun G' H' e1 e2 i => by
  rw [rangeU_len]
  refine ⟨fun q _ => q, fun u hu => ?_⟩
  have hi : i < n := by
    have := (List.getElem?_eq_some_iff.mp hu).1
    rwa [rangeU_len] at this
  rw [rangeU_get n lo i hi] at hu
  cases hu
  refine ⟨hi, fun x H'' y => ?_⟩
  obtain ⟨q1, q2⟩ := y
  subst q1 q2
  exact ⟨G', Grow.refl e2, rep_int.2 rfl⟩
theorem rep_pair {T : Tab} {G' H' : Hp} {a : Addr} {x y : V} {u w : U} (e2 : Ex G' H') (hT : H' a = none) (h1 : Rep T G' u x) (h2 : Rep T G' w y) : ∃ G'', Grow G' H' G'' (upd H' a (.tup [x, y])) ∧ Rep T G'' (.tup [u, w]) (.ref a) := by
  have gn := Grow.new (o := .tup [x, y]) e2 hT
  exact ⟨_, gn, rep_tup.2 ⟨a, _, rfl, .inl (.inl upd_same), .cons (Rep.mono gn.g _ _ h1) (.cons (Rep.mono gn.g _ _ h2) .nil)⟩⟩
theorem zipU_len (xs ys : List U) : (zipU xs ys).length = min xs.length ys.length := by simp [zipU]
theorem zipU_get {xs ys : List U} {i : Nat} {u : U} (h : (zipU xs ys)[i]? = some u) : ∃ x y, xs[i]? = some x ∧ ys[i]? = some y ∧ u = .tup [x, y] := by
  unfold zipU at h
  rw [List.getElem?_zipWith] at h
  split at h
  · rename_i x y h1 h2
    exact ⟨x, y, h1, h2, (Option.some.inj h).symm⟩
  · cases h
theorem it_zip {T : Tab} {G : Hp} {a b : Addr} {us ws : List U} {vs xs : List V} (h : SqL T.K G a vs) (hr : Reps T G us vs) (h' : SqL T.K G b xs) (hr' : Reps T G ws xs) : ItOk T G (Itz T.K a b) (zipU us ws) := fun G' H' e1 e2 i => by
  have hl := hr.length
  have hl' := hr'.length
  have hs := Evl.ex_l (e1.trans e2) h
  have hs' := Evl.ex_l (e1.trans e2) h'
  rw [zipU_len]
  refine ⟨fun q _ => ⟨vs, xs, hs, hs', by omega⟩, fun u hu => ?_⟩
  obtain ⟨x, y, hx, hy, rfl⟩ := zipU_get hu
  obtain ⟨v, hv, rv⟩ := hr.get hx
  obtain ⟨v', hv', rv'⟩ := hr'.get hy
  refine ⟨⟨vs, xs, v, v', hs, hs', hv, hv'⟩, fun z H'' y => ?_⟩
  obtain ⟨t, p, q, rfl, hT, rfl, q1, q2⟩ := y
  have e3 := q1 vs hs
  have e4 := q2 xs hs'
  rw [hv] at e3
  rw [hv'] at e4
  cases e3
  cases e4
  exact rep_pair e2 hT (Rep.mono e1 _ _ rv) (Rep.mono e1 _ _ rv')
theorem it_zipT {T : Tab} {G : Hp} {a b : Addr} {us ws : List U} {vs xs : List V} (h : SqT T.K G a vs) (hr : Reps T G us vs) (h' : SqT T.K G b xs) (hr' : Reps T G ws xs) : ItOk T G (RZ.ItzT T.K a b) (zipU us ws) := fun G' H' e1 e2 i => by
  have hl := hr.length
  have hl' := hr'.length
  have hs := Evl.ex_t (e1.trans e2) h
  have hs' := Evl.ex_t (e1.trans e2) h'
  rw [zipU_len]
  refine ⟨fun q _ => ⟨vs, xs, hs, hs', by omega⟩, fun u hu => ?_⟩
  obtain ⟨x, y, hx, hy, rfl⟩ := zipU_get hu
  obtain ⟨v, hv, rv⟩ := hr.get hx
  obtain ⟨v', hv', rv'⟩ := hr'.get hy
  refine ⟨⟨vs, xs, v, v', hs, hs', hv, hv'⟩, fun z H'' y => ?_⟩
  obtain ⟨t, p, q, rfl, hT, rfl, q1, q2⟩ := y
  have e3 := q1 vs hs
  have e4 := q2 xs hs'
  rw [hv] at e3
  rw [hv'] at e4
  cases e3
  cases e4
  exact rep_pair e2 hT (Rep.mono e1 _ _ rv) (Rep.mono e1 _ _ rv')
theorem it_enum {T : Tab} {G : Hp} {a : Addr} {us : List U} {vs : List V} (h : SqL T.K G a vs) (hr : Reps T G us vs) : ItOk T G (Ite T.K a) (enumU us) := fun G' H' e1 e2 i => by
  have hl := hr.length
  have hs := Evl.ex_l (e1.trans e2) h
  have hlen : (enumU us).length = us.length := by
    unfold enumU
    rw [zipU_len, rangeU_len, Nat.min_self]
  rw [hlen]
  refine ⟨fun q _ => ⟨vs, hs, by omega⟩, fun u hu => ?_⟩
  obtain ⟨x, y, hx, hy, rfl⟩ := zipU_get hu
  obtain ⟨v, hv, rv⟩ := hr.get hy
  have hi : i < us.length := (List.getElem?_eq_some_iff.mp hy).1
  rw [rangeU_get _ _ _ hi] at hx
  cases hx
  refine ⟨⟨vs, v, hs, hv⟩, fun z H'' y => ?_⟩
  obtain ⟨t, p, rfl, hT, rfl, q1⟩ := y
  have e3 := q1 vs hs
  rw [hv] at e3
  cases e3
  refine rep_pair e2 hT ?_ (Rep.mono e1 _ _ rv)
  rw [Int.zero_add]
  exact rep_int.2 rfl
/-- a list or a tuple -/
def iSeqV (K : PySem.W.Frag) (te : TE) : TI := fun σ H R => te σ H fun x H1 => ∃ a, x = .ref a ∧ ((∃ xs, SqL K H1 a xs ∧ R (Itl K a) H1) ∨ (∃ xs, SqT K H1 a xs ∧ R (Itt K a) H1))
theorem pi_seq {tg l : Expr} {tl : TE} (hl : PE X l tl) : PI X tg l (iSeqV X.K tl) := by
  refine ⟨fun pins s σ H R I h => ?_⟩
  refine thn (hl.run pins s σ H _ I h) fun v s1 ⟨x, H1, I1, r1, q1⟩ => ?_
  obtain ⟨a, e, q⟩ := q1
  subst e
  cases r1
  rcases q with ⟨xs, hq, q⟩ | ⟨xs, hq, q⟩
  · obtain ⟨its, rv, p, hz⟩ := I1.list hq
    refine wpAny_pyIter_list p.isList ?_
    refine ⟨s1.heap.objs.size, [s1.heap.objs.size], _, _, H1, rfl, I1.kept (t' := s1.toks) fun b o e => Heap.get?_push_of_some _ e, turn_list a _, ⟨_, Heap.get?_push_size _ rfl, rfl, rfl⟩, fun b hb => ?_, q⟩
    have e : b = s1.heap.objs.size := by simpa using hb
    subst e
    exact I1.fpOk (Nat.le_refl _) (I1.hok.fresh (Nat.le_refl _))
  · obtain ⟨its, rv, p, hz⟩ := I1.tuple hq
    refine wpAny_pyIter_tuple (show s1.heap.IsTuple a its.toArray from p) ?_
    refine ⟨s1.heap.objs.size, [s1.heap.objs.size], _, _, H1, rfl, I1.kept (t' := s1.toks) fun b o e => Heap.get?_push_of_some _ e, turn_tuple a _, ⟨_, Heap.get?_push_size _ rfl, rfl, rfl⟩, fun b hb => ?_, q⟩
    have e : b = s1.heap.objs.size := by simpa using hb
    subst e
    exact I1.fpOk (Nat.le_refl _) (I1.hok.fresh (Nat.le_refl _))
theorem qi_seq {tg l : Expr} (hl : QE X c W l fe) : QI X c W tg l (iSeq fe) :=
  PI.weak (pi_seq hl) fun σ H Rk ⟨G, ρ, r, h⟩ => by
    refine ⟨G, ρ, r, (PQ.bind (rel := relU (Cx.T X)) h).imp fun x H1 ⟨G1, ρ1, u, e1, r1, l1, h1⟩ => ?_⟩
    cases u with
    | lst us =>
      obtain ⟨a, vs, rfl, h2, h3⟩ := rep_lst.1 l1
      exact ⟨a, rfl, .inl ⟨vs, Evl.ex_l r1.ex h2, h1 _ G1 H1 Stp.refl r1 (it_list h2 h3)⟩⟩
    | tup us =>
      obtain ⟨a, vs, rfl, h2, h3⟩ := rep_tup.1 l1
      exact ⟨a, rfl, .inr ⟨vs, Evl.ex_t r1.ex h2, h1 _ G1 H1 Stp.refl r1 (it_tup h2 h3)⟩⟩
    | _ => exact h1.elim
theorem qi_range1 {tg a : Expr} {as : AF} {p : Pos} (hm : X.mg "range" = none) (ha : QA X c W [a] as) (hg : Gl X "range" := by rfl) (hs : starEach [a] X.env = [(false, eval a X.env)] := by rfl) : QI X c W tg (.Call (.Name "range" p) [a] [] pos) (iRange1 as) :=
  PI.weak (pi_range1 hg hm ha hs) fun σ H Rk ⟨G, ρ, r, h⟩ => by
    refine ⟨G, ρ, r, (PQ.bind (rel := relUs (Cx.T X)) h).imp fun x H1 ⟨G1, ρ1, u, e1, r1, l1, h1⟩ => ?_⟩
    split at h1
    · rename_i j
      split at h1
      · rename_i hj
        obtain ⟨v, e2, l2⟩ := reps1 l1
        rw [rep_int] at l2
        subst e2 l2
        exact ⟨j, rfl, hj.1, hj.2, h1 _ G1 H1 Stp.refl r1 it_range⟩
      · exact h1.elim
    · exact h1.elim
theorem qi_range2 {tg a b : Expr} {as : AF} {p : Pos} (hm : X.mg "range" = none) (ha : QA X c W [a, b] as) (hg : Gl X "range" := by rfl) (hs : starEach [a, b] X.env = [(false, eval a X.env), (false, eval b X.env)] := by rfl) (hs2 : starEach [b] X.env = [(false, eval b X.env)] := by rfl) :
    QI X c W tg (.Call (.Name "range" p) [a, b] [] pos) (iRange2 as) :=
  PI.weak (pi_range2 hg hm ha hs hs2) fun σ H Rk ⟨G, ρ, r, h⟩ => by
    refine ⟨G, ρ, r, (PQ.bind (rel := relUs (Cx.T X)) h).imp fun x H1 ⟨G1, ρ1, u, e1, r1, l1, h1⟩ => ?_⟩
    split at h1
    · rename_i i j
      split at h1
      · rename_i hj
        obtain ⟨v, w, e2, l2, l3⟩ := reps2 l1
        rw [rep_int] at l2 l3
        subst e2 l2 l3
        exact ⟨i, j, rfl, hj, h1 _ G1 H1 Stp.refl r1 it_range⟩
      · exact h1.elim
    · exact h1.elim
theorem qi_zip {a b : Expr} {as : AF} {p tpos : Pos} {elts : List Expr} {kk : Nat} (hm : X.mg "zip" = none) (ha : QA X c W [a, b] as) (hg : Gl X "zip" := by rfl)
    (hs : starEach [a, b] X.env = (false, eval a X.env) :: starEach [b] X.env := by rfl) (hs2 : (backTo pos (starEach [b] X.env)).any (·.1) = false := by rfl) : QI X c W (.Tuple elts kk tpos) (.Call (.Name "zip" p) [a, b] [] pos) (iZip as) :=
  PI.weak (RZ.pi_zipA hg hm ha hs hs2) fun σ H Rk ⟨G, ρ, r, h⟩ => by
    refine ⟨G, ρ, r, (PQ.bind (rel := relUs (Cx.T X)) h).imp fun x H1 ⟨G1, ρ1, u, e1, r1, l1, h1⟩ => ?_⟩
    split at h1
    · obtain ⟨v, w, e2, l2, l3⟩ := reps2 l1
      obtain ⟨p1, vs1, rfl, k1, k2⟩ := rep_lst.1 l2
      obtain ⟨p2, vs2, rfl, k3, k4⟩ := rep_lst.1 l3
      exact ⟨p1, p2, vs1, vs2, e2, .inl ⟨Evl.ex_l r1.ex k1, Evl.ex_l r1.ex k3, h1 _ G1 H1 Stp.refl r1 (it_zip k1 k2 k3 k4)⟩⟩
    · obtain ⟨v, w, e2, l2, l3⟩ := reps2 l1
      obtain ⟨p1, vs1, rfl, k1, k2⟩ := rep_tup.1 l2
      obtain ⟨p2, vs2, rfl, k3, k4⟩ := rep_tup.1 l3
      exact ⟨p1, p2, vs1, vs2, e2, .inr ⟨Evl.ex_t r1.ex k1, Evl.ex_t r1.ex k3, h1 _ G1 H1 Stp.refl r1 (it_zipT k1 k2 k3 k4)⟩⟩
    · exact h1.elim
/-! ### for -/
theorem qs_for {tg it : Expr} {body : List Stmt} {fi : AF} {sl : List Nat} {gt : TgF} (own : PassesOwn (model X.prog X.w) X.A X.env X.xe) (calm : X.calm = true) (hi : QI X c W tg it fi) (hg : QG X c sl tg gt) (hb : QSs X c W fr body f)
    (hs : ∀ x, foldedSetIterable it X.env x = pure x := by intro _; rfl) : QS X c W fr (.For tg it body [] pos) (sFor fi gt f) :=
  PS.weak (ps_for own calm hi hg hb hs) fun D σ H ⟨G, ρ, r, h⟩ => by
    refine ⟨G, ρ, r, (PFl.of (rel := relI (Cx.T X)) h).imp fun J H1 ⟨G1, ρ1, us, e1, r1, l1, h1⟩ => ?_⟩
    refine ⟨fun i m σ H => ∃ G ρ, Ex G1 G ∧ R (Cx.T X) c G ρ σ H ∧ i ≤ us.length ∧ m = us.length - i ∧ PFl (Cx.T X) c W fr G (forL gt f (us.drop i) ρ) D,
      ⟨_, G1, ρ1, Ex.refl _, r1, Nat.zero_le _, rfl, h1⟩, ?_⟩
    rintro i m σ H ⟨G, ρ, ex, r, hi, rfl, h⟩
    obtain ⟨q1, q2⟩ := l1 G H ex r.ex i
    by_cases hlt : i < us.length
    · right
      have hd : us.drop i = us[i] :: us.drop (i + 1) := List.drop_eq_getElem_cons hlt
      rw [hd, forL] at h
      obtain ⟨q3, q4⟩ := q2 us[i] (by simp [hlt])
      refine ⟨q3, fun σ' H' => ∃ G ρ, Ex G1 G ∧ R (Cx.T X) c G ρ σ' H' ∧ PFl (Cx.T X) c W fr G (forL gt f (us.drop (i + 1)) ρ) D, fun σ' H' ⟨G', ρ', k1, k2, k3⟩ => ⟨us.length - (i + 1), by omega, G', ρ', k1, k2, hlt, rfl, k3⟩, fun x H' y => ?_⟩
      obtain ⟨G2, gw, rx⟩ := q4 x H' y
      split at h
      · rename_i ρ2 e2
        refine ⟨G2, ρ, us[i], ρ2, r.grow gw, rx, e2, fun σ' r' _ _ => ⟨G2, ρ2, r', ?_⟩⟩
        have ex2 := ex.trans gw.g
        generalize f ρ2 = z at h ⊢
        cases z with
        | next ρ3 => exact fun σ3 G3 H3 e3 r3 => ⟨G3, ρ3, ex2.trans e3, r3, PFl.mono (gw.g.trans e3) h⟩
        | cont ρ3 => exact fun σ3 G3 H3 e3 r3 => ⟨G3, ρ3, ex2.trans e3, r3, PFl.mono (gw.g.trans e3) h⟩
        | brk ρ3 => exact fun σ3 G3 H3 e3 r3 => h σ3 G3 H3 (gw.g.trans e3) r3
        | ret u ρ3 => exact fun v G3 H3 e3 => h v G3 H3 (gw.g.trans e3)
        | exc C ρ3 => exact fun σ3 G3 H3 d e3 => h σ3 G3 H3 d (gw.g.trans e3)
        | stuck => exact h
      · exact h.elim
    · left
      have e : i = us.length := by omega
      subst e
      rw [List.drop_length, forL] at h
      exact ⟨q1 (Nat.le_refl _) (Nat.le_refl _), h σ G H (Ex.refl _) r⟩
/-! ### while -/
theorem qs_while (n : Nat) {d : Expr} {body : List Stmt} {t : BF} (own : PassesOwn (model X.prog X.w) X.A X.env X.xe) (hd : QT X c W d t) (hb : QSs X c W fr body f) : QS X c W fr (.While d body [] pos) (sWhile n t f) :=
  PS.weak (ps_while own hd hb) fun D σ H ⟨G, ρ, r, h⟩ => by
    refine ⟨fun m σ H => ∃ G ρ, R (Cx.T X) c G ρ σ H ∧ PFl (Cx.T X) c W fr G (whileL t f m ρ) D, ⟨n, G, ρ, r, h⟩, ?_⟩
    rintro m σ H ⟨G, ρ, r, h⟩
    cases m with
    | zero => exact h.elim
    | succ m =>
      rw [whileL] at h
      refine ⟨G, ρ, r, (PFl.of (rel := relB) h).imp fun x H1 ⟨G1, ρ1, u, e1, r1, l1, h1⟩ => ?_⟩
      subst l1
      cases u with
      | false => exact h1 σ G1 H1 (Ex.refl _) r1
      | true =>
        refine ⟨fun σ' H' => ∃ G ρ, R (Cx.T X) c G ρ σ' H' ∧ PFl (Cx.T X) c W fr G (whileL t f m ρ) D, fun σ' H' q => ⟨m, Nat.lt_succ_self _, q⟩, G1, ρ1, r1, ?_⟩
        simp only [if_true] at h1
        generalize f ρ1 = z at h1 ⊢
        cases z with
        | next ρ3 => exact fun σ3 G3 H3 e3 r3 => ⟨G3, ρ3, r3, PFl.mono e3 h1⟩
        | cont ρ3 => exact fun σ3 G3 H3 e3 r3 => ⟨G3, ρ3, r3, PFl.mono e3 h1⟩
        | brk ρ3 => exact h1
        | ret u ρ3 => exact h1
        | exc C ρ3 => exact h1
        | stuck => exact h1
/-! ### comprehensions -/
abbrev W0 : WX := fun _ _ _ _ => False
def QTs (X : Cx) (c : Cn) (W : WX) (es : List Expr) (f : BF) : Prop := PTs X es (tq (Cx.T X) c W relB f)
theorem qts_nil : QTs X c W [] tTrue := PTs.weak pts_nil fun σ H Q q => tq_pure (fun _ => rfl) (fun G ρ _ => rfl) q
theorem qts_one {t : BF} (h : QT X c W e t) : QTs X c W [e] t := pts_one h
theorem wipeU_len (ρ : Sl) : ∀ vs, (wipeU ρ vs).length = ρ.length
  | [] => rfl
  | v :: vs => by rw [wipeU, List.length_set, wipeU_len ρ vs]
theorem wipeU_some {ρ : Sl} {i : Nat} {u : U} : ∀ {vs : List Nat}, (wipeU ρ vs)[i]? = some (some u) → ρ[i]? = some (some u) ∧ i ∉ vs
  | [], h => ⟨h, by simp⟩
  | v :: vs, h => by
    unfold wipeU at h
    by_cases hi : v = i
    · subst hi
      by_cases hv : v < (wipeU ρ vs).length
      · rw [List.getElem?_set_self hv] at h
        cases h
      · rw [List.getElem?_eq_none (by simpa using hv)] at h
        cases h
    · rw [List.getElem?_set_ne hi] at h
      obtain ⟨h1, h2⟩ := wipeU_some h
      exact ⟨h1, by simp only [List.mem_cons, not_or]; exact ⟨fun e => hi e.symm, h2⟩⟩
theorem wipeU_out {ρ : Sl} {i : Nat} : ∀ {vs : List Nat}, i ∉ vs → (wipeU ρ vs)[i]? = ρ[i]?
  | [], _ => rfl
  | v :: vs, h => by
    rw [List.mem_cons, not_or] at h
    rw [wipeU, List.getElem?_set_ne (fun e => h.1 e.symm), wipeU_out h.2]
theorem wipe_out' {σ : L2.St} {i : Nat} : ∀ {vs : List Nat}, i ∉ vs → (wipe σ vs)[i]? = σ[i]?
  | [], _ => rfl
  | v :: vs, h => by
    rw [List.mem_cons, not_or] at h
    rw [wipe, List.getElem?_set_ne (fun e => h.1 e.symm), wipe_out' h.2]
theorem backU_len (ρ0 ρ : Sl) : ∀ vs, (backU ρ0 ρ vs).length = ρ.length
  | [] => rfl
  | v :: vs => by rw [backU, List.length_set, backU_len ρ0 ρ vs]
theorem backU_out {ρ0 ρ : Sl} {i : Nat} : ∀ {vs : List Nat}, i ∉ vs → (backU ρ0 ρ vs)[i]? = ρ[i]?
  | [], _ => rfl
  | v :: vs, h => by
    rw [List.mem_cons, not_or] at h
    rw [backU, List.getElem?_set_ne (fun e => h.1 e.symm), backU_out h.2]
theorem backU_in {ρ0 ρ : Sl} {i : Nat} {u : U} : ∀ {vs : List Nat}, i ∈ vs → (backU ρ0 ρ vs)[i]? = some (some u) → ρ0[i]? = some (some u)
  | v :: vs, h, e => by
    rw [backU] at e
    by_cases hv : v = i
    · subst hv
      have hl : v < (backU ρ0 ρ vs).length := by
        have := (List.getElem?_eq_some_iff.mp e).1
        rwa [List.length_set] at this
      rw [List.getElem?_set_self hl] at e
      rw [List.getD_eq_getElem?_getD] at e
      cases q : ρ0[v]? with
      | none =>
        rw [q] at e
        cases e
      | some o =>
        rw [q] at e
        exact e
    · rw [List.getElem?_set_ne hv] at e
      exact backU_in ((List.mem_cons.mp h).resolve_left fun z => hv z.symm) e
theorem R.wipe {T : Tab} {G H : Hp} {ρ : Sl} {σ : L2.St} (r : R T c G ρ σ H) {vs : List Nat} (hv : ∀ i ∈ vs, i ∉ c.mu) : R T c G (wipeU ρ vs) (wipe σ vs) H where
  dk := fun a h => by
    obtain ⟨h1, h2, dl, h3⟩ := r.dk a h
    have h0 : (0 : Nat) ∉ vs := fun z => hv 0 z h1
    rw [wipeU_out h0, wipe_out' h0]
    exact ⟨h1, h2, dl, h3⟩
  ex := r.ex
  g0 := r.g0
  nw := r.nw
  fr := r.fr
  ng := r.ng
  dm := r.dm
  th := r.th
  dd := r.dd
  len := by rw [wipeU_len, wipe_length, r.len]
  sh := fun i u h m => by
    obtain ⟨h1, h2⟩ := wipeU_some h
    rw [wipe_out' h2]
    exact r.sh i u h1 m
  ow := fun i u h m => by
    obtain ⟨h1, h2⟩ := wipeU_some h
    rw [wipe_out' h2]
    exact r.ow i u h1 m
  ap := fun i j u w h1 h2 m1 m2 ne => by
    obtain ⟨k1, k2⟩ := wipeU_some h1
    obtain ⟨k3, k4⟩ := wipeU_some h2
    rw [wipe_out' k2, wipe_out' k4]
    exact r.ap i j u w k1 k3 m1 m2 ne
  lv := fun i v m e => by
    have hi : i ∉ vs := fun z => hv i z m
    rw [wipe_out' hi] at e
    rw [wipeU_out hi]
    exact r.lv i v m e
theorem wipe_same {σ σ' : L2.St} (hl : σ'.length = σ.length) : ∀ {vs : List Nat}, (∀ i, i ∉ vs → σ'[i]? = σ[i]?) → wipe σ' vs = wipe σ vs := fun {vs} h => by
  apply List.ext_getElem?
  intro i
  by_cases hi : i ∈ vs
  · have key : ∀ (τ : L2.St), τ.length = σ.length → (wipe τ vs)[i]? = if i < σ.length then some none else none := fun τ hτ => by
      by_cases hlt : i < σ.length
      · rw [if_pos hlt]
        have hlt' : i < (wipe τ vs).length := by rw [wipe_length, hτ]; exact hlt
        rw [List.getElem?_eq_getElem hlt']
        congr 1
        cases q : (wipe τ vs)[i] with
        | none => rfl
        | some v =>
          have : (wipe τ vs)[i]? = some (some v) := by rw [List.getElem?_eq_getElem hlt', q]
          exact absurd hi (wipe_some this).2
      · rw [if_neg hlt]
        exact List.getElem?_eq_none (by rw [wipe_length, hτ]; omega)
    rw [key σ' hl, key σ rfl]
  · rw [wipe_out' hi, wipe_out' hi, h i hi]
end
end Q
set_option maxRecDepth 100000
set_option maxHeartbeats 2000000
/-! QDef: comprehensions, calls, defs -/
namespace Q
open PySem PySem.Spec PyProof.Rows L2
open Evl (Ex)

theorem Stp.cong {c : Cn} {σ τ : L2.St} {G H G' H' : Hp} (e : ∀ i ∈ c.mu, τ[i]? = σ[i]?) (s : Stp c τ G H G' H') : Stp c σ G H G' H' :=
  ⟨s.g, fun a o h m t => s.k a o h (fun i hi => by rw [e i hi]; exact m i hi) t, s.n, s.d⟩
/-- an object outside all that is told is changed -/
theorem R.free {T : Tab} {c : Cn} {G H : Hp} {ρ : Sl} {σ : L2.St} {D : Addr} {o : HO} (r : R T c G ρ σ H) (ht : ∀ p ∈ c.tb, p.1 ≠ D) (hcd : ∀ q, H D ≠ some (LamX.CodeO D q)) (h1 : G D = none) (h2 : c.H0 D = none) (h3 : ∀ i ∈ c.mu, σ[i]? ≠ some (some (.ref D))) : R T c G ρ σ (upd H D o) where
  dk := r.dk
  ex := fun a x q => by rw [upd_ne (ne_of_none q h1)]; exact r.ex a x q
  g0 := r.g0
  nw := r.nw
  fr := fun a x q d t => by rw [upd_ne (ne_of_none q h2)]; exact r.fr a x q d t
  ng := r.ng
  dm := fun b o q => by
    obtain ⟨o', q'⟩ := r.dm b o q
    by_cases hb : b = D
    · subst hb
      exact ⟨_, upd_same⟩
    · exact ⟨o', by rw [upd_ne hb]; exact q'⟩
  th := tabs_upd r.th ht hcd
  dd := fun a h => by
    by_cases hb : a = D
    · subst hb
      exact ⟨_, upd_same⟩
    · rw [upd_ne hb]
      exact r.dd a h
  len := r.len
  sh := r.sh
  ow := fun i u e m => by
    obtain ⟨b, e1, e2, e3, e4⟩ := r.ow i u e m
    have hb : b ≠ D := fun z => h3 i m (z ▸ e1)
    exact ⟨b, e1, e2, e3, e4.mono (Ex.refl _) (upd_ne hb)⟩
  ap := r.ap
  lv := r.lv
/-- behind a comprehension: its own slots as they stood -/
theorem R.back {T : Tab} {c : Cn} {G G1 H H1 : Hp} {ρ ρ1 : Sl} {σ : L2.St} {vs : List Nat} (hv : ∀ i ∈ vs, i ∉ c.mu) (r1 : R T c G1 ρ1 σ H1) (ex : Ex G1 G) (r : R T c G (wipeU ρ vs) (L2.wipe σ vs) H) : R T c G (backU ρ1 ρ vs) σ H where
  dk := fun a h => by
    obtain ⟨h1, h2, dl, h3⟩ := r.dk a h
    have h0 : (0 : Nat) ∉ vs := fun z => hv 0 z h1
    rw [wipeU_out h0] at h3
    rw [wipe_out' h0] at h2
    rw [backU_out h0]
    exact ⟨h1, h2, dl, h3⟩
  ex := r.ex
  g0 := r.g0
  nw := r.nw
  fr := r.fr
  ng := r.ng
  dm := r.dm
  th := r.th
  dd := r.dd
  len := by
    have := r.len
    rw [wipeU_len, wipe_length] at this
    rw [backU_len, this]
  sh := fun i u e m => by
    by_cases hi : i ∈ vs
    · obtain ⟨v, e1, e2⟩ := r1.sh i u (backU_in hi e) m
      exact ⟨v, e1, Rep.mono ex _ _ e2⟩
    · rw [backU_out hi] at e
      obtain ⟨v, e1, e2⟩ := r.sh i u (by rw [wipeU_out hi]; exact e) m
      rw [wipe_out' hi] at e1
      exact ⟨v, e1, e2⟩
  ow := fun i u e m => by
    have hi : i ∉ vs := fun z => hv i z m
    rw [backU_out hi] at e
    obtain ⟨a, e1, e2⟩ := r.ow i u (by rw [wipeU_out hi]; exact e) m
    rw [wipe_out' hi] at e1
    exact ⟨a, e1, e2⟩
  ap := fun i j u w e1 e2 m1 m2 ne => by
    have hi : i ∉ vs := fun z => hv i z m1
    have hj : j ∉ vs := fun z => hv j z m2
    rw [backU_out hi] at e1
    rw [backU_out hj] at e2
    have := r.ap i j u w (by rw [wipeU_out hi]; exact e1) (by rw [wipeU_out hj]; exact e2) m1 m2 ne
    rw [wipe_out' hi, wipe_out' hj] at this
    exact this
  lv := fun i v m e => by
    have hi : i ∉ vs := fun z => hv i z m
    obtain ⟨u, q⟩ := r.lv i v m (by rw [wipe_out' hi]; exact e)
    rw [wipeU_out hi] at q
    rw [backU_out hi]
    exact ⟨u, q⟩

section
variable {X : Cx} {c : Cn} {W : WX} {k : Nat} {fr : Bool} {pos : Pos} {e : Expr} {fe : EF}
/-- the loop of a comprehension: from the walk's start to the new list -/
theorem lc_allS {us : List U} {J : It} {sl vs : List Nat} {gt : TgF} {ft : BF} {D : Addr} {σ : L2.St} {G1 H0 H1 : Hp} {ρ1 ρF : Sl} {accF : List U} {Qd : Hp → Prop} {T : Tab}
    (hsl : ∀ i ∈ sl, i ∈ vs) (hvm : ∀ i ∈ vs, i ∉ c.mu) (r1 : R T c G1 ρ1 σ H1) (l1 : ItOk T G1 J us) (hz : us.length ≤ 100000) (hD : H1 D = none) (h00 : ∀ b o, H0 b = some o → ∃ o', H1 b = some o')
    (hF : compL vs gt ft fe us ρ1 [] = .ok accF ρF)
    (h : ∀ H2 G2, Stp c σ G1 H1 G2 H2 → R T c G2 (backU ρ1 ρF vs) σ H2 → relF T c H0 G2 H2 (backU ρ1 ρF vs) σ (.lst accF) (.ref D) → Qd H2) :
    ∃ W : Nat → Nat → Hp → Prop, (∃ m, W 0 m (upd H1 D (.lst []))) ∧ (∀ i m H, W i m H → ∃ G, Stp c σ G1 H1 G H) ∧ ∀ i m H, W i m H → (J.stop i H ∧ Qd H) ∨ (J.go i H ∧ ∃ Nx : Hp → Prop, (∀ H', Nx H' → ∃ m', m' < m ∧ W (i + 1) m' H') ∧
      ∀ x H', J.yld i H x H' → tqg T c sl gt x (wipe σ vs) H' fun σ2 H2 => wipe σ2 vs = wipe σ vs ∧ tq T c W0 relB ft σ2 H2 fun b H3 =>
        if b = true then tq T c W0 (relU T) fe σ2 H3 fun y H4 => ∃ acc, H4 D = some (.lst acc) ∧ acc.length < sizeLine ∧ Nx (upd H4 D (.lst (acc ++ [y]))) else Nx H3) := by
  obtain ⟨rN, stN, a0, z1, n1, n2, n3, n4, n6, n7⟩ := relF_new (us := []) (Hs := H0) r1 hD .nil h00
  have hDt : ∀ p ∈ c.tb, p.1 ≠ D := tne0 r1.th hD
  cases z1
  have muv : ∀ i ∈ c.mu, i ∉ vs := fun i hi z => hvm i z hi
  refine ⟨fun i m H => ∃ G ρ accU accV, Stp c σ G1 H1 G H ∧ R T c G (wipeU ρ vs) (wipe σ vs) H ∧ H D = some (.lst accV) ∧ Reps T G accU.reverse accV ∧ G D = none ∧ accV.length ≤ i ∧ i ≤ us.length ∧ m = us.length - i ∧
      compL vs gt ft fe (us.drop i) ρ accU = .ok accF ρF, ⟨_, G1, ρ1, [], [], stN, rN.wipe hvm, upd_same, .nil, n1, Nat.zero_le _, Nat.zero_le _, rfl, hF⟩, fun i m H ⟨G, _, _, _, st, _⟩ => ⟨G, st⟩, ?_⟩
  rintro i m H ⟨G, ρ, accU, accV, st, r, hHD, hacc, hGD, hle, hi, rfl, hc⟩
  obtain ⟨q1, q2⟩ := l1 G H st.g r.ex i
  by_cases hlt : i < us.length
  · right
    have hd : us.drop i = us[i] :: us.drop (i + 1) := List.drop_eq_getElem_cons hlt
    rw [hd, compL] at hc
    obtain ⟨q3, q4⟩ := q2 us[i] (by simp [hlt])
    refine ⟨q3, fun H' => ∃ G ρ accU accV, Stp c σ G1 H1 G H' ∧ R T c G (wipeU ρ vs) (wipe σ vs) H' ∧ H' D = some (.lst accV) ∧ Reps T G accU.reverse accV ∧ G D = none ∧ accV.length ≤ i + 1 ∧
      compL vs gt ft fe (us.drop (i + 1)) ρ accU = .ok accF ρF, fun H' ⟨G', ρ', aU, aV, k1, k2, k3, k4, k5, k6, k7⟩ => ⟨us.length - (i + 1), by omega, G', ρ', aU, aV, k1, k2, k3, k4, k5, k6, hlt, rfl, k7⟩, fun x H' y => ?_⟩
    obtain ⟨G', gw, rx⟩ := q4 x H' y
    split at hc
    · rename_i ρa ea
      refine ⟨G', wipeU ρ vs, us[i], ρa, r.grow gw, rx, ea, fun σ2 ra hlen hag => ?_⟩
      have hag2 : ∀ j, j ∉ vs → σ2[j]? = σ[j]? := fun j hj => (hag j fun z => hj (hsl j z)).trans (wipe_out' hj)
      have hmu : ∀ j ∈ c.mu, σ2[j]? = σ[j]? := fun j hj => hag2 j (muv j hj)
      have hw : wipe σ2 vs = wipe σ vs := wipe_same (by rw [hlen, wipe_length]) hag2
      have noD : ∀ j ∈ c.mu, σ2[j]? ≠ some (some (.ref D)) := fun j hj => by
        rw [hmu j hj]
        exact n7 j hj
      have noDw : ∀ j ∈ c.mu, (wipe σ vs)[j]? ≠ some (some (.ref D)) := fun j hj => by
        rw [wipe_out' (muv j hj)]
        exact n7 j hj
      have hD1 : H' D = some (.lst accV) := gw.h _ _ hHD
      have hG1 : G' D = none := gw.n _ _ hHD hGD
      have st1 : Stp c σ G1 H1 G' H' := st.trans gw.stp
      refine ⟨hw, G', ρa, ra, ?_⟩
      split at hc
      · rename_i ρb eb
        rw [eb]
        intro b' Gb Hb sb rb lb
        subst lb
        rw [if_pos rfl]
        have hD2 : Hb D = some (.lst accV) := sb.k _ _ hD1 noD (fun ps z => by cases z)
        have hG2 : Gb D = none := sb.n _ _ hD1 hG1
        split at hc
        · rename_i xv ρc ec
          refine ⟨Gb, ρb, rb, ?_⟩
          rw [ec]
          intro y Gc Hc sc rc lc
          have hD3 : Hc D = some (.lst accV) := sc.k _ _ hD2 noD (fun ps z => by cases z)
          have hG3 : Gc D = none := sc.n _ _ hD2 hG2
          have rw1 : R T c Gc (wipeU ρc vs) (wipe σ vs) Hc := hw ▸ rc.wipe hvm
          have stt : Stp c σ G1 H1 Gc Hc := st1.trans ((sb.trans sc).cong hmu)
          refine ⟨accV, hD3, Nat.lt_of_le_of_lt (Nat.le_trans hle (Nat.le_trans hi hz)) (by decide), Gc, ρc, xv :: accU, accV ++ [y], ⟨stt.g, fun a o q m t => ?_, stt.n, fun a o q => ?_⟩, rw1.free hDt (fun q z => by rw [hD3] at z; cases z) hG3 n2 noDw, upd_same, ?_, hG3, ?_, hc⟩
          · rw [upd_ne (ne_of_none q hD)]
            exact stt.k a o q m t
          · rw [upd_ne (ne_of_none q hD)]
            exact stt.d a o q
          · rw [List.reverse_cons]
            exact (Reps.mono (gw.g.trans (sb.g.trans sc.g)) _ _ hacc).append (.cons lc .nil)
          · rw [List.length_append]
            exact Nat.succ_le_succ hle
        · cases hc
      · rename_i ρb eb
        rw [eb]
        intro b' Gb Hb sb rb lb
        subst lb
        rw [if_neg Bool.false_ne_true]
        refine ⟨Gb, ρb, accU, accV, st1.trans (sb.cong hmu), hw ▸ rb.wipe hvm, sb.k _ _ hD1 noD (fun ps z => by cases z), Reps.mono (gw.g.trans sb.g) _ _ hacc, sb.n _ _ hD1 hG1, Nat.le_succ_of_le hle, hc⟩
      · cases hc
    · cases hc
  · left
    have e : i = us.length := by omega
    subst e
    rw [List.drop_length, compL] at hc
    cases hc
    refine ⟨q1 (Nat.le_refl _) (Nat.le_refl _), h H G st (R.back hvm r1 st.g r) ?_⟩
    exact ⟨D, rfl, hGD, n2, n3, ⟨accV, hHD, hacc⟩, n6, n7⟩
theorem compL_noexc (vs : List Nat) (gt : TgF) (ft : BF) (fe : EF) : ∀ (us : List U) (ρ : Sl) (acc : List U) (C : Str) (ρ' : Sl), compL vs gt ft fe us ρ acc ≠ .exc C ρ'
  | [], ρ, acc, C, ρ' => by
    rw [compL]
    intro h
    cases h
  | u :: us, ρ, acc, C, ρ' => by
    rw [compL]
    split
    · split
      · split
        · exact compL_noexc vs gt ft fe us _ _ C ρ'
        · intro h
          cases h
      · exact compL_noexc vs gt ft fe us _ _ C ρ'
      · intro h
        cases h
    · intro h
      cases h
/-- [elt for tg in it if ..] -/
theorem tq_lc {sl : List Nat} {own : List (Str × Nat)} {fi : AF} {gt : TgF} {ft : BF} {σ : L2.St} {H : Hp} {Q : VK} (hsl : (sl.all fun i => (own.map (·.2)).contains i) = true) (hvm : ((own.map (·.2)).all fun i => !c.mu.contains i) = true)
    (h : tqF (Cx.T X) c W (eComp (own.map (·.2)) fi gt ft fe) σ H Q) : tLc (tq (Cx.T X) c W (relI (Cx.T X)) fi) (tqg (Cx.T X) c sl gt) (tq (Cx.T X) c W0 relB ft) (tq (Cx.T X) c W0 (relU (Cx.T X)) fe) (own.map (·.2)) σ H Q := by
  have hsl' : ∀ i ∈ sl, i ∈ own.map (·.2) := fun i hi => isIn (List.all_eq_true.mp hsl i hi)
  have hvm' : ∀ i ∈ own.map (·.2), i ∉ c.mu := fun i hi => notIn (by
    have := List.all_eq_true.mp hvm i hi
    simpa using this)
  obtain ⟨G, ρ, r, h⟩ := h
  refine ⟨G, ρ, r, (PQ.bind (rel := relI (Cx.T X)) h).imp fun J H1 ⟨G1, ρ1, us, s1, r1, l1, h1⟩ => ?_⟩
  intro D hD
  split at h1
  · rename_i hz
    cases hF : compL (own.map (·.2)) gt ft fe us ρ1 [] with
    | ok accF ρF =>
      rw [hF] at h1
      obtain ⟨W, w0, _, w1⟩ := lc_allS hsl' hvm' r1 l1 hz hD (fun b o q => s1.d b o q) hF fun H2 G2 s2 r2 l2 => h1 _ G2 H2 s2 r2 l2
      exact ⟨W, w0, w1⟩
    | exc C ρF =>
      exact (compL_noexc _ _ _ _ _ _ _ _ _ hF).elim
    | stuck =>
      rw [hF] at h1
      exact h1.elim
  · exact h1.elim
/-- what a comprehension's block asks: its target, tests and element in the block's context -/
theorem qf_lc {elt tg it : Expr} {ifs : List Expr} {scope : Scope} {own : List (Str × Nat)} {sl : List Nat} {fi : AF} {gt : TgF} {ft : BF} (calm : X.calm = true) (nd : X.N.Nodup) (hi : QI X c W tg it fi) (ok : blkC X.N X.env.scope scope own = true)
    (hg : ∀ (s : Shared) (H : Hp) (C : Addr) (cl : List (Str × Addr)) (fp : List Addr), QG (X.blk s H scope (compEnvC scope cl C X.env) fp) c sl tg gt) (ht : ∀ (s : Shared) (H : Hp) (C : Addr) (cl : List (Str × Addr)) (fp : List Addr), QTs (X.blk s H scope (compEnvC scope cl C X.env) fp) c W0 ifs ft)
    (he : ∀ (s : Shared) (H : Hp) (C : Addr) (cl : List (Str × Addr)) (fp : List Addr), QE (X.blk s H scope (compEnvC scope cl C X.env) fp) c W0 elt fe) (hsl : (sl.all fun i => (own.map (·.2)).contains i) = true := by rfl) (hvm : ((own.map (·.2)).all fun i => !c.mu.contains i) = true := by rfl)
    (hs : ∀ x, foldedSetIterable it X.env x = pure x := by intro _; rfl) : QF X c W (.ListComp elt [⟨tg, it, ifs, 0⟩] scope pos) (eComp (own.map (·.2)) fi gt ft fe) :=
  PE.weak (pe_lc (g := tqg (Cx.T X) c sl gt) (tt := tq (Cx.T X) c W0 relB ft) (te := tq (Cx.T X) c W0 (relU (Cx.T X)) fe) calm nd hi (blkOk_by ok) hg ht he hs) fun _ _ _ q => tq_lc hsl hvm q
/-- x = [..] -/
theorem qs_setLc {st : Stmt} {elt tg it : Expr} {ifs : List Expr} {scope : Scope} {own : List (Str × Nat)} {sl : List Nat} {fi : AF} {gt : TgF} {ft : BF} {i : Nat} {y : Str} {py : Pos} {spos : Pos} (calm : X.calm = true) (nd : X.N.Nodup) (hi : QI X c W tg it fi) (ok : blkC X.N X.env.scope scope own = true)
    (hg : ∀ (s : Shared) (H : Hp) (C : Addr) (cl : List (Str × Addr)) (fp : List Addr), QG (X.blk s H scope (compEnvC scope cl C X.env) fp) c sl tg gt) (ht : ∀ (s : Shared) (H : Hp) (C : Addr) (cl : List (Str × Addr)) (fp : List Addr), QTs (X.blk s H scope (compEnvC scope cl C X.env) fp) c W0 ifs ft)
    (he : ∀ (s : Shared) (H : Hp) (C : Addr) (cl : List (Str × Addr)) (fp : List Addr), QE (X.blk s H scope (compEnvC scope cl C X.env) fp) c W0 elt fe) (hm : c.mu.contains i = false := by rfl) (hsl : (sl.all fun i => (own.map (·.2)).contains i) = true := by rfl) (hvm : ((own.map (·.2)).all fun i => !c.mu.contains i) = true := by rfl)
    (hy : X.N[i]? = some y := by rfl) (hyl : X.env.scope.names.lookup y = some .local := by rfl) (hsw : swapsWith (.ListComp elt [⟨tg, it, ifs, 0⟩] scope pos) (some (.Name y py)) spos.line X.env = pure true := by exact sw_true rfl rfl rfl (by decide +kernel))
    (hs : ∀ x, foldedSetIterable it X.env x = pure x := by intro _; rfl) : QS X c W fr (.Assign [.Name y py] (.ListComp elt [⟨tg, it, ifs, 0⟩] scope pos) spos) (sSet i (eComp (own.map (·.2)) fi gt ft fe)) :=
  PS.weak (ps_setLc (g := tqg (Cx.T X) c sl gt) (tt := tq (Cx.T X) c W0 relB ft) (te := tq (Cx.T X) c W0 (relU (Cx.T X)) fe) calm nd hy hyl hsw hi (blkOk_by ok) hg ht he hs) fun D σ H ⟨G, ρ, r, h⟩ => by
    show tLc _ _ _ _ _ σ H (fun x H1 => gName i x σ H1 D.nx)
    refine tq_lc (X := X) (fe := fe) (Q := fun x H1 => gName i x σ H1 D.nx) hsl hvm ⟨G, ρ, r, PQ.freeze ((PFl.of (rel := relU (Cx.T X)) h).imp fun x H1 ⟨G1, ρ1, u, e1, r1, l1, h1⟩ => ?_)⟩
    exact h1 _ G1 H1 (Ex.refl _) (r1.store (notIn hm) l1)
/-- .. a slot of its own -/
theorem qs_setLcF {elt tg it : Expr} {ifs : List Expr} {scope : Scope} {own : List (Str × Nat)} {sl : List Nat} {fi : AF} {gt : TgF} {ft : BF} {i : Nat} {y : Str} {py : Pos} {spos : Pos} (calm : X.calm = true) (nd : X.N.Nodup) (hi : QI X c W tg it fi) (ok : blkC X.N X.env.scope scope own = true)
    (hg : ∀ (s : Shared) (H : Hp) (C : Addr) (cl : List (Str × Addr)) (fp : List Addr), QG (X.blk s H scope (compEnvC scope cl C X.env) fp) c sl tg gt) (ht : ∀ (s : Shared) (H : Hp) (C : Addr) (cl : List (Str × Addr)) (fp : List Addr), QTs (X.blk s H scope (compEnvC scope cl C X.env) fp) c W0 ifs ft)
    (he : ∀ (s : Shared) (H : Hp) (C : Addr) (cl : List (Str × Addr)) (fp : List Addr), QE (X.blk s H scope (compEnvC scope cl C X.env) fp) c W0 elt fe) (hm : c.mu.contains i = true := by rfl) (h0 : c.da = none ∨ i ≠ 0 := by first | exact .inr (by decide) | exact .inl rfl | assumption) (hsl : (sl.all fun i => (own.map (·.2)).contains i) = true := by rfl) (hvm : ((own.map (·.2)).all fun i => !c.mu.contains i) = true := by rfl)
    (hy : X.N[i]? = some y := by rfl) (hyl : X.env.scope.names.lookup y = some .local := by rfl) (hsw : swapsWith (.ListComp elt [⟨tg, it, ifs, 0⟩] scope pos) (some (.Name y py)) spos.line X.env = pure true := by exact sw_true rfl rfl rfl (by decide +kernel))
    (hs : ∀ x, foldedSetIterable it X.env x = pure x := by intro _; rfl) : QS X c W fr (.Assign [.Name y py] (.ListComp elt [⟨tg, it, ifs, 0⟩] scope pos) spos) (sSet i (eComp (own.map (·.2)) fi gt ft fe)) :=
  PS.weak (ps_setLc (g := tqg (Cx.T X) c sl gt) (tt := tq (Cx.T X) c W0 relB ft) (te := tq (Cx.T X) c W0 (relU (Cx.T X)) fe) calm nd hy hyl hsw hi (blkOk_by ok) hg ht he hs) fun D σ H ⟨G, ρ, r, h⟩ => by
    show tLc _ _ _ _ _ σ H (fun x H1 => gName i x σ H1 D.nx)
    refine tq_lc (X := X) (fe := fe) (Q := fun x H1 => gName i x σ H1 D.nx) hsl hvm ⟨G, ρ, r, (PFl.of (rel := relF (Cx.T X) c H) h).imp fun x H1 ⟨G1, ρ1, u, e1, r1, ⟨a, q1, l1, l2, l3, l4, l6, l7⟩, h1⟩ => ?_⟩
    subst q1
    exact h1 _ G1 H1 (Ex.refl _) (r1.storeOwnG (isIn hm) l1 (.inl l2) l4 (fun j u q m ne => l7 j m) h0)
end

/-! ### what a def promises -/
def daOf (io : Bool) (vs : List V) : Option Addr := match io, vs with
  | true, .ref a :: _ => some a
  | _, _ => none
/-- the arguments: known values; or a list that the def may change, ahead of known values -/
def argR (T : Tab) (io : Bool) (G H : Hp) (us : List U) (vs : List V) : Prop := match io with
  | false => Reps T G us vs
  | true => ∃ a d0 us' vs', vs = .ref a :: vs' ∧ us = d0 :: us' ∧ G a = none ∧ OwnAt T G H a d0 ∧ Reps T G us' vs'
/-- what stood stands, but at da; it is known then as before, or new -/
structure Frm (tb : List (Addr × Str)) (da : Option Addr) (G H G' H' : Hp) : Prop where
  g : Ex G G'
  e : Ex G' H'
  n : ∀ a o, H a = some o → G a = none → G' a = none
  k : ∀ a o, H a = some o → da ≠ some a → (∀ ps, o ≠ .tbl ps) → H' a = some o
  d : ∀ a o, H a = some o → ∃ o', H' a = some o'
  t : LamX.Tabs tb H'
  ng : ∀ a ps, G' a ≠ some (.tbl ps)
def deckR (T : Tab) (da : Option Addr) (G' H' : Hp) (d : U) : Prop := ∀ a, da = some a → OwnAt T G' H' a d
def spQ (tb : List (Addr × Str)) (T : Tab) (io fr : Bool) (p : Nat) (φ : List U → FR) : Sp := fun vs H Q E => vs.length = p ∧ ∃ G us, Ex G H ∧ (LamX.Tabs tb H ∧ ∀ a ps, G a ≠ some (.tbl ps)) ∧ argR T io G H us vs ∧ match φ us with
  | .ok u d => ∀ v G' H', Frm tb (daOf io vs) G H G' H' → deckR T (daOf io vs) G' H' d → retR T fr H (daOf io vs) G' H' u v → Q v H'
  | .exc C d => ∀ G' H' x, Frm tb (daOf io vs) G H G' H' → deckR T (daOf io vs) G' H' d → T.mg C = some (.ref x) → E (.ref x) none H'
  | .stuck => False
/-- a def of the module, with its promise -/
structure Cal (tb : List (Addr × Str)) (P : Program) (w : World) (K : PySem.W.Frag) (mg : Str → Option Value) (base : Heap) (CX : CXT) (x : Str) (io fr : Bool) (p : Nat) (φ : List U → FR) (j : Nat) : Prop where
  ex : ∃ (f : Addr) (fd : FuncData) (ps : List Str), mg x = some (.ref f) ∧ PySem.W.keepIn K (.ref f) = true ∧ Binds K fd ps [] ∧ FnOk P w K mg base CX j f fd ps (spQ tb ⟨K, mg, P, w⟩ io fr p φ)
/-- a def whose value is a new list, used for its value -/
theorem spQ_weak {tb : List (Addr × Str)} {T : Tab} {io : Bool} {p : Nat} {φ : List U → FR} {vs : List V} {H : Hp} {Q : VK} {E : XK} (h : spQ tb T io false p φ vs H Q E) : spQ tb T io true p φ vs H Q E := by
  obtain ⟨h1, G, us, h2, h20, h3, h4⟩ := h
  refine ⟨h1, G, us, h2, h20, h3, ?_⟩
  generalize φ us = z at h4 ⊢
  cases z with
  | ok u d =>
    intro v G' H' w hd ⟨a, e1, k1, k2, k3, k5⟩
    subst e1
    obtain ⟨o1, k4, kn⟩ := k5.known
    refine h4 (.ref a) (upd G' a o1) H' ⟨w.g.trans (Ex.new k1), fun b o q => ?_, fun b o q z => ?_, w.k, w.d, w.t, fun b ps q => (by
      by_cases hb : b = a
      · subst hb
        rw [upd_same] at q
        exact k5.not k4 ps (Option.some.inj q)
      · rw [upd_ne hb] at q
        exact w.ng b ps q)⟩ (fun b q => ?_) (kn _ (Ex.new k1) upd_same)
    · by_cases hb : b = a
      · subst hb
        rw [upd_same] at q
        cases q
        exact k4
      · rw [upd_ne hb] at q
        exact w.e b o q
    · rw [upd_ne (ne_of_none q k2)]
      exact w.n b o q z
    · exact (hd b q).mono (Ex.new k1) rfl
  | exc C d => exact h4
  | stuck => exact h4
section
variable {X : Cx} {c : Cn} {W : WX} {k j p : Nat} {fr io : Bool} {pos : Pos} {e : Expr} {fe : EF} {CX : CXT} {x : Str} {φ : List U → FR} {a : Expr} {es : List Expr} {as : AF} {q : Pos}
theorem Frm.stp {G H G' H' : Hp} {σ : L2.St} (w : Frm c.tb none G H G' H') : Stp c σ G H G' H' := ⟨w.g, fun a o h _ t => w.k a o h (by simp) t, w.n, fun a o h => w.d a o h⟩
theorem R.frm {T : Tab} {G H G' H' : Hp} {ρ : Sl} {σ : L2.St} (r : R T c G ρ σ H) (w : Frm c.tb none G H G' H') : R T c G' ρ σ H' where
  dk := r.dk
  ex := w.e
  g0 := r.g0.trans w.g
  nw := fun a o h z => by
    obtain ⟨o', h'⟩ := r.dm a o h
    exact w.n a o' h' (r.nw a o h z)
  fr := fun a o h d t => w.k a o (r.fr a o h d t) (by simp) t
  ng := w.ng
  dm := fun a o h => by
    obtain ⟨o', q⟩ := r.dm a o h
    exact w.d a o' q
  th := w.t
  dd := fun a h => by
    obtain ⟨o, q⟩ := r.dd a h
    exact w.d a o q
  len := r.len
  sh := fun i u h m => by
    obtain ⟨v, e1, e2⟩ := r.sh i u h m
    exact ⟨v, e1, Rep.mono w.g _ _ e2⟩
  ow := fun i u h m => by
    obtain ⟨a, e1, e2, e3, e4⟩ := r.ow i u h m
    obtain ⟨o, ho⟩ := e4.at
    exact ⟨a, e1, w.n a o ho e2, e3, e4.mono w.g ((w.k a o ho (by simp) (e4.not ho)).trans ho.symm)⟩
  ap := r.ap
  lv := r.lv
/-- what a call asks of the tables -/
theorem R.tcall {T : Tab} {G H : Hp} {ρ : Sl} {σ : L2.St} (r : R T c G ρ σ H) : LamX.Tabs c.tb H ∧ ∀ a ps, G a ≠ some (.tbl ps) := ⟨r.th, r.ng⟩
theorem tq_call {σ : L2.St} {H : Hp} {Q : VK} (h : tq (Cx.T X) c W (relU (Cx.T X)) (eCall φ as) σ H Q) (hl : ∀ ρ us ρ', as ρ = .ok us ρ' → us.length = p) :
    tCallS (spQ c.tb (Cx.T X) false false p φ) (WE W) (tq (Cx.T X) c W (relUs (Cx.T X)) as) σ H Q := by
  obtain ⟨G, ρ, r, h⟩ := h
  refine ⟨G, ρ, r, ?_⟩
  unfold eCall at h
  cases ha : as ρ with
  | ok us ρ1 =>
    rw [ha] at h
    intro vs G1 H1 s1 r1 l1
    refine ⟨l1.length.symm.trans (hl _ _ _ ha), G1, us, r1.ex, r1.tcall, l1, ?_⟩
    replace h := PQ.mono s1 h
    simp only [Rs.bind] at h
    generalize φ us = z at h ⊢
    cases z with
    | ok u d => exact fun v G' H' w _ rv => h v G' H' w.stp (r1.frm w) rv
    | exc C d => exact fun G' H' x w _ hx => h G' H' x w.stp (r1.frm w).xr hx
    | stuck => exact h
  | exc C ρ1 =>
    rw [ha] at h
    exact h
  | stuck =>
    rw [ha] at h
    exact h
theorem al_nil : ∀ ρ us ρ', aNil ρ = .ok us ρ' → us.length = 0 := fun ρ us ρ' h => by
  cases h
  rfl
theorem al_cons {n : Nat} {fa : EF} (h : ∀ ρ us ρ', as ρ = .ok us ρ' → us.length = n) : ∀ ρ us ρ', aCons fa as ρ = .ok us ρ' → us.length = n + 1 := fun ρ us ρ' e => by
  unfold aCons at e
  cases h1 : fa ρ with
  | ok u ρ1 =>
    rw [h1] at e
    simp only [Rs.bind] at e
    cases h2 : as ρ1 with
    | ok ws ρ2 =>
      rw [h2] at e
      cases e
      rw [List.length_cons, h _ _ _ h2]
    | exc C ρ2 =>
      rw [h2] at e
      cases e
    | stuck =>
      rw [h2] at e
      cases e
  | exc C ρ1 =>
    rw [h1] at e
    cases e
  | stuck =>
    rw [h1] at e
    cases e
/-- f(a, ..) -/
theorem qe_call (C : Cal c.tb X.prog X.w X.K X.mg X.base CX x false fr p φ j) (ok : OkX X CX W k) (hj : j ≤ k) (ha : QA X c W (a :: es) as) (hl : ∀ ρ us ρ', as ρ = .ok us ρ' → us.length = p) (hg : Gl X x := by rfl) (hdb : (x == ("__debug__" : Str)) = false := by decide)
    (he : starEach (a :: es) X.env = (false, eval a X.env) :: starEach es X.env := by rfl) (hpl : (backTo pos (starEach es X.env)).any (·.1) = false := by rfl) : QE X c W (.Call (.Name x q) (a :: es) [] pos) (eCall φ as) := by
  obtain ⟨f, fd, ps, h1, h2, h3, h4⟩ := C.ex
  have F : FnOk X.prog X.w X.K X.mg X.base CX j f fd ps (spQ c.tb (Cx.T X) false false p φ) := by
    cases fr with
    | false => exact h4
    | true => exact h4.imp fun vs H Q E h => spQ_weak h
  exact PE.weak (pe_callS F (ok.room.mono hj) hg h1 h2 h3 ok.pa ha hdb he hpl) fun σ H Q h => tq_call h hl
end
end Q
set_option maxRecDepth 100000
set_option maxHeartbeats 2000000
/-! QDefs: calls that change a list, borrowed reading, a def's rule -/
namespace Q
open PySem PySem.Spec PyProof.Rows L2
open Evl (Ex)

section
variable {X : Cx} {c : Cn} {W : WX} {k j p : Nat} {fr io : Bool} {pos : Pos} {e : Expr} {fe : EF} {CX : CXT} {x : Str} {φ : List U → FR} {a : Expr} {es : List Expr} {as : AF} {q : Pos}
/-! ### a call whose value is a new list -/
theorem tq_callF {σ : L2.St} {H : Hp} {Q : VK} (h : tqF (Cx.T X) c W (eCall φ as) σ H Q) (hl : ∀ ρ us ρ', as ρ = .ok us ρ' → us.length = p) :
    tCallS (spQ c.tb (Cx.T X) false true p φ) (WE W) (tq (Cx.T X) c W (relUs (Cx.T X)) as) σ H Q := by
  obtain ⟨G, ρ, r, h⟩ := h
  refine ⟨G, ρ, r, ?_⟩
  unfold eCall at h
  cases ha : as ρ with
  | ok us ρ1 =>
    rw [ha] at h
    intro vs G1 H1 s1 r1 l1
    refine ⟨l1.length.symm.trans (hl _ _ _ ha), G1, us, r1.ex, r1.tcall, l1, ?_⟩
    replace h := PQ.since s1 (PQ.mono s1 h)
    simp only [Rs.bind] at h
    generalize φ us = z at h ⊢
    cases z with
    | ok u d =>
      intro v G' H' w _ ⟨b, e1, k1, k2, k3, k4⟩
      have r2 := r1.frm w
      obtain ⟨n2, n3⟩ := r1.fresh0 k2
      exact h v G' H' w.stp r2 ⟨b, e1, k1, n2, n3, k4, k2, r1.notOwn k2⟩
    | exc C d => exact fun G' H' x w _ hx => h G' H' x w.stp (r1.frm w).xr hx
    | stuck => exact h
  | exc C ρ1 =>
    rw [ha] at h
    exact h
  | stuck =>
    rw [ha] at h
    exact h
theorem qf_call (C : Cal c.tb X.prog X.w X.K X.mg X.base CX x false true p φ j) (ok : OkX X CX W k) (hj : j ≤ k) (ha : QA X c W (a :: es) as) (hl : ∀ ρ us ρ', as ρ = .ok us ρ' → us.length = p) (hg : Gl X x := by rfl) (hdb : (x == ("__debug__" : Str)) = false := by decide)
    (he : starEach (a :: es) X.env = (false, eval a X.env) :: starEach es X.env := by rfl) (hpl : (backTo pos (starEach es X.env)).any (·.1) = false := by rfl) : QF X c W (.Call (.Name x q) (a :: es) [] pos) (eCall φ as) := by
  obtain ⟨f, fd, ps, h1, h2, h3, h4⟩ := C.ex
  exact PE.weak (pe_callS h4 (ok.room.mono hj) hg h1 h2 h3 ok.pa ha hdb he hpl) fun σ H Q h => tq_callF h hl
/-! ### a call that may change the list in the slot i -/
theorem R.called {T : Tab} {G G' H H' : Hp} {ρ : Sl} {σ : L2.St} {i : Nat} {b : Addr} {d d' : U} (r : R T c G ρ σ H) (hm : i ∈ c.mu) (h0 : ρ[i]? = some (some d)) (hs : σ[i]? = some (some (.ref b))) (w : Frm c.tb (some b) G H G' H') (hd : deckR T (some b) G' H' d') :
    R T c G' (ρ.set i (some d')) σ H' ∧ Stp c σ G H G' H' := by
  obtain ⟨b', e1, e2, e3, e4⟩ := r.ow i d h0 hm
  rw [hs] at e1
  cases e1
  have hb0 := hd b rfl
  obtain ⟨ob1, hb⟩ := hb0.at
  have hl : i < ρ.length := (List.getElem?_eq_some_iff.mp h0).1
  obtain ⟨ob, hob⟩ := e4.at
  have kb : ∀ a o, H a = some o → a ≠ b → (∀ ps, o ≠ .tbl ps) → H' a = some o := fun a o h n t => w.k a o h (fun z => n (Option.some.inj z).symm) t
  have dn : ∀ a o, H a = some o → ∃ o', H' a = some o' := w.d
  refine ⟨⟨fun a q => ?_, w.e, r.g0.trans w.g, fun a o h z => ?_, fun a o h dd t => ?_, w.ng, (fun a o h => by
    obtain ⟨o', q⟩ := r.dm a o h
    exact w.d a o' q), w.t, fun a h => ?_, by rw [List.length_set, r.len], fun l u e m => ?_, fun l u e m => ?_, fun l m u v f1 f2 m1 m2 ne => ?_, fun l v m e => ?_⟩, ⟨w.g, fun a o h m t => ?_, w.n, dn⟩⟩
  · obtain ⟨k1, k2, dl0, k3⟩ := r.dk a q
    refine ⟨k1, k2, ?_⟩
    by_cases hz : i = 0
    · subst hz
      exact ⟨_, List.getElem?_set_self hl⟩
    · rw [List.getElem?_set_ne hz]
      exact ⟨dl0, k3⟩
  · obtain ⟨o', h'⟩ := r.dm a o h
    exact w.n a o' h' (r.nw a o h z)
  · have ha : a ≠ b := by
      rintro rfl
      rcases e3 with z | z
      · rw [z] at h
        cases h
      · exact dd z
    exact kb a o (r.fr a o h dd t) ha t
  · obtain ⟨o, q⟩ := r.dd a h
    exact dn a o q
  · have hj : i ≠ l := fun z => m (z ▸ hm)
    rw [List.getElem?_set_ne hj] at e
    obtain ⟨v, e1, e2⟩ := r.sh l u e m
    exact ⟨v, e1, Rep.mono w.g _ _ e2⟩
  · by_cases hj : i = l
    · subst hj
      rw [List.getElem?_set_self hl] at e
      cases e
      exact ⟨b, hs, w.n b ob hob e2, e3, hb0⟩
    · rw [List.getElem?_set_ne hj] at e
      obtain ⟨a, f1, f2, f3, f4⟩ := r.ow l u e m
      have ha : a ≠ b := by
        rintro rfl
        exact r.ap i l d u h0 e hm m hj (hs.trans f1.symm)
      obtain ⟨o, q⟩ := f4.at
      exact ⟨a, f1, w.n a o q f2, f3, f4.mono w.g ((kb a o q ha (f4.not q)).trans q.symm)⟩
  · have get : ∀ {l : Nat} {y : U}, (ρ.set i (some d'))[l]? = some (some y) → ∃ y', ρ[l]? = some (some y') := fun {l y} q => by
      by_cases hq : i = l
      · subst hq
        exact ⟨d, h0⟩
      · rw [List.getElem?_set_ne hq] at q
        exact ⟨y, q⟩
    obtain ⟨u', g1⟩ := get f1
    obtain ⟨v', g2⟩ := get f2
    exact r.ap l m u' v' g1 g2 m1 m2 ne
  · obtain ⟨u, q⟩ := r.lv l v m e
    by_cases hj : i = l
    · subst hj
      exact ⟨_, List.getElem?_set_self hl⟩
    · rw [List.getElem?_set_ne hj]
      exact ⟨u, q⟩
  · have ha : a ≠ b := by
      rintro rfl
      exact m i hm hs
    exact kb a o h ha t
theorem qe_callD (i : Nat) {y : Str} {py : Pos} (C : Cal c.tb X.prog X.w X.K X.mg X.base CX x true false (p + 1) φ j) (ok : OkX X CX W k) (hj : j ≤ k) (ha : QA X c W es as) (hl : ∀ ρ us ρ', as ρ = .ok us ρ' → us.length = p) (hm : c.mu.contains i = true := by rfl) (hN : X.N[i]? = some y := by rfl)
    (hv : Vis X.env.scope y := by first | exact Or.inl rfl | exact Or.inr (Or.inl rfl) | exact Or.inr (Or.inr rfl)) (hd : (y == ("__debug__" : Str)) = false := by decide) (hcd : (y == ("__classdict__" : Str)) = false := by decide)
    (hg : Gl X x := by rfl) (hdb : (x == ("__debug__" : Str)) = false := by decide) (hst : starEach (.Name y py :: es) X.env = (false, eval (.Name y py) X.env) :: starEach es X.env := by rfl)
    (he : starEach (.Name y py :: es) X.env = (false, eval (.Name y py) X.env) :: starEach es X.env := by rfl) (hpl : (backTo pos (starEach es X.env)).any (·.1) = false := by rfl) : QE X c W (.Call (.Name x q) (.Name y py :: es) [] pos) (eCallD i φ as) := by
  obtain ⟨f, fd, ps, h1, h2, h3, h4⟩ := C.ex
  refine PE.weak (pe_callS h4 (ok.room.mono hj) hg h1 h2 h3 ok.pa (pa_cons (pe_var hN hv hd hcd) ha hst) hdb he hpl) fun σ H Q ⟨G, ρ, r, h⟩ => ?_
  unfold eCallD at h
  split at h
  · rename_i d0 e0
    obtain ⟨b, e1, _, _, _⟩ := r.ow i d0 e0 (isIn hm)
    refine ⟨.ref b, e1, G, ρ, r, ?_⟩
    cases ha : as ρ with
    | ok us ρ1 =>
      rw [ha] at h
      intro vs G1 H1 s1 r1 l1
      replace h := PQ.mono s1 h
      simp only [Rs.bind] at h
      split at h
      · rename_i dl ed
        obtain ⟨b', f1, f2, f3, f4⟩ := r1.ow i _ ed (isIn hm)
        rw [e1] at f1
        cases f1
        · refine ⟨by rw [List.length_cons, ← l1.length, hl _ _ _ ha], G1, dl :: us, r1.ex, r1.tcall, ⟨b, dl, us, vs, rfl, rfl, f2, f4, l1⟩, ?_⟩
          generalize φ (dl :: us) = z at h ⊢
          cases z with
          | ok u d' =>
            intro v G' H' w hd rv
            obtain ⟨r2, s2⟩ := r1.called (isIn hm) ed e1 w hd
            exact h v G' H' s2 r2 rv
          | exc C d' =>
            intro G' H' x w hd hx
            obtain ⟨r2, s2⟩ := r1.called (isIn hm) ed e1 w hd
            exact h G' H' x s2 r2.xr hx
          | stuck => exact h
      · exact h.elim
    | exc C ρ1 =>
      rw [ha] at h
      exact h
    | stuck =>
      rw [ha] at h
      exact h
  · exact h.elim
/-! ### borrowed reading -/
theorem scal_rep {T : Tab} {G G' : Hp} {u : U} {v : V} (hs : scalU u = true) (h : Rep T G u v) : Rep T G' u v := by
  cases u with
  | tup _ => cases hs
  | lst _ => cases hs
  | dct _ _ => cases hs
  | dci _ _ => cases hs
  | obj _ _ _ => cases hs
  | non => exact rep_non.2 (rep_non.1 h)
  | bl b => exact rep_bl.2 (rep_bl.1 h)
  | int b => exact rep_int.2 (rep_int.1 h)
  | str b => exact rep_str.2 (rep_str.1 h)
  | ty b => exact rep_ty.2 (rep_ty.1 h)
  | fn b => exact rep_fn.2 (rep_fn.1 h)
/-- the slots' lists, known for a while, are the slots' own again -/
theorem R.thaw {T : Tab} {G Gf G' H H' : Hp} {ρ ρ' : Sl} {σ : L2.St} (r : R T c G ρ σ H) (hd : c.da = none) (ef : Ex G Gf) (hf : ∀ a o, Gf a = some o → G a = none → ∃ i u, i ∈ c.mu ∧ ρ[i]? = some (some u) ∧ σ[i]? = some (some (.ref a))) (s : Stp (c.to []) σ Gf H G' H') (r' : R T (c.to []) G' ρ' σ H') : ∃ G2, R T c G2 ρ σ H' ∧ Stp c σ G H G2 H' ∧ ∀ a, G' a = none → G2 a = none := by
  classical
  let S : Addr → Prop := fun a => G a = none ∧ ∃ i u, i ∈ c.mu ∧ ρ[i]? = some (some u) ∧ σ[i]? = some (some (.ref a))
  let G2 : Hp := fun a => if S a then none else G' a
  have gs : ∀ a, S a → G2 a = none := fun a h => if_pos h
  have gn : ∀ a, ¬ S a → G2 a = G' a := fun a h => if_neg h
  have ex : Ex G G2 := fun a o q => by
    have hn : ¬ S a := fun z => by
      rw [z.1] at q
      cases q
    rw [gn a hn]
    exact s.g a o (ef a o q)
  have kp : ∀ a o, H a = some o → (∀ ps, o ≠ .tbl ps) → H' a = some o := fun a o q t => s.k a o q (fun i hi => absurd hi (by simp [Cn.to])) t
  refine ⟨G2, ⟨fun a q => ?_, fun a o q => ?_, r.g0.trans ex, fun a o q z => ?_, fun a o q d t => kp a o (r.fr a o q d t) t, (fun a ps q => by
    by_cases hS : S a
    · rw [gs a hS] at q
      cases q
    · rw [gn a hS] at q
      exact r'.ng a ps q), (fun a o q => by
    obtain ⟨o', q'⟩ := r.dm a o q
    exact s.d a o' q'), r'.th, fun a q => ?_, r.len.trans rfl, fun i u e m => ?_, fun i u e m => ?_, r.ap, r.lv⟩, ⟨ex, fun a o q _ t => kp a o q t, fun a o q z => ?_, fun a o q => s.d a o q⟩, fun a q => ?_⟩
  · rw [hd] at q
    cases q
  · by_cases hS : S a
    · rw [gs a hS] at q
      cases q
    · rw [gn a hS] at q
      exact r'.ex a o q
  · by_cases hS : S a
    · exact gs a hS
    · rw [gn a hS]
      exact r'.nw a o q z
  · rw [hd] at q
    cases q
  · obtain ⟨v, e1, e2⟩ := r.sh i u e m
    exact ⟨v, e1, Rep.mono ex _ _ e2⟩
  · obtain ⟨a, e1, e2, e3, e4⟩ := r.ow i u e m
    obtain ⟨o, q⟩ := e4.at
    exact ⟨a, e1, gs a ⟨e2, i, u, m, e, e1⟩, e3, e4.mono ex ((kp a o q (e4.not q)).trans q.symm)⟩
  · by_cases hS : S a
    · exact gs a hS
    · rw [gn a hS]
      have hf' : Gf a = none := by
        cases q2 : Gf a with
        | none => rfl
        | some o' => exact absurd ⟨z, hf a o' q2 z⟩ hS
      exact s.n a o q hf'
  · by_cases hS : S a
    · exact gs a hS
    · rw [gn a hS]
      exact q
theorem qe_borrow (hd : c.da = none) (he : QE X (c.to []) W e fe) : QE X c W e (eBorrow fe) :=
  PE.weak he fun σ H Q ⟨G, ρ, r, h⟩ => by
    obtain ⟨Gf, ef, rf, hf⟩ := r.freeze [] (by simp) (.inl hd)
    refine ⟨Gf, ρ, rf, ?_⟩
    unfold eBorrow at h
    generalize fe ρ = z at h ⊢
    cases z with
    | ok u ρ' =>
      simp only at h
      split at h
      · rename_i hs
        intro v G' H' s r' l
        obtain ⟨G2, r2, s2, _⟩ := r.thaw hd ef hf s r'
        exact h v G2 H' s2 r2 (scal_rep hs l)
      · exact h.elim
    | exc C ρ' => exact h.elim
    | stuck => exact h.elim
theorem scal_reps {T : Tab} {G G' : Hp} : ∀ {us : List U} {vs : List V}, us.all scalU = true → Reps T G us vs → Reps T G' us vs
  | [], vs, _, h => by
    rw [reps_nil] at h ⊢
    exact h
  | u :: us, vs, hs, h => by
    rw [List.all_cons, Bool.and_eq_true] at hs
    obtain ⟨v, r, rfl, h1, h2⟩ := reps_cons.1 h
    exact .cons (scal_rep hs.1 h1) (scal_reps hs.2 h2)
theorem qf_borrow (hd : c.da = none) (he : QF X (c.to []) W e fe) : QF X c W e (eBorrowF fe) :=
  PE.weak he fun σ H Q ⟨G, ρ, r, h⟩ => by
    obtain ⟨Gf, ef, rf, hf⟩ := r.freeze [] (by simp) (.inl hd)
    refine ⟨Gf, ρ, rf, ?_⟩
    unfold eBorrowF at h
    generalize fe ρ = z at h ⊢
    cases z with
    | ok u ρ' =>
      cases u with
      | lst us =>
        simp only at h
        split at h
        · rename_i hs
          intro v G' H' s r' ⟨a, e1, h1, h2, h3, ⟨vs, h4, h5⟩, h6, h7⟩
          obtain ⟨G2, r2, s2, hg⟩ := r.thaw hd ef hf s r'
          exact h v G2 H' s2 r2 ⟨a, e1, hg a h1, h2, h3, ⟨vs, h4, scal_reps hs h5⟩, h6, r.notOwn h6⟩
        · exact h.elim
      | _ => exact h.elim
    | exc C ρ' => exact h.elim
    | stuck => exact h.elim
end
end Q
set_option maxRecDepth 100000
set_option maxHeartbeats 2000000
/-! QPar: several names at once; a list repeated; raise; a def -/
namespace Q
open PySem PySem.Spec PyProof.Rows L2
open Evl (Ex)

/-! ### values, some of them new lists -/
def freshOf : List Bool → List V → List V
  | true :: ks, v :: vs => v :: freshOf ks vs
  | false :: ks, _ :: vs => freshOf ks vs
  | _, _ => []
def relK (T : Tab) (c : Cn) (Hs : Hp) : List Bool → Hp → Hp → L2.St → List U → List V → Prop
  | [], _, _, _, us, vs => us = [] ∧ vs = []
  | false :: ks, G, H, σ, us, vs => ∃ u ur v vr, us = u :: ur ∧ vs = v :: vr ∧ Rep T G u v ∧ relK T c Hs ks G H σ ur vr
  | true :: ks, G, H, σ, us, vs => ∃ u ur v vr, us = u :: ur ∧ vs = v :: vr ∧ relF T c Hs G H [] σ u v ∧ v ∉ freshOf ks vr ∧ relK T c Hs ks G H σ ur vr
abbrev relKs (T : Tab) (c : Cn) (Hs : Hp) (ks : List Bool) : Rel (List U) (List V) := fun G H _ σ us vs => relK T c Hs ks G H σ us vs
def tqK (T : Tab) (c : Cn) (W : WX) (ks : List Bool) (f : AF) : TA := fun σ H Q => ∃ G ρ, R T c G ρ σ H ∧ PQ T c W (relKs T c H ks) G H σ (f ρ) Q
def QK (X : Cx) (c : Cn) (W : WX) (ks : List Bool) (es : List Expr) (f : AF) : Prop := PA X es (tqK (Cx.T X) c W ks f)
section
variable {T : Tab} {c : Cn}
theorem relF.step {Hs G H G' H' : Hp} {σ : L2.St} {ρ ρ' : Sl} {u : U} {v : V} (h : relF T c Hs G H ρ σ u v) (t : LamX.Tabs c.tb H) (s : Stp c σ G H G' H') : relF T c Hs G' H' ρ' σ u v := by
  obtain ⟨a, e1, h1, h2, h3, h5, h6, h7⟩ := h
  obtain ⟨o, h4⟩ := h5.at
  exact ⟨a, e1, s.n a _ h4 h1, h2, h3, h5.mono s.g ((s.k a _ h4 h7 (h5.not h4)).trans h4.symm), h6, h7⟩
theorem relF.since {Hs Hs' G H : Hp} {σ : L2.St} {ρ : Sl} {u : U} {v : V} (h : relF T c Hs G H ρ σ u v) (s : ∀ a o, Hs' a = some o → ∃ o', Hs a = some o') : relF T c Hs' G H ρ σ u v := by
  obtain ⟨a, e1, h1, h2, h3, h5, h6, h7⟩ := h
  refine ⟨a, e1, h1, h2, h3, h5, ?_, h7⟩
  cases q : Hs' a with
  | none => rfl
  | some o =>
    obtain ⟨o', q'⟩ := s a o q
    rw [h6] at q'
    cases q'
/-- the new lists are new since Hs -/
theorem relK.fresh {Hs G H : Hp} {σ : L2.St} : ∀ {ks : List Bool} {us : List U} {vs : List V} {v : V}, relK T c Hs ks G H σ us vs → v ∈ freshOf ks vs → ∃ a, v = .ref a ∧ Hs a = none
  | [], us, vs, v, ⟨_, e⟩, m => by
    subst e
    simp [freshOf] at m
  | false :: ks, us, vs, v, ⟨u, ur, w, vr, e1, e2, h1, h2⟩, m => by
    subst e1 e2
    exact relK.fresh h2 m
  | true :: ks, us, vs, v, ⟨u, ur, w, vr, e1, e2, h1, hn, h2⟩, m => by
    subst e1 e2
    rcases List.mem_cons.mp m with e | m
    · subst e
      obtain ⟨a, e1, _, _, _, _, h6, _⟩ := h1
      exact ⟨a, e1, h6⟩
    · exact relK.fresh h2 m
theorem relK.since {Hs Hs' G H : Hp} {σ : L2.St} (s : ∀ a o, Hs' a = some o → ∃ o', Hs a = some o') : ∀ {ks : List Bool} {us : List U} {vs : List V}, relK T c Hs ks G H σ us vs → relK T c Hs' ks G H σ us vs
  | [], us, vs, h => h
  | false :: ks, us, vs, ⟨u, ur, w, vr, e1, e2, h1, h2⟩ => ⟨u, ur, w, vr, e1, e2, h1, relK.since s h2⟩
  | true :: ks, us, vs, ⟨u, ur, w, vr, e1, e2, h1, hn, h2⟩ => ⟨u, ur, w, vr, e1, e2, h1.since s, hn, relK.since s h2⟩
end
section
variable {X : Cx} {c : Cn} {W : WX} {k : Nat} {fr : Bool} {pos : Pos} {e : Expr} {es : List Expr} {fe : EF} {as : AF} {ks : List Bool}
theorem qk_nil : QK X c W [] [] aNil := PA.weak pa_nil fun σ H Q ⟨G, ρ, r, h⟩ => h [] G H Stp.refl r ⟨rfl, rfl⟩
theorem PQ.sinceK {T : Tab} {z : Rs (List U)} {G H G1 H1 : Hp} {σ : L2.St} {Q : List V → Hp → Prop} (e : Stp c σ G H G1 H1) (h : PQ T c W (relKs T c H ks) G1 H1 σ z Q) : PQ T c W (relKs T c H1 ks) G1 H1 σ z Q := by
  cases z with
  | ok u ρ' => exact fun v G' H' e' r' l => h v G' H' e' r' (relK.since e.d l)
  | exc C ρ' => exact h
  | stuck => exact h
theorem qk_s (ha : QE X c W e fe) (hr : QK X c W ks es as) (hs : starEach (e :: es) X.env = (false, eval e X.env) :: starEach es X.env := by rfl) : QK X c W (false :: ks) (e :: es) (aCons fe as) :=
  PA.weak (pa_cons ha hr hs) fun σ H Q ⟨G, ρ, r, h⟩ => by
    refine ⟨G, ρ, r, (PQ.bind (rel := relU (Cx.T X)) h).imp fun x H1 ⟨G1, ρ1, u, e1, r1, l1, h1⟩ => ?_⟩
    refine ⟨G1, ρ1, r1, PQ.imp (PQ.sinceK e1 (PQ.imp (PQ.bind (rel := relKs (Cx.T X) c H ks) h1) fun y H2 q => q)) fun y H2 ⟨G2, ρ2, w, e2, r2, l2, h2⟩ => ?_⟩
    exact h2 _ G2 H2 Stp.refl r2 ⟨u, w, x, y, rfl, rfl, Rep.mono e2.g _ _ l1, l2⟩
theorem qk_f (ha : QF X c W e fe) (hr : QK X c W ks es as) (hs : starEach (e :: es) X.env = (false, eval e X.env) :: starEach es X.env := by rfl) : QK X c W (true :: ks) (e :: es) (aCons fe as) :=
  PA.weak (pa_cons ha hr hs) fun σ H Q ⟨G, ρ, r, h⟩ => by
    refine ⟨G, ρ, r, (PQ.bind (rel := relF (Cx.T X) c H) h).imp fun x H1 ⟨G1, ρ1, u, e1, r1, l1, h1⟩ => ?_⟩
    refine ⟨G1, ρ1, r1, (PQ.bind (rel := relKs (Cx.T X) c H1 ks) h1).imp fun y H2 ⟨G2, ρ2, w, e2, r2, l2, h2⟩ => ?_⟩
    refine h2 _ G2 H2 Stp.refl r2 ⟨u, w, x, y, rfl, rfl, l1.step r1.th e2, fun m => ?_, relK.since e1.d l2⟩
    obtain ⟨a, ea, ha⟩ := relK.fresh l2 m
    obtain ⟨a', q1, _, _, _, l4, _, _⟩ := l1
    rw [ea] at q1
    cases q1
    obtain ⟨o, l4⟩ := l4.at
    rw [ha] at l4
    cases l4
/-! ### stored -/
def setV (σ : L2.St) : List Nat → List V → L2.St
  | i :: is, v :: vs => setV (σ.set i (some v)) is vs
  | _, _ => σ
/-- the kinds fit the slots; the slots are apart -/
def fitK (mu : List Nat) : List Bool → List Nat → Bool
  | [], [] => true
  | k :: ks, i :: is => (mu.contains i == k) && !is.contains i && fitK mu ks is
  | _, _ => false
theorem h0_tail {da : Option Addr} {i : Nat} {is : List Nat} (h : da = none ∨ (i :: is).contains 0 = false) : (da = none ∨ i ≠ 0) ∧ (da = none ∨ is.contains 0 = false) := by
  rcases h with h | h
  · exact ⟨.inl h, .inl h⟩
  · have h' := notIn h
    simp only [List.mem_cons, not_or] at h'
    refine ⟨.inr (Ne.symm h'.1), .inr ?_⟩
    cases q : is.contains 0 with
    | false => rfl
    | true => exact absurd (isIn q) h'.2
theorem store_all {T : Tab} {Hs G H : Hp} {ρ' : Sl} : ∀ {ks : List Bool} {is : List Nat} {us : List U} {vs : List V} {ρ : Sl} {σ σ0 : L2.St}, (c.da = none ∨ is.contains 0 = false) → fitK c.mu ks is = true → R T c G ρ σ H → relK T c Hs ks G H σ0 us vs → (∀ j ∈ c.mu, ∀ v ∈ freshOf ks vs, σ[j]? ≠ some (some v)) → gNs is us ρ = some ρ' → R T c G ρ' (setV σ is vs) H
  | [], [], us, vs, ρ, σ, σ0, h0, _, r, ⟨e1, e2⟩, _, h => by
    subst e1 e2
    cases h
    exact r
  | false :: ks, i :: is, us, vs, ρ, σ, σ0, h0, hf, r, ⟨u, ur, v, vr, e1, e2, h1, h2⟩, hn, h => by
    subst e1 e2
    simp only [fitK, Bool.and_eq_true, beq_iff_eq, Bool.not_eq_true'] at hf
    obtain ⟨⟨f1, f2⟩, f3⟩ := hf
    have hi := notIn f1
    show R T c G ρ' (setV (σ.set i (some v)) is vr) H
    refine store_all (h0_tail h0).2 f3 (r.store hi h1) h2 (fun j hj w hw => ?_) (show gNs is ur (ρ.set i (some u)) = some ρ' from h)
    have hij : i ≠ j := fun z => hi (z ▸ hj)
    rw [List.getElem?_set_ne hij]
    exact hn j hj w hw
  | true :: ks, i :: is, us, vs, ρ, σ, σ0, h0, hf, r, ⟨u, ur, v, vr, e1, e2, h1, hv, h2⟩, hn, h => by
    subst e1 e2
    simp only [fitK, Bool.and_eq_true, beq_iff_eq, Bool.not_eq_true'] at hf
    obtain ⟨⟨f1, f2⟩, f3⟩ := hf
    obtain ⟨a, e1, g1, g2, g3, g4, g6, g7⟩ := h1
    subst e1
    show R T c G ρ' (setV (σ.set i (some (.ref a))) is vr) H
    refine store_all (h0_tail h0).2 f3 (r.storeOwnG (isIn f1) g1 (.inl g2) g4 (fun j u q m ne => hn j m _ (.head _)) (h0_tail h0).1) h2 (fun j hj w hw => ?_) (show gNs is ur (ρ.set i (some u)) = some ρ' from h)
    by_cases hji : i = j
    · subst hji
      intro q
      have hl : i < σ.length := by
        have := (List.getElem?_eq_some_iff.mp q).1
        rwa [List.length_set] at this
      rw [List.getElem?_set_self hl] at q
      cases q
      exact hv hw
    · rw [List.getElem?_set_ne hji]
      exact hn j hj w (.tail _ hw)
theorem relK.off {T : Tab} {Hs G H : Hp} {σ : L2.St} : ∀ {ks : List Bool} {us : List U} {vs : List V}, relK T c Hs ks G H σ us vs → ∀ j ∈ c.mu, ∀ v ∈ freshOf ks vs, σ[j]? ≠ some (some v)
  | [], us, vs, ⟨_, e⟩, j, hj, v, m => by
    subst e
    simp [freshOf] at m
  | false :: ks, us, vs, ⟨u, ur, w, vr, e1, e2, h1, h2⟩, j, hj, v, m => by
    subst e1 e2
    exact relK.off h2 j hj v m
  | true :: ks, us, vs, ⟨u, ur, w, vr, e1, e2, h1, hn, h2⟩, j, hj, v, m => by
    subst e1 e2
    rcases List.mem_cons.mp m with e | m
    · subst e
      obtain ⟨a, e1, _, _, _, _, _, h7⟩ := h1
      rw [e1]
      exact h7 j hj
    · exact relK.off h2 j hj v m
theorem relK.len {T : Tab} {Hs G H : Hp} {σ : L2.St} : ∀ {ks : List Bool} {us : List U} {vs : List V}, relK T c Hs ks G H σ us vs → vs.length = ks.length
  | [], us, vs, ⟨_, e⟩ => by
    subst e
    rfl
  | false :: ks, us, vs, ⟨u, ur, w, vr, e1, e2, h1, h2⟩ => by
    subst e1 e2
    rw [List.length_cons, List.length_cons, relK.len h2]
  | true :: ks, us, vs, ⟨u, ur, w, vr, e1, e2, h1, hn, h2⟩ => by
    subst e1 e2
    rw [List.length_cons, List.length_cons, relK.len h2]
theorem tq_par {is : List Nat} {D : Ends} {σ : L2.St} {H : Hp} (h0 : c.da = none ∨ is.contains 0 = false) (hf : fitK c.mu ks is = true) (h : tqs (Cx.T X) c W fr (sPar (gNs is) as) D σ H) :
    tqK (Cx.T X) c W ks as σ H fun vs H1 => vs.length = ks.length ∧ D.nx (setV σ is vs) H1 := by
  obtain ⟨G, ρ, r, h⟩ := h
  refine ⟨G, ρ, r, (PFl.of (rel := relKs (Cx.T X) c H ks) h).imp fun vs H1 ⟨G1, ρ1, us, e1, r1, l1, h1⟩ => ⟨relK.len l1, ?_⟩⟩
  split at h1
  · rename_i ρ2 e2
    exact h1 _ G1 H1 (Ex.refl _) (store_all h0 hf r1 l1 (relK.off l1) e2)
  · exact h1.elim
/-- x, y = a, b -/
theorem qs_par2 (i j : Nat) {k1 k2 : Bool} {x y : Str} {a b : Expr} {px py pt pt2 : Pos} {kt kt2 : Nat} (calm : X.calm = true) (nd : X.N.Nodup) (ha : QK X c W [k1, k2] [a, b] as) (h0 : c.da = none ∨ [i, j].contains 0 = false := by first | exact .inl rfl | exact .inr rfl | exact .inl (by assumption)) (hf : fitK c.mu [k1, k2] [i, j] = true := by rfl)
    (hi : X.N[i]? = some x := by rfl) (hj : X.N[j]? = some y := by rfl) (hij : i ≠ j := by decide) (hx : X.env.scope.names.lookup x = some .local := by rfl) (hy : X.env.scope.names.lookup y = some .local := by rfl)
    (hw : swappedStores [.Tuple [.Name x px, .Name y py] kt pt] (.Tuple [a, b] kt2 pt2) X.env = pure (some [x, y]) := by rfl)
    (hs : swapsWithSole [.Tuple [.Name x px, .Name y py] kt pt] (.Tuple [a, b] kt2 pt2) pos.line X.env = pure false := by rfl) :
    QS X c W fr (.Assign [.Tuple [.Name x px, .Name y py] kt pt] (.Tuple [a, b] kt2 pt2) pos) (sPar (gNs [i, j]) as) :=
  PS.weak (ps_par calm nd hi hj hij hx hy ha hw hs) fun D σ H h => by
    obtain ⟨G, ρ, r, h⟩ := tq_par h0 hf h
    refine ⟨G, ρ, r, h.imp fun vs H1 ⟨hl, q⟩ => ?_⟩
    match vs, hl, q with
    | [v, w], _, q => exact ⟨v, w, rfl, q⟩
theorem qs_par3 (i j l : Nat) {k1 k2 k3 : Bool} {x y z : Str} {a b d : Expr} {px py pz pt pt2 : Pos} {kt kt2 : Nat} (calm : X.calm = true) (nd : X.N.Nodup) (ha : QK X c W [k1, k2, k3] [a, b, d] as) (h0 : c.da = none ∨ [i, j, l].contains 0 = false := by first | exact .inl rfl | exact .inr rfl | exact .inl (by assumption)) (hf : fitK c.mu [k1, k2, k3] [i, j, l] = true := by rfl)
    (hi : X.N[i]? = some x := by rfl) (hj : X.N[j]? = some y := by rfl) (hl : X.N[l]? = some z := by rfl) (hij : i ≠ j := by decide) (hil : i ≠ l := by decide) (hjl : j ≠ l := by decide) (hx : X.env.scope.names.lookup x = some .local := by rfl) (hy : X.env.scope.names.lookup y = some .local := by rfl) (hz : X.env.scope.names.lookup z = some .local := by rfl)
    (hw : swappedStores [.Tuple [.Name x px, .Name y py, .Name z pz] kt pt] (.Tuple [a, b, d] kt2 pt2) X.env = pure (some [x, y, z]) := by rfl)
    (hs : swapsWithSole [.Tuple [.Name x px, .Name y py, .Name z pz] kt pt] (.Tuple [a, b, d] kt2 pt2) pos.line X.env = pure false := by rfl) :
    QS X c W fr (.Assign [.Tuple [.Name x px, .Name y py, .Name z pz] kt pt] (.Tuple [a, b, d] kt2 pt2) pos) (sPar (gNs [i, j, l]) as) :=
  PS.weak (ps_par3 calm nd hi hj hl hij hil hjl hx hy hz ha hw hs) fun D σ H h => by
    obtain ⟨G, ρ, r, h⟩ := tq_par h0 hf h
    refine ⟨G, ρ, r, h.imp fun vs H1 ⟨hl, q⟩ => ?_⟩
    match vs, hl, q with
    | [v, w, u], _, q => exact ⟨v, w, u, rfl, q⟩
/-! ### a list repeated -/
theorem qf_rep {a b : Expr} {fa fb : EF} (ha : QF X c W a fa) (hb : QE X c W b fb) : QF X c W (.BinOp a .Mult b pos) (e2 uRep fa fb) :=
  PE.weak (pe_op op_rep ha hb) fun σ H Q ⟨G, ρ, r, h⟩ => by
    refine ⟨G, ρ, r, (PQ.bind (rel := relF (Cx.T X) c H) h).imp fun x H1 ⟨G1, ρ1, u, e1, r1, l1, h1⟩ => ?_⟩
    refine ⟨G1, ρ1, r1, (PQ.bind (rel := relU (Cx.T X)) h1).imp fun y H2 ⟨G2, ρ2, w, e2, r2, l2, h2⟩ => ?_⟩
    obtain ⟨z, hz, h3⟩ := rs_ok h2
    obtain ⟨p, rfl, g1, g2, g3, g45, g6, g7⟩ := l1.step (ρ' := ρ2) r1.th e2
    unfold uRep at hz
    split at hz
    · rename Int => i
      obtain ⟨vs, g4, g5⟩ := g45
      split at hz
      · rename_i hk
        cases hz
        rw [g5.length] at hk
        refine ⟨p, i, vs, rfl, rep_int.1 l2, g4, by omega, by omega, Nat.le_trans hk.2.2 (by decide), fun l hl => ?_⟩
        have e3 := e1.trans e2
        exact nuN_F r2 (fun b o q => e3.d b o q) h3 l _ hl (g5.rep _)
      · cases hz
    · cases hz
/-! ### raise -/
theorem qs_raise {x m : Str} {j : Nat} {p p2 : Pos} {C : Addr} {bmB : List Value} {B newId initId : String} (calm : X.calm = true) (tk : L2N.Takes X W) (F : ExcBaseFacts B newId initId bmB) (q : PySem.W.excIn X.K C bmB newId = true) (gC : X.mg x = some (.ref C)) (kC : PySem.W.keepIn X.K (.ref C) = true) (rr : Raises X (.ref C)) (hg : Gl X x := by rfl)
    (hdb : (x == ("__debug__" : Str)) = false := by decide) : QS X c W fr (.Raise (some (.Call (.Name x p) [.Constant (.str m) j p2] [] pos)) none pos) (sRaise x) :=
  PS.weak (L2N.ps_raise calm tk (L2N.pmk_own F q gC kC rr hg hdb)) fun D σ H ⟨G, ρ, r, h⟩ => h σ G H C (Ex.refl _) r.xr gC
end
end Q
set_option maxRecDepth 100000
set_option maxHeartbeats 2000000
/-! QCal: a def keeps its promise -/
namespace Q
open PySem PySem.Spec PyProof.Rows L2
open Evl (Ex)

def daF (io : Bool) (a : Addr) : Option Addr := match io with
  | true => some a
  | false => none
def muOk (io : Bool) (p : Nat) (mu : List Nat) : Bool := match io with
  | true => mu.contains 0 && decide (0 < p) && mu.all fun i => i == 0 || decide (p ≤ i)
  | false => mu.all fun i => decide (p ≤ i)
section
variable {P : Program} {w : World} {K : PySem.W.Frag} {mg : Str → Option Value} {base : Heap}
theorem okx_of {N ps : List Str} {qual : Str} {sc : Scope} {f : Addr} {cdv : Value} {A : Around} {outer : List Env} {s : Shared} {H : Hp} {E : XK} {k : Nat} (S : FnScope N ps sc) (hr : Room k (A.deeper (envOfC qual sc s.heap.objs.size f cdv))) :
    OkX (cxOf (L2N.CX P w) P w K mg base N qual sc f cdv A outer s H E) (L2N.CX P w) (fun cls d _ H => E cls d H) k :=
  ⟨S.nd, rfl, hr, L2N.passAt (L2N.takes_of rfl rfl rfl rfl), passes_of rfl, L2N.takes_of rfl rfl rfl rfl⟩
/-- no wish is met by what never comes -/
theorem takesN0 {X : Cx} : L2N.Takes X fun _ _ _ _ => False := fun _ _ q => by
  obtain ⟨_, _, _, _, _, _, _, _, _, _, _, _, _, _, _, _, no⟩ := q
  cases no
theorem OkX.blk {X : Cx} {W : WX} {k : Nat} (ok : OkX X (L2N.CX X.prog X.w) W k) {s : Shared} {H : Hp} {scope : Scope} {cenv : Env} {fp : List Addr} : OkX (X.blk s H scope cenv fp) (L2N.CX X.prog X.w) W0 k :=
  ⟨ok.nd, ok.calm, ok.room, fun σ pins H s e s' _ h => by
    obtain ⟨_, _, _, _, _, _, _, _, _, _, _, _, z⟩ := h
    exact z.elim, .never, takesN0⟩
theorem startU_get {n : Nat} {us : List U} {i : Nat} {u : U} (h : (startU n us)[i]? = some (some u)) : us[i]? = some u := by
  unfold startU at h
  by_cases hi : i < us.length
  · rw [List.getElem?_append_left (by simpa using hi), List.getElem?_map] at h
    cases e : us[i]? with
    | none =>
      rw [e] at h
      cases h
    | some a =>
      rw [e] at h
      cases h
      rfl
  · rw [List.getElem?_append_right (by simpa using hi), List.getElem?_replicate] at h
    split at h <;> cases h
theorem start_get {N : List Str} {vs : List V} {i : Nat} {v : V} (h : (L2.start N vs)[i]? = some (some v)) : vs[i]? = some v := by
  unfold L2.start at h
  by_cases hi : i < vs.length
  · rw [List.getElem?_append_left (by simpa using hi), List.getElem?_map] at h
    cases e : vs[i]? with
    | none =>
      rw [e] at h
      cases h
    | some a =>
      rw [e] at h
      cases h
      rfl
  · rw [List.getElem?_append_right (by simpa using hi), List.getElem?_replicate] at h
    split at h <;> cases h
theorem start_at {N : List Str} {vs : List V} {i : Nat} {v : V} (h : vs[i]? = some v) : (L2.start N vs)[i]? = some (some v) := by
  have hi := (List.getElem?_eq_some_iff.mp h).1
  unfold L2.start
  rw [List.getElem?_append_left (by simpa using hi), List.getElem?_map, h]
  rfl
theorem startU_at {n : Nat} {us : List U} {i : Nat} {v : U} (h : us[i]? = some v) : (startU n us)[i]? = some (some v) := by
  have hi := (List.getElem?_eq_some_iff.mp h).1
  unfold startU
  rw [List.getElem?_append_left (by simpa using hi), List.getElem?_map, h]
  rfl
theorem muOk_f {p : Nat} {mu : List Nat} (h : muOk false p mu = true) {i : Nat} (hi : i ∈ mu) : p ≤ i := of_decide_eq_true (List.all_eq_true.mp h i hi)
theorem muOk_t {p : Nat} {mu : List Nat} (h : muOk true p mu = true) : 0 ∈ mu ∧ 0 < p ∧ ∀ i ∈ mu, i = 0 ∨ p ≤ i := by
  unfold muOk at h
  simp only [Bool.and_eq_true, decide_eq_true_eq, List.all_eq_true, Bool.or_eq_true, beq_iff_eq] at h
  exact ⟨isIn h.1.1, h.1.2, h.2⟩
/-- the state at the entry -/
theorem R.start {T : Tab} {io : Bool} {N : List Str} {G H : Hp} {us : List U} {vs : List V} {p : Nat} {mu : List Nat} {tb : List (Addr × Str)} (tq : LamX.Tabs tb H ∧ ∀ a ps, G a ≠ some (.tbl ps)) (e : Ex G H) (hp : vs.length = p) (ha : argR T io G H us vs) (hm : muOk io p mu = true) :
    ∃ a, daF io a = daOf io vs ∧ us.length = p ∧ R T ⟨mu, G, H, daF io a, false, tb⟩ G (startU N.length us) (L2.start N vs) H := by
  cases io with
  | false =>
    have ha : Reps T G us vs := ha
    have hl := ha.length
    have hle : us.length = p := hl.trans hp
    refine ⟨0, rfl, hle, ?_⟩
    have out : ∀ i ∈ mu, ∀ u, us[i]? ≠ some u := fun i hi u q => by
      have := (List.getElem?_eq_some_iff.mp q).1
      have := muOk_f hm hi
      omega
    refine ⟨fun a q => (by cases q), e, Ex.refl _, fun _ _ _ q => q, fun _ _ q _ _ => q, tq.2, (fun _ o q => ⟨o, q⟩), tq.1, fun a q => (by cases q), ?_, fun i u q m => ?_, fun i u q m => ?_, fun i j u w q1 q2 m1 m2 _ => ?_, fun i v m q => ?_⟩
    · unfold startU L2.start
      simp [hl]
    · obtain ⟨v, h1, h2⟩ := ha.get (startU_get q)
      exact ⟨v, start_at h1, h2⟩
    · exact absurd (startU_get q) (out i m u)
    · exact absurd (startU_get q1) (out i m1 u)
    · obtain ⟨u, q1, _⟩ := ha.get' (start_get q)
      exact absurd q1 (out i m u)
  | true =>
    obtain ⟨a, d0, us', vs', rfl, rfl, h1, h3, h4⟩ := (show ∃ a d0 us' vs', vs = .ref a :: vs' ∧ us = d0 :: us' ∧ G a = none ∧ OwnAt T G H a d0 ∧ Reps T G us' vs' from ha)
    obtain ⟨o0, h2⟩ := h3.at
    obtain ⟨m0, p0, mm⟩ := muOk_t hm
    have hl := h4.length
    rw [List.length_cons] at hp
    refine ⟨a, rfl, by rw [List.length_cons, hl, hp], ?_⟩
    have out : ∀ i ∈ mu, ∀ u, (d0 :: us')[i]? = some u → i = 0 := fun i hi u q => by
      have := (List.getElem?_eq_some_iff.mp q).1
      rw [List.length_cons] at this
      rcases mm i hi with z | z
      · exact z
      · omega
    refine ⟨fun b q => ?_, e, Ex.refl _, fun _ _ _ q => q, fun _ _ q _ _ => q, tq.2, (fun _ o q => ⟨o, q⟩), tq.1, fun b q => ?_, ?_, fun i u q m => ?_, fun i u q m => ?_, fun i j u w q1 q2 m1 m2 ne => ?_, fun i v m q => ?_⟩
    · cases q
      exact ⟨m0, start_at rfl, d0, startU_at rfl⟩
    · cases q
      exact ⟨_, h2⟩
    · unfold startU L2.start
      simp [hl]
    · have q' := startU_get q
      cases i with
      | zero => exact absurd m0 m
      | succ i =>
        obtain ⟨v, f1, f2⟩ := h4.get (i := i) (u := u) (by simpa using q')
        exact ⟨v, start_at (by simpa using f1), f2⟩
    · have q' := startU_get q
      have hi := out i m u q'
      subst hi
      simp at q'
      subst q'
      exact ⟨a, start_at rfl, h1, .inr rfl, h3⟩
    · have e1 := out i m1 u (startU_get q1)
      have e2 := out j m2 w (startU_get q2)
      exact absurd (e1.trans e2.symm) ne
    · have q' := start_get q
      have hlt := (List.getElem?_eq_some_iff.mp q').1
      rw [List.length_cons, ← hl] at hlt
      have hlt2 : i < (d0 :: us').length := by rw [List.length_cons]; exact hlt
      exact ⟨_, startU_at (List.getElem?_eq_getElem hlt2)⟩
/-- a def of the module by its body, exceptions with no context -/
theorem fn_N {nm ql : Str} {st : Stmt} {fa : Addr} {dat : FuncData} {N ps : List Str} {n : Nat} {pr : Sp} (D : Fun K nm ql st fa dat) (S : FnScope N ps (defScope st)) (hl : ∀ vs H Q E, pr vs H Q E → vs.length = ps.length)
    (body : ∀ (code : Value) (A : Around) (outer : List Env) (s : Shared) (H : Hp) (vs : List V) (Q : VK) (E : XK), Room n (A.deeper (envOfC ql (defScope st) s.heap.objs.size fa code)) → pr vs H Q E →
      ∃ t, PSs (cxOf (L2N.CX P w) P w K mg base N ql (defScope st) fa code A outer s H E) (defBody st) t ∧ t { nx := fun _ H1 => Q .non H1, rt := Q } (L2.start N vs) H) : FnOk P w K mg base (L2N.CX P w) (n + 1) fa dat ps pr := by
  obtain ⟨_, _, _, _, _, _, code, _, _, e, look, good⟩ := D.ex
  subst e
  exact fn_of look good S hl fun A outer s H vs Q E r q => body code A outer s H vs Q E r q
/-- a body by its rules, from what the def promises -/
theorem body_of {tb : List (Addr × Str)} {qual : Str} {st : Stmt} {f : Addr} {N ps : List Str} {mu : List Nat} {b : SF} {io fr : Bool} {cdv : Value} {A : Around} {outer : List Env} {s : Shared} {H : Hp} {E : XK} {vs : List V} {Q : VK} (hm : muOk io ps.length mu = true)
    (hb : ∀ (G : Hp) (a : Addr), QSs (cxOf (L2N.CX P w) P w K mg base N qual (defScope st) f cdv A outer s H E) ⟨mu, G, H, daF io a, false, tb⟩ (fun cls d _ H => E cls d H) fr (defBody st) b)
    (hsp : spQ tb ⟨K, mg, P, w⟩ io fr ps.length (fnOf io fr N.length ps.length b) vs H Q E) :
    ∃ t, PSs (cxOf (L2N.CX P w) P w K mg base N qual (defScope st) f cdv A outer s H E) (defBody st) t ∧ t { nx := fun _ H1 => Q .non H1, rt := Q } (L2.start N vs) H := by
  obtain ⟨hl, G, us, e, tq, ha, h⟩ := hsp
  obtain ⟨a, hd, hu, r⟩ := R.start (N := N) tq e hl ha hm
  refine ⟨_, hb G a, G, startU N.length us, r, ?_⟩
  unfold fnOf at h
  rw [if_pos hu] at h
  have frm : ∀ {G' H' : Hp} {ρ' : Sl}, Ex G G' → Fin ⟨K, mg, P, w⟩ ⟨mu, G, H, daF io a, false, tb⟩ G' ρ' H' → Frm tb (daOf io vs) G H G' H' ∧ deckR ⟨K, mg, P, w⟩ (daOf io vs) G' H' (if io then slot0 ρ' else .non) := fun {G' H' ρ'} e' fi => by
    rw [← hd]
    refine ⟨⟨e', fi.ex, fi.nw, fi.fr, fi.dm, fi.th, fi.ng⟩, fun b q => ?_⟩
    obtain ⟨dl, e1, e2⟩ := fi.dk b q
    cases io with
    | false => cases q
    | true =>
      show OwnAt _ G' H' b (slot0 ρ')
      have e3 : slot0 ρ' = dl := by
        unfold slot0
        rw [e1]
      rw [e3]
      exact e2
  show PFl ⟨K, mg, P, w⟩ _ _ fr G _ _
  generalize b (startU N.length us) = z at h ⊢
  cases z with
  | next ρ' =>
    intro σ' G' H' e' r'
    cases fr with
    | true => exact h.elim
    | false =>
      obtain ⟨f1, f2⟩ := frm e' r'.fin
      exact h .non G' H' f1 f2 (rep_non.2 rfl : Rep ⟨K, mg, P, w⟩ G' .non .non)
  | brk ρ' => exact h.elim
  | cont ρ' => exact h.elim
  | ret u ρ' =>
    intro v G' H' e' fi hr
    obtain ⟨f1, f2⟩ := frm e' fi
    refine h v G' H' f1 f2 ?_
    rw [← hd]
    exact hr
  | exc C ρ' =>
    intro σ' G' H' d e' xr hm
    obtain ⟨f1, f2⟩ := frm e' xr
    exact h G' H' d f1 f2 hm
  | stuck => exact h
/-- THE RULE for a def -/
theorem fnok_of {tb : List (Addr × Str)} {x qual : Str} {st : Stmt} {f : Addr} {fd : FuncData} {N ps : List Str} {mu : List Nat} {b : SF} {io fr : Bool} {k : Nat} (F : Fun K x qual st f fd) (S : FnScope N ps (defScope st))
    (hm : muOk io ps.length mu = true)
    (hb : ∀ (cdv : Value) (A : Around) (outer : List Env) (s : Shared) (H : Hp) (E : XK) (G : Hp) (a : Addr), Room k (A.deeper (envOfC qual (defScope st) s.heap.objs.size f cdv)) →
      QSs (cxOf (L2N.CX P w) P w K mg base N qual (defScope st) f cdv A outer s H E) ⟨mu, G, H, daF io a, false, tb⟩ (fun cls d _ H => E cls d H) fr (defBody st) b) :
    FnOk P w K mg base (L2N.CX P w) (k + 1) f fd ps (spQ tb ⟨K, mg, P, w⟩ io fr ps.length (fnOf io fr N.length ps.length b)) := by
  exact fn_N F S (fun vs H Q E h => h.1) fun cdv A outer s H vs Q E hr hsp => body_of hm (fun G a => hb cdv A outer s H E G a hr) hsp
theorem cal_of {tb : List (Addr × Str)} {x qual : Str} {st : Stmt} {f : Addr} {fd : FuncData} {N ps : List Str} {mu : List Nat} {b : SF} {io fr : Bool} {k : Nat} (F : Fun K x qual st f fd) (hx : mg x = some (.ref f)) (S : FnScope N ps (defScope st)) (bd : Binds K fd ps [])
    (hm : muOk io ps.length mu = true)
    (hb : ∀ (cdv : Value) (A : Around) (outer : List Env) (s : Shared) (H : Hp) (E : XK) (G : Hp) (a : Addr), Room k (A.deeper (envOfC qual (defScope st) s.heap.objs.size f cdv)) →
      QSs (cxOf (L2N.CX P w) P w K mg base N qual (defScope st) f cdv A outer s H E) ⟨mu, G, H, daF io a, false, tb⟩ (fun cls d _ H => E cls d H) fr (defBody st) b) :
    Cal tb P w K mg base (L2N.CX P w) x io fr ps.length (fnOf io fr N.length ps.length b) (k + 1) := ⟨⟨f, fd, ps, hx, F.kp, bd, fnok_of F S hm hb⟩⟩
theorem stuck_cal {tb : List (Addr × Str)} {x : Str} {io fr : Bool} {n p j : Nat} (C : Cal tb P w K mg base (L2N.CX P w) x io fr p (fnOf io fr n p fun _ => .stuck) j) : Cal tb P w K mg base (L2N.CX P w) x io fr p (fun _ => .stuck) j := by
  have e : (fnOf io fr n p fun _ => .stuck) = fun _ => FR.stuck := by
    funext us
    unfold fnOf
    split
    · rfl
    · rfl
  rw [e] at C
  exact C
theorem qss_stuck {X : Cx} {c : Cn} {W : WX} {fr : Bool} {b : List Stmt} : QSs X c W fr b fun _ => .stuck :=
  show PSs _ _ _ from ⟨fun pins s σ H D I ⟨G, ρ, r, h⟩ => h.elim⟩
/-- an own exception's class -/
structure XCls (K : PySem.W.Frag) (mg : Str → Option Value) (x : Str) : Prop where
  ex : ∃ (C : Addr) (bmB : List Value) (B newId initId : String), mg x = some (.ref C) ∧ PySem.W.keepIn K (.ref C) = true ∧ ExcBaseFacts B newId initId bmB ∧ PySem.W.excIn K C bmB newId = true ∧
    PySem.W.subIn K (.ref C) (.type "BaseException") = some true ∧ PySem.W.typeIn K (.ref C) = some (.type "type")
theorem qs_raiseM {X : Cx} {CX : CXT} {W : WX} {c : Cn} {k : Nat} {fr : Bool} {x m : Str} {j : Nat} {p p2 pos pos2 : Pos} (ok : OkX X CX W k) (h : XCls X.K X.mg x) (hg : Gl X x := by rfl) (hdb : (x == ("__debug__" : Str)) = false := by decide) :
    QS X c W fr (.Raise (some (.Call (.Name x p) [.Constant (.str m) j p2] [] pos)) none pos2) (sRaise x) := by
  obtain ⟨C, bmB, B, newId, initId, h1, h2, h3, h4, h5, h6⟩ := h.ex
  exact PS.weak (L2N.ps_raise ok.calm ok.tk (L2N.pmk_own h3 h4 h1 h2 (raises_own h5 h6) hg hdb)) fun D σ H ⟨G, ρ, r, h⟩ => h σ G H C (Ex.refl _) r.xr h1
end
end Q
set_option maxRecDepth 100000
set_option maxHeartbeats 2000000
/-! QZip: list(zip(t, u)) of two tuples -/
namespace QZ
open PySem PySem.Calls PyProof.Rows PyProof.V PySem.Spec
section
variable {prog : Program} {w : World} {A : Around} {E : Value → Shared → Prop} {s : Shared}
theorem next_item_held {z TI TO T i1 i2 l1 l2 : Addr} {f : Bool} {oT : Obj} {k1 k2 : Nat} {xs ys : Array Value} {x y : Value} {Q : Value → Shared → Prop} (D : ZipApart z TI TO i1 i2 l1 l2)
    (hz : IsZipHeld s.heap z TI TO T f) (hT : s.heap.get? T = some oT) (hTI : IsPair s.heap TI (.ref i1) (.ref i2))
    (h1 : s.heap.IsTupleIter i1 l1 k1) (h2 : s.heap.IsTupleIter i2 l2 k2) (hl1 : s.heap.IsTuple l1 xs) (hl2 : s.heap.IsTuple l2 ys) (hx : xs[k1]? = some x) (hy : ys[k2]? = some y)
    (hQ : ∀ h', IsZipHeld h' z TI TO T true → h'.IsTupleIter i1 l1 (k1 + 1) → h'.IsTupleIter i2 l2 (k2 + 1) → IsPair h' s.heap.objs.size x y → h'.objs.size = s.heap.objs.size + 1 →
      (∀ c o, c ≠ z → c ≠ i1 → c ≠ i2 → s.heap.get? c = some o → h'.get? c = some o) → Q (.ref s.heap.objs.size) { s with heap := h' }) :
    wpAny (model prog w) A (Builtin.«zip.__next__» ⟨[.ref z], []⟩) (fun fin s' => ∃ v, fin = .done (.ret v) ∧ Q v s') E s := by
  show wpAny _ _ (field (.ref z) 2 >>= _) _ _ _
  refine wpAny_bind (wpAny_field hz rfl (x := .bool false) rfl ?_)
  show wpAny _ _ (field (.ref z) 3 >>= _) _ _ _
  refine wpAny_bind (wpAny_field hz rfl (x := .ref TI) rfl ?_)
  refine wpAny_bind (wpAny_seqItems hTI rfl ?_)
  show wpAny _ _ (Builtin.SmallTypes.ownedTupleIsFree (.ref z) >>= _) _ _ _
  refine wpAny_bind (wpAny_tupleHeld_zip hz hT fun h₁ hz₁ hs₁ => ?_)
  simp only [Bool.false_eq_true, if_false]
  refine wpAny_bind ?_
  rw [← Array.forIn_toList]
  simp only [List.forIn_cons, List.forIn_nil]
  refine wpAny_bind (wpAny_bind (wpAny_holding ?_))
  show wpAny _ _ (Builtin.SmallTypes.nextOf (.ref i1) >>= _) _ _ _
  refine wpAny_bind (RZ.nextOf_tuple_item (s := { s with heap := h₁ }) (h1.extBut hs₁.extBut D.i1z) (hl1.extBut hs₁.extBut D.l1z) hx fun h₂ h1₂ hs₂ => wpAny_pure ?_)
  refine wpAny_pure ?_
  refine wpAny_bind (wpAny_bind (wpAny_holding ?_))
  show wpAny _ _ (Builtin.SmallTypes.nextOf (.ref i2) >>= _) _ _ _
  refine wpAny_bind (RZ.nextOf_tuple_item (s := { s with heap := h₂ }) ((h2.extBut hs₁.extBut D.i2z).extBut hs₂.extBut D.i12.symm) ((hl2.extBut hs₁.extBut D.l2z).extBut hs₂.extBut D.l2i1) hy fun h₃ h2₃ hs₃ => wpAny_pure ?_)
  refine wpAny_pure (wpAny_pure ?_)
  show wpAny _ _ (newTuple [x, y] >>= _) _ _ _
  refine wpAny_bind (wpAny_newTuple ?_)
  have hsz : h₃.objs.size = s.heap.objs.size := by rw [hs₃.1, hs₂.1, hs₁.1]
  have hz₃ : IsZipHeld h₃ z TI TO T true := hs₃.extBut _ _ D.i2z.symm (hs₂.extBut _ _ D.i1z.symm hz₁)
  have hk : ∀ c o, c ≠ z → c ≠ i1 → c ≠ i2 → s.heap.get? c = some o → h₃.get? c = some o := fun c o c1 c2 c3 e => hs₃.extBut _ _ c3 (hs₂.extBut _ _ c2 (hs₁.extBut _ _ c1 e))
  have h1₃ : h₃.IsTupleIter i1 l1 (k1 + 1) := h1₂.extBut hs₃.extBut D.i12
  refine wpAny_pure ⟨_, rfl, ?_⟩
  show Q (.ref h₃.objs.size) _
  have hp : IsPair (h₃.push { cls := .type "tuple", data := .seq #[x, y] }) h₃.objs.size x y := Heap.get?_push_size _ rfl
  have hz4 : (h₃.push { cls := .type "tuple", data := .seq #[x, y] }).objs.size = h₃.objs.size + 1 := Heap.size_push ..
  rw [hsz] at hp hz4 ⊢
  exact hQ _ (Heap.get?_push_of_some _ hz₃) (h1₃.at fun o e => Heap.get?_push_of_some _ e) (h2₃.at fun o e => Heap.get?_push_of_some _ e) hp hz4 fun c o c1 c2 c3 e => Heap.get?_push_of_some _ (hk c o c1 c2 c3 e)

theorem next_end_held {z TI TO T i1 i2 l1 l2 : Addr} {f : Bool} {oT : Obj} {k1 k2 : Nat} {xs ys : Array Value} {Q : Fin → Shared → Prop} (hh : A.handled = none) (D : ZipApart z TI TO i1 i2 l1 l2)
    (hz : IsZipHeld s.heap z TI TO T f) (hT : s.heap.get? T = some oT) (hTI : IsPair s.heap TI (.ref i1) (.ref i2))
    (h1 : s.heap.IsTupleIter i1 l1 k1) (h2 : s.heap.IsTupleIter i2 l2 k2) (hl1 : s.heap.IsTuple l1 xs) (hl2 : s.heap.IsTuple l2 ys) (hend : xs[k1]? = none ∨ ys[k2]? = none)
    (hE : ∀ h' e, (∀ c o, c ≠ z → c ≠ i1 → c ≠ i2 → s.heap.get? c = some o → h'.get? c = some o) → (∃ o, h'.get? e = some o ∧ o.cls = .type "StopIteration") → E (.ref e) { s with heap := h' }) :
    wpAny (model prog w) A (Builtin.«zip.__next__» ⟨[.ref z], []⟩) Q E s := by
  show wpAny _ _ (field (.ref z) 2 >>= _) _ _ _
  refine wpAny_bind (wpAny_field hz rfl (x := .bool false) rfl ?_)
  show wpAny _ _ (field (.ref z) 3 >>= _) _ _ _
  refine wpAny_bind (wpAny_field hz rfl (x := .ref TI) rfl ?_)
  refine wpAny_bind (wpAny_seqItems hTI rfl ?_)
  show wpAny _ _ (Builtin.SmallTypes.ownedTupleIsFree (.ref z) >>= _) _ _ _
  refine wpAny_bind (wpAny_tupleHeld_zip hz hT fun h₁ hz₁ hs₁ => ?_)
  simp only [Bool.false_eq_true, if_false]
  refine wpAny_bind ?_
  rw [← Array.forIn_toList]
  simp only [List.forIn_cons, List.forIn_nil]
  refine wpAny_bind (wpAny_bind (wpAny_holding ?_))
  show wpAny _ _ (Builtin.SmallTypes.nextOf (.ref i1) >>= _) _ _ _
  cases hx : xs[k1]? with
  | none =>
    refine wpAny_bind (RZ.nextOf_tuple_end (s := { s with heap := h₁ }) hh (h1.extBut hs₁.extBut D.i1z) (hl1.extBut hs₁.extBut D.l1z) hx fun h₂ e hs₂ he => ?_)
    exact hE h₂ e (fun c o c1 c2 _ x => hs₂ _ _ c2 (hs₁.extBut _ _ c1 x)) he
  | some x =>
    have hy : ys[k2]? = none := by rcases hend with h | h; rw [hx] at h; cases h; exact h
    refine wpAny_bind (RZ.nextOf_tuple_item (s := { s with heap := h₁ }) (h1.extBut hs₁.extBut D.i1z) (hl1.extBut hs₁.extBut D.l1z) hx fun h₂ h1₂ hs₂ => wpAny_pure ?_)
    refine wpAny_pure ?_
    refine wpAny_bind (wpAny_bind (wpAny_holding ?_))
    show wpAny _ _ (Builtin.SmallTypes.nextOf (.ref i2) >>= _) _ _ _
    refine wpAny_bind (RZ.nextOf_tuple_end (s := { s with heap := h₂ }) hh ((h2.extBut hs₁.extBut D.i2z).extBut hs₂.extBut D.i12.symm) ((hl2.extBut hs₁.extBut D.l2z).extBut hs₂.extBut D.l2i1) hy fun h₃ e hs₃ he => ?_)
    exact hE h₃ e (fun c o c1 c2 c3 x => hs₃ _ _ c3 (hs₂.extBut _ _ c2 (hs₁.extBut _ _ c1 x))) he
theorem pyNext_item_held {z TI TO T i1 i2 l1 l2 : Addr} {f : Bool} {oT : Obj} {k1 k2 : Nat} {xs ys : Array Value} {x y : Value} {Q : Option Value → Shared → Prop} (D : ZipApart z TI TO i1 i2 l1 l2)
    (hz : IsZipHeld s.heap z TI TO T f) (hT : s.heap.get? T = some oT) (hTI : IsPair s.heap TI (.ref i1) (.ref i2))
    (h1 : s.heap.IsTupleIter i1 l1 k1) (h2 : s.heap.IsTupleIter i2 l2 k2) (hl1 : s.heap.IsTuple l1 xs) (hl2 : s.heap.IsTuple l2 ys) (hx : xs[k1]? = some x) (hy : ys[k2]? = some y)
    (hQ : ∀ h', IsZipHeld h' z TI TO T true → h'.IsTupleIter i1 l1 (k1 + 1) → h'.IsTupleIter i2 l2 (k2 + 1) → IsPair h' s.heap.objs.size x y → h'.objs.size = s.heap.objs.size + 1 →
      (∀ c o, c ≠ z → c ≠ i1 → c ≠ i2 → s.heap.get? c = some o → h'.get? c = some o) → Q (some (.ref s.heap.objs.size)) { s with heap := h' }) :
    wpAny (model prog w) A (pyNext (.ref z)) Q E s := by
  have hTy : s.TypeIs (.ref z) "zip" := ⟨_, hz, rfl⟩
  unfold pyNext
  exact wpAny_bind (wpAny_attempt (wpAny_callSpecial?_slot (name := Str.ofString "__next__") hTy F.slot_zip_next
    (wpAny_call_entry F.slot_zip_next hTy F.entry_zip_next
      (next_item_held D hz hT hTI h1 h2 hl1 hl2 hx hy fun h' a1 a3 a4 a5 a6 a7 => wpAny_pure (hQ h' a1 a3 a4 a5 a6 a7)) (F.args_zip_next_1 _))))
theorem pyNext_end_held {z TI TO T i1 i2 l1 l2 : Addr} {f : Bool} {oT : Obj} {k1 k2 : Nat} {xs ys : Array Value} {Q : Option Value → Shared → Prop} (hh : A.handled = none) (D : ZipApart z TI TO i1 i2 l1 l2)
    (hz : IsZipHeld s.heap z TI TO T f) (hT : s.heap.get? T = some oT) (hTI : IsPair s.heap TI (.ref i1) (.ref i2))
    (h1 : s.heap.IsTupleIter i1 l1 k1) (h2 : s.heap.IsTupleIter i2 l2 k2) (hl1 : s.heap.IsTuple l1 xs) (hl2 : s.heap.IsTuple l2 ys) (hend : xs[k1]? = none ∨ ys[k2]? = none)
    (hQ : ∀ h', (∀ c o, c ≠ z → c ≠ i1 → c ≠ i2 → s.heap.get? c = some o → h'.get? c = some o) → Q none { s with heap := h' }) : wpAny (model prog w) A (pyNext (.ref z)) Q E s := by
  have hTy : s.TypeIs (.ref z) "zip" := ⟨_, hz, rfl⟩
  unfold pyNext
  refine wpAny_bind (wpAny_attempt (wpAny_callSpecial?_slot (name := Str.ofString "__next__") hTy F.slot_zip_next
    (wpAny_call_entry F.slot_zip_next hTy F.entry_zip_next (next_end_held hh D hz hT hTI h1 h2 hl1 hl2 hend fun h' e hk he => ?_) (F.args_zip_next_1 _))))
  obtain ⟨o, ho, hc⟩ := he
  refine wpAny_bind (wpAny_isInstance (T := "StopIteration") (b := true) ⟨o, ho, hc⟩ isSubtype_stop ?_)
  exact wpAny_pure (hQ _ hk)

/-- the zip z over the tuples at l1 and l2 at turn i; its tuples stay with the list at S -/
structure St (h : Heap) (z TI TO i1 i2 l1 l2 S : Addr) (xs ys : Array Value) (i : Nat) : Prop where
  fTI : IsPair h TI (.ref i1) (.ref i2)
  f1 : h.IsTupleIter i1 l1 i
  f2 : h.IsTupleIter i2 l2 i
  g1 : h.IsTuple l1 xs
  g2 : h.IsTuple l2 ys
  fz : (IsZip h z TI TO .none ∧ ∃ a b, IsPair h TO a b) ∨ ∃ T f oT, IsZipHeld h z TI TO T f ∧ h.get? T = some oT ∧ T ≠ z ∧ T ≠ i1 ∧ T ≠ i2 ∧ T ≠ S
/-- apart from the list -/
structure Off (z TI TO i1 i2 l1 l2 S : Addr) : Prop where
  z : z ≠ S
  TI : TI ≠ S
  TO : TO ≠ S
  i1 : i1 ≠ S
  i2 : i2 ≠ S
  l1 : l1 ≠ S
  l2 : l2 ≠ S
theorem St.keep {h h' : Heap} {z TI TO i1 i2 l1 l2 S : Addr} {xs ys : Array Value} {i : Nat} (F : Off z TI TO i1 i2 l1 l2 S) (x : St h z TI TO i1 i2 l1 l2 S xs ys i) (hk : ∀ b o, b ≠ S → h.get? b = some o → h'.get? b = some o) : St h' z TI TO i1 i2 l1 l2 S xs ys i where
  fTI := hk _ _ F.TI x.fTI
  f1 := x.f1.at fun o e => hk _ o F.i1 e
  f2 := x.f2.at fun o e => hk _ o F.i2 e
  g1 := x.g1.at fun o e => hk _ o F.l1 e
  g2 := x.g2.at fun o e => hk _ o F.l2 e
  fz := by
    rcases x.fz with ⟨hz, a, b, hTO⟩ | ⟨T, f, oT, hz, hT, r1, r2, r3, r4⟩
    · exact .inl ⟨hk _ _ F.z hz, a, b, hk _ _ F.TO hTO⟩
    · exact .inr ⟨T, f, oT, hk _ _ F.z hz, hk _ _ r4 hT, r1, r2, r3, r4⟩
theorem st_item {z TI TO i1 i2 l1 l2 S : Addr} {xs ys : Array Value} {i : Nat} {x y : Value} {Q : Option Value → Shared → Prop} (D : ZipApart z TI TO i1 i2 l1 l2) (st : St s.heap z TI TO i1 i2 l1 l2 S xs ys i) (hS : S < s.heap.objs.size) (hx : xs[i]? = some x) (hy : ys[i]? = some y)
    (hQ : ∀ h', St h' z TI TO i1 i2 l1 l2 S xs ys (i + 1) → h'.get? s.heap.objs.size = some { cls := .type "tuple", data := .seq #[x, y] } → h'.objs.size = s.heap.objs.size + 1 →
      (∀ b o, b ∉ [z, TO, i1, i2] → s.heap.get? b = some o → h'.get? b = some o) → Q (some (.ref s.heap.objs.size)) { s with heap := h' }) :
    wpAny (model prog w) A (pyNext (.ref z)) Q E s := by
  have lt : ∀ {c o}, s.heap.get? c = some o → s.heap.objs.size ≠ c := fun e => Nat.ne_of_gt (Heap.lt_size e)
  have n1 : s.heap.objs.size ≠ i1 := let ⟨_, e, _⟩ := st.f1; lt e
  have n2 : s.heap.objs.size ≠ i2 := let ⟨_, e, _⟩ := st.f2; lt e
  rcases st.fz with ⟨hz, a, b, hTO⟩ | ⟨T, f, oT, hz, hT, r1, r2, r3, r4⟩
  · refine RZ.pyNext_zipT_item D hz st.fTI hTO st.f1 st.f2 st.g1 st.g2 hx hy fun h' a1 a2 a3 a4 a5 a6 hk => ?_
    exact hQ h' ⟨hk _ _ D.TIz D.TITO D.TIi1 D.TIi2 st.fTI, a3, a4, st.g1.at fun o e => hk _ o D.l1z D.l1TO D.l1i1 D.l1i2 e, st.g2.at fun o e => hk _ o D.l2z D.l2TO D.l2i1 D.l2i2 e,
      .inr ⟨s.heap.objs.size, false, _, a1, a5, lt hz, n1, n2, Nat.ne_of_gt hS⟩⟩ a5 a6 fun c o hc e => hk c o (fun x => hc (by simp [x])) (fun x => hc (by simp [x])) (fun x => hc (by simp [x])) (fun x => hc (by simp [x])) e
  · refine pyNext_item_held D hz hT st.fTI st.f1 st.f2 st.g1 st.g2 hx hy fun h' a1 a3 a4 a5 a6 hk => ?_
    exact hQ h' ⟨hk _ _ D.TIz D.TIi1 D.TIi2 st.fTI, a3, a4, st.g1.at fun o e => hk _ o D.l1z D.l1i1 D.l1i2 e, st.g2.at fun o e => hk _ o D.l2z D.l2i1 D.l2i2 e,
      .inr ⟨T, true, oT, a1, hk _ _ r1 r2 r3 hT, r1, r2, r3, r4⟩⟩ a5 a6 fun c o hc e => hk c o (fun x => hc (by simp [x])) (fun x => hc (by simp [x])) (fun x => hc (by simp [x])) e
theorem st_done {z TI TO i1 i2 l1 l2 S : Addr} {xs ys : Array Value} {i : Nat} {Q : Option Value → Shared → Prop} (hh : A.handled = none) (D : ZipApart z TI TO i1 i2 l1 l2) (st : St s.heap z TI TO i1 i2 l1 l2 S xs ys i) (hend : xs[i]? = none ∨ ys[i]? = none)
    (hQ : ∀ h', (∀ b o, b ∉ [z, TO, i1, i2] → s.heap.get? b = some o → h'.get? b = some o) → Q none { s with heap := h' }) : wpAny (model prog w) A (pyNext (.ref z)) Q E s := by
  rcases st.fz with ⟨hz, a, b, hTO⟩ | ⟨T, f, oT, hz, hT, r1, r2, r3, r4⟩
  · exact RZ.pyNext_zipT_end hh D hz st.fTI hTO st.f1 st.f2 st.g1 st.g2 hend fun h' hk => hQ h' fun c o hc e => hk c o (fun x => hc (by simp [x])) (fun x => hc (by simp [x])) (fun x => hc (by simp [x])) (fun x => hc (by simp [x])) e
  · exact pyNext_end_held hh D hz hT st.fTI st.f1 st.f2 st.g1 st.g2 hend fun h' hk => hQ h' fun c o hc e => hk c o (fun x => hc (by simp [x])) (fun x => hc (by simp [x])) (fun x => hc (by simp [x])) e
end

/-- the pairs of xs and ys, as tuples at as -/
structure G (xs ys : Array Value) (lo : Addr) (h : Heap) (as : List Addr) : Prop where
  rise : as.Pairwise (· < ·)
  above : ∀ a ∈ as, lo < a
  pairs : ∀ (j : Nat) (a : Addr), as[j]? = some a → ∃ x y, xs[j]? = some x ∧ ys[j]? = some y ∧ h.get? a = some { cls := .type "tuple", data := .seq #[x, y] }
theorem G.there {xs ys : Array Value} {lo : Addr} {h : Heap} {as : List Addr} (g : G xs ys lo h as) {a : Addr} (ha : a ∈ as) : a < h.objs.size := by
  obtain ⟨j, hj⟩ := List.mem_iff_getElem?.mp ha
  obtain ⟨_, _, _, _, e⟩ := g.pairs j a hj
  exact Heap.lt_size e
theorem G.low {xs ys : Array Value} {lo lo' : Addr} {h : Heap} {as : List Addr} (g : G xs ys lo h as) (hl : lo' ≤ lo) : G xs ys lo' h as := ⟨g.rise, fun a ha => Nat.lt_of_le_of_lt hl (g.above a ha), g.pairs⟩
section
variable {prog : Program} {w : World} {A : Around} {s : Shared} {R : Result → Shared → Prop} {xs ys : Array Value}
/-- lo: above all that the walk changes -/
theorem zl_loop {S z TI TO i1 i2 l1 l2 lo : Addr} (hh : A.handled = none) (D : ZipApart z TI TO i1 i2 l1 l2) (F : Off z TI TO i1 i2 l1 l2 S) (hlo : S ≤ lo ∧ z ≤ lo ∧ TO ≤ lo ∧ i1 ≤ lo ∧ i2 ≤ lo) (hn : min xs.size ys.size ≤ sizeLine) (res : Value) {h₁ : Heap}
    (hR : ∀ h' tk acc c as, (∀ b o, b ≠ S → b ∉ [z, TO, i1, i2] → h₁.get? b = some o → h'.get? b = some o) → h'.get? S = some { cls := .type "list", dict := none, data := .seq acc c, slots := #[] } → as.length = min xs.size ys.size → G xs ys lo h' as →
      acc.toList = as.map Value.ref → R (.ok (.ret res)) { s with heap := h', toks := tk }) :
    ∀ (k i : Nat) (h : Heap) (tk c : Nat) (acc : Array Value) (as : List Addr), min xs.size ys.size - i = k → i ≤ min xs.size ys.size → St h z TI TO i1 i2 l1 l2 S xs ys i → (∀ b o, b ≠ S → b ∉ [z, TO, i1, i2] → h₁.get? b = some o → h.get? b = some o) →
      h.get? S = some { cls := .type "list", dict := none, data := .seq acc c, slots := #[] } → acc.toList = as.map Value.ref → as.length = i → G xs ys lo h as → lo < h.objs.size →
      codeAny (model prog w) A (.builtin "list.extend.loop" ⟨[.ref S, .ref z, res], []⟩) R { s with heap := h, toks := tk } := by
  have hSin : S ∉ [z, TO, i1, i2] := by
    simp only [List.mem_cons, List.not_mem_nil, or_false, not_or]
    exact ⟨F.z.symm, F.TO.symm, F.i1.symm, F.i2.symm⟩
  have hab : ∀ a, lo < a → a ∉ [z, TO, i1, i2] ∧ a ≠ S := fun a ha => by
    simp only [List.mem_cons, List.not_mem_nil, or_false, not_or]
    obtain ⟨q0, q1, q2, q3, q4⟩ := hlo
    exact ⟨⟨Nat.ne_of_gt (Nat.lt_of_le_of_lt q1 ha), Nat.ne_of_gt (Nat.lt_of_le_of_lt q2 ha), Nat.ne_of_gt (Nat.lt_of_le_of_lt q3 ha), Nat.ne_of_gt (Nat.lt_of_le_of_lt q4 ha)⟩, Nat.ne_of_gt (Nat.lt_of_le_of_lt q0 ha)⟩
  intro k
  induction k with
  | zero =>
    intro i h tk c acc as hk hi hst hkeep hS hacc hal hG hIs
    have hin : i = min xs.size ys.size := by omega
    have hend : xs[i]? = none ∨ ys[i]? = none := by
      rcases Nat.le_total xs.size ys.size with q | q
      · exact .inl (Array.getElem?_eq_none (by omega))
      · exact .inr (Array.getElem?_eq_none (by omega))
    refine codeAny_builtin PySem.F.entry_extend_loop ?_
    rw [Around.under_plainId PySem.F.plain_extend_loop _]
    show wpAny _ A.in1 (pyNext (.ref z) >>= _) _ _ _
    refine wpAny_bind (st_done (s := { s with heap := h, toks := tk }) (A := A.in1) hh D hst hend fun h' he => ?_)
    refine wpAny_pure (hR h' tk acc c as (fun b o h1 h2 e => he b o h2 (hkeep b o h1 h2 e)) (he S _ hSin hS) (by omega) ⟨hG.rise, hG.above, fun j a hj => ?_⟩ hacc)
    obtain ⟨x, y, e1, e2, e3⟩ := hG.pairs j a hj
    exact ⟨x, y, e1, e2, he a _ (hab a (hG.above a (List.mem_of_getElem? hj))).1 e3⟩
  | succ k ih =>
    intro i h tk c acc as hk hi hst hkeep hS hacc hal hG hIs
    have hlx : i < xs.size := by omega
    have hly : i < ys.size := by omega
    have hsz : acc.size = i := by rw [← Array.length_toList, hacc, List.length_map, hal]
    refine codeAny_builtin PySem.F.entry_extend_loop ?_
    rw [Around.under_plainId PySem.F.plain_extend_loop _]
    show wpAny _ A.in1 (pyNext (.ref z) >>= _) _ _ _
    refine wpAny_bind (st_item (s := { s with heap := h, toks := tk }) (S := S) D hst (Heap.lt_size hS) (Array.getElem?_eq_getElem hlx) (Array.getElem?_eq_getElem hly) fun h' hst' ht hz hkp => ?_)
    dsimp only at ht hz hkp ⊢
    have hS' := hkp S _ hSin hS
    have up : ∀ b o, b ≠ S → h'.get? b = some o → (h'.update S (Obj.mapSeq (·.push (Value.ref h.objs.size)))).get? b = some o := fun b o hb e => (Heap.get?_update_other _ _ (Ne.symm hb)).trans e
    have hSl : S < h.objs.size := Heap.lt_size hS
    show wpAny _ A.in1 (updateSeq S (·.push (Value.ref h.objs.size)) >>= _) _ _ _
    refine wpAny_bind ?_
    refine wpAny_updateSeq hS' rfl (wpAny_pure ⟨plainId_quiet PySem.F.plain_extend_loop _, ih (i + 1) _ tk _ (acc.push (Value.ref h.objs.size)) (as ++ [h.objs.size]) (by omega) (by omega) (hst'.keep F up)
      (fun b o h1 h2 e => up b o h1 (hkp b o h2 (hkeep b o h1 h2 e))) (Heap.get?_update_self _ hS' rfl) (by rw [Array.toList_push, hacc, List.map_append]; rfl) (by rw [List.length_append, hal]; rfl) ⟨?_, ?_, ?_⟩ ?_⟩) (by rw [hsz]; omega) (by show (acc.push (Value.ref h.objs.size)).size ≤ sizeLine + 1; rw [Array.size_push, hsz]; omega)
    · refine List.pairwise_append.mpr ⟨hG.rise, List.pairwise_singleton _ _, fun a ha b hb => ?_⟩
      rw [List.mem_singleton.mp hb]
      exact hG.there ha
    · intro a ha
      rcases List.mem_append.mp ha with ha | ha
      · exact hG.above a ha
      · rw [List.mem_singleton.mp ha]; exact hIs
    · intro j b hj
      rcases Nat.lt_trichotomy j as.length with h1 | h1 | h1
      · rw [List.getElem?_append_left h1] at hj
        obtain ⟨x, y, e1, e2, e3⟩ := hG.pairs j b hj
        obtain ⟨hb1, hb2⟩ := hab b (hG.above b (List.mem_of_getElem? hj))
        exact ⟨x, y, e1, e2, up b _ hb2 (hkp b _ hb1 e3)⟩
      · subst h1
        have hb : h.objs.size = b := by simpa using hj
        subst hb
        exact ⟨_, _, by rw [hal]; exact Array.getElem?_eq_getElem hlx, by rw [hal]; exact Array.getElem?_eq_getElem hly, up _ _ (Nat.ne_of_gt hSl) ht⟩
      · have hnone : (as ++ [h.objs.size])[j]? = none := List.getElem?_eq_none (by rw [List.length_append, List.length_singleton]; omega)
        rw [hnone] at hj; cases hj
    · have e : (h'.update S (Obj.mapSeq (·.push (Value.ref h.objs.size)))).get? h.objs.size = _ := up _ _ (Nat.ne_of_gt hSl) ht
      exact Nat.lt_trans hIs (Heap.lt_size e)
end
theorem zip_no_len : typeLookup (.type "zip") "__len__" = pure none := by rw [typeLookup_type, builtinLookup_eq_fast]; kernel_rfl
theorem zip_no_hint : typeLookup (.type "zip") "__length_hint__" = pure none := by rw [typeLookup_type, builtinLookup_eq_fast]; kernel_rfl
section
variable {prog : Program} {w : World} {A : Around} {E : Value → Shared → Prop} {s : Shared} {z TI TO i1 i2 l1 l2 : Addr} {xs ys : Array Value}
theorem zl_extend {R : Result → Shared → Prop} {lo : Addr} (hh : A.handled = none) (D : ZipApart z TI TO i1 i2 l1 l2) (S : Addr) (F : Off z TI TO i1 i2 l1 l2 S) (hlo : S ≤ lo ∧ z ≤ lo ∧ TO ≤ lo ∧ i1 ≤ lo ∧ i2 ≤ lo) (hls : lo < s.heap.objs.size) (st : St s.heap z TI TO i1 i2 l1 l2 S xs ys 0) (hty : s.TypeIs (.ref z) "zip")
    (hit : ∀ {A' : Around} {E' : Value → Shared → Prop} {Q' : Value → Shared → Prop}, Q' (.ref z) s → wpAny (model prog w) A' (pyIter (.ref z)) Q' E' s) (res : Value) (c₀ : Nat) (hS : s.heap.get? S = some { cls := .type "list", data := .seq #[] c₀ })
    (hR : ∀ h' tk acc c as, (∀ b o, b ≠ S → b ∉ [z, TO, i1, i2] → s.heap.get? b = some o → h'.get? b = some o) → h'.get? S = some { cls := .type "list", dict := none, data := .seq acc c, slots := #[] } → as.length = min xs.size ys.size → G xs ys lo h' as →
      acc.toList = as.map Value.ref → R (.ok (.ret res)) { s with heap := h', toks := tk }) (hn : min xs.size ys.size ≤ sizeLine) :
    wpAny (model prog w) A.in1 (Builtin.List.listExtendWith (.ref S) (.ref z) res)
      (fun fin s' => match fin with | .done f => R (.ok f) s' | .again c' => c'.quiet = true ∧ codeAny (model prog w) A c' R s') (fun e s' => R (.error e) s') s := by
  have key : ∀ (h : Heap) (c₁ tk : Nat), (∀ b o, b ≠ S → s.heap.get? b = some o → h.get? b = some o) → h.objs.size = s.heap.objs.size →
      h.get? S = some { cls := .type "list", data := .seq #[] c₁ } → codeAny (model prog w) A (.builtin "list.extend.loop" ⟨[.ref S, .ref z, res], []⟩) R { s with heap := h, toks := tk } := by
    intro h c₁ tk hk hsz hS₁
    exact zl_loop (s := s) (h₁ := s.heap) hh D F hlo hn res hR (min xs.size ys.size) 0 h tk c₁ #[] [] (Nat.sub_zero _) (Nat.zero_le _) (st.keep F hk) (fun b o hb _ e => hk b o hb e) hS₁ rfl rfl
      ⟨List.Pairwise.nil, (fun _ ha => nomatch ha), (fun j a hj => by simp at hj)⟩ (by rw [hsz]; exact hls)
  unfold Builtin.List.listExtendWith
  refine wpAny_bind (wpAny_typeOf (T := "zip") hty ?_)
  have h1 : Builtin.List.listSameRef (.ref S) (.ref z) = false := by simp [Builtin.List.listSameRef, F.z.symm]
  have h2 : (Value.type "zip" == Value.type "list") = false := by decide
  have h3 : (Value.type "zip" == Value.type "tuple") = false := by decide
  simp only [h1, h2, h3, Bool.or_false, Bool.false_eq_true, if_false]
  refine wpAny_bind (hit ?_)
  refine wpAny_bind (wpAny_holding ?_)
  unfold Builtin.List.listLengthHint
  refine wpAny_bind (wpAny_specialOf hty zip_no_len ?_)
  show wpAny _ A.in1 (specialOf (Value.ref z) (Str.ofString "__length_hint__") >>= _) _ _ _
  refine wpAny_bind (wpAny_specialOf hty zip_no_hint ?_)
  refine wpAny_pure ?_
  show wpAny _ A.in1 (rule "list.extend.makes-room" >>= fun _ => Builtin.List.listTouch (.ref S) >>= fun _ =>
    again (.builtin "list.extend.loop" ⟨[.ref S, .ref z, res], []⟩)) _ _ _
  refine wpAny_bind (wpAny_rule ?_)
  refine wpAny_bind ?_
  show wpAny _ _ (updateSeq S (·.push .none) >>= fun _ => updateSeq S (·.pop)) _ _ _
  refine wpAny_bind (wpAny_updateSeq hS rfl ?_)
  have hS₂ := Heap.get?_update_self (Obj.mapSeq (·.push Value.none)) hS rfl
  refine wpAny_updateSeq (hz := by seq_fits) hS₂ rfl ?_
  have hS₃ := Heap.get?_update_self (Obj.mapSeq (·.pop)) hS₂ rfl
  refine wpAny_pure ⟨plainId_quiet PySem.F.plain_extend_loop _, key _ _ _ (fun b o hb e => ?_) (by rw [Heap.size_update, Heap.size_update]) hS₃⟩
  exact (Heap.get?_update_other _ _ (Ne.symm hb)).trans ((Heap.get?_update_other _ _ (Ne.symm hb)).trans e)
end
end QZ
set_option maxRecDepth 100000
set_option maxHeartbeats 2000000
/-! QZipL: list(zip(t, u)), the rule -/
namespace QZ
open PySem PySem.Calls PyProof.Rows PyProof.V PySem.Spec
section
variable {prog : Program} {w : World} {A : Around} {E : Value → Shared → Prop} {s : Shared} {z TI TO i1 i2 l1 l2 : Addr} {xs ys : Array Value}
theorem zl_init {R : Result → Shared → Prop} {lo : Addr} (hh : A.handled = none) (D : ZipApart z TI TO i1 i2 l1 l2) (S : Addr) (F : Off z TI TO i1 i2 l1 l2 S) (hlo : S ≤ lo ∧ z ≤ lo ∧ TO ≤ lo ∧ i1 ≤ lo ∧ i2 ≤ lo) (hls : lo < s.heap.objs.size) (hz : IsZip s.heap z TI TO .none) (st : St s.heap z TI TO i1 i2 l1 l2 S xs ys 0)
    (hS : s.heap.get? S = some { cls := .type "list", data := .seq #[] })
    (hR : ∀ h' tk acc c as, (∀ b o, b ≠ S → b ∉ [z, TO, i1, i2] → s.heap.get? b = some o → h'.get? b = some o) → h'.get? S = some { cls := .type "list", dict := none, data := .seq acc c, slots := #[] } → as.length = min xs.size ys.size → G xs ys lo h' as →
      acc.toList = as.map Value.ref → R (.ok (.ret .none)) { s with heap := h', toks := tk }) (hn : min xs.size ys.size ≤ sizeLine) :
    wpAny (model prog w) A.in1 (Builtin.«list.__init__» ⟨[.ref S, .ref z], []⟩)
      (fun fin s' => match fin with | .done f => R (.ok f) s' | .again c' => c'.quiet = true ∧ codeAny (model prog w) A c' R s') (fun e s' => R (.error e) s') s := by
  show wpAny _ _ (do let old ← Builtin.List.listItems (.ref S); Builtin.List.listUpdate (.ref S) (fun _ => #[]); letGo old.toList.reverse; Builtin.List.listExtendWith (.ref S) (.ref z) .none) _ _ s
  refine wpAny_bind ?_
  unfold Builtin.List.listItems
  refine wpAny_bind (wpAny_seqItems hS rfl (wpAny_pure ?_))
  show wpAny _ _ (updateSeq S (fun _ => #[]) >>= fun _ => letGo (#[] : Array Value).toList.reverse >>= fun _ => Builtin.List.listExtendWith (.ref S) (.ref z) .none) _ _ s
  refine wpAny_bind (wpAny_updateSeq hS rfl ?_)
  have hS₂ := Heap.get?_update_self (Obj.mapSeq (fun _ => (#[] : Array Value))) hS rfl
  have oth : ∀ b o, b ≠ S → s.heap.get? b = some o → (s.heap.update S (Obj.mapSeq (fun _ => (#[] : Array Value)))).get? b = some o :=
    fun b o hb e => (Heap.get?_update_other _ _ (Ne.symm hb)).trans e
  refine wpAny_bind (wpAny_letGo ?_)
  have hz2 : IsZip (s.heap.update S (Obj.mapSeq (fun _ => (#[] : Array Value)))) z TI TO .none := oth z _ F.z hz
  refine zl_extend (s := { s with heap := s.heap.update S (Obj.mapSeq (fun _ => (#[] : Array Value))) }) hh D S F hlo (by show lo < (s.heap.update S _).objs.size; rw [Heap.size_update]; exact hls) (st.keep F oth) ⟨_, hz2, rfl⟩ (fun q => wpAny_pyIter_zip hz2 q) .none _ hS₂ (fun h' tk acc c as hk hS' hl hG hacc => ?_) hn
  exact hR h' tk acc c as (fun b o hb hb2 e => hk b o hb hb2 (oth b o hb e)) hS' hl hG hacc
/-- list(z) right behind z = zip(t, u), t and u tuples -/
theorem zl_call {Q : Value → Shared → Prop} (hh : A.handled = none) (D : ZipApart z TI TO i1 i2 l1 l2) (hzm : TI < s.heap.objs.size ∧ TO < s.heap.objs.size ∧ i1 < s.heap.objs.size ∧ i2 < s.heap.objs.size ∧ l1 < s.heap.objs.size ∧ l2 < s.heap.objs.size) (hz : IsZip s.heap z TI TO .none) (hTI : IsPair s.heap TI (.ref i1) (.ref i2)) (hTO : IsPair s.heap TO .none .none) (h1 : s.heap.IsTupleIter i1 l1 0) (h2 : s.heap.IsTupleIter i2 l2 0)
    (hl1 : s.heap.IsTuple l1 xs) (hl2 : s.heap.IsTuple l2 ys) (hn : min xs.size ys.size ≤ sizeLine)
    (hQ : ∀ h' tk acc c as, (∀ b o, b ∉ [z, TO, i1, i2] → s.heap.get? b = some o → h'.get? b = some o) → h'.get? s.heap.objs.size = some { cls := .type "list", dict := none, data := .seq acc c, slots := #[] } → as.length = min xs.size ys.size → G xs ys s.heap.objs.size h' as →
      acc.toList = as.map Value.ref → Q (.ref s.heap.objs.size) { s with heap := h', toks := tk }) :
    wpAny (model prog w) A (call (.type "list") [.ref z]) Q E s := by
  refine callType_codes (Q₁ := fun obj s₁ => obj = .ref s.heap.objs.size ∧ s₁ = { s with heap := s.heap.push { cls := .type "list", data := .seq #[] } }) PySem.F.called_list (PySem.F.typeCall_list_1 _) PySem.F.entry_list_init
    (code_list_new _ ⟨rfl, rfl⟩) fun obj s₁ h₁ => ?_
  obtain ⟨rfl, rfl⟩ := h₁
  have hS : (s.heap.push { cls := .type "list", data := .seq #[] }).get? s.heap.objs.size = some { cls := .type "list", data := .seq #[] } := Heap.get?_push_size _ rfl
  have hzl : z < s.heap.objs.size := Heap.lt_size hz
  obtain ⟨m1, m2, m3, m4, m5, m6⟩ := hzm
  have F : Off z TI TO i1 i2 l1 l2 s.heap.objs.size := ⟨Nat.ne_of_lt hzl, Nat.ne_of_lt m1, Nat.ne_of_lt m2, Nat.ne_of_lt m3, Nat.ne_of_lt m4, Nat.ne_of_lt m5, Nat.ne_of_lt m6⟩
  have kp : ∀ b o, s.heap.get? b = some o → (s.heap.push { cls := .type "list", data := .seq #[] }).get? b = some o := fun b o e => Heap.get?_push_of_some _ e
  have st : St (s.heap.push { cls := .type "list", data := .seq #[] }) z TI TO i1 i2 l1 l2 s.heap.objs.size xs ys 0 :=
    ⟨kp _ _ hTI, h1.at fun o e => kp _ o e, h2.at fun o e => kp _ o e, hl1.at fun o e => kp _ o e, hl2.at fun o e => kp _ o e, .inl ⟨kp _ _ hz, _, _, kp _ _ hTO⟩⟩
  refine ⟨⟨_, hS, rfl⟩, PySem.F.args_list_init_2 _ _, zl_init (lo := s.heap.objs.size) (A := A.in1) hh D _ F ⟨Nat.le_refl _, Nat.le_of_lt hzl, Nat.le_of_lt m2, Nat.le_of_lt m3, Nat.le_of_lt m4⟩ (by show s.heap.objs.size < (s.heap.push _).objs.size; rw [Heap.size_push]; exact Nat.lt_succ_self _) (kp _ _ hz) st hS (fun h' tk acc c as hk hS' hl hG hacc => ?_) hn⟩
  exact ⟨rfl, hQ h' tk acc c as (fun b o hb e => hk b o (Nat.ne_of_lt (Heap.lt_size e)) hb (kp b o e)) hS' hl hG hacc⟩
end
end QZ
namespace Q
open PySem PySem.Spec PyProof.Rows L2
open Evl (Ex)
/-- the tuples tracked at their addresses -/
def putP : Hp → List Addr → List (V × V) → Hp
  | H, a :: as, p :: kvs => putP (upd H a (.tup [p.1, p.2])) as kvs
  | H, _, _ => H
theorem putP_off {b : Addr} : ∀ (as : List Addr) (kvs : List (V × V)) (H : Hp), b ∉ as → putP H as kvs b = H b
  | [], _, _, _ => rfl
  | _ :: _, [], _, _ => rfl
  | a :: as, p :: kvs, H, h => by
    show putP (upd H a (.tup [p.1, p.2])) as kvs b = H b
    rw [putP_off as kvs _ (fun z => h (List.mem_cons_of_mem _ z)), upd_ne (fun z => h (by rw [z]; exact List.mem_cons_self))]
theorem putP_at : ∀ (as : List Addr) (kvs : List (V × V)) (H : Hp), as.length = kvs.length → as.Nodup → ∀ (j : Nat) (a : Addr), as[j]? = some a → ∃ p, kvs[j]? = some p ∧ putP H as kvs a = some (.tup [p.1, p.2])
  | [], _, _, _, _, j, a, h => by simp at h
  | _ :: _, [], _, h, _, _, _, _ => by cases h
  | a :: as, p :: kvs, H, h, hn, 0, b, e => by
    have hn' := List.nodup_cons.mp hn
    simp at e
    subst e
    refine ⟨p, rfl, ?_⟩
    show putP (upd H a (.tup [p.1, p.2])) as kvs a = _
    rw [putP_off as kvs _ hn'.1, upd_same]
  | a :: as, p :: kvs, H, h, hn, j + 1, b, e => by
    have hn' := List.nodup_cons.mp hn
    obtain ⟨q, e1, e2⟩ := putP_at as kvs (upd H a (.tup [p.1, p.2])) (Nat.succ.inj h) hn'.2 j b (by simpa using e)
    exact ⟨q, by simpa using e1, e2⟩
section
variable {X : Cx} {e : Expr} {te : TE} {p apos cpos pos : Pos}
theorem zip_laid {pins : List (Addr × Obj)} {σ : L2.St} {H : Hp} {s : Shared} {h' : Heap} {tk : Nat} {xs ys : List V} {us ws : List Value} {acc : Array Value} {c : Nat} {as : List Addr} {lo : Addr} (I : Inv X pins σ H s) (hz : xs.length ≤ sizeLine) (hx : Vals xs us) (hy : Vals ys ws) (hlo : s.heap.objs.size ≤ lo)
    (hk : ∀ b o, s.heap.get? b = some o → h'.get? b = some o) (hS : h'.get? lo = some { cls := .type "list", dict := none, data := .seq acc c, slots := #[] }) (hl : as.length = min us.length ws.length) (hG : QZ.G us.toArray ws.toArray lo h' as) (hacc : acc.toList = as.map Value.ref) :
    ∃ H' : Hp, (∀ b o, H b = some o → H' b = some o) ∧ H lo = none ∧ (∀ b, H b = none → b = lo ∨ b ∈ as ∨ H' b = none) ∧ (∀ t ∈ as, H t = none) ∧ lo ∉ as ∧ H' lo = some (.lst (as.map V.ref)) ∧ (∀ (j : Nat) (a : Addr), as[j]? = some a → ∃ x y, xs[j]? = some x ∧ ys[j]? = some y ∧ H' a = some (.tup [x, y])) ∧ Inv X pins σ H' { s with heap := h', toks := tk } := by
  have lx := hx.length
  have ly := hy.length
  have lz : as.length = (xs.zip ys).length := by
    rw [List.length_zip]
    omega
  have hSn : lo ∉ as := fun z => Nat.lt_irrefl _ (hG.above _ z)
  have nd : as.Nodup := List.Pairwise.imp (fun {a b} (h : a < b) => Nat.ne_of_lt h) hG.rise
  have new : ∀ t ∈ as, H t = none := fun t ht => I.hok.fresh (Nat.le_trans hlo (Nat.le_of_lt (hG.above t ht)))
  have newS : H lo = none := I.hok.fresh hlo
  have atP := putP_at as (xs.zip ys) (upd H lo (.lst (as.map V.ref))) lz nd
  have off : ∀ b, b ∉ as → b ≠ lo → putP (upd H lo (.lst (as.map V.ref))) as (xs.zip ys) b = H b := fun b h1 h2 => by rw [putP_off as _ _ h1, upd_ne h2]
  have low : ∀ b o, s.heap.get? b = some o → b ∉ as ∧ b ≠ lo := fun b o e => ⟨fun z => absurd (Heap.lt_size e) (Nat.not_lt.mpr (Nat.le_trans hlo (Nat.le_of_lt (hG.above b z)))), Nat.ne_of_lt (Nat.lt_of_lt_of_le (Heap.lt_size e) hlo)⟩
  have kp : ∀ b u, H b = some u → (putP (upd H lo (.lst (as.map V.ref))) as (xs.zip ys)) b = some u := fun b u e => by
    rw [off b (fun z => by rw [new b z] at e; cases e) (fun z => by rw [z, newS] at e; cases e)]
    exact e
  have eS : putP (upd H lo (.lst (as.map V.ref))) as (xs.zip ys) lo = some (.lst (as.map V.ref)) := by rw [putP_off as _ _ hSn, upd_same]
  have atQ : ∀ (j : Nat) (a : Addr), as[j]? = some a → ∃ x y, xs[j]? = some x ∧ ys[j]? = some y ∧ putP (upd H lo (.lst (as.map V.ref))) as (xs.zip ys) a = some (.tup [x, y]) := fun j a e => by
    obtain ⟨⟨x, y⟩, e1, e2⟩ := atP j a e
    rw [List.getElem?_zip_eq_some] at e1
    exact ⟨x, y, e1.1, e1.2, e2⟩
  refine ⟨putP (upd H lo (.lst (as.map V.ref))) as (xs.zip ys), kp, newS, fun b q => ?_, new, hSn, eS, atQ, ?_⟩
  · by_cases h1 : b = lo
    · exact .inl h1
    · by_cases h2 : b ∈ as
      · exact .inr (.inl h2)
      · exact .inr (.inr ((off b h2 h1).trans q))
  refine I.call' (ch := []) rfl ⟨fun b o q _ _ _ => hk b o q, fun b o q _ _ _ => ⟨o.slots, hk b o q⟩, fun b o q n _ => ?_, fun b o q _ => ⟨o, hk b o q⟩, fun b xs q => kp b _ q, fun b o u q => kp b _ q, fun b ps q => ⟨#[], by rw [kp b _ q]; simp⟩⟩ (fun b u q => ?_) I.bare fun b z => by simp at z
  · obtain ⟨z1, z2⟩ := low b o q
    rw [off b z1 z2]
    exact n
  · by_cases hb : b ∈ as
    · obtain ⟨j, e1⟩ := List.mem_iff_getElem?.mp hb
      obtain ⟨x, y, f1, f2, f3⟩ := atQ j b e1
      rw [f3] at q
      cases q
      obtain ⟨u, w, g1, g2, g3⟩ := hG.pairs j b e1
      obtain ⟨u', g4, g5⟩ := hx.get f1
      obtain ⟨w', g6, g7⟩ := hy.get f2
      have q1 : us[j]? = some u := by simpa using g1
      have q2 : ws[j]? = some w := by simpa using g2
      rw [g4] at q1
      rw [g6] at q2
      cases q1
      cases q2
      exact ⟨by show 2 ≤ sizeLine; decide, [u, w], .cons g5 (.cons g7 .nil), ⟨_, g3, rfl, _, rfl⟩⟩
    · by_cases hb2 : b = lo
      · rw [hb2] at q ⊢
        rw [eS] at q
        cases q
        refine ⟨by rw [List.length_map]; omega, acc.toList, c, by rw [hacc]; exact LiI.vals_refs as, ?_⟩
        rw [Array.toArray_toList]
        exact hS
      · rw [off b hb hb2] at q
        exact (I.hok b u q).stay (fun d v _ y => hk d v y) (fun d y => kp d _ y) fun d xs y => kp d _ y
/-- list(zip(a, b)) of two tuples -/
def tListZip (K : PySem.W.Frag) (ta : TA) : TE := fun σ H Q => ta σ H fun vs H1 => ∃ a b xs ys, vs = [.ref a, .ref b] ∧ SqT K H1 a xs ∧ SqT K H1 b ys ∧
  ∀ (H' : Hp) (p : Addr) (as : List Addr), (∀ b o, H1 b = some o → H' b = some o) → H1 p = none → (∀ b, H1 b = none → b = p ∨ b ∈ as ∨ H' b = none) → (∀ t ∈ as, H1 t = none) → p ∉ as → H' p = some (.lst (as.map V.ref)) → as.length = min xs.length ys.length →
    (∀ (j : Nat) (a : Addr), as[j]? = some a → ∃ x y, xs[j]? = some x ∧ ys[j]? = some y ∧ H' a = some (.tup [x, y])) → Q (.ref p) H'
theorem pe_listZip {a b : Expr} {ta : TA} {p p2 pos2 : Pos} (hc : X.calm = true) (ha : PA X [a, b] ta) (hml : X.mg "list" = none) (hmz : X.mg "zip" = none) (hgl : Gl X "list" := by rfl) (hgz : Gl X "zip" := by rfl)
    (hs : starEach [.Call (.Name "zip" p2) [a, b] [] pos2] X.env = (false, eval (.Call (.Name "zip" p2) [a, b] [] pos2) X.env) :: starEach [] X.env := by rfl)
    (hs2 : starEach [a, b] X.env = (false, eval a X.env) :: starEach [b] X.env := by rfl) (hpl : (backTo pos2 (starEach [b] X.env)).any (·.1) = false := by rfl) :
    PE X (.Call (.Name "list" p) [.Call (.Name "zip" p2) [a, b] [] pos2] [] pos) (tListZip X.K ta) := by
  refine ⟨fun pins s σ H Q I hq => ?_⟩
  refine wpAny_Call_Name_kw (ld_blt I hgl hml PyProof.Rows.boot_list ?_)
  refine PyProof.Rows.callWith_type1 ?_ hs rfl
  rw [hs]
  show wpAny _ _ (spliced ((false, eval (.Call (.Name "zip" p2) [a, b] [] pos2) X.env) :: backTo pos (starEach [] X.env))) _ _ s
  refine Calls.spliced_cons ?_
  refine wpAny_Call_Name_kw (ld_blt I hgz hmz PyProof.Rows.boot_zip ?_)
  refine PyProof.Rows.callWith_type1 (thn (ha.run pos2 pins s σ H _ I hq) fun us s1 ⟨vs, H1, I1, r1, q1⟩ => ?_) hs2 hpl
  obtain ⟨a, b, xs, ys, ex, hqx, hqy, q⟩ := q1
  subst ex
  cases r1 with
  | cons r rr =>
    cases rr with
    | cons r' rr =>
      cases rr
      cases r
      cases r'
      obtain ⟨its, rv, p1, hz1⟩ := I1.tuple hqx
      obtain ⟨its2, rv2, p3, hz2⟩ := I1.tuple hqy
      obtain ⟨o1, ho1, _⟩ := id p1
      obtain ⟨o2, ho2, _⟩ := id p3
      have la : a < s1.heap.objs.size := Heap.lt_size ho1
      have lb : b < s1.heap.objs.size := Heap.lt_size ho2
      refine RZ.call_zipT (show s1.heap.IsTuple a its.toArray from p1) (show s1.heap.IsTuple b its2.toArray from p3) fun h' hz hTI hTO h1 h2 hsz hk => ?_
      refine Calls.spliced_nil ?_
      have l1 := rv.length
      have l2 := rv2.length
      have mm : s1.heap.objs.size + 2 < h'.objs.size ∧ s1.heap.objs.size + 3 < h'.objs.size ∧ s1.heap.objs.size < h'.objs.size ∧ s1.heap.objs.size + 1 < h'.objs.size ∧ a < h'.objs.size ∧ b < h'.objs.size := by
        rw [hsz]
        refine ⟨?_, ?_, ?_, ?_, Nat.lt_of_lt_of_le la (Nat.le_add_right _ _), Nat.lt_of_lt_of_le lb (Nat.le_add_right _ _)⟩
        · exact Nat.add_lt_add_left (by decide) _
        · exact Nat.add_lt_add_left (by decide) _
        · exact Nat.lt_add_of_pos_right (by decide)
        · exact Nat.add_lt_add_left (by decide) _
      refine QZ.zl_call (z := s1.heap.objs.size + 4) (TI := s1.heap.objs.size + 2) (TO := s1.heap.objs.size + 3) (i1 := s1.heap.objs.size) (i2 := s1.heap.objs.size + 1) (l1 := a) (l2 := b) (s := { s1 with heap := h' }) (xs := its.toArray) (ys := its2.toArray) (I1.ok.hd hc) (PySem.W.ktu_apart s1.heap.objs.size a b la lb) mm hz hTI hTO h1 h2 ((show s1.heap.IsTuple a its.toArray from p1).at fun o e => hk _ o e) ((show s1.heap.IsTuple b its2.toArray from p3).at fun o e => hk _ o e) ?_ fun h'' tk acc c as hk2 hS hl hG hacc => ?_
      · rw [List.size_toArray, List.size_toArray]
        omega
      · have hk3 : ∀ b o, s1.heap.get? b = some o → h''.get? b = some o := fun b o e => by
          have hlt := Heap.lt_size e
          refine hk2 b o ?_ (hk b o e)
          simp only [List.mem_cons, List.not_mem_nil, or_false, not_or]
          exact ⟨Nat.ne_of_lt (Nat.lt_of_lt_of_le hlt (Nat.le_add_right _ _)), Nat.ne_of_lt (Nat.lt_of_lt_of_le hlt (Nat.le_add_right _ _)), Nat.ne_of_lt hlt, Nat.ne_of_lt (Nat.lt_of_lt_of_le hlt (Nat.le_add_right _ _))⟩
        rw [List.size_toArray, List.size_toArray] at hl
        obtain ⟨H', k1, k2, k3, k4, k5, k6, k7, J⟩ := zip_laid (tk := tk) (lo := h'.objs.size) I1 (by omega) rv rv2 (by rw [hsz]; omega) hk3 hS hl hG hacc
        exact ⟨.ref _, H', J, rfl, q H' _ as k1 k2 k3 k4 k5 k6 (by omega) k7⟩
end
section
variable {X : Cx} {c : Cn} {W : WX} {pos p p2 pos2 : Pos}
theorem reps_zip {T : Tab} {G : Hp} : ∀ {us ws : List U} {xs ys : List V} {as : List Addr}, Reps T G us xs → Reps T G ws ys → as.length = min xs.length ys.length → (∀ (j : Nat) (a : Addr), as[j]? = some a → ∃ x y, xs[j]? = some x ∧ ys[j]? = some y ∧ G a = some (.tup [x, y])) → Reps T G (zipU us ws) (as.map V.ref)
  | [], ws, xs, ys, as, h1, h2, hl, h => by
    rw [reps_nil] at h1
    subst h1
    have e : as = [] := List.eq_nil_of_length_eq_zero (by simpa using hl)
    subst e
    exact .nil
  | u :: us, [], xs, ys, as, h1, h2, hl, h => by
    rw [reps_nil] at h2
    subst h2
    have e : as = [] := List.eq_nil_of_length_eq_zero (by simpa using hl)
    subst e
    exact .nil
  | u :: us, w :: ws, xs, ys, as, h1, h2, hl, h => by
    obtain ⟨x, xr, rfl, r1, t1⟩ := reps_cons.1 h1
    obtain ⟨y, yr, rfl, r2, t2⟩ := reps_cons.1 h2
    cases as with
    | nil => simp at hl
    | cons a as =>
      obtain ⟨x', y', e1, e2, e3⟩ := h 0 a rfl
      simp at e1 e2
      subst e1 e2
      refine .cons (rep_tup.2 ⟨a, _, rfl, .inl (.inl e3), .cons r1 (.cons r2 .nil)⟩) (reps_zip t1 t2 (by simp at hl; omega) fun j b e => ?_)
      obtain ⟨x2, y2, f1, f2, f3⟩ := h (j + 1) b (by simpa using e)
      exact ⟨x2, y2, by simpa using f1, by simpa using f2, f3⟩
theorem qf_listZip {a b : Expr} {as : AF} (hc : X.calm = true) (ha : QA X c W [a, b] as) (hml : X.mg "list" = none) (hmz : X.mg "zip" = none) (hgl : Gl X "list" := by rfl) (hgz : Gl X "zip" := by rfl)
    (hs : starEach [.Call (.Name "zip" p2) [a, b] [] pos2] X.env = (false, eval (.Call (.Name "zip" p2) [a, b] [] pos2) X.env) :: starEach [] X.env := by rfl)
    (hs2 : starEach [a, b] X.env = (false, eval a X.env) :: starEach [b] X.env := by rfl) (hpl : (backTo pos2 (starEach [b] X.env)).any (·.1) = false := by rfl) :
    QF X c W (.Call (.Name "list" p) [.Call (.Name "zip" p2) [a, b] [] pos2] [] pos) (eListZip as) :=
  PE.weak (pe_listZip hc ha hml hmz hgl hgz hs hs2 hpl) fun σ H Q ⟨G, ρ, r, h⟩ => by
    classical
    refine ⟨G, ρ, r, (PQ.bind (rel := relUs (Cx.T X)) h).imp fun x H1 ⟨G1, ρ1, us, s1, r1, l1, h1⟩ => ?_⟩
    split at h1
    · obtain ⟨v, w, e2, l2, l3⟩ := reps2 l1
      obtain ⟨a1, vs1, rfl, k1, k2⟩ := rep_tup.1 l2
      obtain ⟨a2, vs2, rfl, k3, k4⟩ := rep_tup.1 l3
      refine ⟨a1, a2, vs1, vs2, e2, Evl.ex_t r1.ex k1, Evl.ex_t r1.ex k3, fun H' lp as m1 m2 m3 m4 m5 m6 m7 m8 => ?_⟩
      let G' : Hp := fun b => if b ∈ as then H' b else G1 b
      have gi : ∀ b, b ∈ as → G' b = H' b := fun b h => if_pos h
      have go : ∀ b, b ∉ as → G' b = G1 b := fun b h => if_neg h
      have g1n : ∀ b, b ∈ as → G1 b = none := fun b h => Evl.fresh_back r1.ex (m4 b h)
      have ex : Ex G1 G' := fun b o q => by
        by_cases hb : b ∈ as
        · rw [g1n b hb] at q
          cases q
        · rw [go b hb]
          exact q
      have gw : Grow G1 H1 G' H' := ⟨ex, fun b o q => by
        by_cases hb : b ∈ as
        · rw [gi b hb] at q
          exact q
        · rw [go b hb] at q
          exact m1 b o (r1.ex b o q), m1, fun b o q z => by
        have hb : b ∉ as := fun hb => by
          rw [m4 b hb] at q
          cases q
        rw [go b hb]
        exact z, fun b ps q => by
        by_cases hb : b ∈ as
        · rw [gi b hb] at q
          obtain ⟨j, e⟩ := List.mem_iff_getElem?.mp hb
          obtain ⟨x, y, f1, f2, f3⟩ := m8 j b e
          rw [f3] at q
          cases q
        · rw [go b hb] at q
          exact q⟩
      have r2 := r1.grow gw
      obtain ⟨n1, n2⟩ := r1.fresh0 m2
      refine h1 _ G' H' gw.stp r2 ⟨lp, rfl, ?_, n1, n2, ⟨_, m6, reps_zip (Reps.mono ex _ _ k2) (Reps.mono ex _ _ k4) m7 fun j b e => ?_⟩, ?_, r1.notOwn m2⟩
      · rw [go lp m5]
        exact Evl.fresh_back r1.ex m2
      · obtain ⟨x, y, f1, f2, f3⟩ := m8 j b e
        exact ⟨x, y, f1, f2, by rw [gi b (List.mem_of_getElem? e)]; exact f3⟩
      · cases q : H lp with
        | none => rfl
        | some o =>
          obtain ⟨o', q'⟩ := s1.d lp o q
          rw [m2] at q'
          cases q'
    · exact h1.elim
end
end Q
set_option maxRecDepth 100000
set_option maxHeartbeats 2000000
/-! QEnum: enumerate of a list, of a tuple -/
namespace PySem
open Sem (wp)
open AutoSeq1 (wpAny_loadPart')
theorem qmeets_enumerate_newT (l : Addr) (items : Array Value) :
    Meets (Builtin.«enumerate.__new__» ⟨[.type "enumerate", .ref l], []⟩) (fun _ R s => s.heap.IsTuple l items ∧
      R (.ok (.ret (.ref (s.heap.push { cls := .type "tuple_iterator", data := .fields #[.ref l, .int 0 0] }).objs.size)))
        { s with heap := (s.heap.push { cls := .type "tuple_iterator", data := .fields #[.ref l, .int 0 0] }).push { cls := .type "enumerate", data := .fields #[.none, .bool false, .ref s.heap.objs.size, rawInt 0, .none, .none] } }) :=
  .of_wp fun prog w A R s h => by
    obtain ⟨hp, g, d, tk, os⟩ := s; obtain ⟨hl, h⟩ := h
    have hsub := sub_enumerate
    have q1 : ∀ {A' : Around} {E : Value → Shared → Prop} {Q : Value → Shared → Prop}, Q (.ref hp.objs.size) ⟨hp.push { cls := .type "tuple_iterator", data := .fields #[.ref l, .int 0 0] }, g, d, tk, os⟩ → wpAny (model prog w) A' (pyIter (.ref l)) Q E ⟨hp, g, d, tk, os⟩ :=
      fun q => wpAny_pyIter_tuple hl q
    wp_walk using q1
    refine wpAny_stack_any fun st => wpAny_pure ?_
    split
    · rename_i c _ _ _ _ _
      cases (c == Value.type "enumerate")
      · wp_walk using q1
        exact ⟨_, rfl, h⟩
      · wp_walk using q1
        exact ⟨_, rfl, h⟩
    · wp_walk using q1
      exact ⟨_, rfl, h⟩
section
variable {prog : Program} {w : World} {A : Around} {E : Value → Shared → Prop} {s : Shared}
theorem qcall_enumerate_tuple {l : Addr} {items : Array Value} {Q : Value → Shared → Prop} (hL : s.heap.IsTuple l items)
    (h : ∀ h', IsEnum h' (s.heap.objs.size + 1) s.heap.objs.size 0 .none → h'.IsTupleIter s.heap.objs.size l 0 → h'.objs.size = s.heap.objs.size + 2 →
      (∀ b o, s.heap.get? b = some o → h'.get? b = some o) → Q (.ref (s.heap.objs.size + 1)) { s with heap := h' }) :
    wpAny (model prog w) A (call (.type "enumerate") [.ref l]) Q E s := by
  refine callType_new F.called_enumerate (by decide) (F.typeCall_enumerate_1 _) (F.newCall_enumerate_1 _) (fun obj => F.args_object_init_2 obj _) F.entry_enumerate_new
    (qmeets_enumerate_newT l items) ⟨hL, ?_⟩
  have hz : (s.heap.push { cls := .type "tuple_iterator", data := .fields #[.ref l, .int 0 0] }).objs.size = s.heap.objs.size + 1 := Heap.size_push ..
  show _ ∧ _
  rw [hz]
  have he : IsEnum ((s.heap.push { cls := .type "tuple_iterator", data := .fields #[.ref l, .int 0 0] }).push
      { cls := .type "enumerate", data := .fields #[.none, .bool false, .ref s.heap.objs.size, rawInt 0, .none, .none] }) (s.heap.objs.size + 1) s.heap.objs.size 0 .none := by
    have := Heap.get?_push_size (s.heap.push { cls := .type "tuple_iterator", data := .fields #[.ref l, .int 0 0] })
      (o := { cls := .type "enumerate", data := .fields #[.none, .bool false, .ref s.heap.objs.size, rawInt 0, .none, .none] }) rfl
    rw [hz] at this; exact this
  refine ⟨⟨_, he, rfl⟩, h _ he ⟨_, Heap.get?_push_of_some _ (Heap.get?_push_size _ rfl), rfl, rfl⟩ (by rw [Heap.size_push, hz]) fun b o x => Heap.get?_push_of_some _ (Heap.get?_push_of_some _ x)⟩
end
end PySem
namespace Q
open PySem PySem.Spec PyProof.Rows L2
open Evl (Ex)
/-- the tuple at a as it stands at each turn, each item in a new pair -/
def IteT (K : PySem.W.Frag) (a : Addr) : It :=
  ⟨fun i H => ∃ (xs : List V) (x : V), SqT K H a xs ∧ xs[i]? = some x, fun i H v H' => ∃ T x, v = .ref T ∧ H T = none ∧ H' = upd H T (.tup [.int (i : Nat), x]) ∧ ∀ xs, SqT K H a xs → xs[i]? = some x, fun i H => ∃ xs : List V, SqT K H a xs ∧ xs.length ≤ i⟩
theorem turn_enumT {P : Program} {w : World} {K : PySem.W.Frag} {elts : List Expr} {kk : Nat} {tpos : Pos} (a e it : Addr) :
    Turn P w K (.Tuple elts kk tpos) (IteT K a) [e, it] e (fun i h => (∃ old, IsEnum h e it ((i : Nat) : Int) old) ∧ h.IsTupleIter it a i ∧ e ≠ it ∧ a ≠ it ∧ a ≠ e) where
  mem := by simp
  obj := fun i h st b hb => by
    obtain ⟨⟨old, he⟩, ⟨o, ho, hc, hd⟩, _⟩ := st
    have e' : b = e ∨ b = it := by simpa using hb
    rcases e' with z | z
    · rw [z]; exact ⟨_, he, fun v q => nomatch q⟩
    · rw [z]; exact ⟨o, ho, fun v q => by rw [hd] at q; cases q⟩
  keep := fun i h h' st k => let ⟨⟨old, he⟩, hi, hne⟩ := st; ⟨⟨old, k e (by simp) _ he⟩, hi.at fun o q => k it (by simp) o q, hne⟩
  item := by
    intro X hP hw hK hc i pins s σ H E I hf st hg
    subst hP hw hK
    obtain ⟨⟨old, he⟩, hit, hne, hai, hae⟩ := st
    obtain ⟨xs, x, hq, hx⟩ := hg
    obtain ⟨its, rv, p, hz⟩ := I.tuple hq
    obtain ⟨u, hu, ru⟩ := rv.get hx
    have hel : e < s.heap.objs.size := Heap.lt_size he
    have hil : it < s.heap.objs.size := by obtain ⟨_, q, _⟩ := hit; exact Heap.lt_size q
    have hi : i < its.toArray.size := by
      have := (List.getElem?_eq_some_iff.mp hu).1
      rwa [List.size_toArray]
    have pt : s.heap.IsTuple a its.toArray := p
    refine wpAny_pyNext_enum_itemD (Draws.tuple (prog := X.prog) (w := X.w) (A := X.A.in1) (by first | exact I.ok.hd hc) it a hai its.toArray) he ⟨hit, pt⟩ hi hne (by
      simp only [List.mem_cons, List.not_mem_nil, or_false, not_or]
      exact ⟨hne, hae.symm⟩) fun x1 h' tk hP ho hst' hT hsz hk => ?_
    have hxu : x1 = u := by
      have q : its.toArray[i]? = some x1 := hP
      rw [List.getElem?_toArray, hu] at q
      exact (Option.some.inj q).symm
    subst hxu
    obtain ⟨hit', pt'⟩ := hst'
    refine ⟨_, rfl, wpAny_letOwnedTupleGo_enum (s := { s with heap := h', toks := tk + 1 }) ho fun h'' he' sb => ?_⟩
    have hT2 : h''.get? s.heap.objs.size = some { cls := .type "tuple", data := .seq #[.int i tk, x1] } := (sb.2 _ (Nat.ne_of_gt hel)).trans hT
    have new : ObjOk X.prog X.w (upd H s.heap.objs.size (.tup [.int (i : Nat), x])) h'' s.heap.objs.size (.tup [.int (i : Nat), x]) :=
      ⟨by show 2 ≤ sizeLine; decide, [.int i tk, x1], .cons ⟨_, rfl⟩ (.cons ru .nil), ⟨_, hT2, rfl, _, rfl⟩⟩
    have I1 : Inv X pins σ (upd H s.heap.objs.size (.tup [.int (i : Nat), x])) { s with heap := h'', toks := tk + 1 } :=
      I.turnedNew (ch := [e, it]) (fun b ob hb q => (sb.2 b (fun z => hb (by simp [z]))).trans (hk b ob (fun z => hb (by simp [z])) (fun z => hb (by simp [z])) q)) hf (Nat.le_refl _) new
    refine ⟨.ref s.heap.objs.size, _, I1, rfl, ⟨_, x, rfl, I.hok.fresh (Nat.le_refl _), rfl, fun ys hy => by rw [I.tuple_inj hy hq]; exact hx⟩, ⟨⟨x1, ?_⟩, hit'.at fun o q => (sb.2 it (Ne.symm hne)).trans q, hne, hai, hae⟩, fun b hb => ?_⟩
    · have e1 : ((i + 1 : Nat) : Int) = (i : Int) + 1 := by omega
      rw [e1]; exact he'
    · have hb' : b < s.heap.objs.size := by
        have e' : b = e ∨ b = it := by simpa using hb
        rcases e' with z | z
        · rw [z]; exact hel
        · rw [z]; exact hil
      rw [upd_ne (Nat.ne_of_lt hb')]
      exact (hf b hb).1
  done := by
    intro X hP hw hK hc i pins s σ H E I hf st hg
    subst hP hw hK
    obtain ⟨⟨old, he⟩, hit, hne, hai, hae⟩ := st
    obtain ⟨xs, hq, hx⟩ := hg
    obtain ⟨its, rv, p, hz⟩ := I.tuple hq
    obtain ⟨f0, f1, f2, f3, f4, f5⟩ := hf it (by simp)
    have hl := rv.length
    have pt : s.heap.IsTuple a its.toArray := p
    have hn : its.toArray[i]? = none := by
      rw [List.getElem?_toArray]
      exact List.getElem?_eq_none (by omega)
    have hT : s.TypeIs (.ref e) "enumerate" := ⟨_, he, rfl⟩
    unfold pyNext
    refine wpAny_bind (wpAny_attempt (wpAny_callSpecial?_slot (name := Str.ofString "__next__") hT F.slot_enumerate_next
      (wpAny_call_entry F.slot_enumerate_next hT F.entry_enumerate_next ?_ (F.args_enumerate_next_1 _))))
    show wpAny _ _ (field (.ref e) 2 >>= _) _ _ _
    refine wpAny_bind (wpAny_field he rfl (x := .ref it) rfl ?_)
    refine wpAny_bind (RZ.nextOf_tuple_end (by first | exact I.ok.hd hc) hit pt hn fun h' x he' hx' => ?_)
    obtain ⟨o, ho, hc'⟩ := hx'
    refine wpAny_bind (wpAny_isInstance (T := "StopIteration") (b := true) ⟨o, ho, hc'⟩ isSubtype_stop ?_)
    exact wpAny_pure ⟨rfl, I.turned (t' := s.toks) (fun b o hb q => he' b o hb q) f0 f1 f3 f4 f5⟩
  self := fun A i s Q E st h => let ⟨⟨_, he⟩, _⟩ := st; wpAny_pyIter_enum he h
def iEnumA (K : PySem.W.Frag) (ta : TA) : TI := fun σ H R => ta σ H fun vs H1 => ∃ a xs, vs = [.ref a] ∧ ((SqL K H1 a xs ∧ R (Ite K a) H1) ∨ (SqT K H1 a xs ∧ R (IteT K a) H1))
theorem pi_enumA {X : Cx} {e : Expr} {ta : TA} {p pos tpos : Pos} {elts : List Expr} {kk : Nat} (hg : Gl X "enumerate") (hm : X.mg "enumerate" = none) (ha : PA X [e] ta) (hs : starEach [e] X.env = [(false, eval e X.env)] := by rfl) :
    PI X (.Tuple elts kk tpos) (.Call (.Name "enumerate" p) [e] [] pos) (iEnumA X.K ta) := by
  refine ⟨fun pins s σ H R I h => ?_⟩
  refine Call_ (ld_blt I hg hm boot_enumerate (PyProof.Rows.callWith_type1 (thn (ha.run pos pins s σ H _ I h) fun us s1 ⟨vs, H1, I1, r1, q1⟩ => ?_) hs rfl))
  obtain ⟨a, xs, ex, q⟩ := q1
  subst ex
  cases r1 with
  | cons r rr =>
    cases rr
    cases r
    have fp : ∀ b ∈ [s1.heap.objs.size + 1, s1.heap.objs.size], FpOk X pins H1 b := fun b hb => by
      have e' : b = s1.heap.objs.size + 1 ∨ b = s1.heap.objs.size := by simpa using hb
      have hle : s1.heap.objs.size ≤ b := by
        rcases e' with z | z
        · rw [z]; exact Nat.le_add_right _ _
        · rw [z]; exact Nat.le_refl _
      exact I1.fpOk hle (I1.hok.fresh hle)
    rcases q with ⟨hq, q⟩ | ⟨hq, q⟩
    · obtain ⟨its, rv, p', hz⟩ := I1.list hq
      refine call_enumerate_list p'.isList fun h' he hit hsz hk => wpAny_pyIter_enum he ?_
      have I2 : Inv X pins σ H1 { s1 with heap := h' } := I1.kept (t' := s1.toks) hk
      exact ⟨s1.heap.objs.size + 1, [s1.heap.objs.size + 1, s1.heap.objs.size], _, _, H1, rfl, I2, turn_enum a (s1.heap.objs.size + 1) s1.heap.objs.size, ⟨⟨.none, he⟩, hit, Nat.succ_ne_self _⟩, fp, q⟩
    · obtain ⟨its, rv, p', hz⟩ := I1.tuple hq
      obtain ⟨o1, ho1, _⟩ := id p'
      have la : a < s1.heap.objs.size := Heap.lt_size ho1
      refine qcall_enumerate_tuple (show s1.heap.IsTuple a its.toArray from p') fun h' he hit hsz hk => wpAny_pyIter_enum he ?_
      have I2 : Inv X pins σ H1 { s1 with heap := h' } := I1.kept (t' := s1.toks) hk
      exact ⟨s1.heap.objs.size + 1, [s1.heap.objs.size + 1, s1.heap.objs.size], _, _, H1, rfl, I2, turn_enumT a (s1.heap.objs.size + 1) s1.heap.objs.size, ⟨⟨.none, he⟩, hit, Nat.succ_ne_self _, Nat.ne_of_lt la, Nat.ne_of_lt (Nat.lt_succ_of_lt la)⟩, fp, q⟩
theorem it_enumT {T : Tab} {G : Hp} {a : Addr} {us : List U} {vs : List V} (h : SqT T.K G a vs) (hr : Reps T G us vs) : ItOk T G (IteT T.K a) (enumU us) := fun G' H' e1 e2 i => by
  have hl := hr.length
  have hs := Evl.ex_t (e1.trans e2) h
  have hlen : (enumU us).length = us.length := by
    unfold enumU
    rw [zipU_len, rangeU_len, Nat.min_self]
  rw [hlen]
  refine ⟨fun q _ => ⟨vs, hs, by omega⟩, fun u hu => ?_⟩
  obtain ⟨x, y, hx, hy, rfl⟩ := zipU_get hu
  obtain ⟨v, hv, rv⟩ := hr.get hy
  have hi : i < us.length := (List.getElem?_eq_some_iff.mp hy).1
  rw [rangeU_get _ _ _ hi] at hx
  cases hx
  refine ⟨⟨vs, v, hs, hv⟩, fun z H'' y => ?_⟩
  obtain ⟨t, p, rfl, hT, rfl, q1⟩ := y
  have e3 := q1 vs hs
  rw [hv] at e3
  cases e3
  refine rep_pair e2 hT ?_ (Rep.mono e1 _ _ rv)
  rw [Int.zero_add]
  exact rep_int.2 rfl
section
variable {X : Cx} {c : Cn} {W : WX} {pos : Pos}
theorem qi_enum {a : Expr} {as : AF} {p tpos : Pos} {elts : List Expr} {kk : Nat} (hm : X.mg "enumerate" = none) (ha : QA X c W [a] as) (hg : Gl X "enumerate" := by rfl) (hs : starEach [a] X.env = [(false, eval a X.env)] := by rfl) :
    QI X c W (.Tuple elts kk tpos) (.Call (.Name "enumerate" p) [a] [] pos) (iEnum as) :=
  PI.weak (pi_enumA hg hm ha hs) fun σ H Rk ⟨G, ρ, r, h⟩ => by
    refine ⟨G, ρ, r, (PQ.bind (rel := relUs (Cx.T X)) h).imp fun x H1 ⟨G1, ρ1, u, e1, r1, l1, h1⟩ => ?_⟩
    split at h1
    · obtain ⟨v, e2, l2⟩ := reps1 l1
      obtain ⟨p1, vs1, rfl, k1, k2⟩ := rep_lst.1 l2
      exact ⟨p1, vs1, e2, .inl ⟨Evl.ex_l r1.ex k1, h1 _ G1 H1 Stp.refl r1 (it_enum k1 k2)⟩⟩
    · obtain ⟨v, e2, l2⟩ := reps1 l1
      obtain ⟨p1, vs1, rfl, k1, k2⟩ := rep_tup.1 l2
      exact ⟨p1, vs1, e2, .inr ⟨Evl.ex_t r1.ex k1, h1 _ G1 H1 Stp.refl r1 (it_enumT k1 k2)⟩⟩
    · exact h1.elim
end
end Q
set_option maxRecDepth 100000
set_option maxHeartbeats 2000000
/-! QZipM: zip of lists and tuples in any mix -/
namespace Q
open PySem PySem.Spec PyProof.Rows L2
open Evl (Ex)
/-- a tuple (true), a list (false) -/
def SqB (t : Bool) (K : PySem.W.Frag) (H : Hp) (a : Addr) (xs : List V) : Prop := match t with
  | true => SqT K H a xs
  | false => SqL K H a xs
def SeqB (t : Bool) (h : Heap) (a : Addr) (xs : Array Value) : Prop := match t with
  | true => h.IsTuple a xs
  | false => h.IsList a xs
def IterB (t : Bool) (h : Heap) (it a : Addr) (i : Nat) : Prop := match t with
  | true => h.IsTupleIter it a i
  | false => h.IsListIter it a i
def itO (t : Bool) (a : Addr) : Obj := match t with
  | true => { cls := .type "tuple_iterator", data := .fields #[.ref a, .int 0 0] }
  | false => { cls := .type "list_iterator", data := .fields #[.ref a, .int 0 0] }
theorem drawsB {prog : Program} {w : World} {A : Around} (hh : A.handled = none) (t : Bool) (it a : Addr) (hne : a ≠ it) (items : Array Value) :
    Draws prog w A it [it, a] items.size (fun i v => items[i]? = some v) (fun i h => IterB t h it a i ∧ SeqB t h a items) := by
  cases t with
  | true => exact Draws.tuple hh it a hne items
  | false => exact Draws.list hh it a hne items
theorem beginsB (t : Bool) (a : Addr) (items : Array Value) : Begins (.ref a) (itO t a) fun h => SeqB t h a items := by
  cases t with
  | true => exact begins_tuple a items
  | false => exact begins_list a items
theorem IterB.obj {t : Bool} {h : Heap} {it a : Addr} {i : Nat} (x : IterB t h it a i) : ∃ o, h.get? it = some o ∧ ∀ v n, o.data ≠ .seq v n ∧ ∃ fs, o.data = .fields fs := by
  cases t with
  | true =>
    obtain ⟨o, ho, hc, hd⟩ := x
    exact ⟨o, ho, fun v n => ⟨fun q => (by rw [hd] at q; cases q), _, hd⟩⟩
  | false =>
    obtain ⟨o, ho, hc, hd⟩ := x
    exact ⟨o, ho, fun v n => ⟨fun q => (by rw [hd] at q; cases q), _, hd⟩⟩
theorem IterB.at {t : Bool} {h h' : Heap} {it a : Addr} {i : Nat} (x : IterB t h it a i) (e : ∀ o, h.get? it = some o → h'.get? it = some o) : IterB t h' it a i := by
  cases t with
  | true => exact Heap.IsTupleIter.at x e
  | false => exact Heap.IsListIter.at x e
theorem iterB_new {t : Bool} {h : Heap} {it a : Addr} (e : h.get? it = some (itO t a)) : IterB t h it a 0 := by
  cases t with
  | true => exact ⟨_, e, rfl, rfl⟩
  | false => exact ⟨_, e, rfl, rfl⟩
theorem sqB_get {X : Cx} {pins : List (Addr × Obj)} {σ : L2.St} {H : Hp} {s : Shared} {t : Bool} {a : Addr} {xs : List V} (I : Inv X pins σ H s) (h : SqB t X.K H a xs) : ∃ its : List Value, Vals xs its ∧ SeqB t s.heap a its.toArray := by
  cases t with
  | true =>
    obtain ⟨its, rv, p, _⟩ := I.tuple h
    exact ⟨its, rv, p⟩
  | false =>
    obtain ⟨its, rv, p, _⟩ := I.list h
    exact ⟨its, rv, p.isList⟩
theorem sqB_inj {X : Cx} {pins : List (Addr × Obj)} {σ : L2.St} {H : Hp} {s : Shared} {t : Bool} {a : Addr} {xs ys : List V} (I : Inv X pins σ H s) (h : SqB t X.K H a xs) (h' : SqB t X.K H a ys) : xs = ys := by
  cases t with
  | true => exact I.tuple_inj h h'
  | false => exact I.list_inj h h'
theorem SeqB.lt {t : Bool} {h : Heap} {a : Addr} {xs : Array Value} (x : SeqB t h a xs) : a < h.objs.size := by
  cases t with
  | true =>
    obtain ⟨o, ho, _⟩ := x
    exact Heap.lt_size ho
  | false =>
    obtain ⟨o, ho, _⟩ := x
    exact Heap.lt_size ho
/-- the sequences at a and b as they stand at each turn, the items in new pairs -/
def ItzB (t u : Bool) (K : PySem.W.Frag) (a b : Addr) : It :=
  ⟨fun i H => ∃ (xs ys : List V) (x y : V), SqB t K H a xs ∧ SqB u K H b ys ∧ xs[i]? = some x ∧ ys[i]? = some y,
    fun i H v H' => ∃ T x y, v = .ref T ∧ H T = none ∧ H' = upd H T (.tup [x, y]) ∧ (∀ xs, SqB t K H a xs → xs[i]? = some x) ∧ ∀ ys, SqB u K H b ys → ys[i]? = some y,
    fun i H => ∃ xs ys : List V, SqB t K H a xs ∧ SqB u K H b ys ∧ i ≤ xs.length ∧ i ≤ ys.length ∧ (i = xs.length ∨ i = ys.length)⟩
/-- how the cells lie apart -/
structure SepB (z TI TO i1 i2 a b : Addr) : Prop where
  s : ZipSep2 z TI TO i1 i2 [i1, a] [i2, b]
  a1 : a ≠ i1
  b2 : b ≠ i2
theorem turn_zipB {P : Program} {w : World} {K : PySem.W.Frag} {elts : List Expr} {kk : Nat} {tpos : Pos} {a b z TI TO i1 i2 : Addr} (t u : Bool) (D : SepB z TI TO i1 i2 a b) :
    Turn P w K (.Tuple elts kk tpos) (ItzB t u K a b) [z, TI, TO, i1, i2] z (fun i h => IsZip h z TI TO .none ∧ IsTupOf2 h TI (.ref i1) (.ref i2) ∧ (∃ x y, IsTupOf2 h TO x y) ∧ IterB t h i1 a i ∧ IterB u h i2 b i) where
  mem := by simp
  obj := fun i h st c hc => by
    obtain ⟨hz, hTI, ⟨x, y, hTO⟩, h1, h2⟩ := st
    have e' : c = z ∨ c = TI ∨ c = TO ∨ c = i1 ∨ c = i2 := by simpa using hc
    rcases e' with q | q | q | q | q
    · rw [q]; exact ⟨_, hz, fun v q => nomatch q⟩
    · rw [q]; exact ⟨_, hTI, fun v q => nomatch q⟩
    · rw [q]; exact ⟨_, hTO, fun v q => nomatch q⟩
    · rw [q]
      obtain ⟨o, ho, hd⟩ := h1.obj
      obtain ⟨_, fs, hf⟩ := hd #[] 0
      exact ⟨o, ho, fun v q => by rw [hf] at q; cases q⟩
    · rw [q]
      obtain ⟨o, ho, hd⟩ := h2.obj
      obtain ⟨_, fs, hf⟩ := hd #[] 0
      exact ⟨o, ho, fun v q => by rw [hf] at q; cases q⟩
  keep := fun i h h' st k => by
    obtain ⟨hz, hTI, ⟨x, y, hTO⟩, h1, h2⟩ := st
    exact ⟨k z (by simp) _ hz, k TI (by simp) _ hTI, ⟨x, y, k TO (by simp) _ hTO⟩, h1.at fun o q => k i1 (by simp) o q, h2.at fun o q => k i2 (by simp) o q⟩
  item := by
    intro X hP hw hK hc i pins s σ H E I hf st hg
    subst hP hw hK
    obtain ⟨hz, hTI, ⟨x0, y0, hTO⟩, h1, h2⟩ := st
    obtain ⟨xs, ys, x, y, hqx, hqy, hx, hy⟩ := hg
    obtain ⟨its, rv, p⟩ := sqB_get I hqx
    obtain ⟨its2, rv2, p2⟩ := sqB_get I hqy
    obtain ⟨v1, hu, ru⟩ := rv.get hx
    obtain ⟨v2, hu2, ru2⟩ := rv2.get hy
    have hzl : z < s.heap.objs.size := Heap.lt_size hz
    have l1 : i < its.toArray.size := by
      have := (List.getElem?_eq_some_iff.mp hu).1
      rwa [List.size_toArray]
    have l2 : i < its2.toArray.size := by
      have := (List.getElem?_eq_some_iff.mp hu2).1
      rwa [List.size_toArray]
    refine wpAny_pyNext_zipD2_item D.s (drawsB (A := X.A.in1) (I.ok.hd hc) t i1 a D.a1 its.toArray) (drawsB (A := X.A.in1) (I.ok.hd hc) u i2 b D.b2 its2.toArray) hz hTI hTO ⟨h1, p⟩ ⟨h2, p2⟩ l1 l2 fun x1 x2 h' tk P1 P2 z' TO' h1' h2' hT hsz hk => ?_
    have q1 : its.toArray[i]? = some x1 := P1
    have q2 : its2.toArray[i]? = some x2 := P2
    rw [List.getElem?_toArray, hu] at q1
    rw [List.getElem?_toArray, hu2] at q2
    cases q1
    cases q2
    refine ⟨_, rfl, wpAny_letOwnedTupleGo_zip (s := { s with heap := h', toks := tk }) z' fun h'' z'' sb => ?_⟩
    have hT2 : h''.get? s.heap.objs.size = some { cls := .type "tuple", data := .seq #[v1, v2] } := (sb.2 _ (Nat.ne_of_gt hzl)).trans hT
    have new : ObjOk X.prog X.w (upd H s.heap.objs.size (.tup [x, y])) h'' s.heap.objs.size (.tup [x, y]) :=
      ⟨by show 2 ≤ sizeLine; decide, [v1, v2], .cons ru (.cons ru2 .nil), ⟨_, hT2, rfl, _, rfl⟩⟩
    have I1 : Inv X pins σ (upd H s.heap.objs.size (.tup [x, y])) { s with heap := h'', toks := tk } :=
      I.turnedNew (t' := tk) (ch := [z, TI, TO, i1, i2]) (fun c o hb q => (sb.2 c (fun q' => hb (by simp [q']))).trans (hk c o (fun q' => hb (by simp [q'])) (fun q' => hb (by simp [q'])) (fun q' => hb (by simp [q'])) (fun q' => hb (by simp [q'])) q)) hf (Nat.le_refl _) new
    refine ⟨.ref s.heap.objs.size, _, I1, rfl, ⟨_, x, y, rfl, I.hok.fresh (Nat.le_refl _), rfl, fun l hl => by rw [sqB_inj I hl hqx]; exact hx, fun l hl => by rw [sqB_inj I hl hqy]; exact hy⟩, ⟨z'', ?_, ⟨v1, v2, ?_⟩, ?_, ?_⟩, fun c hcm => ?_⟩
    · exact (sb.2 _ D.s.TIz).trans (hk _ _ D.s.TIz D.s.TITO D.s.TIi1 D.s.TIi2 hTI)
    · exact (sb.2 _ D.s.TOz).trans TO'
    · exact h1'.1.at fun o q => (sb.2 _ D.s.zi1.symm).trans q
    · exact h2'.1.at fun o q => (sb.2 _ D.s.zi2.symm).trans q
    · have hlt : c < s.heap.objs.size := by
        have e' : c = z ∨ c = TI ∨ c = TO ∨ c = i1 ∨ c = i2 := by simpa using hcm
        rcases e' with q | q | q | q | q
        · rw [q]; exact hzl
        · rw [q]; exact Heap.lt_size hTI
        · rw [q]; exact Heap.lt_size hTO
        · rw [q]; obtain ⟨_, e1, _⟩ := h1.obj; exact Heap.lt_size e1
        · rw [q]; obtain ⟨_, e2, _⟩ := h2.obj; exact Heap.lt_size e2
      rw [upd_ne (Nat.ne_of_lt hlt)]
      exact (hf c hcm).1
  done := by
    intro X hP hw hK hc i pins s σ H E I hf st hg
    subst hP hw hK
    obtain ⟨hz, hTI, ⟨x0, y0, hTO⟩, h1, h2⟩ := st
    obtain ⟨xs, ys, hqx, hqy, n1, n2, hend⟩ := hg
    obtain ⟨its, rv, p⟩ := sqB_get I hqx
    obtain ⟨its2, rv2, p2⟩ := sqB_get I hqy
    have l1 := rv.length
    have l2 := rv2.length
    refine wpAny_pyNext_zipD2_end D.s (drawsB (A := X.A.in1) (I.ok.hd hc) t i1 a D.a1 its.toArray) (drawsB (A := X.A.in1) (I.ok.hd hc) u i2 b D.b2 its2.toArray) hz hTI hTO ⟨h1, p⟩ ⟨h2, p2⟩ (by rw [List.size_toArray]; omega) (by rw [List.size_toArray]; omega) (by rw [List.size_toArray, List.size_toArray]; omega) fun h' tk hk => ⟨rfl, I.turnedL (t' := tk) (ch := [z, TI, TO, i1, i2]) (fun c o hb q =>
      hk c o (fun q' => hb (by simp [q'])) (fun q' => hb (by simp [q'])) (fun q' => hb (by simp [q'])) (fun q' => hb (by simp [q'])) q) hf⟩
  self := fun A i s Q E st h => wpAny_pyIter_zip st.1 h
theorem sepB_new {n : Nat} {a b : Addr} (ha : a < n) (hb : b < n) : SepB (n + 4) (n + 2) (n + 3) n (n + 1) a b := by
  have ne : ∀ {i j : Nat}, i ≠ j → n + i ≠ n + j := fun h e => h (Nat.add_left_cancel e)
  have la : ∀ {i : Nat}, a ≠ n + i := fun {i} => Nat.ne_of_lt (Nat.lt_of_lt_of_le ha (Nat.le_add_right _ _))
  have lb : ∀ {i : Nat}, b ≠ n + i := fun {i} => Nat.ne_of_lt (Nat.lt_of_lt_of_le hb (Nat.le_add_right _ _))
  have la0 : a ≠ n := Nat.ne_of_lt ha
  have lb0 : b ≠ n := Nat.ne_of_lt hb
  have n0 : ∀ {i : Nat}, n + (i + 1) ≠ n := fun {i} e => by omega
  refine ⟨⟨ne (by decide), ne (by decide), ne (by decide), n0, by simp, ?_, ?_, ne (by decide), by simp, ?_, ?_, ?_, ?_⟩, la0, lb⟩
  · simp only [List.mem_cons, List.not_mem_nil, or_false, not_or]
    exact ⟨n0, la.symm⟩
  · simp only [List.mem_cons, List.not_mem_nil, or_false, not_or]
    exact ⟨n0, la.symm⟩
  · simp only [List.mem_cons, List.not_mem_nil, or_false, not_or]
    exact ⟨ne (by decide), lb.symm⟩
  · simp only [List.mem_cons, List.not_mem_nil, or_false, not_or]
    exact ⟨ne (by decide), lb.symm⟩
  · simp only [List.mem_cons, List.not_mem_nil, or_false, not_or]
    exact ⟨Ne.symm n0, lb0.symm⟩
  · simp only [List.mem_cons, List.not_mem_nil, or_false, not_or]
    exact ⟨n0, la.symm⟩
def iZipB (K : PySem.W.Frag) (ta : TA) : TI := fun σ H R => ta σ H fun vs H1 => ∃ a b xs ys t u, vs = [.ref a, .ref b] ∧ SqB t K H1 a xs ∧ SqB u K H1 b ys ∧ R (ItzB t u K a b) H1
theorem pi_zipB {X : Cx} {e e2 : Expr} {ta : TA} {p pos tpos : Pos} {elts : List Expr} {kk : Nat} (hg : Gl X "zip") (hm : X.mg "zip" = none) (ha : PA X [e, e2] ta)
    (hs : starEach [e, e2] X.env = (false, eval e X.env) :: starEach [e2] X.env := by rfl) (hpl : (backTo pos (starEach [e2] X.env)).any (·.1) = false := by rfl) :
    PI X (.Tuple elts kk tpos) (.Call (.Name "zip" p) [e, e2] [] pos) (iZipB X.K ta) := by
  refine ⟨fun pins s σ H R I h => ?_⟩
  refine Call_ (ld_blt I hg hm PyProof.Rows.boot_zip (PyProof.Rows.callWith_type1 (thn (ha.run pos pins s σ H _ I h) fun us s1 ⟨vs, H1, I1, r1, q1⟩ => ?_) hs hpl))
  obtain ⟨a, b, xs, ys, t, u, ex, hqx, hqy, q⟩ := q1
  subst ex
  cases r1 with
  | cons r rr =>
    cases rr with
    | cons r' rr =>
      cases rr
      cases r
      cases r'
      have fresh5 : ∀ c, c ∈ [s1.heap.objs.size + 4, s1.heap.objs.size + 2, s1.heap.objs.size + 3, s1.heap.objs.size, s1.heap.objs.size + 1] → FpOk X pins H1 c := fun c hcm => by
        have e' : c = s1.heap.objs.size + 4 ∨ c = s1.heap.objs.size + 2 ∨ c = s1.heap.objs.size + 3 ∨ c = s1.heap.objs.size ∨ c = s1.heap.objs.size + 1 := by simpa using hcm
        have hle : s1.heap.objs.size ≤ c := by
          rcases e' with z | z | z | z | z
          · rw [z]; exact Nat.le_add_right _ _
          · rw [z]; exact Nat.le_add_right _ _
          · rw [z]; exact Nat.le_add_right _ _
          · rw [z]; exact Nat.le_refl _
          · rw [z]; exact Nat.le_add_right _ _
        exact I1.fpOk hle (I1.hok.fresh hle)
      obtain ⟨its, rv, p1⟩ := sqB_get I1 hqx
      obtain ⟨its2, rv2, p2⟩ := sqB_get I1 hqy
      refine zip_begins2 (beginsB t a its.toArray) (beginsB u b its2.toArray) p1 p2 fun h' hz hTI hTO h1 h2 hsz hk => wpAny_pyIter_zip hz ?_
      have I2 : Inv X pins σ H1 { s1 with heap := h' } := I1.kept (t' := s1.toks) hk
      exact ⟨s1.heap.objs.size + 4, [s1.heap.objs.size + 4, s1.heap.objs.size + 2, s1.heap.objs.size + 3, s1.heap.objs.size, s1.heap.objs.size + 1], _, _, H1, rfl, I2, turn_zipB t u (sepB_new p1.lt p2.lt), ⟨hz, hTI, ⟨_, _, hTO⟩, iterB_new h1, iterB_new h2⟩, fresh5, q⟩
theorem ex_b {t : Bool} {K : PySem.W.Frag} {G H : Hp} {a : Addr} {xs : List V} (e : Ex G H) (h : SqB t K G a xs) : SqB t K H a xs := by
  cases t with
  | true => exact Evl.ex_t e h
  | false => exact Evl.ex_l e h
theorem it_zipB {T : Tab} {G : Hp} {a b : Addr} {t u : Bool} {us ws : List U} {vs xs : List V} (h : SqB t T.K G a vs) (hr : Reps T G us vs) (h' : SqB u T.K G b xs) (hr' : Reps T G ws xs) : ItOk T G (ItzB t u T.K a b) (zipU us ws) := fun G' H' e1 e2 i => by
  have hl := hr.length
  have hl' := hr'.length
  have hs := ex_b (e1.trans e2) h
  have hs' := ex_b (e1.trans e2) h'
  rw [zipU_len]
  refine ⟨fun q q' => ⟨vs, xs, hs, hs', by omega, by omega, by omega⟩, fun u hu => ?_⟩
  obtain ⟨x, y, hx, hy, rfl⟩ := zipU_get hu
  obtain ⟨v, hv, rv⟩ := hr.get hx
  obtain ⟨v', hv', rv'⟩ := hr'.get hy
  refine ⟨⟨vs, xs, v, v', hs, hs', hv, hv'⟩, fun z H'' y => ?_⟩
  obtain ⟨t, p, q, rfl, hT, rfl, q1, q2⟩ := y
  have e3 := q1 vs hs
  have e4 := q2 xs hs'
  rw [hv] at e3
  rw [hv'] at e4
  cases e3
  cases e4
  exact rep_pair e2 hT (Rep.mono e1 _ _ rv) (Rep.mono e1 _ _ rv')
theorem rep_seqB {T : Tab} {G : Hp} {u : U} {v : V} {xs : List U} (h : seqU u = some xs) (r : Rep T G u v) : ∃ t a vs, v = .ref a ∧ SqB t T.K G a vs ∧ Reps T G xs vs := by
  unfold seqU at h
  split at h
  · cases h
    obtain ⟨a, vs, e1, h1, h2⟩ := rep_lst.1 r
    exact ⟨false, a, vs, e1, h1, h2⟩
  · cases h
    obtain ⟨a, vs, e1, h1, h2⟩ := rep_tup.1 r
    exact ⟨true, a, vs, e1, h1, h2⟩
  · cases h
section
variable {X : Cx} {c : Cn} {W : WX} {pos : Pos}
theorem qi_zip2 {a b : Expr} {as : AF} {p tpos : Pos} {elts : List Expr} {kk : Nat} (hm : X.mg "zip" = none) (ha : QA X c W [a, b] as) (hg : Gl X "zip" := by rfl)
    (hs : starEach [a, b] X.env = (false, eval a X.env) :: starEach [b] X.env := by rfl) (hs2 : (backTo pos (starEach [b] X.env)).any (·.1) = false := by rfl) : QI X c W (.Tuple elts kk tpos) (.Call (.Name "zip" p) [a, b] [] pos) (iZip2 as) :=
  PI.weak (pi_zipB hg hm ha hs hs2) fun σ H Rk ⟨G, ρ, r, h⟩ => by
    refine ⟨G, ρ, r, (PQ.bind (rel := relUs (Cx.T X)) h).imp fun x H1 ⟨G1, ρ1, u, e1, r1, l1, h1⟩ => ?_⟩
    split at h1
    · rename_i ua ub
      split at h1
      · rename_i us ws q1 q2
        obtain ⟨v, w, e2, l2, l3⟩ := reps2 l1
        obtain ⟨t, a1, vs1, rfl, k1, k2⟩ := rep_seqB q1 l2
        obtain ⟨t', a2, vs2, rfl, k3, k4⟩ := rep_seqB q2 l3
        exact ⟨a1, a2, vs1, vs2, t, t', e2, ex_b r1.ex k1, ex_b r1.ex k3, h1 _ G1 H1 Stp.refl r1 (it_zipB k1 k2 k3 k4)⟩
      · exact h1.elim
    · exact h1.elim
end
end Q
set_option maxRecDepth 100000
set_option maxHeartbeats 2000000
/-! QSort: sorted -/
namespace Q
open PySem PySem.Spec PyProof.Rows L2
open Evl (Ex)

theorem lexL_eq : ∀ a b : List Int, HT.lexLt a b = lexL a b
  | [], [] => rfl
  | [], _ :: _ => rfl
  | _ :: _, [] => rfl
  | x :: xs, y :: ys => by rw [HT.lexLt_cons, lexL, lexL_eq xs ys]
theorem sorted_uniq {α : Type} {lt : α → α → Bool} (an : ∀ a b, lt a b = false → lt b a = false → a = b) {l m : List α} (h1 : l.Pairwise fun a b => lt b a = false) (h2 : m.Pairwise fun a b => lt b a = false) (p : l.Perm m) : l = m :=
  List.Perm.eq_of_pairwise (le := fun a b => lt b a = false) (fun a b _ _ x y => an a b y x) h1 h2 p
theorem lexL_anti : ∀ a b : List Int, lexL a b = false → lexL b a = false → a = b
  | [], [], _, _ => rfl
  | [], _ :: _, h, _ => by simp [lexL] at h
  | _ :: _, [], _, h => by simp [lexL] at h
  | x :: xs, y :: ys, h1, h2 => by
    rw [lexL] at h1 h2
    by_cases e : x = y
    · rw [if_pos e] at h1
      rw [if_pos e.symm] at h2
      rw [e, lexL_anti xs ys h1 h2]
    · rw [if_neg e] at h1
      rw [if_neg (Ne.symm e)] at h2
      have a := of_decide_eq_false h1
      have b := of_decide_eq_false h2
      omega
/-! ### the model's sort of tuples, the first empty -/
section
variable {prog : Program} {w : World} {A : Around} {E : Value → Shared → Prop} {s : Shared}
theorem mapM_any {M : Model} {α β : Type} {f : α → Sem β} : ∀ (l : List α) {Q : List β → Shared → Prop}, (∀ v ∈ l, ∃ r, ∀ (Q' : β → Shared → Prop), Q' r s → wpAny M A (f v) Q' E s) → (∀ bs, Q bs s) → wpAny M A (l.mapM f) Q E s
  | [], _, _, h => by rw [List.mapM_nil]; exact wpAny_pure (h [])
  | x :: l, Q, hf, h => by
    rw [List.mapM_cons]
    obtain ⟨r, hr⟩ := hf x (.head _)
    exact wpAny_bind (hr _ (wpAny_bind (mapM_any l (Q := fun bs s' => wpAny M A (pure (r :: bs)) Q E s') (fun v hv => hf v (.tail _ hv)) fun bs => wpAny_pure (h _))))
theorem kind_emp {v1 : Value} {rest : List Value} {Q : SortKind → Shared → Prop} (h0 : ∃ a, v1 = .ref a ∧ s.heap.IsTuple a #[]) (hT : ∀ v ∈ v1 :: rest, ∃ a items, v = Value.ref a ∧ s.heap.IsTuple a items) (h : Q oneType' s) :
    wpAny (model prog w) A (keyKind' (v1 :: rest).toArray) Q E s := by
  have ty : ∀ v ∈ v1 :: rest, ∀ (Q' : Value → Shared → Prop), Q' (.type "tuple") s → wpAny (model prog w) A (typeOf v) Q' E s := fun v hv Q' hq => by
    obtain ⟨a, items, rfl, o, ho, hc, n, hd⟩ := hT v hv
    exact wpAny_typeOf (T := "tuple") ⟨o, ho, hc⟩ hq
  have fst : ∀ v a items, v = Value.ref a → s.heap.IsTuple a items → ∀ (Q' : Option Value → Shared → Prop), Q' items[0]? s → wpAny (model prog w) A (firstOfTuple' v) Q' E s := fun v a items e ht Q' hq => by
    subst e
    obtain ⟨o, ho, hc, n, hd⟩ := ht
    rw [PySem.W.kas_first_eq]
    refine wpAny_bind (wpAny_typeOf (T := "tuple") ⟨o, ho, hc⟩ ?_)
    rw [if_neg (by decide)]
    exact wpAny_bind (listItems_at ho hd (wpAny_pure hq))
  rw [keyKind'_eq, List.mapM_toArray, map_eq_pure_bind]
  refine wpAny_bind (wpAny_bind ?_)
  rw [List.mapM_cons]
  obtain ⟨a, e, ht⟩ := h0
  refine wpAny_bind (fst v1 a #[] e ht _ (wpAny_bind (mapM_any rest (fun v hv => ?_) fun bs => wpAny_pure (wpAny_pure ?_))))
  · obtain ⟨a', items, e', ht'⟩ := hT v (.tail _ hv)
    exact ⟨_, fun Q' hq => fst v a' items e' ht' Q' hq⟩
  · rw [if_neg (by simp), if_neg (by simp)]
    rw [oneTypeOnly'_eq, List.mapM_toArray, map_eq_pure_bind]
    refine wpAny_bind (wpAny_bind (wpAny_bind (PySem.W.kas_mapM (r := Value.type "tuple") _ (fun v hv Q' hq => ty v hv Q' hq) (wpAny_pure ?_))))
    have hall : ((List.map (fun _ => Value.type "tuple") (v1 :: rest)).toArray.all fun x => x == Value.type "tuple") = true := by
      simp only [List.all_toArray, List.all_map, List.all_eq_true]
      intro _ _
      rfl
    have h0 : (List.map (fun _ => Value.type "tuple") (v1 :: rest)).toArray[0]? = some (Value.type "tuple") := by simp
    rw [h0]
    simp only [hall, if_true]
    exact wpAny_pure (wpAny_pure h)
/-- a tuple of whole numbers -/
def TupI (h : Heap) (v : Value) (ns : List Int) : Prop := ∃ (a : Addr) (its : List Value), v = .ref a ∧ h.IsTuple a its.toArray ∧ IntsAre its ns
theorem tup_lt {v u : Value} {ns ms : List Int} {Q : Bool → Shared → Prop} (hu : A.units < cLine) (hv : TupI s.heap v ns) (hw : TupI s.heap u ms) (h : Q (lexL ns ms) s) : wpAny (model prog w) A (keyLt' oneType' v u) Q E s := by
  obtain ⟨a, its, rfl, ⟨⟨cls, dd, data, sl⟩, ho, hc, n, hd⟩, hi⟩ := hv
  obtain ⟨b, its2, rfl, ⟨⟨cls2, dd2, data2, sl2⟩, ho2, hc2, n2, hd2⟩, hj⟩ := hw
  simp only at hc hd hc2 hd2
  subst hc hd hc2 hd2
  rw [keyLt'_oneType, oneLt'_eq]
  simp only [if_true]
  refine wpAny_bind (wpAny_cRoomFor hu ?_)
  refine wpAny_bind (wpAny_callSpecialIfBound?_slot (T := "tuple") ⟨_, ho, rfl⟩ PySem.F.slot_tuple_lt (call_meets PySem.F.slot_tuple_lt ⟨_, ho, rfl⟩ PySem.F.entry_tuple_lt (PySem.F.args_tuple_lt_2 _ _) (HT.tuple_lt_ints a b its.toArray its2.toArray n n2 dd dd2 sl sl2 ns ms hi hj) ⟨ho, ho2, ?_⟩))
  rw [lexL_eq]
  exact wpAny_truthy_bool h
theorem tup_sortable {a : Addr} {v1 : Value} {rest : List Value} {k : Value → List Int} (hu : A.units < cLine) (h0 : k v1 = []) (hv : ∀ v ∈ v1 :: rest, TupI s.heap v (k v)) (ha : ∀ v ∈ v1 :: rest, v ≠ .ref a) :
    SrtO.SortableO prog w A s a (v1 :: rest) fun v u => lexL (k v) (k u) := by
  intro h' keep
  have hv' : ∀ v ∈ v1 :: rest, TupI h' v (k v) := fun v hm => by
    obtain ⟨b, its, e, ht, hi⟩ := hv v hm
    exact ⟨b, its, e, ht.at fun o q => keep b o (fun z => ha v hm (by rw [e, z])) q, hi⟩
  refine ⟨oneType', fun Q E hq => ?_, fun p q hp hq => tup_lt (Q := fun r s' => s' = { s with heap := h' } ∧ r = lexL (k p.1) (k q.1)) (E := fun _ _ => False) (s := { s with heap := h' }) hu (hv' p.1 hp) (hv' q.1 hq) ⟨rfl, rfl⟩⟩
  refine kind_emp (s := { s with heap := h' }) ?_ (fun v hm => ?_) hq
  · obtain ⟨b, its, e, ht, hi⟩ := hv' v1 (.head _)
    rw [h0] at hi
    cases hi
    exact ⟨b, e, ht⟩
  · obtain ⟨b, its, e, ht, hi⟩ := hv' v hm
    exact ⟨b, _, e, ht⟩
end
theorem swo_lexL (k : Value → List Int) : SrtO.Swo (fun v u : Value => lexL (k v) (k u)) := by
  have e : (fun v u : Value => lexL (k v) (k u)) = fun v u => HT.lexLt (k v) (k u) := by
    funext v u
    rw [lexL_eq]
  rw [e]
  exact NtL.swo_lexL k
/-- sorted(xs): tuples of ints, the first empty -/
def rSortedT (K : PySem.W.Frag) : List V → Hp → VK → Prop := fun vs H Q => ∃ (a t0 : Addr) (ts : List Addr) (k : Addr → List Int), vs = [V.ref a] ∧ SqL K H a ((t0 :: ts).map V.ref) ∧ (∀ t ∈ t0 :: ts, SqT K H t ((k t).map V.int)) ∧ k t0 = [] ∧
  ∀ (ts' : List Addr) (p : Addr), ts'.Perm (t0 :: ts) → ts'.Pairwise (fun p q => lexL (k q) (k p) = false) → H p = none → Q (.ref p) (upd H p (.lst (ts'.map V.ref)))
section
variable {X : Cx}
theorem cr_sortedT {j : Nat} (hr : Room j X.A) : CallR X (.builtin "sorted") (rSortedT X.K) := by
  intro pins s σ H vs us Q I r h
  obtain ⟨a, t0, ts, k, rfl, hs, hk, h0, q⟩ := h
  obtain ⟨its, rv, hl, hz⟩ := I.list hs
  rw [Vals.ref1 r]
  have ei := nts_of rv
  have hv : ∀ u ∈ its, TupI s.heap u (k (adO u)) := fun u hm => by
    rw [ei] at hm
    obtain ⟨t, ht, rfl⟩ := List.mem_map.mp hm
    obtain ⟨its', rv', p, _⟩ := I.tuple (hk t ht)
    exact ⟨t, its', rfl, (show s.heap.IsTuple t its'.toArray from p), rv'.ints⟩
  rw [List.map_cons] at ei
  cases its with
  | nil => cases ei
  | cons v1 rest =>
    obtain ⟨e1, e2⟩ := List.cons.inj ei
    have hk1 : k (adO v1) = [] := by
      rw [e1]
      exact h0
    refine SrtO.sorted_ord (swo_lexL fun u => k (adO u)) hl.isList (by rw [← rv.length]; exact hz) (fun h2 h₁ a' ha kk => tup_sortable (k := fun u => k (adO u)) (by have hru := hr.un; show X.A.units + 1 + 1 < cLine; omega) hk1 (fun v hm => ?_) fun v hm e => ?_) fun out h1 h2 => ?_
    · obtain ⟨b, its', e, ht, hi⟩ := hv v hm
      exact ⟨b, its', e, ht.at fun o q => (kk b o q).2, hi⟩
    · obtain ⟨b, its', e', ⟨o, ho, _⟩, hi⟩ := hv v hm
      rw [e'] at e
      exact (kk b o ho).1 (Value.ref.inj e)
    · obtain ⟨ep, he'⟩ := PyProof.Rows.sortedAll_at s.heap (v1 :: rest) out.toArray
      have eall : v1 :: rest = (t0 :: ts).map Value.ref := by rw [List.map_cons, e1, e2]
      have eo : out = (out.map adO).map Value.ref := ref_map fun u hm => by
        have hm' : u ∈ v1 :: rest := h2.perm.mem_iff.mp hm
        rw [eall] at hm'
        obtain ⟨t, _, e⟩ := List.mem_map.mp hm'
        exact ⟨t, e.symm⟩
      have hp : (out.map adO).Perm (t0 :: ts) := by
        have p1 := h2.perm.map adO
        rw [eall, ad_map] at p1
        exact p1
      have hsr : (out.map adO).Pairwise (fun p q => lexL (k q) (k p) = false) := List.pairwise_map.mpr (h1.imp fun {x y} z => z)
      have hlen : ((out.map adO).map V.ref).length ≤ sizeLine := by
        rw [List.length_map, hp.length_eq]
        rw [List.length_map] at hz
        exact hz
      have rvo : Vals ((out.map adO).map V.ref) out := by
        have z := of_nts (out.map adO)
        rw [← eo] at z
        exact z
      exact ⟨.ref _, upd H (s.heap.objs.size + 1) (.lst ((out.map adO).map V.ref)), I.laid (t' := s.toks) (fun _ _ => PyProof.Rows.sortedAll_old) (Nat.le_succ _) ⟨hlen, out, ep, rvo, he'⟩, rfl, q _ _ hp hsr (I.hok.fresh (Nat.le_succ _))⟩
/-! ### the rule -/
theorem intsOf_eq : ∀ {us : List U} {ns : List Int}, intsOf us = some ns → us = ns.map .int
  | [], ns, h => by
    cases h
    rfl
  | u :: us, ns, h => by
    cases u with
    | int i =>
      rw [intsOf] at h
      cases q : intsOf us with
      | none =>
        rw [q] at h
        cases h
      | some ms =>
        rw [q] at h
        cases h
        rw [intsOf_eq q]
        rfl
    | _ => cases h
theorem keysOf_eq : ∀ {us : List U} {ks : List (List Int)}, keysOf us = some ks → us = ks.map fun l => .tup (l.map .int)
  | [], ns, h => by
    cases h
    rfl
  | u :: us, ks, h => by
    cases u with
    | tup xs =>
      rw [keysOf] at h
      cases q1 : intsOf xs with
      | none =>
        rw [q1] at h
        cases h
      | some ns =>
        rw [q1] at h
        cases q : keysOf us with
        | none =>
          rw [q] at h
          cases h
        | some ms =>
          rw [q] at h
          cases h
          rw [keysOf_eq q, intsOf_eq q1]
          rfl
    | _ => cases h
/-- the tuples' addresses -/
theorem reps_keys {T : Tab} {G : Hp} : ∀ {ks : List (List Int)} {vs : List V}, Reps T G (ks.map fun l => U.tup (l.map .int)) vs → ∃ ts : List Addr, vs = ts.map V.ref ∧ ts.length = ks.length ∧ ∀ (j : Nat) (t : Addr), ts[j]? = some t → ∃ l : List Int, ks[j]? = some l ∧ SqT T.K G t (l.map V.int)
  | [], vs, h => ⟨[], reps_nil.1 h, rfl, fun j t e => by simp at e⟩
  | l :: ks, vs, h => by
    obtain ⟨v, r, rfl, h1, h2⟩ := reps_cons.1 h
    obtain ⟨ts, rfl, e2, e3⟩ := reps_keys h2
    obtain ⟨a, ws, rfl, f1, f2⟩ := rep_tup.1 h1
    rw [reps_ints' f2] at f1
    refine ⟨a :: ts, rfl, by rw [List.length_cons, List.length_cons, e2], fun j t e => ?_⟩
    cases j with
    | zero =>
      simp at e
      subst e
      exact ⟨l, rfl, f1⟩
    | succ j => exact e3 j t (by simpa using e)
theorem reps_sorted {T : Tab} {G : Hp} {k : Addr → List Int} : ∀ {ts : List Addr}, (∀ t ∈ ts, SqT T.K G t ((k t).map V.int)) → Reps T G ((ts.map k).map fun l => U.tup (l.map .int)) (ts.map V.ref)
  | [], _ => .nil
  | t :: ts, h => .cons (rep_tup.2 ⟨t, _, rfl, h t (.head _), reps_ints⟩) (reps_sorted fun t' m => h t' (.tail _ m))
theorem sqT_keys {K : PySem.W.Frag} {H : Hp} {t : Addr} {l m : List Int} {pins : List (Addr × Obj)} {σ : L2.St} {s : Shared} {X : Cx} (I : Inv X pins σ H s) (h1 : SqT X.K H t (l.map V.int)) (h2 : SqT X.K H t (m.map V.int)) : l = m := by
  have e := I.tuple_inj h1 h2
  exact List.map_inj_right (fun a b e => V.int.inj e) |>.mp e
theorem c_sortedI {j : Nat} (hr : Room j X.A) : CallR X (.builtin "sorted") (rc nuN (Cx.T X) bSorted) := by
  classical
  intro pins s σ H xs us Q I r ⟨G, ws, z, e, rp, hz, q⟩
  unfold bSorted at hz
  split at hz
  · rename_i ys
    obtain ⟨v, rfl, r1⟩ := reps1 rp
    obtain ⟨a, vs, rfl, h1, h2⟩ := rep_lst.1 r1
    split at hz
    · rename_i ns hn
      cases hz
      rw [intsOf_eq hn] at h2
      rw [reps_ints' h2] at h1
      refine cr_sortedI pins s σ H _ us Q I r ⟨a, ns, rfl, Evl.ex_l e h1, fun ns' p hp hs hf => ?_⟩
      have en : ns' = sortI ns := by
        refine sorted_uniq (lt := fun a b => decide (a < b)) (fun a b x y => ?_) (hs.imp fun {a b} h => decide_eq_false (by omega)) (sortB_sorted (fun a b h => ?_) (fun a b c x y => ?_) ns) (hp.trans (sortB_perm _ ns).symm)
        · have := of_decide_eq_false x
          have := of_decide_eq_false y
          omega
        · have := of_decide_eq_true h
          exact decide_eq_false (by omega)
        · have := of_decide_eq_false x
          have := of_decide_eq_false y
          exact decide_eq_false (by omega)
      rw [en]
      exact q p _ hf reps_ints
    · split at hz
      · rename_i ks hk
        cases hz
        rw [keysOf_eq hk] at h2
        obtain ⟨ts, rfl, hl, ht⟩ := reps_keys h2
        cases ts with
        | nil => simp at hl
        | cons t0 ts =>
          let k : Addr → List Int := fun t => if h : ∃ l : List Int, SqT X.K H t (l.map V.int) then h.choose else []
          have kk : ∀ t l, SqT X.K H t (l.map V.int) → k t = l := fun t l hs => by
            have hx : ∃ l : List Int, SqT X.K H t (l.map V.int) := ⟨l, hs⟩
            have e1 : k t = hx.choose := dif_pos hx
            rw [e1]
            exact sqT_keys (K := X.K) I hx.choose_spec hs
          have ht' : ∀ (j : Nat) (t : Addr), (t0 :: ts)[j]? = some t → ∃ l, ([] :: ks)[j]? = some l ∧ SqT X.K G t (l.map V.int) ∧ k t = l := fun j t et => by
            obtain ⟨l, e1, e2⟩ := ht j t et
            exact ⟨l, e1, e2, kk t l (Evl.ex_t e e2)⟩
          have em : (t0 :: ts).map k = [] :: ks := by
            apply List.ext_getElem?
            intro i
            rw [List.getElem?_map]
            cases ei : (t0 :: ts)[i]? with
            | none =>
              have hi := List.getElem?_eq_none_iff.mp ei
              rw [hl] at hi
              rw [List.getElem?_eq_none hi]
              rfl
            | some t =>
              obtain ⟨l, e1, _, e3⟩ := ht' i t ei
              rw [e1, ← e3]
              rfl
          have hG : ∀ t ∈ t0 :: ts, SqT X.K G t ((k t).map V.int) := fun t hm => by
            obtain ⟨j, hj⟩ := List.mem_iff_getElem?.mp hm
            obtain ⟨l, e1, e2, e3⟩ := ht' j t hj
            rw [e3]
            exact e2
          refine cr_sortedT hr pins s σ H _ us Q I r ⟨a, t0, ts, k, rfl, Evl.ex_l e h1, fun t hm => Evl.ex_t e (hG t hm), ?_, fun ts' p hp hs hf => ?_⟩
          · rw [List.map_cons] at em
            exact (List.cons.inj em).1
          · have en : ts'.map k = sortB lexL ([] :: ks) := by
              refine sorted_uniq (lt := lexL) lexL_anti (List.pairwise_map.mpr hs) (sortB_sorted (fun a b h => ?_) (fun a b c x y => ?_) _) ((hp.map k).trans ?_)
              · rw [← lexL_eq] at h ⊢
                exact NtL.lex_asym _ _ h
              · rw [← lexL_eq] at x y ⊢
                exact NtL.lex_tr _ _ _ x y
              · rw [em]
                exact (sortB_perm _ _).symm
            have rp' := reps_sorted (T := Cx.T X) (G := G) (k := k) (ts := ts') fun t hm => hG t (hp.mem_iff.mp hm)
            rw [en] at rp'
            exact q p _ hf rp'
      · cases hz
  · cases hz
end
end Q
set_option maxRecDepth 100000
set_option maxHeartbeats 2000000
/-! QDict: tables asked, changed, made; several names at once, in general -/
namespace Q
open PySem PySem.Spec PyProof.Rows L2
open Evl (Ex)

section
variable {X : Cx} {c : Cn} {W : WX} {k j : Nat} {fr : Bool} {pos : Pos} {e o f : Expr} {es : List Expr} {fe fo ff : EF} {as : AF} {apos cpos : Pos}
/-! ### d.get(k, x) -/
def getAt (X : Cx) (G : Hp) (a : Addr) (H : Hp) : U → Prop
  | .dct ks us => OwnAt (Cx.T X) G H a (.dct ks us)
  | .dci ns us => OwnAt (Cx.T X) G H a (.dci ns us)
  | _ => False
theorem getAt_is {pins : List (Addr × Obj)} {σ : L2.St} {G H : Hp} {s : Shared} {a : Addr} {d : U} (I : Inv X pins σ H s) (ex : Ex G H) (h : getAt X G a H d) : s.TypeIs (.ref a) "dict" ∧ ∀ b, Value.ref a = .ref b → ∃ ob, s.heap.get? b = some ob ∧ ob.dict = none := by
  cases d with
  | dct ks us => exact ⟨t_isdict I ex h, t_nodict I ex h⟩
  | dci ns us => exact ⟨ti_isdict I h, ti_nodict I h⟩
  | _ => exact h.elim
theorem getAt_get (hr : Room k X.A) {pins : List (Addr × Obj)} {σ : L2.St} {G H : Hp} {s : Shared} {a : Addr} {d y z w : U} (I : Inv X pins σ H s) (ex : Ex G H) (h : getAt X G a H d) {yv zv : V} {u zu : Value} (ry : Rep (Cx.T X) G y yv) (rv : RelV yv u) (rz : Rep (Cx.T X) G z zv) (rzv : RelV zv zu)
    (hw : bGet [d, y, z] = some w) {E : Value → Shared → Prop} {Q : Value → Shared → Prop} (q : ∀ x v s', Inv X pins σ H s' → RelV v x → Rep (Cx.T X) G w v → Q x s') : wpAny (model X.prog X.w) X.A (call (.builtin "dict.get") [.ref a, u, zu]) Q E s := by
  cases d with
  | dct ks us =>
    cases y with
    | tup xs =>
      unfold bGet at hw
      simp only at hw
      split at hw
      · rename_i hk
        cases hw
        exact t_getD hr I ex h hk ry rv rz rzv q
      · cases hw
    | _ => cases hw
  | dci ns us =>
    cases y with
    | int n =>
      cases hw
      rw [rep_int] at ry
      subst ry
      exact ti_getD hr I h rv rz rzv q
    | _ => cases hw
  | _ => exact h.elim
theorem isTab_at {G : Hp} {d : U} {v : V} (hd : isTab d = true) (h : Rep (Cx.T X) G d v) : ∃ a, v = .ref a ∧ ∀ H', Ex G H' → getAt X G a H' d := by
  cases d with
  | dct ks us =>
    obtain ⟨a, nks, bs, vs, e1, h1, h2, h3, h4⟩ := rep_dct.1 h
    exact ⟨a, e1, fun H' ex => ⟨nks, bs, vs, ex _ _ h1, h2, h3, h4⟩⟩
  | dci ns us =>
    obtain ⟨a, vs, e1, h1, h2, h3⟩ := rep_dci.1 h
    exact ⟨a, e1, fun H' ex => ⟨vs, ex _ _ h1, h2, h3⟩⟩
  | _ => cases hd
theorem isTab_own {G H : Hp} {a : Addr} {d : U} (hd : isTab d = true) (h : OwnAt (Cx.T X) G H a d) : getAt X G a H d := by
  cases d with
  | dct ks us => exact h
  | dci ns us => exact h
  | _ => cases hd
theorem getAt.mono {G G' H : Hp} {a : Addr} {d : U} (e : Ex G G') (h : getAt X G a H d) : getAt X G' a H d := by
  cases d with
  | dct ks us => exact OwnAt.mono (T := Cx.T X) (u := .dct ks us) e rfl h
  | dci ns us => exact OwnAt.mono (T := Cx.T X) (u := .dci ns us) e rfl h
  | _ => exact h.elim
/-- d.get(k, x), d known -/
theorem qe_get (hr : Room k X.A) (ho : QE X c W o fo) (he : QE X c W e fe) (hf : QE X c W f ff)
    (m1 : attributeBase o "get" X.env (eval o X.env) = eval o X.env := by rfl)
    (m2 : ((backTo cpos (starEach [e, f] X.env)).all (fun x => !x.1) && (backToKw cpos (keywordEach [] X.env)).all (fun x => x.1.isSome)
      && decide (([e, f] : List Expr).length + ([] : List Keyword).length + (if ([] : List Keyword).isEmpty then 0 else 1) < 30)) = true := by rfl)
    (m3 : (apos.endLine == cpos.line) = true := by rfl) (m4 : backTo cpos (starEach [e, f] X.env) = [(false, eval e X.env), (false, eval f X.env)] := by rfl) :
    QE X c W (.Call (.Attribute o "get" apos) [e, f] [] cpos) (eGet fo fe ff) :=
  show PE X _ _ from ⟨fun pins s σ H Q I ⟨G, ρ, r, h⟩ => by
    refine wpAny_Call_method m1 m2 m3 PySem.F.plainAttrs_dict PySem.F.slot_dict_get PySem.F.type_dict_get (thn (ho.run pins s σ H _ I ⟨G, ρ, r, PQ.bind (rel := relU (Cx.T X)) h⟩) fun u s1 ⟨x, H1, I1, rx, G1, ρ1, d, e1, r1, l1, h1⟩ => ?_)
    split at h1
    · rename_i hd
      obtain ⟨a, ea, hg⟩ := isTab_at hd l1
      subst ea
      obtain rfl : u = Value.ref a := rx
      obtain ⟨t1, t2⟩ := getAt_is I1 r1.ex (hg H1 r1.ex)
      refine ⟨t1, t2, ?_⟩
      rw [m4]
      refine Calls.callWith_builtin rfl (Calls.evalArgs_plain (Calls.spliced_cons (thn (he.run pins s1 σ H1 _ I1 ⟨G1, ρ1, r1, PQ.bind (rel := relU (Cx.T X)) h1⟩) fun iv s2 ⟨y, H2, I2, ry, G2, ρ2, yu, e2, r2, l2, h2⟩ =>
        Calls.spliced_cons (thn (hf.run pins s2 σ H2 _ I2 ⟨G2, ρ2, r2, PQ.bind (rel := relU (Cx.T X)) h2⟩) fun fv s3 ⟨z, H3, I3, rz, G3, ρ3, zu, e3, r3, l3, h3⟩ => Calls.spliced_nil ?_))))
      obtain ⟨w, hw, h4⟩ := rs_ok h3
      exact getAt_get hr I3 r3.ex ((hg H3 ((e2.g.trans e3.g).trans r3.ex)).mono (e2.g.trans e3.g)) (Rep.mono e3.g _ _ l2) ry l3 rz hw fun x v s' I' rv rw' => ⟨v, H3, I', rv, h4 v G3 H3 Stp.refl r3 rw'⟩
    · exact h1.elim⟩
/-- d.get(k, x), d the table in the slot i -/
theorem qe_getM (hr : Room k X.A) (i : Nat) {y : Str} {py : Pos} (he : QE X c W e fe) (hf : QE X c W f ff) (hm : c.mu.contains i = true := by rfl) (hN : X.N[i]? = some y := by rfl)
    (hv : Vis X.env.scope y := by first | exact Or.inl rfl | exact Or.inr (Or.inl rfl) | exact Or.inr (Or.inr rfl)) (hd : (y == ("__debug__" : Str)) = false := by decide) (hcd : (y == ("__classdict__" : Str)) = false := by decide)
    (m1 : attributeBase (.Name y py) "get" X.env (eval (.Name y py) X.env) = eval (.Name y py) X.env := by rfl)
    (m2 : ((backTo cpos (starEach [e, f] X.env)).all (fun x => !x.1) && (backToKw cpos (keywordEach [] X.env)).all (fun x => x.1.isSome)
      && decide (([e, f] : List Expr).length + ([] : List Keyword).length + (if ([] : List Keyword).isEmpty then 0 else 1) < 30)) = true := by rfl)
    (m3 : (apos.endLine == cpos.line) = true := by rfl) (m4 : backTo cpos (starEach [e, f] X.env) = [(false, eval e X.env), (false, eval f X.env)] := by rfl) :
    QE X c W (.Call (.Attribute (.Name y py) "get" apos) [e, f] [] cpos) (eGetM i fe ff) :=
  show PE X _ _ from ⟨fun pins s σ H Q I ⟨G, ρ, r, h⟩ => by
    unfold eGetM at h
    split at h
    · rename_i d e0
      obtain ⟨a, e1, e2, e3, e4⟩ := r.ow i d e0 (isIn hm)
      split at h
      · rename_i hd0
        refine wpAny_Call_method m1 m2 m3 PySem.F.plainAttrs_dict PySem.F.slot_dict_get PySem.F.type_dict_get (thn ((pe_var hN hv hd hcd).run pins s σ H (fun x H1 => x = .ref a ∧ H1 = H) I ⟨.ref a, e1, rfl, rfl⟩) fun u s1 ⟨x, H1, I1, rx, ex, eH⟩ => ?_)
        subst ex eH
        obtain rfl : u = Value.ref a := rx
        obtain ⟨t1, t2⟩ := getAt_is I1 r.ex (isTab_own hd0 e4)
        refine ⟨t1, t2, ?_⟩
        rw [m4]
        refine Calls.callWith_builtin rfl (Calls.evalArgs_plain (Calls.spliced_cons (thn (he.run pins s1 σ H1 _ I1 ⟨G, ρ, r, PQ.bind (rel := relU (Cx.T X)) h⟩) fun iv s2 ⟨y, H2, I2, ry, G2, ρ2, yu, k2, r2, l2, h2⟩ =>
          Calls.spliced_cons (thn (hf.run pins s2 σ H2 _ I2 ⟨G2, ρ2, r2, PQ.bind (rel := relU (Cx.T X)) h2⟩) fun fv s3 ⟨z, H3, I3, rz, G3, ρ3, zu, k3, r3, l3, h3⟩ => Calls.spliced_nil ?_))))
        split at h3
        · rename_i d3 ed
          obtain ⟨a', f1, f2, f3, f4⟩ := r3.ow i _ ed (isIn hm)
          rw [e1] at f1
          cases f1
          obtain ⟨w, hw, h4⟩ := rs_ok h3
          have ht : isTab d3 = true := by
            cases d3 with
            | dct _ _ => rfl
            | dci _ _ => rfl
            | _ => cases hw
          exact getAt_get hr I3 r3.ex (isTab_own ht f4) (Rep.mono k3.g _ _ l2) ry l3 rz hw fun x v s' I' rv rw' => ⟨v, H3, I', rv, h4 v G3 H3 Stp.refl r3 rw'⟩
        · exact h3.elim
      · exact h.elim
    · exact h.elim⟩
/-! ### d[k] = v -/
def rPutO (X : Cx) : TSet := fun o i v H Q => ∃ (G : Hp) (a : Addr) (d y z d' : U), Ex G H ∧ G a = none ∧ o = .ref a ∧ OwnAt (Cx.T X) G H a d ∧ Rep (Cx.T X) G y i ∧ Rep (Cx.T X) G z v ∧ uPut d y z = some d' ∧ ∀ ob, OwnAt (Cx.T X) G (upd H a ob) a d' → Q (upd H a ob)
theorem set_own (hr : Room k X.A) : PSet X (rPutO X) := by
  intro pins s σ H o i v ov iv u Q I ro ri rv ⟨G, a, d, y, z, d', ex, hg, eo, ow, ry, rz, hp, q⟩
  subst eo
  obtain rfl : ov = Value.ref a := ro
  unfold uPut at hp
  split at hp
  · split at hp
    · rename_i hk
      rw [Bool.and_eq_true] at hk
      cases hp
      exact t_put hr I ex ow hg (by simpa using hk.2) hk.1 ry ri rz rv fun ob s' I' ow' => ⟨_, I', q ob ow'⟩
    · cases hp
  · split at hp
    · rename_i hl
      cases hp
      rw [rep_int] at ry
      subst ry
      exact ti_put hr I ow hl ri rz rv fun ob s' I' ow' => ⟨_, I', q ob ow'⟩
    · cases hp
  · cases hp
theorem qs_dput (hr : Room k X.A) (i : Nat) {x : Str} {p p2 : Pos} {ix : Expr} {fk : EF} (he : QE X c W e fe) (hk : QE X c W ix fk) (hm : c.mu.contains i = true := by rfl) (hN : X.N[i]? = some x := by rfl)
    (hv : Vis X.env.scope x := by first | exact Or.inl rfl | exact Or.inr (Or.inl rfl) | exact Or.inr (Or.inr rfl)) (hd : (x == ("__debug__" : Str)) = false := by decide) (hcd : (x == ("__classdict__" : Str)) = false := by decide)
    (ha : ∀ v, assign (.Subscript (.Name x p) ix p2) X.env v = (do
      let ov ← holding [v] (eval (.Name x p) X.env)
      let iv ← holding [v, ov] (eval ix X.env)
      standAt p2
      holding [v, ov, iv] (setItem ov iv v)
      release [v, ov, iv] []) := by intro _; rfl)
    (hs : swapsWithSole [.Subscript (.Name x p) ix p2] e pos.line X.env = pure false := by rfl) (hw : swappedStores [.Subscript (.Name x p) ix p2] e X.env = pure none := by rfl)
    (h1 : (assignEach [.Subscript (.Name x p) ix p2] X.env).map (·.2) = [assign (.Subscript (.Name x p) ix p2) X.env] := by rfl) :
    QS X c W fr (.Assign [.Subscript (.Name x p) ix p2] e pos) (sDPut i fk fe) :=
  PS.weak (ps_asg he (pg_sub (pe_var hN hv hd hcd) hk (set_own hr) ha) hs hw h1) fun D σ H ⟨G, ρ, r, h⟩ => by
    refine ⟨G, ρ, r, (PFl.of (rel := relU (Cx.T X)) h).imp fun y H1 ⟨G1, ρ1, w, s1, r1, l1, h1⟩ => ?_⟩
    split at h1
    · rename_i u0 e0
      obtain ⟨a, e1, e2, e3, e4⟩ := r1.ow i u0 e0 (isIn hm)
      refine ⟨.ref a, e1, G1, ρ1, r1, (PFl.of (rel := relU (Cx.T X)) h1).imp fun z H2 ⟨G2, ρ2, j, s2, r2, l2, h2⟩ => ?_⟩
      split at h2
      · rename_i d ex
        obtain ⟨a', f1, f2, f3, f4⟩ := r2.ow i _ ex (isIn hm)
        rw [e1] at f1
        cases f1
        split at h2
        · rename_i d' hp
          exact ⟨G2, a, d, j, w, d', r2.ex, f2, rfl, f4, l2, Rep.mono s2.g _ _ l1, hp, fun ob ow => h2 σ G2 _ (Ex.refl _) (r2.mutG (isIn hm) ex e1 ow)⟩
        · exact h2.elim
      · exact h2.elim
    · exact h1.elim
/-! ### {k: v, ..} -/
def flatP : List (V × V) → List V
  | [] => []
  | p :: r => p.1 :: p.2 :: flatP r
theorem tPairs_of {T : Tab} : ∀ {ps : List (EF × EF)} {σ : L2.St} {H : Hp} {Q : List V → Hp → Prop}, tq T c W (relUs T) (apr ps) σ H Q → tPairs (ps.map fun p => (tq T c W (relU T) p.1, tq T c W (relU T) p.2)) σ H fun xs H' => Q (flatP xs) H'
  | [], σ, H, Q, ⟨G, ρ, r, h⟩ => h [] G H Stp.refl r .nil
  | p :: ps, σ, H, Q, ⟨G, ρ, r, h⟩ => by
    refine ⟨G, ρ, r, (PQ.bind (rel := relU T) h).imp fun x H1 ⟨G1, ρ1, u, e1, r1, l1, h1⟩ => ?_⟩
    have h1' : PQ T c W (relUs T) G1 H1 σ ((p.2 ρ1).bind fun y ρ2 => ((apr ps ρ2).bind fun ys ρ3 => .ok (u :: y :: ys) ρ3)) Q := by
      revert h1
      show PQ T c W (relUs T) G1 H1 σ (((p.2 ρ1).bind fun y ρ2 => ((apr ps ρ2).bind fun ys ρ3 => Rs.ok (y :: ys) ρ3)).bind fun xs ρ2 => .ok (u :: xs) ρ2) Q → _
      cases p.2 ρ1 with
      | ok y ρ2 =>
        simp only [Rs.bind]
        cases apr ps ρ2 <;> exact id
      | exc C ρ2 => exact id
      | stuck => exact id
    refine ⟨G1, ρ1, r1, (PQ.bind (rel := relU T) h1').imp fun y H2 ⟨G2, ρ2, w, e2, r2, l2, h2⟩ => ?_⟩
    refine tPairs_of (Q := fun vs H' => Q (x :: y :: vs) H') ⟨G2, ρ2, r2, ?_⟩
    revert h2
    cases apr ps ρ2 with
    | ok ys ρ3 =>
      exact fun h2 vs G3 H3 e3 r3 l3 => h2 _ G3 H3 e3 r3 (.cons (Rep.mono (e2.g.trans e3.g) _ _ l1) (.cons (Rep.mono e3.g _ _ l2) l3))
    | exc C ρ3 => exact id
    | stuck => exact id
theorem storedAll_of {T : Tab} {G : Hp} : ∀ {us : List U} {ps : List (V × V)} {ws : List (Value × Value)} {ks vs : List U} {r : List U × List U} {nks : List NestedKey} {bs : List Addr} {xs : List V} {ys : List (NestedKey × Addr × Value)} {h : Heap} {P : Program} {w : World},
    Reps T G us (flatP ps) → VV ps ws → dMkA us (ks, vs) = some r → Ents nks bs xs ys → nkUs ks = some nks → Reps T G ks (bs.map V.ref) → Reps T G vs xs → (ys.map (·.1)).Nodup → (∀ u v nk, nkU u = some nk → Rep T G u v → ∃ b, v = .ref b ∧ (nestedKind P w).is h nk b) →
    ∃ zs, CarriesH (nestedKind P w) h ws zs ∧ ∃ nks' bs' xs', Ents nks' bs' xs' (storedAllH ys zs) ∧ nkUs r.1 = some nks' ∧ Reps T G r.1 (bs'.map V.ref) ∧ Reps T G r.2 xs' ∧ xs'.length ≤ xs.length + ps.length
  | us, [], ws, ks, vs, r, nks, bs, xs, ys, h, P, w, hu, hv, hm, he, h1, h2, h3, hn, hk => by
    cases hv
    cases us with
    | nil =>
      cases hm
      exact ⟨[], trivial, nks, bs, xs, he, h1, h2, h3, Nat.le_refl _⟩
    | cons u r =>
      obtain ⟨_, _, e, _⟩ := reps_cons.1 hu
      cases e
  | us, p :: ps, ws, ks, vs, r, nks, bs, xs, ys, h, P, w, hu, hv, hm, he, h1, h2, h3, hn, hk => by
    obtain ⟨ku, us1, rfl, rk, hu1⟩ := reps_cons' (show Reps T G us (p.1 :: p.2 :: flatP ps) from hu)
    obtain ⟨vu, us2, rfl, rv, hu2⟩ := reps_cons' hu1
    rw [dMkA] at hm
    split at hm
    · rename_i hkk
      obtain ⟨_, nk, _, hnk⟩ := hkU_nk hkk
      obtain ⟨b, eb, kis⟩ := hk ku p.1 nk hnk rk
      cases hv with
      | @cons _ q _ qs hq hv =>
        rw [eb] at rk
        obtain ⟨q1, q2⟩ := q
        obtain rfl : q1 = Value.ref b := by
          have := hq.1
          rw [eb] at this
          exact this
        obtain ⟨nks', bs', xs', p1, p2, p3, p4, p5⟩ := ents_put hnk rk hq.2 rv he h1 h2 h3
        have hn' : ((sto nk b q2 ys).map (·.1)).Nodup := by
          rw [← storedH_sto hn]
          have : ∀ (zs : List (NestedKey × Addr × Value)), (zs.map (·.1)).Nodup → ((storedH zs nk b q2).map (·.1)).Nodup := fun zs hz => by
            rw [storedH_sto hz]
            have sub : ∀ (l : List (NestedKey × Addr × Value)) (x : NestedKey), x ∈ (sto nk b q2 l).map (·.1) → x = nk ∨ x ∈ l.map (·.1) := by
              intro l
              induction l with
              | nil => intro x hx; simpa [sto] using hx
              | cons y l ih =>
                intro x hx
                rw [sto] at hx
                split at hx
                · rw [List.map_cons] at hx
                  exact .inr hx
                · rw [List.map_cons, List.mem_cons] at hx
                  rcases hx with hx | hx
                  · exact .inr (by rw [List.map_cons, List.mem_cons]; exact .inl hx)
                  · rcases ih x hx with z | z
                    · exact .inl z
                    · exact .inr (by rw [List.map_cons, List.mem_cons]; exact .inr z)
            induction zs with
            | nil => simp [sto]
            | cons y l ih =>
              rw [List.map_cons, List.nodup_cons] at hz
              rw [sto]
              split
              · rw [List.map_cons, List.nodup_cons]
                exact hz
              · rename_i hne
                rw [List.map_cons, List.nodup_cons]
                refine ⟨fun hx => ?_, ih hz.2⟩
                rcases sub l _ hx with z | z
                · exact hne z
                · exact hz.1 z
          exact this ys hn
        obtain ⟨zs, c1, nks2, bs2, xs2, c2, c3, c4, c5, c6⟩ := storedAll_of (h := h) (P := P) (w := w) hu2 hv hm p2 p1 p3 p4 hn' hk
        refine ⟨(nk, b, q2) :: zs, ⟨rfl, rfl, kis, c1⟩, nks2, bs2, xs2, ?_, c3, c4, c5, ?_⟩
        · show Ents _ _ _ (storedAllH (storedH ys nk b q2) zs)
          rw [storedH_sto hn]
          exact c2
        · rw [List.length_cons]
          omega
    · cases hm
end
end Q
set_option maxRecDepth 100000
set_option maxHeartbeats 2000000
/-! QDict2: tables made; several names at once, in general; ranges; order of tuples -/
namespace Q
open PySem PySem.Spec PyProof.Rows L2
open Evl (Ex)

theorem dict_walkH {prog : Program} {w : World} {K : Type} [DecidableEq K] {knd : HeapKind prog w K} {A : Around} {E : Value → Shared → Prop} {s : Shared} {env : Env} {keys : List (Option Expr)} {values : List Expr} {pos : Pos} {Q : Value → Shared → Prop} (hu : knd.room A)
    (hall : keys.all (·.isSome) = true) (hl : keys.length = values.length) (h0 : keys ≠ []) (hlen : keys.length ≤ 15)
    (h : wpAny (model prog w) A (evalPairs (pairTrees keys values env pos)) (fun vs s₁ => ∃ ps, CarriesH knd s₁.heap vs ps ∧ s₁.heap.DictOfH knd s.heap.objs.size [] ∧
      ∀ h' tk, h'.DictOfH knd s.heap.objs.size (storedAllH [] ps) → Heap.SameBut s.heap.objs.size s₁.heap h' → Q (.ref s.heap.objs.size) { s₁ with heap := h', toks := tk }) E
      { s with heap := s.heap.push { cls := .type "dict", data := .dict #[] } }) :
    wpAny (model prog w) A (eval (.Dict keys values pos) env) Q E s := by
  have hn := pairTrees_length keys values env pos hall hl
  have hne : pairTrees keys values env pos ≠ [] := by
    intro he
    rw [he] at hn
    exact h0 (List.length_eq_zero_iff.mp hn.symm)
  rw [arm_eval_Dict, zip_pairTrees keys values env pos hall hl, dictDisplay_pairs _ hne (by rw [hn]; omega)]
  exact wpAny_bind (wpAny_standAt (wpAny_bind (wpAny_subDictH (knd := knd) (Q := fun d s' => wpAny (model prog w) A (pure (Value.ref d)) Q E s') hu (by rw [hn]; exact hlen)
    (wpAny_mono h (fun vs s₁ h₁ => by obtain ⟨ps, hc, hm, hq⟩ := h₁; exact ⟨ps, hc, hm, fun h' tk a b => wpAny_pure (hq h' tk a b)⟩) fun _ _ e => e))))

section
variable {X : Cx} {c : Cn} {W : WX} {k j : Nat} {fr : Bool} {pos : Pos} {e o f : Expr} {es : List Expr} {fe fo ff : EF} {as : AF} {apos cpos : Pos}
theorem ents_nil {bs : List Addr} {vs : List V} {ys : List (NestedKey × Addr × Value)} (h : Ents [] bs vs ys) : bs = [] ∧ vs = [] ∧ ys = [] := by
  cases h
  exact ⟨rfl, rfl, rfl⟩
theorem vv_len : ∀ {ps : List (V × V)} {ws : List (Value × Value)}, VV ps ws → ws.length = ps.length
  | _, _, .nil => rfl
  | _, _, .cons _ t => by rw [List.length_cons, List.length_cons, vv_len t]
/-- {k: v, ..} -/
theorem qf_dct {keys : List (Option Expr)} {values : List Expr} (ps : List (EF × EF)) (hr : Room k X.A) (h : PPs X pos keys values (ps.map fun p => (tq (Cx.T X) c W (relU (Cx.T X)) p.1, tq (Cx.T X) c W (relU (Cx.T X)) p.2)))
    (hall : keys.all (·.isSome) = true := by rfl) (hl : keys.length = values.length := by rfl) (h0 : keys ≠ [] := by exact List.cons_ne_nil _ _) (h15 : keys.length ≤ 15 := by decide) (hps : ps.length ≤ 15 := by decide) : QF X c W (.Dict keys values pos) (eDct ps) :=
  show PE X _ _ from ⟨fun pins s σ H Q I ⟨G, ρ, r, h1⟩ => by
    have hn := I.hok.fresh (Nat.le_refl s.heap.objs.size)
    have hsm : (s.heap.objs.size == sysModules) = false := beq_eq_false_iff_ne.mpr (Ne.symm (Nat.ne_of_lt I.big))
    have stab : ∀ (nks : List NestedKey) (bs : List Addr) (vs : List V) (h1 h2 : Heap), DictAt X.prog X.w s.heap.objs.size nks bs vs h1 → (∀ o, h1.get? s.heap.objs.size = some o → h2.get? s.heap.objs.size = some o) → DictAt X.prog X.w s.heap.objs.size nks bs vs h2 := by
      rintro nks bs vs h1 h2 ⟨k1, k2, zs, k3, o, es, ep, k4, k5⟩ hk
      exact ⟨k1, k2, zs, k3, o, es, ep, hk o k4, k5⟩
    have hg0 : (s.heap.push { cls := .type "dict", data := .dict #[] }).get? s.heap.objs.size = some { cls := .type "dict", data := .dict #[] } := Heap.get?_push_size _ rfl
    have I1 := I.laid (a := s.heap.objs.size) (o := .ext (DictAt X.prog X.w s.heap.objs.size [] [] [])) (h' := s.heap.push { cls := .type "dict", data := .dict #[] }) (t' := s.toks) (fun _ _ q => Heap.get?_push_of_some _ q) (Nat.le_refl _)
      ⟨⟨hsm, Nat.zero_le _, [], .nil, _, #[], 0, hg0, ⟨rfl, rfl, rfl⟩, rfl, rfl, List.nodup_nil⟩, ⟨_, hg0⟩, stab [] [] []⟩
    obtain ⟨r1, st1, p0, e0, g1, n1, n2, _, n4, n5⟩ := relF_newG (Hs := H) (u := .dct [] []) r hn (⟨[], [], [], upd_same, rfl, .nil, .nil⟩ : OwnAt (Cx.T X) G _ _ (.dct [] [])) (fun b o q => ⟨o, q⟩)
    cases e0
    refine dict_walkH (knd := nestedKind X.prog X.w) (by show X.A.units + 8 < cLine; have := hr.un; omega) hall hl h0 h15 ?_
    have tp : tq (Cx.T X) c W (relUs (Cx.T X)) (apr ps) σ (upd H s.heap.objs.size (.ext (DictAt X.prog X.w s.heap.objs.size [] [] []))) fun xs H2 => ∃ G2 us ρ2, apr ps ρ = .ok us ρ2 ∧ Stp c σ G (upd H s.heap.objs.size (.ext (DictAt X.prog X.w s.heap.objs.size [] [] []))) G2 H2 ∧ R (Cx.T X) c G2 ρ2 σ H2 ∧ Reps (Cx.T X) G2 us xs := by
      refine ⟨G, ρ, r1, ?_⟩
      unfold eDct at h1
      cases ha : apr ps ρ with
      | ok us ρ2 => exact fun v G' H' e' r' l' => ⟨G', us, ρ2, rfl, e', r', l'⟩
      | exc C ρ2 =>
        rw [ha] at h1
        exact fun G' H' d e' => h1 G' H' d (st1.trans e')
      | stuck =>
        rw [ha] at h1
        exact h1
    refine thn (h.run pins _ σ _ _ I1 (tPairs_of tp)) fun ws s2 ⟨vps, H2, I2, rel, G2, us, ρ2, ea, e2, r2, l2⟩ => ?_
    have hDt : ∀ p ∈ c.tb, p.1 ≠ s.heap.objs.size := tne0 r.th hn
    have p2 : H2 s.heap.objs.size = some (.ext (DictAt X.prog X.w s.heap.objs.size [] [] [])) := e2.k _ _ upd_same n5 (fun ps z => by cases z)
    have g2 : G2 s.heap.objs.size = none := e2.n _ _ upd_same g1
    obtain ⟨hs, hl0, ys, he, ob, es, ep, k1, k2, k3, k4, k5⟩ := (I2.hok _ _ p2).1
    obtain ⟨_, _, ey⟩ := ents_nil he
    subst ey
    unfold eDct at h1
    rw [ea] at h1
    simp only [Rs.bind] at h1
    split at h1
    · rename_i rr hm
      obtain ⟨zs, c1, nks', bs', xs', c2, c3, c4, c5, c6⟩ := storedAll_of (h := s2.heap) (P := X.prog) (w := X.w) l2 rel hm .nil rfl .nil .nil List.nodup_nil (fun u v nk hk hr => key_is I2 r2.ex hk hr)
      refine ⟨zs, c1, ⟨ob, es, ep, k1, k2, k3, k4, by simp, k5⟩, fun h' tk dd sb => ?_⟩
      obtain ⟨o', es', ep', q1, q2, q3, q4, _, q6⟩ := dd
      have hxl : xs'.length ≤ sizeLine := by
        have hlen := vv_len rel
        have hz : zs.length = ws.length := c1.length
        have : es'.toList.length = xs'.length := by rw [q4, List.length_map, ents_len c2]
        have hbound : xs'.length ≤ 0 + vps.length := c6
        have hlw : vps.length = ps.length := by
          have hl1 := l2.length
          have : ∀ (ps : List (EF × EF)) ρ us ρ', apr ps ρ = .ok us ρ' → us.length = 2 * ps.length := by
            intro ps
            induction ps with
            | nil => intro ρ us ρ' h; cases h; rfl
            | cons p ps ih =>
              intro ρ us ρ' h
              rw [apr] at h
              unfold aCons at h
              cases h1 : p.1 ρ with
              | ok u ρ1 =>
                rw [h1] at h
                simp only [Rs.bind] at h
                cases h2 : p.2 ρ1 with
                | ok w ρ2 =>
                  rw [h2] at h
                  simp only at h
                  cases h3 : apr ps ρ2 with
                  | ok vs ρ3 =>
                    rw [h3] at h
                    cases h
                    have := ih _ _ _ h3
                    simp only [List.length_cons]
                    omega
                  | exc C ρ3 =>
                    rw [h3] at h
                    cases h
                  | stuck =>
                    rw [h3] at h
                    cases h
                | exc C ρ2 =>
                  rw [h2] at h
                  cases h
                | stuck =>
                  rw [h2] at h
                  cases h
              | exc C ρ1 =>
                rw [h1] at h
                cases h
              | stuck =>
                rw [h1] at h
                cases h
          have e5 := this _ _ _ _ ea
          have e6 : ∀ l : List (V × V), (flatP l).length = 2 * l.length := by
            intro l
            induction l with
            | nil => rfl
            | cons p l ih => rw [flatP, List.length_cons, List.length_cons, ih, List.length_cons]; omega
          rw [e6] at hl1
          omega
        exact Nat.le_trans hbound (Nat.le_trans (by omega : 0 + vps.length ≤ 1000) (by decide))
      have ow : OwnAt (Cx.T X) G2 (upd H2 s.heap.objs.size (.ext (DictAt X.prog X.w s.heap.objs.size nks' bs' xs'))) s.heap.objs.size (.dct rr.1 rr.2) := ⟨nks', bs', xs', upd_same, c3, c4, c5⟩
      have I3 : Inv X pins σ (upd H2 s.heap.objs.size (.ext (DictAt X.prog X.w s.heap.objs.size nks' bs' xs'))) { s2 with heap := h', toks := tk } :=
        d_write I2 (by rw [p2]; exact True.intro) sb ⟨o', q1⟩ ⟨⟨hsm, hxl, _, c2, o', es', ep', q1, q2, q3, q4, q6⟩, ⟨o', q1⟩, stab _ _ _⟩
      refine ⟨.ref s.heap.objs.size, _, I3, rfl, h1 _ G2 _ ⟨e2.g, fun a oo q m t => ?_, fun a oo q z => ?_, fun a oo q => ?_⟩ (r2.free hDt (fun q z => by rw [p2] at z; exact code_not (Option.some.inj z)) g2 n1 n5) ⟨s.heap.objs.size, rfl, g2, n1, n2, ow, hn, n5⟩⟩
      · have ha : a ≠ s.heap.objs.size := ne_of_none q hn
        rw [upd_ne ha]
        exact e2.k a oo (by rw [upd_ne ha]; exact q) m t
      · have ha : a ≠ s.heap.objs.size := ne_of_none q hn
        exact e2.n a oo (by rw [upd_ne ha]; exact q) z
      · have ha : a ≠ s.heap.objs.size := ne_of_none q hn
        rw [upd_ne ha]
        exact e2.d a oo (by rw [upd_ne ha]; exact q)
    · exact h1.elim⟩
/-! ### several names at once, in general: the tuple is made, then unpacked -/
def gNamesV : List Nat → TGs
  | [] => gNil
  | i :: is => gCons (gName i) (gNamesV is)
theorem gNamesV_of : ∀ {is : List Nat} {vs : List V} {σ : L2.St} {H : Hp} {Q : L2.St → Hp → Prop}, vs.length = is.length → Q (setV σ is vs) H → gNamesV is vs σ H Q
  | [], [], σ, H, Q, _, q => ⟨rfl, q⟩
  | i :: is, v :: vs, σ, H, Q, hl, q => ⟨v, vs, rfl, gNamesV_of (is := is) (Nat.succ.inj hl) q⟩
theorem relK.step {T : Tab} {Hs G H G' H' : Hp} {σ : L2.St} (t : LamX.Tabs c.tb H) (s : Stp c σ G H G' H') : ∀ {ks : List Bool} {us : List U} {vs : List V}, relK T c Hs ks G H σ us vs → relK T c Hs ks G' H' σ us vs
  | [], us, vs, h => h
  | false :: ks, us, vs, ⟨u, ur, w, vr, e1, e2, h1, h2⟩ => ⟨u, ur, w, vr, e1, e2, Rep.mono s.g _ _ h1, relK.step t s h2⟩
  | true :: ks, us, vs, ⟨u, ur, w, vr, e1, e2, h1, hn, h2⟩ => ⟨u, ur, w, vr, e1, e2, h1.step t s, hn, relK.step t s h2⟩
theorem tq_parT {ks : List Bool} {is : List Nat} {D : Ends} {σ : L2.St} {H : Hp} (h0 : c.da = none ∨ is.contains 0 = false) (hf : fitK c.mu ks is = true) (h : tqs (Cx.T X) c W fr (sPar (gNs is) as) D σ H) :
    tqK (Cx.T X) c W ks as σ H fun vs H1 => vs.length = ks.length ∧ ∀ p, H1 p = none → D.nx (setV σ is vs) (upd H1 p (.tup vs)) := by
  obtain ⟨G, ρ, r, h⟩ := h
  refine ⟨G, ρ, r, (PFl.of (rel := relKs (Cx.T X) c H ks) h).imp fun vs H1 ⟨G1, ρ1, us, e1, r1, l1, h1⟩ => ⟨relK.len l1, fun p hp => ?_⟩⟩
  split at h1
  · rename_i ρ2 e2
    have gn := Grow.new (o := .tup vs) r1.ex hp
    have l2 := relK.step r1.th (gn.stp (c := c) (σ := σ)) l1
    exact h1 _ _ _ gn.g (store_all h0 hf (r1.grow gn) l2 (relK.off l2) e2)
  · exact h1.elim
theorem fitK_len {mu : List Nat} : ∀ {ks : List Bool} {is : List Nat}, fitK mu ks is = true → ks.length = is.length
  | [], [], _ => rfl
  | k :: ks, i :: is, h => by
    simp only [fitK, Bool.and_eq_true] at h
    rw [List.length_cons, List.length_cons, fitK_len h.2]
  | [], _ :: _, h => by cases h
  | _ :: _, [], h => by cases h
theorem qs_parN {ks : List Bool} (is : List Nat) {tgs : List Expr} {pt pt2 : Pos} {kt kt2 : Nat} (calm : X.calm = true) (hg : PGs X tgs (gNamesV is)) (ha : QK X c W ks es as) (h0 : c.da = none ∨ is.contains 0 = false := by first | exact .inl rfl | exact .inr rfl | exact .inl (by assumption)) (hf : fitK c.mu ks is = true := by rfl)
    (hlen : is.length ≤ 100 := by decide) (hn : (assignEach tgs X.env).length = is.length := by rfl) (hst : (assignEach tgs X.env).findIdx? (·.1) = none := by rfl)
    (hs : swapsWithSole [.Tuple tgs kt pt] (.Tuple es kt2 pt2) pos.line X.env = pure false := by rfl) (hw : swappedStores [.Tuple tgs kt pt] (.Tuple es kt2 pt2) X.env = pure none := by rfl)
    (h1 : (assignEach [.Tuple tgs kt pt] X.env).map (·.2) = [assign (.Tuple tgs kt pt) X.env] := by rfl) : QS X c W fr (.Assign [.Tuple tgs kt pt] (.Tuple es kt2 pt2) pos) (sPar (gNs is) as) :=
  PS.weak (ps_asg (pe_tup ha) (pg_tup calm hg hn hst) hs hw h1) fun D σ H h => by
    obtain ⟨G, ρ, r, h⟩ := tq_parT h0 hf h
    refine ⟨G, ρ, r, h.imp fun vs H1 ⟨hl, q⟩ => ⟨?_, fun p hp => ⟨p, vs, rfl, .inl (.inl upd_same), hl.trans (fitK_len hf), gNamesV_of (hl.trans (fitK_len hf)) (q p hp)⟩⟩⟩
    rw [hl, fitK_len hf]
    exact Nat.le_trans hlen (by decide)
/-! ### x[k] op= e, x a list of its own -/
def rGetO (X : Cx) : V → V → Hp → VK → Prop := fun o i H Q => ∃ (G : Hp) (a : Addr) (d y z : U), Ex G H ∧ o = .ref a ∧ OwnAt (Cx.T X) G H a d ∧ Rep (Cx.T X) G y i ∧ uIx d y = some z ∧ ∀ v, Rep (Cx.T X) G z v → Q v H
end
end Q
set_option maxRecDepth 100000
set_option maxHeartbeats 2000000
/-! QRange: ranges with a step, ranges as lists and tuples; is None -/
namespace Q
open PySem PySem.Spec PyProof.Rows L2
open Evl (Ex)
theorem rangeN_ok {i j c : Int} {n : Nat} (h : rangeN i j c = some n) : RgC i j c n := by
  unfold rangeN at h
  split at h
  · rename_i hb
    split at h
    · rename_i hc
      subst hc
      cases h
      exact RgC.neg (by omega) (by omega) (by omega) (by omega)
    · split at h
      · rename_i hc
        cases h
        refine ⟨by omega, by omega, ?_, ?_⟩
        · unfold Builtin.Range.small Builtin.Range.rangeSize
          simp only [Builtin.Range.rangeFitsLong, Bool.and_eq_true, Bool.or_eq_true, decide_eq_true_eq, beq_iff_eq, show c > 0 from hc.1, if_true]
          have hd : (j - i - 1) / c ≤ (j - i - 1) ∨ j - i - 1 < 0 := by
            by_cases h0 : 0 ≤ j - i - 1
            · exact .inl (Int.ediv_le_self _ h0)
            · exact .inr (by omega)
          have hp : i < j → 0 ≤ (j - i - 1) / c := fun _ => Int.ediv_nonneg (by omega) (by omega)
          have hm : (j - i - 1) / c * c ≤ j - i - 1 := Int.ediv_mul_le _ (by omega)
          split
          · rename_i hlt
            have := hp hlt
            generalize hq : (j - i - 1) / c = q at *
            have hmul : q * c ≤ 2 ^ 61 := by omega
            have hmul2 : 0 ≤ q * c := Int.mul_nonneg this (by omega)
            have hadd : (q + 1) * c = q * c + c := by rw [Int.add_mul, Int.one_mul]
            refine ⟨?_, ?_⟩ <;> omega
          · refine ⟨?_, ?_⟩ <;> omega
        · unfold Builtin.Range.rangeSize
          rw [if_pos hc.1]
          split
          · have : 0 ≤ (j - i - 1) / c := Int.ediv_nonneg (by omega) (by omega)
            omega
          · rfl
      · cases h
  · cases h
theorem rangeC_get : ∀ (n : Nat) (lo c : Int) (i : Nat), i < n → (rangeC lo c n)[i]? = some (.int (lo + (i : Nat) * c))
  | n + 1, lo, c, 0, _ => by
    rw [rangeC]
    simp
  | n + 1, lo, c, i + 1, h => by
    rw [rangeC, List.getElem?_cons_succ, rangeC_get n (lo + c) c i (by omega)]
    congr 2
    rw [Int.natCast_add, Int.add_mul]
    omega
theorem rangeC_len : ∀ (n : Nat) (lo c : Int), (rangeC lo c n).length = n
  | 0, _, _ => rfl
  | n + 1, lo, c => by rw [rangeC, List.length_cons, rangeC_len n]
theorem it_rangeC {T : Tab} {G : Hp} {lo c : Int} {n : Nat} : ItOk T G (Itc lo c n) (rangeC lo c n) := fun G' H' e1 e2 i => by
  rw [rangeC_len]
  refine ⟨fun q _ => q, fun u hu => ?_⟩
  have hlt : i < n := by
    have := (List.getElem?_eq_some_iff.mp hu).1
    rwa [rangeC_len] at this
  rw [rangeC_get n lo c i hlt] at hu
  cases hu
  refine ⟨hlt, fun z H'' y => ?_⟩
  obtain ⟨rfl, rfl⟩ := y
  exact ⟨G', Grow.refl e2, rep_int.2 rfl⟩
section
variable {X : Cx} {c : Cn} {W : WX} {k : Nat} {pos : Pos} {tg : Expr}
theorem reps3 {T : Tab} {G : Hp} {u w x : U} {vs : List V} (h : Reps T G [u, w, x] vs) : ∃ v y z, vs = [v, y, z] ∧ Rep T G u v ∧ Rep T G w y ∧ Rep T G x z := by
  obtain ⟨v, r, e, h1, h2⟩ := reps_cons.1 h
  obtain ⟨y, z, rfl, h3, h4⟩ := reps2 h2
  exact ⟨v, y, z, e, h1, h3, h4⟩
theorem qi_range3 {a b d : Expr} {as : AF} {p : Pos} (hm : X.mg "range" = none) (ha : QA X c W [a, b, d] as) (hg : Gl X "range" := by rfl) (hs : starEach [a, b, d] X.env = (false, eval a X.env) :: starEach [b, d] X.env := by rfl) (hpl : (backTo pos (starEach [b, d] X.env)).any (·.1) = false := by rfl) :
    QI X c W tg (.Call (.Name "range" p) [a, b, d] [] pos) (iRange3 as) :=
  PI.weak (pi_range3 hg hm ha hs hpl) fun σ H Rk ⟨G, ρ, r, h⟩ => by
    refine ⟨G, ρ, r, (PQ.bind (rel := relUs (Cx.T X)) h).imp fun x H1 ⟨G1, ρ1, u, e1, r1, l1, h1⟩ => ?_⟩
    split at h1
    · rename_i i j d
      split at h1
      · rename_i n hn
        obtain ⟨v, y, z, e2, l2, l3, l4⟩ := reps3 l1
        rw [rep_int] at l2 l3 l4
        subst e2 l2 l3 l4
        exact ⟨i, j, d, n, rfl, rangeN_ok hn, h1 _ G1 H1 Stp.refl r1 it_rangeC⟩
      · exact h1.elim
    · exact h1.elim
/-! range(..) made into a list, a tuple -/
theorem vals_rgC {lo c : Int} {n : Nat} {acc : Array Value} (h : ItemsOf (fun i v => ∃ t, v = .int (lo + i * c) t) acc n) : ∀ m : Nat, m ≤ n → Vals (((List.range n).drop m).map fun i => V.int (lo + (i : Nat) * c)) (acc.toList.drop m) := by
  intro m hm
  induction hk : n - m generalizing m with
  | zero =>
    have : m = n := by omega
    subst this
    rw [List.drop_of_length_le (by simp), List.drop_of_length_le (by rw [Array.length_toList, h.1]; exact Nat.le_refl _)]
    exact .nil
  | succ k ih =>
    have hlt : m < n := by omega
    have hl : m < acc.toList.length := by rw [Array.length_toList, h.1]; exact hlt
    rw [List.drop_eq_getElem_cons (by simpa using hlt), List.drop_eq_getElem_cons hl, List.map_cons]
    refine .cons ?_ (ih (m + 1) (by omega) (by omega))
    obtain ⟨t, e⟩ := h.2 m acc.toList[m] (by rw [← Array.getElem?_toList, List.getElem?_eq_getElem hl])
    rw [List.getElem_range, e]
    exact ⟨t, rfl⟩
/-- the arguments of a range, as values -/
def RgV : List V → Int → Int → Int → Prop
  | [.int j], i', j', c' => i' = 0 ∧ j' = j ∧ c' = 1
  | [.int i, .int j], i', j', c' => i' = i ∧ j' = j ∧ c' = 1
  | [.int i, .int j, .int c], i', j', c' => i' = i ∧ j' = j ∧ c' = c
  | _, _, _, _ => False
theorem rg_called {prog : Program} {w : World} {A : Around} {vs : List V} {us : List Value} {i j d : Int} {s : Shared} {E : Value → Shared → Prop} {Q : Value → Shared → Prop} (hv : Vals vs us) (h : RgV vs i j d) (hc : d ≠ 0) (hd : d.natAbs < 1073741824)
    (q : ∀ tk t u v, Q (.ref s.heap.objs.size) { s with heap := s.heap.push { cls := .type "range", data := .fields #[.int i t, .int j u, .int d v] }, toks := tk }) :
    wpAny (model prog w) A (call (.type "range") us) Q E s := by
  unfold RgV at h
  split at h
  · obtain ⟨rfl, rfl, rfl⟩ := h
    cases hv with
    | cons a b =>
      cases b
      obtain ⟨t, rfl⟩ := a
      exact call_range_1 (q _ _ _ _)
  · obtain ⟨rfl, rfl, rfl⟩ := h
    cases hv with
    | cons a b =>
      cases b with
      | cons b c =>
        cases c
        obtain ⟨t, rfl⟩ := a
        obtain ⟨t', rfl⟩ := b
        exact call_range_2 (q _ _ _ _)
  · obtain ⟨rfl, rfl, rfl⟩ := h
    cases hv with
    | cons a b =>
      cases b with
      | cons b c =>
        cases c with
        | cons c d =>
          cases d
          obtain ⟨t, rfl⟩ := a
          obtain ⟨t', rfl⟩ := b
          obtain ⟨t'', rfl⟩ := c
          exact call_range_3 hc (q _ _ _ _) (.inl (PyProof.noPylong_small hd))
  · exact h.elim
def rgVs (i c : Int) (n : Nat) : List V := (List.range n).map fun m => V.int (i + (m : Nat) * c)
theorem rgVs_len (i c : Int) (n : Nat) : (rgVs i c n).length = n := by
  unfold rgVs
  rw [List.length_map, List.length_range]
def tLRg (ta : TA) : TE := fun σ H Q => ta σ H fun vs H1 => ∃ i j d n, RgV vs i j d ∧ RgC i j d n ∧ n ≤ 100000 ∧ ∀ p, H1 p = none → Q (.ref p) (upd H1 p (.lst (rgVs i d n)))
def tTRg (ta : TA) : TE := fun σ H Q => ta σ H fun vs H1 => ∃ i j d n, RgV vs i j d ∧ RgC i j d n ∧ n ≤ 100000 ∧ ∀ p, H1 p = none → Q (.ref p) (upd H1 p (.tup (rgVs i d n)))
theorem vals_rgVs {i c : Int} {n : Nat} {acc : Array Value} (h : ItemsOf (fun m v => ∃ t, v = .int (i + m * c) t) acc n) : Vals (rgVs i c n) acc.toList := by
  have := vals_rgC h 0 (Nat.zero_le _)
  rw [List.drop_zero, List.drop_zero] at this
  exact this
theorem pe_listRgA {a : Expr} {es : List Expr} {ta : TA} {p1 p2 ip : Pos} (hc : X.calm = true) (hgl : Gl X "list") (hml : X.mg "list" = none) (hgr : Gl X "range") (hmr : X.mg "range" = none) (ha : PA X (a :: es) ta)
    (hs : starEach (a :: es) X.env = (false, eval a X.env) :: starEach es X.env) (hpl : (backTo ip (starEach es X.env)).any (·.1) = false) (na : starEach [.Call (.Name "range" p2) (a :: es) [] ip] X.env = (false, eval (.Call (.Name "range" p2) (a :: es) [] ip) X.env) :: starEach [] X.env) :
    PE X (.Call (.Name "list" p1) [.Call (.Name "range" p2) (a :: es) [] ip] [] pos) (tLRg ta) := by
  refine ⟨fun pins s σ H Q I h => ?_⟩
  refine Call_ (ld_blt I hgl hml boot_list (PyProof.Rows.callWith_type1 (args_cons (Call_ (ld_blt I hgr hmr boot_range (PyProof.Rows.callWith_type1 (thn (ha.run ip pins s σ H _ I h) fun us s1 ⟨vs, H1, I1, r1, q1⟩ => ?_) hs hpl))) na) na))
  obtain ⟨i, j, d, n, hv, ⟨c0, c1, c2, c3⟩, hn, q⟩ := q1
  refine rg_called r1 hv c0 c1 fun tk t u v => args_nil ?_
  have I2 : Inv X pins σ H1 { s1 with heap := s1.heap.push { cls := .type "range", data := .fields #[.int i t, .int j u, .int d v] }, toks := tk } := I1.kept (t' := tk) fun b o e => Heap.get?_push_of_some _ e
  refine call_list_range (n := n) (I2.ok.hd hc) (IsRange.new _ _ _ _ _ _ _) c2 c3 (by omega) fun h' tk' acc c' hk e' hi => ?_
  refine ⟨.ref _, upd H1 _ (.lst (rgVs i d n)), I2.laid hk (Nat.le_refl _) (show ObjOk X.prog X.w _ _ _ (.lst (rgVs i d n)) from ⟨?_, acc.toList, c', vals_rgVs hi, ?_⟩), rfl, q _ (I2.hok.fresh (Nat.le_refl _))⟩
  · rw [rgVs_len]
    exact Nat.le_trans hn (by decide)
  · rw [Array.toArray_toList]
    exact e'
theorem pe_tupRgA {a : Expr} {es : List Expr} {ta : TA} {p1 p2 ip : Pos} (hc : X.calm = true) (hgl : Gl X "tuple") (hml : X.mg "tuple" = none) (hgr : Gl X "range") (hmr : X.mg "range" = none) (ha : PA X (a :: es) ta)
    (hs : starEach (a :: es) X.env = (false, eval a X.env) :: starEach es X.env) (hpl : (backTo ip (starEach es X.env)).any (·.1) = false) (na : starEach [.Call (.Name "range" p2) (a :: es) [] ip] X.env = (false, eval (.Call (.Name "range" p2) (a :: es) [] ip) X.env) :: starEach [] X.env) :
    PE X (.Call (.Name "tuple" p1) [.Call (.Name "range" p2) (a :: es) [] ip] [] pos) (tTRg ta) := by
  refine ⟨fun pins s σ H Q I h => ?_⟩
  refine Call_ (ld_blt I hgl hml boot_tuple (PyProof.Rows.callWith_type1 (args_cons (Call_ (ld_blt I hgr hmr boot_range (PyProof.Rows.callWith_type1 (thn (ha.run ip pins s σ H _ I h) fun us s1 ⟨vs, H1, I1, r1, q1⟩ => ?_) hs hpl))) na) na))
  obtain ⟨i, j, d, n, hv, ⟨c0, c1, c2, c3⟩, hn, q⟩ := q1
  refine rg_called r1 hv c0 c1 fun tk t u v => args_nil ?_
  have I2 : Inv X pins σ H1 { s1 with heap := s1.heap.push { cls := .type "range", data := .fields #[.int i t, .int j u, .int d v] }, toks := tk } := I1.kept (t' := tk) fun b o e => Heap.get?_push_of_some _ e
  refine call_tuple_range (n := n) (I2.ok.hd hc) (IsRange.new _ _ _ _ _ _ _) c2 c3 (by omega) fun h' tk' acc hk hi => ?_
  have I3 : Inv X pins σ H1 { s1 with heap := h', toks := tk' } := I2.kept hk
  refine ⟨.ref _, upd H1 _ (.tup (rgVs i d n)), I3.laid (t' := tk') (fun c o e => Heap.get?_push_of_some _ e) (Nat.le_refl _) (show ObjOk X.prog X.w _ _ _ (.tup (rgVs i d n)) from ⟨?_, acc.toList, vals_rgVs hi, ?_⟩), rfl, q _ (I3.hok.fresh (Nat.le_refl _))⟩
  · rw [rgVs_len]
    exact Nat.le_trans hn (by decide)
  · rw [Array.toArray_toList]
    exact IsTup.new _ _
theorem rgV_of {T : Tab} {G : Hp} {us : List U} {vs : List V} {i j d : Int} (h : rgArgs us = some (i, j, d)) (hr : Reps T G us vs) : RgV vs i j d := by
  unfold rgArgs at h
  split at h
  · cases h
    obtain ⟨v, e, h1⟩ := reps1 hr
    rw [rep_int] at h1
    subst e h1
    exact ⟨rfl, rfl, rfl⟩
  · cases h
    obtain ⟨v, w, e, h1, h2⟩ := reps2 hr
    rw [rep_int] at h1 h2
    subst e h1 h2
    exact ⟨rfl, rfl, rfl⟩
  · cases h
    obtain ⟨v, w, x, e, h1, h2, h3⟩ := reps3 hr
    rw [rep_int] at h1 h2 h3
    subst e h1 h2 h3
    exact ⟨rfl, rfl, rfl⟩
  · cases h
theorem reps_rangeC {T : Tab} {G : Hp} : ∀ (n : Nat) (i c : Int), Reps T G (rangeC i c n) (rgVs i c n)
  | 0, i, c => .nil
  | n + 1, i, c => by
    have e : rgVs i c (n + 1) = V.int i :: rgVs (i + c) c n := by
      unfold rgVs
      rw [List.range_succ_eq_map, List.map_cons, List.map_map]
      congr 1
      · simp
      · apply List.map_congr_left
        intro m _
        show V.int (i + ((m + 1 : Nat) : Int) * c) = V.int (i + c + (m : Int) * c)
        congr 1
        rw [Int.natCast_add, Int.add_mul]
        omega
    rw [e, rangeC]
    exact .cons (rep_int.2 rfl) (reps_rangeC n _ _)
theorem bRange_of {us ys : List U} (h : bRange us = some ys) : ∃ i j d n, rgArgs us = some (i, j, d) ∧ rangeN i j d = some n ∧ n ≤ 100000 ∧ ys = rangeC i d n := by
  unfold bRange at h
  obtain ⟨⟨i, j, d⟩, h1, h2⟩ := Option.bind_eq_some_iff.mp h
  obtain ⟨n, h3, h4⟩ := Option.bind_eq_some_iff.mp h2
  split at h4
  · rename_i hn
    cases h4
    exact ⟨i, j, d, n, h1, h3, hn, rfl⟩
  · cases h4
theorem qf_listRg {a : Expr} {es : List Expr} {as : AF} {p1 p2 ip : Pos} (hc : X.calm = true) (ha : QA X c W (a :: es) as) (hml : X.mg "list" = none) (hmr : X.mg "range" = none) (hgl : Gl X "list" := by rfl) (hgr : Gl X "range" := by rfl)
    (hs : starEach (a :: es) X.env = (false, eval a X.env) :: starEach es X.env := by rfl) (hpl : (backTo ip (starEach es X.env)).any (·.1) = false := by rfl) (na : starEach [.Call (.Name "range" p2) (a :: es) [] ip] X.env = (false, eval (.Call (.Name "range" p2) (a :: es) [] ip) X.env) :: starEach [] X.env := by rfl) :
    QF X c W (.Call (.Name "list" p1) [.Call (.Name "range" p2) (a :: es) [] ip] [] pos) (eListRg as) :=
  PE.weak (pe_listRgA hc hgl hml hgr hmr ha hs hpl na) fun σ H Q ⟨G, ρ, r, h⟩ => by
    refine ⟨G, ρ, r, (PQ.bind (rel := relUs (Cx.T X)) h).imp fun xs H1 ⟨G1, ρ1, us, e1, r1, l1, h1⟩ => ?_⟩
    split at h1
    · rename_i ys hy
      obtain ⟨i, j, d, n, h2, h3, h4, rfl⟩ := bRange_of hy
      refine ⟨i, j, d, n, rgV_of h2 l1, rangeN_ok h3, h4, fun p hp => ?_⟩
      obtain ⟨r2, st, l2⟩ := relF_new r1 hp (reps_rangeC n i d) (fun b o q => e1.d b o q)
      exact h1 _ G1 _ st r2 l2
    · exact h1.elim
theorem qe_tupRg {a : Expr} {es : List Expr} {as : AF} {p1 p2 ip : Pos} (hc : X.calm = true) (ha : QA X c W (a :: es) as) (hml : X.mg "tuple" = none) (hmr : X.mg "range" = none) (hgl : Gl X "tuple" := by rfl) (hgr : Gl X "range" := by rfl)
    (hs : starEach (a :: es) X.env = (false, eval a X.env) :: starEach es X.env := by rfl) (hpl : (backTo ip (starEach es X.env)).any (·.1) = false := by rfl) (na : starEach [.Call (.Name "range" p2) (a :: es) [] ip] X.env = (false, eval (.Call (.Name "range" p2) (a :: es) [] ip) X.env) :: starEach [] X.env := by rfl) :
    QE X c W (.Call (.Name "tuple" p1) [.Call (.Name "range" p2) (a :: es) [] ip] [] pos) (eTupRg as) :=
  PE.weak (pe_tupRgA hc hgl hml hgr hmr ha hs hpl na) fun σ H Q ⟨G, ρ, r, h⟩ => by
    refine ⟨G, ρ, r, (PQ.bind (rel := relUs (Cx.T X)) h).imp fun xs H1 ⟨G1, ρ1, us, e1, r1, l1, h1⟩ => ?_⟩
    split at h1
    · rename_i ys hy
      obtain ⟨i, j, d, n, h2, h3, h4, rfl⟩ := bRange_of hy
      refine ⟨i, j, d, n, rgV_of h2 l1, rangeN_ok h3, h4, fun p hp => ?_⟩
      have gn := Grow.new (o := .tup (rgVs i d n)) r1.ex hp
      exact h1 _ _ _ gn.stp (r1.grow gn) (rep_tup.2 ⟨p, _, rfl, .inl (.inl upd_same), Reps.mono gn.g _ _ (reps_rangeC n i d)⟩)
    · exact h1.elim
/-! ### is None -/
theorem non_iff {T : Tab} {G : Hp} {u : U} {v : V} (h : Rep T G u v) : decide (v = .non) = isNonU u := by
  cases u with
  | non =>
    rw [rep_non.1 h]
    rfl
  | bl b =>
    rw [rep_bl.1 h]
    rfl
  | int i =>
    rw [rep_int.1 h]
    rfl
  | str x =>
    rw [rep_str.1 h]
    rfl
  | ty n =>
    rw [rep_ty.1 h]
    rfl
  | tup us =>
    obtain ⟨a, vs, rfl, _⟩ := rep_tup.1 h
    rfl
  | lst us =>
    obtain ⟨a, vs, rfl, _⟩ := rep_lst.1 h
    rfl
  | dct ks us =>
    obtain ⟨a, _, _, _, rfl, _⟩ := rep_dct.1 h
    rfl
  | dci ns us =>
    obtain ⟨a, _, rfl, _⟩ := rep_dci.1 h
    rfl
  | fn x =>
    obtain ⟨a, rfl, _⟩ := rep_fn.1 h
    rfl
  | obj C ns xs =>
    obtain ⟨a, rfl⟩ := rep_obj h
    rfl
theorem op_uIsN : OpR X (compareOp .Is) (r2 nuS (Cx.T X) uIsN) := by
  intro pins s σ H x y v u Q I rx ry ⟨G, a, b, z, e, ra, rb, hz, q⟩
  unfold uIsN at hz
  split at hz
  · cases hz
    refine op_isN pins s σ H x y v u Q I rx ry ⟨rep_non.1 rb, ?_⟩
    rw [non_iff ra]
    exact nuS_bl e q
  · cases hz
theorem op_uNotN : OpR X (compareOp .IsNot) (r2 nuS (Cx.T X) uNotN) := by
  intro pins s σ H x y v u Q I rx ry ⟨G, a, b, z, e, ra, rb, hz, q⟩
  unfold uNotN at hz
  split at hz
  · cases hz
    refine op_notN pins s σ H x y v u Q I rx ry ⟨rep_non.1 rb, ?_⟩
    rw [non_iff ra]
    exact nuS_bl e q
  · cases hz
end
end Q
set_option maxRecDepth 100000
set_option maxHeartbeats 2000000
/-! QOrd: the order of alike values; min, sorted by it -/
namespace Q
open PySem PySem.Spec PyProof.Rows L2
open Evl (Ex)
open PySem.W (alike alikeAll dataLt keyToks keyToksAll dataLe AllAlike Sortable)

/-! ### alike -/
theorem like_cases {a b : U} (h : likeU a b = true) : (∃ x y, a = .bl x ∧ b = .bl y) ∨ (∃ x y, a = .int x ∧ b = .int y) ∨ (∃ x y, a = .str x ∧ b = .str y) ∨ ∃ xs ys, a = .tup xs ∧ b = .tup ys ∧ likeUs xs ys = true := by
  cases a <;> cases b <;> simp [likeU] at h ⊢
  exact h
mutual
theorem like_D : ∀ a b : U, likeU a b = true → alike (toD a) (toD b) = true
  | .tup xs, b, h => by
    rcases like_cases h with ⟨_, _, e, _⟩ | ⟨_, _, e, _⟩ | ⟨_, _, e, _⟩ | ⟨xs', ys, e, rfl, h'⟩
    · cases e
    · cases e
    · cases e
    · cases e
      rw [toD, toD, alike]
      exact like_Ds xs ys h'
  | .bl _, b, h => by
    rcases like_cases h with ⟨_, _, e, rfl⟩ | ⟨_, _, e, _⟩ | ⟨_, _, e, _⟩ | ⟨_, _, e, _⟩ <;> cases e
    rfl
  | .int _, b, h => by
    rcases like_cases h with ⟨_, _, e, _⟩ | ⟨_, _, e, rfl⟩ | ⟨_, _, e, _⟩ | ⟨_, _, e, _⟩ <;> cases e
    rfl
  | .str _, b, h => by
    rcases like_cases h with ⟨_, _, e, _⟩ | ⟨_, _, e, _⟩ | ⟨_, _, e, rfl⟩ | ⟨_, _, e, _⟩ <;> cases e
    rfl
  | .non, b, h => by rcases like_cases h with ⟨_, _, e, _⟩ | ⟨_, _, e, _⟩ | ⟨_, _, e, _⟩ | ⟨_, _, e, _⟩ <;> cases e
  | .lst _, b, h => by rcases like_cases h with ⟨_, _, e, _⟩ | ⟨_, _, e, _⟩ | ⟨_, _, e, _⟩ | ⟨_, _, e, _⟩ <;> cases e
  | .dct _ _, b, h => by rcases like_cases h with ⟨_, _, e, _⟩ | ⟨_, _, e, _⟩ | ⟨_, _, e, _⟩ | ⟨_, _, e, _⟩ <;> cases e
  | .dci _ _, b, h => by rcases like_cases h with ⟨_, _, e, _⟩ | ⟨_, _, e, _⟩ | ⟨_, _, e, _⟩ | ⟨_, _, e, _⟩ <;> cases e
  | .fn _, b, h => by rcases like_cases h with ⟨_, _, e, _⟩ | ⟨_, _, e, _⟩ | ⟨_, _, e, _⟩ | ⟨_, _, e, _⟩ <;> cases e
  | .ty _, b, h => by rcases like_cases h with ⟨_, _, e, _⟩ | ⟨_, _, e, _⟩ | ⟨_, _, e, _⟩ | ⟨_, _, e, _⟩ <;> cases e
  | .obj _ _ _, b, h => by rcases like_cases h with ⟨_, _, e, _⟩ | ⟨_, _, e, _⟩ | ⟨_, _, e, _⟩ | ⟨_, _, e, _⟩ <;> cases e
theorem like_Ds : ∀ xs ys : List U, likeUs xs ys = true → alikeAll (toDs xs) (toDs ys) = true
  | [], ys, _ => by rw [toDs]; cases ys <;> rfl
  | x :: xs, [], _ => by rw [toDs, toDs]; rfl
  | x :: xs, y :: ys, h => by
    rw [likeUs, Bool.and_eq_true] at h
    rw [toDs, toDs, alikeAll, like_D x y h.1, like_Ds xs ys h.2]
    rfl
end
theorem ltS_lt : ∀ x y : List Nat, ltS x y = decide (x < y)
  | [], [] => rfl
  | [], y :: ys => (decide_eq_true (List.nil_lt_cons y ys)).symm
  | x :: xs, [] => (decide_eq_false (List.not_lt_nil _)).symm
  | x :: xs, y :: ys => by
    rw [ltS, ltS_lt xs ys]
    by_cases c : x = y
    · subst c
      rw [if_pos rfl]
      by_cases d : xs < ys
      · rw [decide_eq_true d, decide_eq_true (List.cons_lt_cons_iff.2 (.inr ⟨rfl, d⟩))]
      · rw [decide_eq_false d, decide_eq_false]
        intro h
        rcases List.cons_lt_cons_iff.1 h with h | h
        · exact Nat.lt_irrefl _ h
        · exact d h.2
    · rw [if_neg c]
      by_cases d : x < y
      · rw [decide_eq_true d, decide_eq_true (List.cons_lt_cons_iff.2 (.inl d))]
      · rw [decide_eq_false d, decide_eq_false]
        intro h
        rcases List.cons_lt_cons_iff.1 h with h | h
        · exact d h
        · exact c h.1
mutual
theorem lt_D : ∀ a b : U, likeU a b = true → dataLt (toD a) (toD b) = ltU a b
  | .tup xs, b, h => by
    rcases like_cases h with ⟨_, _, e, _⟩ | ⟨_, _, e, _⟩ | ⟨_, _, e, _⟩ | ⟨xs', ys, e, rfl, h'⟩
    · cases e
    · cases e
    · cases e
    · cases e
      rw [toD, toD, PySem.W.dataLt_tuple, ltU, lt_Ds xs ys h']
  | .bl x, b, h => by
    rcases like_cases h with ⟨_, y, e, rfl⟩ | ⟨_, _, e, _⟩ | ⟨_, _, e, _⟩ | ⟨_, _, e, _⟩ <;> cases e
    rw [toD, toD, PySem.W.dataLt_bool, ltU]
    cases x <;> cases y <;> rfl
  | .int x, b, h => by
    rcases like_cases h with ⟨_, _, e, _⟩ | ⟨_, y, e, rfl⟩ | ⟨_, _, e, _⟩ | ⟨_, _, e, _⟩ <;> cases e
    rw [toD, toD, PySem.W.dataLt_int, ltU]
  | .str x, b, h => by
    rcases like_cases h with ⟨_, _, e, _⟩ | ⟨_, _, e, _⟩ | ⟨_, y, e, rfl⟩ | ⟨_, _, e, _⟩ <;> cases e
    rw [toD, toD, PySem.W.dataLt_str, ltU, ltS_lt]
  | .non, b, h => by rcases like_cases h with ⟨_, _, e, _⟩ | ⟨_, _, e, _⟩ | ⟨_, _, e, _⟩ | ⟨_, _, e, _⟩ <;> cases e
  | .lst _, b, h => by rcases like_cases h with ⟨_, _, e, _⟩ | ⟨_, _, e, _⟩ | ⟨_, _, e, _⟩ | ⟨_, _, e, _⟩ <;> cases e
  | .dct _ _, b, h => by rcases like_cases h with ⟨_, _, e, _⟩ | ⟨_, _, e, _⟩ | ⟨_, _, e, _⟩ | ⟨_, _, e, _⟩ <;> cases e
  | .dci _ _, b, h => by rcases like_cases h with ⟨_, _, e, _⟩ | ⟨_, _, e, _⟩ | ⟨_, _, e, _⟩ | ⟨_, _, e, _⟩ <;> cases e
  | .fn _, b, h => by rcases like_cases h with ⟨_, _, e, _⟩ | ⟨_, _, e, _⟩ | ⟨_, _, e, _⟩ | ⟨_, _, e, _⟩ <;> cases e
  | .ty _, b, h => by rcases like_cases h with ⟨_, _, e, _⟩ | ⟨_, _, e, _⟩ | ⟨_, _, e, _⟩ | ⟨_, _, e, _⟩ <;> cases e
  | .obj _ _ _, b, h => by rcases like_cases h with ⟨_, _, e, _⟩ | ⟨_, _, e, _⟩ | ⟨_, _, e, _⟩ | ⟨_, _, e, _⟩ <;> cases e
theorem lt_Ds : ∀ xs ys : List U, likeUs xs ys = true → PyProof.Rows.lexLt itemOrd (keyToksAll (toDs xs)) (keyToksAll (toDs ys)) = ltUs xs ys
  | [], [], _ => by rw [toDs, ltUs]; exact lex_irrefl _
  | [], y :: ys, _ => by
    rw [toDs, toDs, ltUs, keyToksAll, keyToksAll, lex_cons]
    rfl
  | x :: xs, [], _ => by
    rw [toDs, toDs, ltUs, keyToksAll, keyToksAll, lex_cons]
    rfl
  | x :: xs, y :: ys, h => by
    rw [likeUs, Bool.and_eq_true] at h
    rw [toDs, toDs, ltUs, PySem.W.dataLt_cons (like_D x y h.1), eqv_D, lt_Ds xs ys h.2, lt_D x y h.1]
end

/-! ### a < b -/
section
variable {X : Cx} {c : Cn} {W : WX} {k : Nat} {pos : Pos}
theorem like_data {a : U} {b : U} (h : likeU a b = true) : toD a ≠ .none := by
  rcases like_cases h with ⟨_, _, rfl, _⟩ | ⟨_, _, rfl, _⟩ | ⟨_, _, rfl, _⟩ | ⟨_, _, rfl, _⟩ <;> rw [toD] <;> intro e <;> cases e
theorem reads_of {pins : List (Addr × Obj)} {σ : L2.St} {G H : Hp} {s : Shared} (I : Inv X pins σ H s) (e : Ex G H) {a : U} {x : V} {v : Value} (h : okU a = true) (ra : Rep (Cx.T X) G a x) (rx : RelV x v) : (∃ as, Reads s.heap v (toD a) as) ∧ (toD a).depth ≤ 64 := by
  unfold okU at h
  rw [Bool.and_eq_true, decide_eq_true_eq] at h
  exact ⟨Dp.reads I (toD a) x v (dp_D a x h.1 (Rep.mono e _ _ ra)) rx, Nat.le_trans (dep_D a h.1) h.2⟩
theorem op_uLt (hr : Room k X.A) : OpR X (compareOp .Lt) (r2 nuS (Cx.T X) uLt) := by
  intro pins s σ H x y v u Q I rx ry ⟨G, a, b, z, e, ra, rb, hz, q⟩
  unfold uLt at hz
  split at hz
  · rename_i i j
    exact op_uLtI pins s σ H x y v u Q I rx ry ⟨G, .int i, .int j, z, e, ra, rb, hz, q⟩
  · split at hz
    · rename_i hh
      rw [Bool.and_eq_true, Bool.and_eq_true] at hh
      cases hz
      obtain ⟨⟨as, r1⟩, d1⟩ := reads_of I e hh.1.1 ra rx
      obtain ⟨⟨bs, r2⟩, d2⟩ := reads_of I e hh.1.2 rb ry
      have hu := hr.un
      refine PySem.W.lt_data r1 r2 (like_D a b hh.2) (like_data hh.2) (by omega) ?_
      rw [lt_D a b hh.2]
      exact fin (v := .bl (ltU a b)) I rfl (nuS_bl e q)
    · cases hz
end
end Q
set_option maxRecDepth 100000
set_option maxHeartbeats 2000000
/-! QMin: min, sorted by the order of alike values -/
namespace Q
open PySem PySem.Spec PyProof.Rows L2
open Evl (Ex)
open PySem.W (alike alikeAll dataLt keyToks keyToksAll dataLe AllAlike Sortable EachIs)

mutual
theorem toD_inj : ∀ a b : U, plU a = true → plU b = true → toD a = toD b → a = b
  | .non, b, _, h2, e => by cases b <;> simp_all [toD, plU]
  | .bl _, b, _, h2, e => by cases b <;> simp_all [toD, plU]
  | .int _, b, _, h2, e => by cases b <;> simp_all [toD, plU]
  | .str x, b, _, h2, e => by
    cases b <;> simp_all [toD, plU]
  | .tup xs, b, h1, h2, e => by
    cases b <;> simp only [toD, plU] at e h1 h2 <;> first | cases e | skip
    · injection e with e
      rw [toDs_inj xs _ h1 h2 e]
    all_goals cases h2
  | .lst xs, b, h1, h2, e => by
    cases b <;> simp only [toD, plU] at e h1 h2 <;> first | cases e | skip
    · injection e with e
      rw [toDs_inj xs _ h1 h2 e]
    all_goals cases h2
  | .dct _ _, _, h, _, _ => by simp [plU] at h
  | .dci _ _, _, h, _, _ => by simp [plU] at h
  | .fn _, _, h, _, _ => by simp [plU] at h
  | .ty _, _, h, _, _ => by simp [plU] at h
  | .obj _ _ _, _, h, _, _ => by simp [plU] at h
theorem toDs_inj : ∀ xs ys : List U, plUs xs = true → plUs ys = true → toDs xs = toDs ys → xs = ys
  | [], [], _, _, _ => rfl
  | [], _ :: _, _, _, e => by simp [toDs] at e
  | _ :: _, [], _, _, e => by simp [toDs] at e
  | x :: xs, y :: ys, h1, h2, e => by
    rw [toDs, toDs] at e
    injection e with e1 e2
    simp only [plUs, Bool.and_eq_true] at h1 h2
    rw [toD_inj x y h1.1 h2.1 e1, toDs_inj xs ys h1.2 h2.2 e2]
end
theorem okU_pl {a : U} (h : okU a = true) : plU a = true := by
  unfold okU at h
  rw [Bool.and_eq_true] at h
  exact h.1
theorem likeAll_of {xs : List U} (h : likeAllB xs = true) {a b : U} (ha : a ∈ xs) (hb : b ∈ xs) : likeU a b = true := by
  unfold likeAllB at h
  rw [List.all_eq_true] at h
  have := h a ha
  rw [List.all_eq_true] at this
  exact this b hb
theorem minU_D : ∀ (xs : List U) (x : U), (∀ a ∈ x :: xs, ∀ b ∈ x :: xs, likeU a b = true) → PySem.W.minD (toD x) (xs.map toD) = toD (minU x xs) ∧ minU x xs ∈ x :: xs
  | [], x, _ => ⟨rfl, .head _⟩
  | y :: ys, x, h => by
    have ih := minU_D ys (if ltU y x then y else x) (fun a ha b hb => h a ?_ b ?_)
    · unfold PySem.W.minD minU at ih ⊢
      rw [List.map_cons, List.foldl_cons, List.foldl_cons, lt_D y x (h y (.tail _ (.head _)) x (.head _))]
      have e : (if ltU y x = true then toD y else toD x) = toD (if ltU y x = true then y else x) := by split <;> rfl
      rw [e]
      refine ⟨ih.1, ?_⟩
      rcases List.mem_cons.mp ih.2 with q | q
      · rw [q]
        split
        · exact .tail _ (.head _)
        · exact .head _
      · exact .tail _ (.tail _ q)
    · rcases List.mem_cons.mp ha with q | q
      · rw [q]
        split
        · exact .tail _ (.head _)
        · exact .head _
      · exact .tail _ (.tail _ q)
    · rcases List.mem_cons.mp hb with q | q
      · rw [q]
        split
        · exact .tail _ (.head _)
        · exact .head _
      · exact .tail _ (.tail _ q)
theorem depthAll_le {n : Nat} : ∀ {xs : List PyData}, (∀ d ∈ xs, d.depth ≤ n) → PyData.depthAll xs ≤ n
  | [], _ => Nat.zero_le _
  | x :: xs, h => by
    rw [PyData.depthAll]
    exact Nat.max_le.2 ⟨h x (.head _), depthAll_le fun d hd => h d (.tail _ hd)⟩
section
variable {X : Cx} {c : Cn} {W : WX} {k : Nat} {pos : Pos}
theorem readsAll_of {pins : List (Addr × Obj)} {σ : L2.St} {G H : Hp} {s : Shared} (I : Inv X pins σ H s) (e : Ex G H) : ∀ {us : List U} {vs : List V} {xs : List Value}, us.all okU = true → Reps (Cx.T X) G us vs → Vals vs xs → ∃ as, ReadsAll s.heap xs (us.map toD) as
  | [], vs, xs, _, h, r => by
    rw [reps_nil] at h
    subst h
    cases r
    exact ⟨[], .nil⟩
  | u :: us, vs, xs, ho, h, r => by
    rw [List.all_cons, Bool.and_eq_true] at ho
    obtain ⟨v, vr, rfl, h1, h2⟩ := reps_cons.1 h
    cases r with
    | cons a b =>
      obtain ⟨as, r1⟩ := (reads_of I e ho.1 h1 a).1
      obtain ⟨bs, r2⟩ := readsAll_of I e ho.2 h2 b
      exact ⟨_, .cons r1 r2⟩
theorem vals_at : ∀ {vs : List V} {xs : List Value} {i : Nat} {x : Value}, Vals vs xs → xs[i]? = some x → ∃ v, vs[i]? = some v ∧ RelV v x
  | _, _, _, _, .nil, h => by simp at h
  | _, _, 0, x, .cons a _, h => by
    simp at h
    subst h
    exact ⟨_, rfl, a⟩
  | _, _, i + 1, x, .cons _ t, h => vals_at (i := i) t (by simpa using h)
theorem c_minA (hc : X.calm = true) (hr : Room k X.A) : CallR X (.builtin "min") (rc nuS (Cx.T X) bMinA) := by
  intro pins s σ H xs us Q I r ⟨G, ws, z, e, hrr, hz, q⟩
  unfold bMinA at hz
  split at hz
  · rename_i z' h1
    cases hz
    exact c_min hc hr pins s σ H xs us Q I r ⟨G, ws, z, e, hrr, h1, q⟩
  · split at hz
    · rename_i x ys _
      split at hz
      · rename_i hh
        cases hz
        rw [Bool.and_eq_true] at hh
        obtain ⟨v, e1, h1⟩ := reps1 hrr
        obtain ⟨p, vs, e2, h2, h3⟩ := rep_lst.1 h1
        subst e1 e2
        rw [Vals.ref1 r]
        obtain ⟨its, rv, pl, _⟩ := I.list (Evl.ex_l e h2)
        obtain ⟨as, ra⟩ := readsAll_of I e hh.1 h3 rv
        rw [List.map_cons] at ra
        have hl : ∀ a ∈ x :: ys, ∀ b ∈ x :: ys, likeU a b = true := fun a ha b hb => likeAll_of hh.2 ha hb
        obtain ⟨m1, m2⟩ := minU_D ys x hl
        have hu := hr.un
        have hok : ∀ a ∈ x :: ys, okU a = true := fun a ha => List.all_eq_true.mp hh.1 a ha
        refine PySem.W.min_list_data (I.ok.hd hc) pl.isList (by simpa using ra) ⟨fun a ha b hb => ?_, fun a ha => ?_⟩ ?_ fun i w h' tk bs hi rd hk => ?_
        · rw [← List.map_cons] at ha hb
          obtain ⟨a', ha', rfl⟩ := List.mem_map.mp ha
          obtain ⟨b', hb', rfl⟩ := List.mem_map.mp hb
          exact like_D a' b' (hl a' ha' b' hb')
        · rw [← List.map_cons] at ha
          obtain ⟨a', ha', rfl⟩ := List.mem_map.mp ha
          exact like_data (hl a' ha' a' ha')
        · have : PyData.depthAll (toD x :: ys.map toD) ≤ 64 := depthAll_le fun d hd => by
            rw [← List.map_cons] at hd
            obtain ⟨a', ha', rfl⟩ := List.mem_map.mp hd
            have := hok a' ha'
            unfold okU at this
            rw [Bool.and_eq_true, decide_eq_true_eq] at this
            exact Nat.le_trans (dep_D a' this.1) this.2
          omega
        · obtain ⟨wv, hw1, hw2⟩ := vals_at rv (by simpa using hi)
          obtain ⟨u, hu1, hu2⟩ := h3.get' hw1
          have hmem : u ∈ x :: ys := List.mem_of_getElem? hu1
          obtain ⟨as', ru⟩ := (reads_of I e (hok u hmem) hu2 hw2).1
          have hd := (PyProof.Rows.reads_det (fun b o q _ => hk b o q) ru rd).1
          rw [m1] at hd
          have eu : u = minU x ys := (toD_inj _ _ (okU_pl (hok _ m2)) (okU_pl (hok u hmem)) hd).symm
          subst eu
          exact ⟨wv, H, I.kept hk, hw2, q wv G H (Grow.refl e) hu2⟩
      · cases hz
    · cases hz
end
end Q
set_option maxRecDepth 100000
set_option maxHeartbeats 2000000
/-! QSrt: sorted by the order of alike values; of a table's keys -/
namespace Q
open PySem PySem.Spec PyProof.Rows L2
open Evl (Ex)
open PySem.W (alike alikeAll dataLt keyToks keyToksAll dataLe AllAlike Sortable EachIs)

/-! ### the order is a strict total one -/
theorem dLt_asymm {a b : PyData} (h : dataLt a b = true) : dataLt b a = false := by
  unfold dataLt at *
  cases q : PyProof.Rows.lexLt itemOrd (keyToks b) (keyToks a) with
  | false => rfl
  | true =>
    have := lex_trans _ _ _ h q
    rw [lex_irrefl] at this
    cases this
theorem dLe_trans (a b c : PyData) (h1 : (!dataLt b a) = true) (h2 : (!dataLt c b) = true) : (!dataLt c a) = true := by
  rw [Bool.not_eq_true'] at *
  cases q : dataLt c a with
  | false => rfl
  | true =>
    unfold dataLt at *
    by_cases e : keyToks a = keyToks b
    · rw [← e, q] at h2
      cases h2
    · cases q2 : PyProof.Rows.lexLt itemOrd (keyToks a) (keyToks b) with
      | true =>
        have := lex_trans _ _ _ q q2
        rw [h2] at this
        cases this
      | false => exact absurd (lex_total _ _ q2 h1) e
theorem dLe_total (a b : PyData) : (!dataLt b a || !dataLt a b) = true := by
  cases q : dataLt b a with
  | false => rfl
  | true =>
    rw [dLt_asymm q]
    rfl
theorem dLe_eq : (dataLe false toD : U → U → Bool) = fun a b => !dataLt (toD b) (toD a) := PySem.W.dataLe_eq false toD
mutual
theorem eqv_like : ∀ a b : U, likeU a b = true → (eqvU a b = true ↔ a = b)
  | .tup xs, b, h => by
    rcases like_cases h with ⟨_, _, e, _⟩ | ⟨_, _, e, _⟩ | ⟨_, _, e, _⟩ | ⟨xs', ys, e, rfl, h'⟩
    · cases e
    · cases e
    · cases e
    · cases e
      rw [eqvU]
      refine ⟨fun q => ?_, fun q => ?_⟩
      · rw [eqvs_like xs ys h' q]
      · injection q with q
        exact eqvs_refl xs ys h' q
  | .bl x, b, h => by
    rcases like_cases h with ⟨_, y, e, rfl⟩ | ⟨_, _, e, _⟩ | ⟨_, _, e, _⟩ | ⟨_, _, e, _⟩ <;> cases e
    rw [eqvU]
    simp
  | .int x, b, h => by
    rcases like_cases h with ⟨_, _, e, _⟩ | ⟨_, y, e, rfl⟩ | ⟨_, _, e, _⟩ | ⟨_, _, e, _⟩ <;> cases e
    rw [eqvU]
    simp
  | .str x, b, h => by
    rcases like_cases h with ⟨_, _, e, _⟩ | ⟨_, _, e, _⟩ | ⟨_, y, e, rfl⟩ | ⟨_, _, e, _⟩ <;> cases e
    rw [eqvU]
    simp
  | .non, b, h => by rcases like_cases h with ⟨_, _, e, _⟩ | ⟨_, _, e, _⟩ | ⟨_, _, e, _⟩ | ⟨_, _, e, _⟩ <;> cases e
  | .lst _, b, h => by rcases like_cases h with ⟨_, _, e, _⟩ | ⟨_, _, e, _⟩ | ⟨_, _, e, _⟩ | ⟨_, _, e, _⟩ <;> cases e
  | .dct _ _, b, h => by rcases like_cases h with ⟨_, _, e, _⟩ | ⟨_, _, e, _⟩ | ⟨_, _, e, _⟩ | ⟨_, _, e, _⟩ <;> cases e
  | .dci _ _, b, h => by rcases like_cases h with ⟨_, _, e, _⟩ | ⟨_, _, e, _⟩ | ⟨_, _, e, _⟩ | ⟨_, _, e, _⟩ <;> cases e
  | .fn _, b, h => by rcases like_cases h with ⟨_, _, e, _⟩ | ⟨_, _, e, _⟩ | ⟨_, _, e, _⟩ | ⟨_, _, e, _⟩ <;> cases e
  | .ty _, b, h => by rcases like_cases h with ⟨_, _, e, _⟩ | ⟨_, _, e, _⟩ | ⟨_, _, e, _⟩ | ⟨_, _, e, _⟩ <;> cases e
  | .obj _ _ _, b, h => by rcases like_cases h with ⟨_, _, e, _⟩ | ⟨_, _, e, _⟩ | ⟨_, _, e, _⟩ | ⟨_, _, e, _⟩ <;> cases e
theorem eqvs_like : ∀ xs ys : List U, likeUs xs ys = true → eqvUs xs ys = true → xs = ys
  | [], [], _, _ => rfl
  | [], _ :: _, _, h => by simp [eqvUs] at h
  | _ :: _, [], _, h => by simp [eqvUs] at h
  | x :: xs, y :: ys, h, q => by
    rw [likeUs, Bool.and_eq_true] at h
    rw [eqvUs, Bool.and_eq_true] at q
    rw [(eqv_like x y h.1).1 q.1, eqvs_like xs ys h.2 q.2]
theorem eqvs_refl : ∀ xs ys : List U, likeUs xs ys = true → xs = ys → eqvUs xs ys = true
  | [], [], _, _ => rfl
  | [], _ :: _, _, h => by cases h
  | _ :: _, [], _, h => by cases h
  | x :: xs, y :: ys, h, q => by
    rw [likeUs, Bool.and_eq_true] at h
    injection q with q1 q2
    rw [eqvUs, (eqv_like x y h.1).2 q1, eqvs_refl xs ys h.2 q2]
    rfl
end
theorem ltS_tot : ∀ x y : List Nat, ltS x y = false → ltS y x = false → x = y
  | [], [], _, _ => rfl
  | [], _ :: _, h, _ => by simp [ltS] at h
  | _ :: _, [], _, h => by simp [ltS] at h
  | x :: xs, y :: ys, h1, h2 => by
    rw [ltS] at h1 h2
    by_cases c : x = y
    · subst c
      rw [if_pos rfl] at h1 h2
      rw [ltS_tot xs ys h1 h2]
    · rw [if_neg c] at h1
      rw [if_neg (Ne.symm c)] at h2
      have := of_decide_eq_false h1
      have := of_decide_eq_false h2
      omega
mutual
theorem like_symm : ∀ a b : U, likeU a b = true → likeU b a = true
  | .tup xs, b, h => by
    rcases like_cases h with ⟨_, _, e, _⟩ | ⟨_, _, e, _⟩ | ⟨_, _, e, _⟩ | ⟨xs', ys, e, rfl, h'⟩
    · cases e
    · cases e
    · cases e
    · cases e
      rw [likeU]
      exact likes_symm xs ys h'
  | .bl x, b, h => by
    rcases like_cases h with ⟨_, y, e, rfl⟩ | ⟨_, _, e, _⟩ | ⟨_, _, e, _⟩ | ⟨_, _, e, _⟩ <;> cases e
    rfl
  | .int x, b, h => by
    rcases like_cases h with ⟨_, _, e, _⟩ | ⟨_, y, e, rfl⟩ | ⟨_, _, e, _⟩ | ⟨_, _, e, _⟩ <;> cases e
    rfl
  | .str x, b, h => by
    rcases like_cases h with ⟨_, _, e, _⟩ | ⟨_, _, e, _⟩ | ⟨_, y, e, rfl⟩ | ⟨_, _, e, _⟩ <;> cases e
    rw [likeU] at h ⊢
    rw [Bool.and_comm]
    exact h
  | .non, b, h => by rcases like_cases h with ⟨_, _, e, _⟩ | ⟨_, _, e, _⟩ | ⟨_, _, e, _⟩ | ⟨_, _, e, _⟩ <;> cases e
  | .lst _, b, h => by rcases like_cases h with ⟨_, _, e, _⟩ | ⟨_, _, e, _⟩ | ⟨_, _, e, _⟩ | ⟨_, _, e, _⟩ <;> cases e
  | .dct _ _, b, h => by rcases like_cases h with ⟨_, _, e, _⟩ | ⟨_, _, e, _⟩ | ⟨_, _, e, _⟩ | ⟨_, _, e, _⟩ <;> cases e
  | .dci _ _, b, h => by rcases like_cases h with ⟨_, _, e, _⟩ | ⟨_, _, e, _⟩ | ⟨_, _, e, _⟩ | ⟨_, _, e, _⟩ <;> cases e
  | .fn _, b, h => by rcases like_cases h with ⟨_, _, e, _⟩ | ⟨_, _, e, _⟩ | ⟨_, _, e, _⟩ | ⟨_, _, e, _⟩ <;> cases e
  | .ty _, b, h => by rcases like_cases h with ⟨_, _, e, _⟩ | ⟨_, _, e, _⟩ | ⟨_, _, e, _⟩ | ⟨_, _, e, _⟩ <;> cases e
  | .obj _ _ _, b, h => by rcases like_cases h with ⟨_, _, e, _⟩ | ⟨_, _, e, _⟩ | ⟨_, _, e, _⟩ | ⟨_, _, e, _⟩ <;> cases e
theorem likes_symm : ∀ xs ys : List U, likeUs xs ys = true → likeUs ys xs = true
  | [], [], _ => rfl
  | [], _ :: _, _ => rfl
  | _ :: _, [], _ => rfl
  | x :: xs, y :: ys, h => by
    rw [likeUs, Bool.and_eq_true] at h
    rw [likeUs, like_symm x y h.1, likes_symm xs ys h.2]
    rfl
end
mutual
theorem lt_tot : ∀ a b : U, likeU a b = true → ltU a b = false → ltU b a = false → a = b
  | .tup xs, b, h, h1, h2 => by
    rcases like_cases h with ⟨_, _, e, _⟩ | ⟨_, _, e, _⟩ | ⟨_, _, e, _⟩ | ⟨xs', ys, e, rfl, h'⟩
    · cases e
    · cases e
    · cases e
    · cases e
      rw [ltU] at h1 h2
      rw [lts_tot xs ys h' h1 h2]
  | .bl x, b, h, h1, h2 => by
    rcases like_cases h with ⟨_, y, e, rfl⟩ | ⟨_, _, e, _⟩ | ⟨_, _, e, _⟩ | ⟨_, _, e, _⟩ <;> cases e
    rw [ltU] at h1 h2
    cases x <;> cases y <;> simp_all
  | .int x, b, h, h1, h2 => by
    rcases like_cases h with ⟨_, _, e, _⟩ | ⟨_, y, e, rfl⟩ | ⟨_, _, e, _⟩ | ⟨_, _, e, _⟩ <;> cases e
    rw [ltU] at h1 h2
    have := of_decide_eq_false h1
    have := of_decide_eq_false h2
    rw [show x = y by omega]
  | .str x, b, h, h1, h2 => by
    rcases like_cases h with ⟨_, _, e, _⟩ | ⟨_, _, e, _⟩ | ⟨_, y, e, rfl⟩ | ⟨_, _, e, _⟩ <;> cases e
    rw [ltU] at h1 h2
    rw [ltS_tot x y h1 h2]
  | .non, b, h, _, _ => by rcases like_cases h with ⟨_, _, e, _⟩ | ⟨_, _, e, _⟩ | ⟨_, _, e, _⟩ | ⟨_, _, e, _⟩ <;> cases e
  | .lst _, b, h, _, _ => by rcases like_cases h with ⟨_, _, e, _⟩ | ⟨_, _, e, _⟩ | ⟨_, _, e, _⟩ | ⟨_, _, e, _⟩ <;> cases e
  | .dct _ _, b, h, _, _ => by rcases like_cases h with ⟨_, _, e, _⟩ | ⟨_, _, e, _⟩ | ⟨_, _, e, _⟩ | ⟨_, _, e, _⟩ <;> cases e
  | .dci _ _, b, h, _, _ => by rcases like_cases h with ⟨_, _, e, _⟩ | ⟨_, _, e, _⟩ | ⟨_, _, e, _⟩ | ⟨_, _, e, _⟩ <;> cases e
  | .fn _, b, h, _, _ => by rcases like_cases h with ⟨_, _, e, _⟩ | ⟨_, _, e, _⟩ | ⟨_, _, e, _⟩ | ⟨_, _, e, _⟩ <;> cases e
  | .ty _, b, h, _, _ => by rcases like_cases h with ⟨_, _, e, _⟩ | ⟨_, _, e, _⟩ | ⟨_, _, e, _⟩ | ⟨_, _, e, _⟩ <;> cases e
  | .obj _ _ _, b, h, _, _ => by rcases like_cases h with ⟨_, _, e, _⟩ | ⟨_, _, e, _⟩ | ⟨_, _, e, _⟩ | ⟨_, _, e, _⟩ <;> cases e
theorem lts_tot : ∀ xs ys : List U, likeUs xs ys = true → ltUs xs ys = false → ltUs ys xs = false → xs = ys
  | [], [], _, _, _ => rfl
  | [], _ :: _, _, h, _ => by simp [ltUs] at h
  | _ :: _, [], _, _, h => by simp [ltUs] at h
  | x :: xs, y :: ys, h, h1, h2 => by
    rw [likeUs, Bool.and_eq_true] at h
    rw [ltUs] at h1 h2
    by_cases c : eqvU x y = true
    · have e := (eqv_like x y h.1).1 c
      rw [if_pos c] at h1
      rw [if_pos ((eqv_like y x (like_symm x y h.1)).2 e.symm)] at h2
      rw [e, lts_tot xs ys h.2 h1 h2]
    · rw [if_neg c] at h1
      have c2 : ¬ eqvU y x = true := fun q => c ((eqv_like x y h.1).2 ((eqv_like y x (like_symm x y h.1)).1 q).symm)
      rw [if_neg c2] at h2
      exact absurd ((eqv_like x y h.1).2 (lt_tot x y h.1 h1 h2)) c
end
/-- sorted by the data's order, and by ltU: the same -/
theorem sort_same {us : List U} (hl : likeAllB us = true) : us.mergeSort (dataLe false toD) = sortB ltU us := by
  have mem1 : ∀ a, a ∈ us.mergeSort (dataLe false toD) → a ∈ us := fun a h => (List.mergeSort_perm _ _).mem_iff.mp h
  have mem2 : ∀ a, a ∈ sortB ltU us → a ∈ us := fun a h => (sortB_perm _ _).mem_iff.mp h
  have lt_like : ∀ a b, a ∈ us → b ∈ us → dataLt (toD a) (toD b) = ltU a b := fun a b ha hb => lt_D a b (likeAll_of hl ha hb)
  have s1 : (us.mergeSort (dataLe false toD)).Pairwise fun a b => (!dataLt (toD b) (toD a)) = true := by
    rw [dLe_eq]
    exact List.pairwise_mergeSort (le := fun a b : U => !dataLt (toD b) (toD a)) (fun a b c => dLe_trans (toD a) (toD b) (toD c)) (fun a b => dLe_total (toD a) (toD b)) us
  have s2 : (sortB ltU us).Pairwise fun a b => (!dataLt (toD b) (toD a)) = true := by
    -- insertion by ltU, whose values on us are the data's order
    have key : ∀ l : List U, (∀ a ∈ l, a ∈ us) → sortB ltU l = sortB (fun a b => dataLt (toD a) (toD b)) l := by
      intro l
      induction l with
      | nil => intro _; rfl
      | cons x l ih =>
        intro h
        have hx := h x (.head _)
        have hl' := fun a ha => h a (.tail _ ha)
        rw [sortB, sortB, ih hl']
        have ins : ∀ m : List U, (∀ a ∈ m, a ∈ us) → insB ltU x m = insB (fun a b => dataLt (toD a) (toD b)) x m := by
          intro m
          induction m with
          | nil => intro _; rfl
          | cons y m ihm =>
            intro hm
            rw [insB, insB, lt_like y x (hm y (.head _)) hx, ihm fun a ha => hm a (.tail _ ha)]
        exact ins _ fun a ha => hl' a ((sortB_perm _ _).mem_iff.mp ha)
    rw [key us fun a h => h]
    refine (sortB_sorted (lt := fun a b => dataLt (toD a) (toD b)) (fun a b h => dLt_asymm h) (fun a b c h1 h2 => ?_) us).imp fun {a b} h => by rw [h]; rfl
    have := dLe_trans (toD a) (toD b) (toD c) (by rw [h1]; rfl) (by rw [h2]; rfl)
    simpa using this
  refine List.Perm.eq_of_pairwise (le := fun a b => (!dataLt (toD b) (toD a)) = true) (fun a b ha hb x y => ?_) s1 s2 ((List.mergeSort_perm _ _).trans (sortB_perm _ _).symm)
  have ha' := mem1 a ha
  have hb' := mem2 b hb
  rw [Bool.not_eq_true', lt_like _ _ hb' ha'] at x
  rw [Bool.not_eq_true', lt_like _ _ ha' hb'] at y
  exact lt_tot a b (likeAll_of hl ha' hb') y x
theorem sortD_of {xs : List U} {z : U} (h : sortD xs = some z) : xs.all okU = true ∧ likeAllB xs = true ∧ (xs.all neTup = true ∨ xs.all noTup = true) ∧ xs.length ≤ 100000 ∧ z = .lst (sortB ltU xs) := by
  unfold sortD at h
  split at h
  · rename_i hh
    simp only [Bool.and_eq_true, Bool.or_eq_true, decide_eq_true_eq] at hh
    cases h
    exact ⟨hh.1.1.1, hh.1.1.2, hh.1.2, hh.2, rfl⟩
  · cases h
section
variable {X : Cx} {c : Cn} {W : WX} {k : Nat} {pos : Pos}
/-- a value is u -/
def IsU (X : Cx) (G : Hp) (x : Value) (u : U) : Prop := ∃ v, RelV v x ∧ Rep (Cx.T X) G u v
theorem each_of {G : Hp} : ∀ {us : List U} {vs : List V} {xs : List Value}, Reps (Cx.T X) G us vs → Vals vs xs → EachIs (IsU X G) xs us
  | [], vs, xs, h, r => by
    rw [reps_nil] at h
    subst h
    cases r
    exact .nil
  | u :: us, vs, xs, h, r => by
    obtain ⟨v, vr, rfl, h1, h2⟩ := reps_cons.1 h
    cases r with
    | cons a b => exact .cons ⟨v, a, h1⟩ (each_of h2 b)
theorem of_each {G : Hp} : ∀ {us : List U} {xs : List Value}, EachIs (IsU X G) xs us → ∃ vs, Vals vs xs ∧ Reps (Cx.T X) G us vs
  | _, _, .nil => ⟨[], .nil, .nil⟩
  | _, _, .cons ⟨v, a, h⟩ t => by
    obtain ⟨vs, b, r⟩ := of_each t
    exact ⟨v :: vs, .cons a b, .cons h r⟩
theorem each_reads {pins : List (Addr × Obj)} {σ : L2.St} {G H : Hp} {s : Shared} {h' : Heap} (I : Inv X pins σ H s) (e : Ex G H) (hk : ∀ b o, s.heap.get? b = some o → h'.get? b = some o) : ∀ {us : List U} {xs : List Value}, us.all okU = true → EachIs (IsU X G) xs us → EachIs (fun v b => ∃ as, Reads h' v (toD b) as) xs us
  | _, _, _, .nil => .nil
  | u :: us, _, ho, .cons ⟨v, a, h⟩ t => by
    rw [List.all_cons, Bool.and_eq_true] at ho
    obtain ⟨as, r1⟩ := (reads_of I e ho.1 h a).1
    exact .cons ⟨as, PyProof.Rows.Reads.keeps hk r1⟩ (each_reads I e hk ho.2 t)
theorem allAlike_of {us : List U} (h : likeAllB us = true) : AllAlike (us.map toD) := by
  intro d hd d' hd'
  obtain ⟨a, ha, rfl⟩ := List.mem_map.mp hd
  obtain ⟨b, hb, rfl⟩ := List.mem_map.mp hd'
  exact like_D a b (likeAll_of h ha hb)
theorem sortable_of {us : List U} (h : us.all neTup = true ∨ us.all noTup = true) : Sortable (us.map toD) := by
  rcases h with h | h
  · left
    intro d hd
    obtain ⟨a, ha, rfl⟩ := List.mem_map.mp hd
    have := List.all_eq_true.mp h a ha
    cases a with
    | tup ys =>
      cases ys with
      | nil => cases this
      | cons y ys => exact ⟨toD y, toDs ys, by rw [toD, toDs]⟩
    | _ => cases this
  · right
    intro d hd
    obtain ⟨a, ha, rfl⟩ := List.mem_map.mp hd
    have := List.all_eq_true.mp h a ha
    cases a with
    | int i => rw [toD]; exact ⟨by simp, fun xs => by simp⟩
    | str i => rw [toD]; exact ⟨by simp, fun xs => by simp⟩
    | bl i => rw [toD]; exact ⟨by simp, fun xs => by simp⟩
    | _ => cases this
theorem depth_of {us : List U} (h : us.all okU = true) : ∀ b ∈ us, (toD b).depth ≤ 64 := fun b hb => by
  have := List.all_eq_true.mp h b hb
  unfold okU at this
  rw [Bool.and_eq_true, decide_eq_true_eq] at this
  exact Nat.le_trans (dep_D b this.1) this.2
theorem sortB_len {α : Type} (lt : α → α → Bool) (l : List α) : (sortB lt l).length = l.length := (sortB_perm lt l).length_eq
theorem c_sortedL (hr : Room k X.A) {us : List U} {z : U} (hz : sortD us = some z) {pins : List (Addr × Obj)} {s : Shared} {σ : L2.St} {G H : Hp} {a : Addr} {vs : List V} (I : Inv X pins σ H s) (e : Ex G H) (hs : SqL X.K G a vs) (hv : Reps (Cx.T X) G us vs) {Q : VK} (q : nuN (Cx.T X) G H z Q) :
    wpAny (model X.prog X.w) X.A (call (.builtin "sorted") [.ref a]) (EP X pins σ Q) X.xe s := by
  obtain ⟨h1, h2, h3, h4, rfl⟩ := sortD_of hz
  obtain ⟨its, rv, pl, _⟩ := I.list (Evl.ex_l e hs)
  have ea := each_of hv rv
  have hu := hr.un
  refine PySem.W.sorted_data pl.isList ea (each_reads I e (fun b o q => q) h1 ea) (allAlike_of h2) (sortable_of h3) (Nat.le_trans h4 (by decide)) (fun b hb => by have := depth_of h1 b hb; omega) fun out ho eo => ?_
  rw [sort_same h2] at eo
  obtain ⟨ws, rw1, rr⟩ := of_each eo
  obtain ⟨ep, he'⟩ := PyProof.Rows.sortedAll_at s.heap its out.toArray
  have hlen : ws.length ≤ sizeLine := by
    rw [← rr.length, sortB_len]
    exact Nat.le_trans h4 (by decide)
  exact ⟨.ref _, upd H (s.heap.objs.size + 1) (.lst ws), I.laid (t' := s.toks) (fun _ _ => PyProof.Rows.sortedAll_old) (Nat.le_succ _) ⟨hlen, out, ep, rw1, he'⟩, rfl, q _ _ (I.hok.fresh (Nat.le_succ _)) rr⟩
/-- the keys of a table, as they stand -/
theorem vals_keys : ∀ {nks : List NestedKey} {bs : List Addr} {vs : List V} {ys : List (NestedKey × Addr × Value)}, Ents nks bs vs ys → Vals (bs.map V.ref) (ys.map fun y => Value.ref y.2.1)
  | _, _, _, _, .nil => .nil
  | _, _, _, _, .cons _ t => .cons rfl (vals_keys t)
theorem c_sortedT (hr : Room k X.A) {ks us : List U} {z : U} (hz : sortD ks = some z) {pins : List (Addr × Obj)} {s : Shared} {σ : L2.St} {G H : Hp} {a : Addr} (I : Inv X pins σ H s) (e : Ex G H) (hs : OwnAt (Cx.T X) G H a (.dct ks us)) {Q : VK} (q : nuN (Cx.T X) G H z Q) :
    wpAny (model X.prog X.w) X.A (call (.builtin "sorted") [.ref a]) (EP X pins σ Q) X.xe s := by
  obtain ⟨h1, h2, h3, h4, rfl⟩ := sortD_of hz
  obtain ⟨nks, bs, vs, ys, g1, g2, g3, g4, he, hl, hsm, dd⟩ := tab_of I e hs
  obtain ⟨o, es, ep, k1, k2, k3, k4, _, _⟩ := dd
  have raw : s.heap.DictRaw a es ep := ⟨o, k1, k2, k3⟩
  have hu := hr.un
  have hlen : es.size = ks.length := by
    have e1 : es.toList.length = ys.length := by rw [k4, List.length_map]
    have e2 := ents_len he
    have e3 : bs.length = vs.length := by
      have : ∀ {nks bs vs ys}, Ents nks bs vs ys → bs.length = vs.length := by
        intro nks bs vs ys h
        induction h with
        | nil => rfl
        | cons _ _ ih => rw [List.length_cons, List.length_cons, ih]
      exact this he
    have e4 := g3.length
    rw [List.length_map] at e4
    rw [Array.length_toList] at e1
    omega
  have hsz : es.size ≤ sizeLine := by rw [hlen]; exact Nat.le_trans h4 (by decide)
  refine Calls.call_function_entry PyProof.Rows.kind_sorted PyProof.Rows.plain_sorted PyProof.Rows.entry_sorted (PyProof.Rows.args_sorted1 _) ?_
  unfold Builtin.«sorted»
  refine wpAny_bind (m := checkCount "sorted" 1 1 _) (wpAny_pure ?_)
  refine wpAny_bind (PySem.W.kdu_collect (A := X.A.in1) (KdlSrc.rawDict hsm) hr.hd raw hsz fun h' tk acc hk hacc => ?_)
  have hal : acc.toList = ys.map fun y => Value.ref y.2.1 := by
    apply List.ext_getElem?
    intro i
    rw [List.getElem?_map]
    by_cases hi : i < acc.size
    · obtain ⟨hi', e1⟩ := hacc.2 i acc[i] (by simp [hi])
      rw [Array.getElem?_toList, Array.getElem?_eq_getElem hi, e1]
      have e2 : es.toList[i]? = (ys.map (entryOfKey (nestedKind X.prog X.w)))[i]? := by rw [k4]
      rw [Array.getElem?_toList, Array.getElem?_eq_getElem hi', List.getElem?_map] at e2
      cases q2 : ys[i]? with
      | none =>
        rw [q2] at e2
        cases e2
      | some y =>
        rw [q2] at e2
        rw [Option.some.inj e2]
        rfl
    · have hn : ys.length ≤ i := by
        have e1 : es.toList.length = ys.length := by rw [k4, List.length_map]
        rw [Array.length_toList] at e1
        have := hacc.1
        omega
      rw [List.getElem?_eq_none hn, Array.getElem?_toList, Array.getElem?_eq_none (by omega)]
      rfl
  have I1 : Inv X pins σ H { s with heap := h', toks := tk } := I.kept hk
  have ea : EachIs (IsU X G) acc.toList ks := by
    rw [hal]
    exact each_of g3 (vals_keys he)
  have hL : acc.toList.length ≤ sizeLine := by
    rw [Array.length_toList, hacc.1]
    exact hsz
  refine wpAny_bind (wpAny_newList ?_ hL)
  have hoL : (h'.push (seqObj "list" acc.toList.toArray 0)).get? h'.objs.size = some (seqObj "list" acc.toList.toArray 0) := Heap.get?_push_size _ rfl
  have er := each_reads I1 e (h' := PySem.W.sortingHeap (h'.push (seqObj "list" acc.toList.toArray 0)) h'.objs.size acc.toList) (fun b o q => PySem.W.sortingHeap_old (Nat.ne_of_lt (Heap.lt_size q)) (Heap.get?_push_of_some _ q)) h1 ea
  show wpAny _ _ _ _ _ { s with heap := h'.push (seqObj "list" acc.toList.toArray 0), toks := tk }
  refine wpAny_bind (wpAny_holding (wpAny_call_entry PyProof.Rows.slot_list_sort ⟨_, hoL, rfl⟩ PyProof.Rows.entry_list_sort
    (PySem.W.list_sort_vals (s := { s with heap := h'.push (seqObj "list" acc.toList.toArray 0), toks := tk }) hoL (PySem.W.SortsAt.data (ds := ks.map toD) (s := { s with heap := PySem.W.sortingHeap (h'.push (seqObj "list" acc.toList.toArray 0)) h'.objs.size acc.toList, toks := tk }) (PySem.W.each_map (R := fun v d => ∃ as, Reads _ v d as) toD er) (allAlike_of h2) (sortable_of h3) (fun d hd => ?_)) hL ⟨_, rfl, ?_⟩) (PyProof.Rows.args_list_sort _)))
  · obtain ⟨b, hb, rfl⟩ := List.mem_map.mp hd
    have := depth_of h1 b hb
    show X.A.units + 1 + 1 + _ < cLine
    omega
  · have eo := PySem.W.sortVals_data (h' := PySem.W.sortingHeap (h'.push (seqObj "list" acc.toList.toArray 0)) h'.objs.size acc.toList) false ea er (allAlike_of h2)
    rw [sort_same h2] at eo
    obtain ⟨ws, rw1, rr⟩ := of_each eo
    obtain ⟨e', he'⟩ := PyProof.Rows.sortedHeap_at (vs := acc.toList) (out := (PySem.W.sortVals (PySem.W.dataKind (PySem.W.sortingHeap (h'.push (seqObj "list" acc.toList.toArray 0)) h'.objs.size acc.toList) (ks.map toD)) false acc.toList acc.toList).toArray) hoL
    have hlw : ws.length ≤ sizeLine := by
      rw [← rr.length, sortB_len]
      exact Nat.le_trans h4 (by decide)
    refine wpAny_pure ⟨_, rfl, .ref h'.objs.size, upd H h'.objs.size (.lst ws), I1.laid (t' := tk) (fun b u e => ?_) (Nat.le_refl _) ⟨hlw, _, e', rw1, he'⟩, rfl, q _ _ (I1.hok.fresh (Nat.le_refl _)) rr⟩
    have hb : b < h'.objs.size := Heap.lt_size e
    show (PyProof.Rows.sortedHeap (h'.push _) h'.objs.size _ _).get? b = some u
    rw [PyProof.Rows.sortedHeap_old (Nat.ne_of_lt hb) (by rw [size_push']; exact Nat.lt_succ_of_lt hb)]
    exact Heap.get?_push_of_some _ e
theorem c_sortedA (hr : Room k X.A) : CallR X (.builtin "sorted") (rc nuN (Cx.T X) bSortedA) := by
  intro pins s σ H xs us Q I r ⟨G, ws, z, e, rp, hz, q⟩
  unfold bSortedA at hz
  split at hz
  · rename_i z' h1
    cases hz
    exact c_sortedI hr pins s σ H xs us Q I r ⟨G, ws, z, e, rp, h1, q⟩
  · split at hz
    · obtain ⟨v, rfl, r1⟩ := reps1 rp
      obtain ⟨a, vs, rfl, h1, h2⟩ := rep_lst.1 r1
      rw [Vals.ref1 r]
      exact c_sortedL hr hz I e h1 h2 q
    · obtain ⟨v, rfl, r1⟩ := reps1 rp
      obtain ⟨a, rfl, ow⟩ := Rep.tab e r1
      rw [Vals.ref1 r]
      exact c_sortedT hr hz I e ow q
    · cases hz
end
end Q
set_option maxRecDepth 100000
set_option maxHeartbeats 2000000
/-! QNbn: a list of new lists, each one appended to (numbers_by_note) -/
namespace Q
open PySem PySem.Spec PyProof.Rows L2
open Evl (Ex)

theorem nodup_inj {α : Type} {l : List α} (h : l.Nodup) {i j : Nat} {a : α} (hi : l[i]? = some a) (hj : l[j]? = some a) : i = j := by
  obtain ⟨h1, e1⟩ := List.getElem?_eq_some_iff.mp hi
  obtain ⟨h2, e2⟩ := List.getElem?_eq_some_iff.mp hj
  have hp := List.pairwise_iff_getElem.mp h
  rcases Nat.lt_trichotomy i j with q | q | q
  · exact absurd (e1.trans e2.symm) (hp i j h1 h2 q)
  · exact q
  · exact absurd (e2.trans e1.symm) (hp j i h2 h1 q)
/-- at D a list of lists of numbers of its own -/
structure NB (c : Cn) (G H : Hp) (D : Addr) (bs : List Addr) (rows : List (List Int)) : Prop where
  hd : H D = some (.lst (bs.map V.ref))
  len : bs.length = rows.length
  item : ∀ i b, bs[i]? = some b → H b = some (.lst ((rows.getD i []).map V.int))
  nd : bs.Nodup
  off : D ∉ bs
  g : ∀ b, b = D ∨ b ∈ bs → G b = none ∧ c.H0 b = none
section
variable {T : Tab} {c : Cn} {G G' H H' : Hp} {D : Addr} {bs : List Addr} {rows : List (List Int)} {ρ : Sl} {σ : L2.St}
theorem NB.at (x : NB c G H D bs rows) {b : Addr} (hb : b = D ∨ b ∈ bs) : ∃ o, H b = some o := by
  rcases hb with rfl | hb
  · exact ⟨_, x.hd⟩
  · obtain ⟨i, hi⟩ := List.mem_iff_getElem?.mp hb
    exact ⟨_, x.item i b hi⟩
theorem NB.lst (x : NB c G H D bs rows) {b : Addr} (hb : b = D ∨ b ∈ bs) : ∃ vs, H b = some (.lst vs) := by
  rcases hb with rfl | hb
  · exact ⟨_, x.hd⟩
  · obtain ⟨i, hi⟩ := List.mem_iff_getElem?.mp hb
    exact ⟨_, x.item i b hi⟩
theorem NB.tne (x : NB c G H D bs rows) (t : LamX.Tabs c.tb H) {b : Addr} (hb : b = D ∨ b ∈ bs) : ∀ p ∈ c.tb, p.1 ≠ b := by
  obtain ⟨vs, e⟩ := x.lst hb
  exact Q.tne t e fun ps z => by cases z
theorem NB.code (x : NB c G H D bs rows) {b : Addr} (hb : b = D ∨ b ∈ bs) : ∀ q, H b ≠ some (LamX.CodeO b q) := fun q z => by
  obtain ⟨vs, e⟩ := x.lst hb
  rw [e] at z
  cases z
theorem NB.keep (x : NB c G H D bs rows) (k : ∀ b o, b = D ∨ b ∈ bs → H b = some o → H' b = some o) (n : ∀ b o, H b = some o → G b = none → G' b = none) : NB c G' H' D bs rows where
  hd := k _ _ (.inl rfl) x.hd
  len := x.len
  item := fun i b e => k _ _ (.inr (List.mem_of_getElem? e)) (x.item i b e)
  nd := x.nd
  off := x.off
  g := fun b hb => by
    obtain ⟨o, ho⟩ := x.at hb
    exact ⟨n b o ho (x.g b hb).1, (x.g b hb).2⟩
theorem NB.stp (x : NB c G H D bs rows) (t : LamX.Tabs c.tb H) (hm : c.mu = []) (s : Stp c σ G H G' H') : NB c G' H' D bs rows :=
  x.keep (fun b o hb h => s.k b o h (fun i hi => by rw [hm] at hi; cases hi) (fun ps z => by
    obtain ⟨vs, e⟩ := x.lst hb
    rw [h, z] at e
    cases e)) s.n
theorem NB.grow (x : NB c G H D bs rows) (w : Grow G H G' H') : NB c G' H' D bs rows := x.keep (fun b o _ h => w.h b o h) w.n
theorem NB.put (x : NB c G H D bs rows) {i : Nat} {b : Addr} (hb : bs[i]? = some b) (ns : List Int) : NB c G (upd H b (.lst (ns.map V.int))) D bs (rows.set i ns) := by
  have hl : i < bs.length := (List.getElem?_eq_some_iff.mp hb).1
  refine ⟨?_, by rw [List.length_set, x.len], fun j a ha => ?_, x.nd, x.off, x.g⟩
  · have ne : D ≠ b := fun e => x.off (by rw [e]; exact List.mem_of_getElem? hb)
    rw [upd_ne ne]
    exact x.hd
  · by_cases hj : j = i
    · subst hj
      rw [hb] at ha
      cases ha
      rw [upd_same, List.getD_eq_getElem?_getD, List.getElem?_set_self (by rw [← x.len]; exact hl)]
      rfl
    · have ne : a ≠ b := by
        rintro rfl
        exact hj (nodup_inj x.nd ha hb)
      rw [upd_ne ne, x.item j a ha, List.getD_eq_getElem?_getD, List.getD_eq_getElem?_getD, List.getElem?_set_ne (Ne.symm hj)]
theorem R.nb (r : R T c G ρ σ H) (hm : c.mu = []) (x : NB c G H D bs rows) {b : Addr} (hb : b ∈ bs) (o : HO) : R T c G ρ σ (upd H b o) :=
  r.free (x.tne r.th (.inr hb)) (x.code (.inr hb)) (x.g b (.inr hb)).1 (x.g b (.inr hb)).2 (by rw [hm]; intro i hi; cases hi)
/-- less is told -/
theorem R.less {ρ' : Sl} (r : R T c G ρ σ H) (hm : c.mu = []) (hd : c.da = none) (hl : ρ'.length = ρ.length) (h : ∀ (i : Nat) (u : U), ρ'[i]? = some (some u) → ρ[i]? = some (some u)) : R T c G ρ' σ H where
  dk := fun a q => by rw [hd] at q; cases q
  ex := r.ex
  g0 := r.g0
  nw := r.nw
  fr := r.fr
  ng := r.ng
  dm := r.dm
  th := r.th
  dd := r.dd
  len := hl.trans r.len
  sh := fun i u e m => r.sh i u (h i u e) m
  ow := fun i u e m => by rw [hm] at m; cases m
  ap := fun i j u w _ _ m => by rw [hm] at m; cases m
  lv := fun i v m => by rw [hm] at m; cases m
/-- the list of lists is known from now on -/
theorem R.seal {f : Nat} (r : R T c G ρ σ H) (hm : c.mu = []) (hd : c.da = none) (x : NB c G H D bs rows) (hs : σ[f]? = some (some (.ref D))) :
    ∃ G', Ex G G' ∧ R T c G' (ρ.set f (some (.lst (rows.map fun r => .lst (r.map .int))))) σ H := by
  classical
  let S : Addr → Prop := fun a => a = D ∨ a ∈ bs
  let G' : Hp := fun a => if S a then H a else G a
  have gs : ∀ a, S a → G' a = H a := fun a s => if_pos s
  have gn : ∀ a, ¬ S a → G' a = G a := fun a s => if_neg s
  have ex : Ex G G' := fun a o q => by
    by_cases s : S a
    · rw [(x.g a s).1] at q
      cases q
    · rw [gn a s]
      exact q
  have rp : Rep T G' (.lst (rows.map fun r => .lst (r.map .int))) (.ref D) := by
    refine rep_lst.2 ⟨D, _, rfl, .inl (.inl ((gs D (.inl rfl)).trans x.hd)), ?_⟩
    have : ∀ (rows : List (List Int)) (bs : List Addr), bs.length = rows.length → (∀ i b, bs[i]? = some b → G' b = some (.lst ((rows.getD i []).map V.int))) → Reps T G' (rows.map fun r => .lst (r.map .int)) (bs.map V.ref) := by
      intro rows
      induction rows with
      | nil =>
        intro bs hl _
        cases bs with
        | nil => exact .nil
        | cons _ _ => cases hl
      | cons q rows ih =>
        intro bs hl h
        cases bs with
        | nil => cases hl
        | cons b bs =>
          exact .cons (rep_lst.2 ⟨b, _, rfl, .inl (.inl (h 0 b rfl)), reps_ints⟩) (ih bs (Nat.succ.inj hl) fun i b' e => h (i + 1) b' (by simpa using e))
    exact this rows bs x.len fun i b e => (gs b (.inr (List.mem_of_getElem? e))).trans (x.item i b e)
  have e : σ.set f (some (.ref D)) = σ := by
    apply List.ext_getElem?
    intro i
    by_cases hi : f = i
    · subst hi
      rw [List.getElem?_set_self ((List.getElem?_eq_some_iff.mp hs).1), hs]
    · rw [List.getElem?_set_ne hi]
  have r1 : R T c G' ρ σ H := by
    refine ⟨fun a q => (by rw [hd] at q; cases q), fun a o q => ?_, r.g0.trans ex, fun a o q z => ?_, r.fr, (fun a ps q => by
      by_cases s : S a
      · rw [gs a s] at q
        obtain ⟨vs, e⟩ := x.lst s
        rw [q] at e
        cases e
      · rw [gn a s] at q
        exact r.ng a ps q), r.dm, r.th, r.dd, r.len, fun i u e m => ?_, fun i u e m => (by rw [hm] at m; cases m), fun i j u w _ _ m => (by rw [hm] at m; cases m), fun i v m => (by rw [hm] at m; cases m)⟩
    · by_cases s : S a
      · rw [gs a s] at q
        exact q
      · rw [gn a s] at q
        exact r.ex a o q
    · have s : ¬ S a := fun s => by
        rw [(x.g a s).2] at q
        cases q
      rw [gn a s]
      exact r.nw a o q z
    · obtain ⟨v, e1, e2⟩ := r.sh i u e m
      exact ⟨v, e1, Rep.mono ex _ _ e2⟩
  have r2 := r1.store (i := f) (v := .ref D) (by rw [hm]; simp) rp
  rw [e] at r2
  exact ⟨G', ex, r2⟩
end

theorem markN_len (n : Int) : ∀ (k i : Nat) (rows : List (List Int)), (markN k i n rows).length = rows.length
  | 0, _, _ => rfl
  | k + 1, i, rows => by rw [markN, markN_len n k, mark1, List.length_set]
/-- each row at most so long -/
def RowsLe (N : Nat) (rows : List (List Int)) : Prop := ∀ r ∈ rows, r.length ≤ N
theorem rowsLe_mark {N i : Nat} {n : Int} {rows : List (List Int)} (h : RowsLe N rows) : RowsLe (N + 1) (mark1 rows i n) := by
  intro r hr
  unfold mark1 at hr
  rcases List.mem_or_eq_of_mem_set hr with hr | rfl
  · exact Nat.le_succ_of_le (h r hr)
  · by_cases hi : i < rows.length
    · have hm : rows.getD i [] ∈ rows := by
        rw [List.getD_eq_getElem?_getD, List.getElem?_eq_getElem hi]
        exact List.getElem_mem hi
      split
      · exact Nat.le_succ_of_le (h _ hm)
      · rw [List.length_append]
        exact Nat.succ_le_succ (h _ hm)
    · have e : rows.getD i [] = [] := by
        rw [List.getD_eq_getElem?_getD, List.getElem?_eq_none (by omega)]
        rfl
      rw [e]
      split
      · exact Nat.zero_le _
      · exact Nat.succ_le_succ (Nat.zero_le _)
section
variable {T : Tab} {c : Cn} {G G' H H' : Hp} {D : Addr} {bs : List Addr} {rows : List (List Int)} {ρ : Sl} {σ : L2.St}
theorem R.unwipe {vs : List Nat} (r : R T c G (wipeU ρ vs) (L2.wipe σ vs) H) (hm : c.mu = []) (hd : c.da = none) : R T c G (wipeU ρ vs) σ H where
  dk := fun a q => by rw [hd] at q; cases q
  ex := r.ex
  g0 := r.g0
  nw := r.nw
  fr := r.fr
  ng := r.ng
  dm := r.dm
  th := r.th
  dd := r.dd
  len := by
    have := r.len
    rw [wipe_length] at this
    exact this
  sh := fun i u e m => by
    obtain ⟨v, e1, e2⟩ := r.sh i u e m
    rw [wipe_out' (wipeU_some e).2] at e1
    exact ⟨v, e1, e2⟩
  ow := fun i u e m => by rw [hm] at m; cases m
  ap := fun i j u w _ _ m => by rw [hm] at m; cases m
  lv := fun i v m => by rw [hm] at m; cases m
theorem R.setFree {i : Nat} {x : Option V} (r : R T c G ρ σ H) (hm : c.mu = []) (hd : c.da = none) (hn : ∀ u, ρ[i]? ≠ some (some u)) : R T c G ρ (σ.set i x) H where
  dk := fun a q => by rw [hd] at q; cases q
  ex := r.ex
  g0 := r.g0
  nw := r.nw
  fr := r.fr
  ng := r.ng
  dm := r.dm
  th := r.th
  dd := r.dd
  len := by rw [List.length_set]; exact r.len
  sh := fun j u e m => by
    have hj : i ≠ j := fun z => hn u (z ▸ e)
    obtain ⟨v, e1, e2⟩ := r.sh j u e m
    exact ⟨v, by rw [List.getElem?_set_ne hj]; exact e1, e2⟩
  ow := fun i u e m => by rw [hm] at m; cases m
  ap := fun i j u w _ _ m => by rw [hm] at m; cases m
  lv := fun i v m => by rw [hm] at m; cases m
/-- [[] for v in ..] -/
theorem nb_lc {us : List U} {J : It} {v : Nat} {G1 H1 : Hp} {ρ1 : Sl} {Qd : Hp → Prop} (hm : c.mu = []) (hda : c.da = none) (r1 : R T c G1 ρ1 σ H1) (l1 : ItOk T G1 J us) (hz : us.length ≤ 1000) (hD : H1 D = none)
    (h : ∀ H2 G2 bs, Ex G1 G2 → R T c G2 (wipeU ρ1 [v]) σ H2 → NB c G2 H2 D bs (List.replicate us.length []) → Qd H2) :
    ∃ W : Nat → Nat → Hp → Prop, (∃ m, W 0 m (upd H1 D (.lst []))) ∧ ∀ i m H, W i m H → (J.stop i H ∧ Qd H) ∨ (J.go i H ∧ ∃ Nx : Hp → Prop, (∀ H', Nx H' → ∃ m', m' < m ∧ W (i + 1) m' H') ∧
      ∀ x H', J.yld i H x H' → tqg T c [v] (gN v) x (wipe σ [v]) H' fun σ2 H2 => wipe σ2 [v] = wipe σ [v] ∧ tq T c W0 relB tTrue σ2 H2 fun b H3 =>
        if b = true then tLst tNil σ2 H3 fun y H4 => ∃ acc, H4 D = some (.lst acc) ∧ acc.length < sizeLine ∧ Nx (upd H4 D (.lst (acc ++ [y]))) else Nx H3) := by
  have hvm : ∀ i ∈ [v], i ∉ c.mu := fun i _ => by rw [hm]; simp
  have noS : ∀ (τ : L2.St) (a : Addr), ∀ i ∈ c.mu, τ[i]? ≠ some (some (.ref a)) := fun τ a i hi => by rw [hm] at hi; cases hi
  have hG1 : G1 D = none := Evl.fresh_back r1.ex hD
  obtain ⟨hD0, _⟩ := r1.fresh0 hD
  refine ⟨fun i m H => ∃ G bs, Ex G1 G ∧ R T c G (wipeU ρ1 [v]) (wipe σ [v]) H ∧ NB c G H D bs (List.replicate i []) ∧ i ≤ us.length ∧ m = us.length - i,
    ⟨_, G1, [], Ex.refl _, (r1.wipe hvm).free (tne0 r1.th hD) (fun q z => by rw [hD] at z; cases z) hG1 hD0 (noS _ _), ⟨upd_same, rfl, fun i b e => by simp at e, List.nodup_nil, by simp, fun b hb => ?_⟩, Nat.zero_le _, rfl⟩, ?_⟩
  · rcases hb with rfl | hb
    · exact ⟨hG1, hD0⟩
    · cases hb
  rintro i m H ⟨G, bs, ex, r, nb, hi, rfl⟩
  obtain ⟨q1, q2⟩ := l1 G H ex r.ex i
  by_cases hlt : i < us.length
  · right
    obtain ⟨q3, q4⟩ := q2 us[i] (by simp [hlt])
    refine ⟨q3, fun H' => ∃ G bs, Ex G1 G ∧ R T c G (wipeU ρ1 [v]) (wipe σ [v]) H' ∧ NB c G H' D bs (List.replicate (i + 1) []), fun H' ⟨G', bs', k1, k2, k3⟩ => ⟨us.length - (i + 1), by omega, G', bs', k1, k2, k3, hlt, rfl⟩, fun x H' y => ?_⟩
    obtain ⟨G', gw, rx⟩ := q4 x H' y
    refine ⟨G', wipeU ρ1 [v], us[i], _, r.grow gw, rx, rfl, fun σ2 ra hlen hag => ?_⟩
    have hag2 : ∀ j, j ∉ [v] → σ2[j]? = σ[j]? := fun j hj => (hag j hj).trans (wipe_out' hj)
    have hw : wipe σ2 [v] = wipe σ [v] := wipe_same (by rw [hlen, wipe_length]) hag2
    refine ⟨hw, G', _, ra, ?_⟩
    intro b' Gb Hb sb rb lb
    subst lb
    rw [if_pos rfl]
    have nb2 : NB c Gb Hb D bs (List.replicate i []) := (nb.grow gw).stp ra.th hm sb
    refine ⟨Nat.zero_le _, fun p hp => ?_⟩
    have hDp : D ≠ p := ne_of_none nb2.hd hp
    have hGp : Gb p = none := Evl.fresh_back rb.ex hp
    obtain ⟨hp0, _⟩ := rb.fresh0 hp
    have hpb : p ∉ bs := fun hb => by
      obtain ⟨o, ho⟩ := nb2.at (.inr hb)
      rw [hp] at ho
      cases ho
    refine ⟨bs.map V.ref, by rw [upd_ne hDp]; exact nb2.hd, ?_, Gb, bs ++ [p], ex.trans (gw.g.trans sb.g), ?_, ⟨?_, ?_, fun j b e => ?_, ?_, ?_, fun b hb => ?_⟩⟩
    · rw [List.length_map, nb2.len, List.length_replicate]
      exact Nat.lt_of_lt_of_le hlt (Nat.le_trans hz (by decide))
    · have rw1 := rb.wipe hvm
      rw [hw] at rw1
      have r3 := (rw1.free (o := .lst []) (tne0 rb.th hp) (fun q z => by rw [hp] at z; cases z) hGp hp0 (noS _ _)).free (o := .lst (bs.map V.ref ++ [.ref p])) (nb2.tne rb.th (.inl rfl)) (fun q z => by rw [upd_ne hDp, nb2.hd] at z; cases z) (nb2.g D (.inl rfl)).1 (nb2.g D (.inl rfl)).2 (noS _ _)
      refine r3.less hm hda (by rw [wipeU_len, wipeU_len, List.length_set, wipeU_len]) fun j u e => ?_
      obtain ⟨e1, e2⟩ := wipeU_some e
      rw [wipeU_out e2]
      have hj : v ≠ j := fun z => e2 (by simp [z])
      rw [List.getElem?_set_ne hj]
      exact e
    · rw [upd_same, List.map_append]
      rfl
    · rw [List.length_append, nb2.len, List.length_replicate, List.length_replicate]
      rfl
    · have eg : (List.replicate (i + 1) ([] : List Int)).getD j [] = [] := by
        rw [List.getD_eq_getElem?_getD, List.getElem?_replicate]
        split <;> rfl
      rw [eg]
      have hbD : b ≠ D := by
        rintro rfl
        rcases List.mem_append.mp (List.mem_of_getElem? e) with q | q
        · exact nb2.off q
        · simp at q
          exact hDp q
      rw [upd_ne hbD]
      by_cases hj : j < bs.length
      · rw [List.getElem?_append_left hj] at e
        have hbp : b ≠ p := fun z => hpb (z ▸ List.mem_of_getElem? e)
        rw [upd_ne hbp, nb2.item j b e, List.getD_eq_getElem?_getD, List.getElem?_replicate]
        split <;> rfl
      · rw [List.getElem?_append_right (by omega)] at e
        have : b = p := by
          have := List.mem_of_getElem? e
          simpa using this
        subst this
        rw [upd_same]
        rfl
    · rw [List.nodup_append]
      refine ⟨nb2.nd, by simp, fun a ha b hb => ?_⟩
      simp at hb
      subst hb
      exact fun z => hpb (z ▸ ha)
    · rw [List.mem_append, not_or]
      exact ⟨nb2.off, by simpa using hDp⟩
    · rcases hb with rfl | hb
      · exact nb2.g _ (.inl rfl)
      · rcases List.mem_append.mp hb with hb | hb
        · exact nb2.g _ (.inr hb)
        · simp at hb
          subst hb
          exact ⟨hGp, hp0⟩
  · left
    have e : i = us.length := by omega
    subst e
    exact ⟨q1 (Nat.le_refl _) (Nat.le_refl _), h H G bs ex (r.unwipe hm hda) nb⟩
end
end Q
set_option maxRecDepth 100000
set_option maxHeartbeats 2000000
/-! QNbn2: the loops of numbers_by_note -/
namespace Q
open PySem PySem.Spec PyProof.Rows L2
open Evl (Ex)

section
variable {X : Cx} {c : Cn} {W : WX} {k : Nat} {fr : Bool} {pos : Pos}
theorem mem_nb {rows : List (List Int)} {i : Nat} {n : Int} : (uNotIn (.int n) (.lst ((rows.getD i []).map U.int))) = some (.bl (decide (n ∉ rows.getD i []))) := by
  have ok : ∀ ns : List Int, okU (.lst (ns.map U.int)) = true := fun ns => by
    have h1 : ∀ ns : List Int, plUs (ns.map U.int) = true ∧ depUs (ns.map U.int) = 0 := by
      intro ns
      induction ns with
      | nil => exact ⟨rfl, rfl⟩
      | cons a ns ih =>
        rw [List.map_cons, plUs, depUs, ih.1, ih.2]
        exact ⟨rfl, rfl⟩
    unfold okU
    rw [plU, depU, (h1 ns).1, (h1 ns).2]
    rfl
  have an : ∀ ns : List Int, ((ns.map U.int).any fun z => eqvU z (.int n)) = decide (n ∈ ns) := by
    intro ns
    induction ns with
    | nil => rfl
    | cons a ns ih =>
      rw [List.map_cons, List.any_cons, ih, eqvU]
      by_cases e : a = n
      · subst e
        simp
      · have e' : ¬ n = a := fun z => e z.symm
        simp [e, e']
  unfold uNotIn uInB
  simp only [show okU (.int n) = true from rfl, ok, Bool.and_self, if_true, Option.map_some, an]
  simp
/-- the loops' body's state -/
structure NS (X : Cx) (c : Cn) (f : Nat) (D : Addr) (ρF : Sl) (G : Hp) (ρ : Sl) (bs : List Addr) (rows : List (List Int)) (σ : L2.St) (H : Hp) : Prop where
  r : R (Cx.T X) c G ρ σ H
  s : σ[f]? = some (some (.ref D))
  n : NB c G H D bs rows
  k : ∀ (i : Nat) (u : U), ρF[i]? = some (some u) → ρ[i]? = some (some u)
  l : ρF.length = ρ.length
theorem r_slot {G H : Hp} {ρ : Sl} {σ : L2.St} {i : Nat} {u : U} (r : R (Cx.T X) c G ρ σ H) (hm : c.mu = []) (h : ρ[i]? = some (some u)) : ∃ v, σ[i]? = some (some v) ∧ Rep (Cx.T X) G u v := r.sh i u h (by rw [hm]; simp)
/-- if number not in found[note]: found[note].append(number) -/
theorem nb_body {f a3 a5 : Nat} {nf n3 n5 : Str} {D : Addr} {p1 p2 p3 p4 p5 p6 p7 p8 p9 p10 p11 p12 : Pos} {ts : TS} (hr : Room k X.A) (hm : c.mu = [])
    (h1 : PT X (.Compare (.Name n3 p1) [.NotIn] [.Subscript (.Name nf p2) (.Name n5 p3) p4] p5) (tTest (tOp (r2 nuS (Cx.T X) uNotIn) (tVar a3) (tOp (rIxL X.K) (tVar f) (tVar a5)))))
    (h2 : PE X (.Call (.Attribute (.Subscript (.Name nf p6) (.Name n5 p7) p8) "append" p9) [.Name n3 p10] [] p11) (tBM X.K "list" rAppend (tOp (rIxL X.K) (tVar f) (tVar a5)) (tCons (tVar a3) tNil)))
    (hsw : swapsWith (.Call (.Attribute (.Subscript (.Name nf p6) (.Name n5 p7) p8) "append" p9) [.Name n3 p10] [] p11) none p12.line X.env = pure false) {p13 : Pos} :
    PS X (.If (.Compare (.Name n3 p1) [.NotIn] [.Subscript (.Name nf p2) (.Name n5 p3) p4] p5) [.Expr (.Call (.Attribute (.Subscript (.Name nf p6) (.Name n5 p7) p8) "append" p9) [.Name n3 p10] [] p11) p12] [] p13)
      fun Dn σ H => ∃ ρF G ρ bs rows n i, NS X c f D ρF G ρ bs rows σ H ∧ ρ[a3]? = some (some (.int n)) ∧ ρ[a5]? = some (some (.int (i : Nat))) ∧ i < rows.length ∧ RowsLe 10000000 rows ∧
        ∀ G' H', Ex G G' → NS X c f D ρF G' ρ bs (mark1 rows i n) σ H' → Dn.nx σ H' :=
  PS.weak (ps_if h1 (pss_one (ps_expr h2 hsw)) pss_nil) fun Dn σ H ⟨ρF, G, ρ, bs, rows, n, i, ns, e3, e5, hi, hle, q⟩ => by
    obtain ⟨v3, g3, l3⟩ := r_slot ns.r hm e3
    obtain ⟨v5, g5, l5⟩ := r_slot ns.r hm e5
    rw [rep_int] at l3 l5
    subst l3 l5
    have hb : i < bs.length := by rw [ns.n.len]; exact hi
    obtain ⟨b, eb⟩ : ∃ b, bs[i]? = some b := ⟨bs[i], List.getElem?_eq_getElem hb⟩
    have hbm := List.mem_of_getElem? eb
    have hHb := ns.n.item i b eb
    have eat : atI (bs.map V.ref) ((i : Nat) : Int) = some (.ref b) := by
      unfold atI ixN
      rw [if_pos (by omega), if_pos (by rw [List.length_map]; omega)]
      show (bs.map V.ref)[((i : Nat) : Int).toNat]? = some (.ref b)
      rw [Int.toNat_natCast, List.getElem?_map, eb]
      rfl
    have ix : rIxL X.K (.ref D) (.int ((i : Nat) : Int)) H fun x H1 => x = .ref b ∧ H1 = H := ⟨D, _, _, _, rfl, rfl, .inl (.inl ns.n.hd), eat, rfl, rfl⟩
    have ixi : ∀ (Q : VK), Q (.ref b) H → rIxL X.K (.ref D) (.int ((i : Nat) : Int)) H Q := fun Q hq => ⟨D, _, _, _, rfl, rfl, .inl (.inl ns.n.hd), eat, hq⟩
    have exb : Ex (upd G b (.lst ((rows.getD i []).map V.int))) H := fun a o e => by
      by_cases ha : a = b
      · subst ha
        rw [upd_same] at e
        cases e
        exact hHb
      · rw [upd_ne ha] at e
        exact ns.r.ex a o e
    refine ⟨.int n, g3, .ref D, ns.s, .int ((i : Nat) : Int), g5, ixi _ ⟨upd G b (.lst ((rows.getD i []).map V.int)), .int n, .lst ((rows.getD i []).map U.int), _, exb, rep_int.2 rfl, rep_lst.2 ⟨b, _, rfl, .inl (.inl upd_same), reps_ints⟩, mem_nb, fun v G' H' gw rv => ?_⟩⟩
    have hv : v = .bl (decide (n ∉ rows.getD i [])) := rep_bl.1 rv
    refine ⟨_, hv, ?_⟩
    have hGb : G b = none := (ns.n.g b (.inr hbm)).1
    have gw2 : Grow G H (fun a => if a = b then none else G' a) H' := by
      refine ⟨fun a o e => ?_, fun a o e => ?_, gw.h, fun a o e z => ?_, fun a ps e => ?_⟩
      · have ha : a ≠ b := ne_of_none e hGb
        show (if a = b then none else G' a) = some o
        rw [if_neg ha]
        exact gw.g a o (by rw [upd_ne ha]; exact e)
      · have e' : (if a = b then none else G' a) = some o := e
        split at e'
        · cases e'
        · exact gw.e a o e'
      · show (if a = b then none else G' a) = none
        by_cases ha : a = b
        · rw [if_pos ha]
        · rw [if_neg ha]
          exact gw.n a o e (by rw [upd_ne ha]; exact z)
      · have e' : (if a = b then none else G' a) = some (.tbl ps) := e
        by_cases ha : a = b
        · rw [if_pos ha] at e'
          cases e'
        · rw [if_neg ha] at e'
          have := gw.t a ps e'
          rwa [upd_ne ha] at this
    have ns2 : NS X c f D ρF (fun a => if a = b then none else G' a) ρ bs rows σ H' := ⟨ns.r.grow gw2, ns.s, ns.n.grow gw2, ns.k, ns.l⟩
    by_cases hn : n ∈ rows.getD i []
    · rw [decide_eq_false (by simpa using hn)]
      have e : mark1 rows i n = rows := by
        unfold mark1
        rw [if_pos hn]
        apply List.ext_getElem?
        intro j
        by_cases hj : i = j
        · subst hj
          rw [List.getElem?_set_self hi, List.getD_eq_getElem?_getD, List.getElem?_eq_getElem hi]
          rfl
        · rw [List.getElem?_set_ne hj]
      have q2 := q _ H' gw2.g
      rw [e] at q2
      exact q2 ns2
    · rw [decide_eq_true hn]
      have hHb' := ns2.n.item i b eb
      show tBM X.K "list" rAppend (tOp (rIxL X.K) (tVar f) (tVar a5)) (tCons (tVar a3) tNil) σ H' fun _ H1 => Dn.nx σ H1
      refine ⟨.ref D, ns.s, .int ((i : Nat) : Int), g5, D, _, _, _, rfl, rfl, .inl (.inl ns2.n.hd), eat, .inl ⟨rfl, _, .inl (.inl hHb')⟩, .int n, g3, b, _, .int n, rfl, rfl, hHb', ?_, ?_⟩
      · rw [List.length_map]
        have hmem : rows.getD i [] ∈ rows := by
          rw [List.getD_eq_getElem?_getD, List.getElem?_eq_getElem hi]
          exact List.getElem_mem hi
        exact Nat.lt_of_le_of_lt (hle _ hmem) (by decide)
      · have em : mark1 rows i n = rows.set i (rows.getD i [] ++ [n]) := by
          unfold mark1
          rw [if_neg hn]
        have nb3 := ns2.n.put eb (rows.getD i [] ++ [n])
        have eb3 : (rows.getD i [] ++ [n]).map V.int = (rows.getD i []).map V.int ++ [V.int n] := by
          rw [List.map_append]
          rfl
        rw [eb3] at nb3
        have q2 := q _ (upd H' b (.lst ((rows.getD i []).map V.int ++ [V.int n]))) gw2.g
        rw [em] at q2
        exact q2 ⟨ns2.r.nb hm ns2.n hbm _, ns.s, nb3, ns.k, ns.l⟩
/-- for note in range(start, stop): .. -/
theorem nb_inner {f a1 a2 a3 a5 : Nat} {D : Addr} {n5 : Str} {p0 pr : Pos} {ea eb : Expr} {body : List Stmt} {tb : TS} {ipos : Pos} (own : PassesOwn (model X.prog X.w) X.A X.env X.xe) (calm : X.calm = true) (hm : c.mu = []) (hda : c.da = none) (hf5 : f ≠ a5) (h35 : a3 ≠ a5)
    (hi : QI X c W (.Name n5 p0) (.Call (.Name "range" pr) [ea, eb] [] ipos) (iRange2 (aCons (eV a1) (aCons (eV a2) aNil)))) (hg : QG X c [a5] (.Name n5 p0) (gN a5)) (hb : PSs X body tb)
    (hbody : ∀ (Dn : Ends) (σ : L2.St) (H : Hp), (∃ ρF G ρ bs rows n i, NS X c f D ρF G ρ bs rows σ H ∧ ρ[a3]? = some (some (.int n)) ∧ ρ[a5]? = some (some (.int (i : Nat))) ∧ i < rows.length ∧ RowsLe 10000000 rows ∧ ∀ G' H', Ex G G' → NS X c f D ρF G' ρ bs (mark1 rows i n) σ H' → Dn.nx σ H') → tb Dn σ H)
    (hs : ∀ x, foldedSetIterable (.Call (.Name "range" pr) [ea, eb] [] ipos) X.env x = pure x) :
    PS X (.For (.Name n5 p0) (.Call (.Name "range" pr) [ea, eb] [] ipos) body [] pos) fun Dn σ H => ∃ ρF G ρ bs rows n s t, NS X c f D ρF G ρ bs rows σ H ∧ ρF[a5]? = some none ∧ a5 < ρ.length ∧ ρ[a3]? = some (some (.int n)) ∧ ρ[a1]? = some (some (.int ((s : Nat) : Int))) ∧ ρ[a2]? = some (some (.int ((t : Nat) : Int))) ∧
      s ≤ t ∧ t ≤ rows.length ∧ rows.length ≤ 1000 ∧ RowsLe 5000000 rows ∧ ∀ σ' G' ρ' bs' H', Ex G G' → NS X c f D ρF G' ρ' bs' (markN (t - s) s n rows) σ' H' → Dn.nx σ' H' :=
  PS.weak (ps_for own calm hi hg hb hs) fun Dn σ H ⟨ρF, G, ρ, bs, rows, n, s, t, ns, hF5, hl5, e3, e1, e2, hst, htl, hL, hle, q⟩ => by
    refine ⟨G, ρ, ns.r, ?_⟩
    have ev1 : eV a1 ρ = .ok (.int s) ρ := by
      unfold eV
      rw [e1]
    have ev2 : eV a2 ρ = .ok (.int t) ρ := by
      unfold eV
      rw [e2]
    have er : iRange2 (aCons (eV a1) (aCons (eV a2) aNil)) ρ = .ok (rangeU s (t - s)) ρ := by
      unfold iRange2 aCons
      rw [ev1]
      simp only [Rs.bind]
      rw [ev2]
      simp only [Rs.bind, aNil]
      rw [if_pos (by refine ⟨?_, ?_, ?_, ?_⟩ <;> omega)]
      congr 2
      omega
    rw [er]
    intro J G1 H1 st r1 l1
    have ns1 : NS X c f D ρF G1 ρ bs rows σ H1 := ⟨r1, ns.s, ns.n.stp ns.r.th hm st, ns.k, ns.l⟩
    refine ⟨fun i m σ H => ∃ G ρ bs rows', Ex G1 G ∧ NS X c f D ρF G ρ bs rows' σ H ∧ ρ[a3]? = some (some (.int n)) ∧ a5 < ρ.length ∧ markN (t - s - i) (s + i) n rows' = markN (t - s) s n rows ∧ rows'.length = rows.length ∧ RowsLe (5000000 + i) rows' ∧ i ≤ t - s ∧ m = t - s - i,
      ⟨_, G1, ρ, bs, rows, Ex.refl _, ns1, e3, hl5, by simp, rfl, hle, Nat.zero_le _, rfl⟩, ?_⟩
    rintro i m σ H ⟨G, ρ, bs, rows', ex, ns, e3, hl5, hmk, hlen, hle, hi, rfl⟩
    obtain ⟨q1, q2⟩ := l1 G H ex ns.r.ex i
    rw [rangeU_len] at q1
    by_cases hlt : i < t - s
    · right
      obtain ⟨q3, q4⟩ := q2 (.int ((s : Nat) + (i : Nat) : Int)) (by rw [rangeU_get (t - s) _ i hlt])
      refine ⟨q3, fun σ' H' => ∃ G ρ bs rows', Ex G1 G ∧ NS X c f D ρF G ρ bs rows' σ' H' ∧ ρ[a3]? = some (some (.int n)) ∧ a5 < ρ.length ∧ markN (t - s - (i + 1)) (s + (i + 1)) n rows' = markN (t - s) s n rows ∧ rows'.length = rows.length ∧ RowsLe (5000000 + (i + 1)) rows',
        fun σ' H' ⟨G', ρ', bs', rw', k1, k2, k3, k4, k5, k6, k7⟩ => ⟨t - s - (i + 1), by omega, G', ρ', bs', rw', k1, k2, k3, k4, k5, k6, k7, hlt, rfl⟩, fun x H' y => ?_⟩
      obtain ⟨G', gw, rx⟩ := q4 x H' y
      refine ⟨G', ρ, _, _, ns.r.grow gw, rx, rfl, fun σ2 ra hlen2 hag => ?_⟩
      refine hbody _ _ _ ⟨ρF, G', _, bs, rows', n, s + i, ⟨ra, ?_, ns.n.grow gw, fun j u e => ?_, ?_⟩, ?_, ?_, by omega, fun r hr => Nat.le_trans (hle r hr) (by omega), fun G2 H2 ex2 ns2 => ?_⟩
      · rw [hag f (by simpa using hf5)]
        exact ns.s
      · have hj : a5 ≠ j := by
          rintro rfl
          rw [hF5] at e
          cases e
        rw [List.getElem?_set_ne hj]
        exact ns.k j u e
      · rw [List.length_set]
        exact ns.l
      · rw [List.getElem?_set_ne (Ne.symm h35)]
        exact e3
      · rw [List.getElem?_set_self hl5]
        push_cast
        rfl
      · refine ⟨G2, _, bs, mark1 rows' (s + i) n, (ex.trans gw.g).trans ex2, ns2, ?_, by rw [List.length_set]; exact hl5, ?_, ?_, ?_⟩
        · rw [List.getElem?_set_ne (Ne.symm h35)]
          exact e3
        · rw [← hmk, show t - s - i = (t - s - (i + 1)) + 1 by omega, markN]
          rfl
        · rw [mark1, List.length_set]
          exact hlen
        · exact rowsLe_mark hle
    · left
      have e : i = t - s := by omega
      subst e
      rw [Nat.sub_self, markN] at hmk
      rw [hmk] at ns
      exact ⟨q1 (Nat.le_refl _) (Nat.le_refl _), q σ G ρ bs H (st.g.trans ex) ns⟩
theorem rowsLe_markN {n : Int} : ∀ (k i N : Nat) (rows : List (List Int)), RowsLe N rows → RowsLe (N + k) (markN k i n rows)
  | 0, _, _, _, h => h
  | k + 1, i, N, rows, h => by
    rw [markN]
    have := rowsLe_markN (n := n) k (i + 1) (N + 1) (mark1 rows i n) (rowsLe_mark h)
    intro r hr
    have := this r hr
    omega
theorem nbnRun_cons {u : U} {us : List U} {rows rowsF : List (List Int)} (h : nbnRun (u :: us) rows = some rowsF) : ∃ (s t : Nat) (n m : Int), u = .tup [.int s, .int t, .int n, .int m] ∧ s ≤ t ∧ t ≤ rows.length ∧ nbnRun us (markN (t - s) s n rows) = some rowsF := by
  unfold nbnRun at h
  split at h
  · rename_i e
    cases e
  · rename_i s t n m us' e
    cases e
    split at h
    · rename_i hb
      refine ⟨s.toNat, t.toNat, n, m, ?_, by omega, by omega, ?_⟩
      · rw [Int.toNat_of_nonneg (by omega), Int.toNat_of_nonneg (by omega)]
      · rw [← h]
        congr 2
        omega
    · cases h
  · cases h
theorem wipeU_in {ρ : Sl} : ∀ {vs : List Nat} {i : Nat} {u : U}, i ∈ vs → (wipeU ρ vs)[i]? ≠ some (some u) := fun {vs i u} h e => (wipeU_some e).2 h
/-- found = [[] for length in ..]; for start, stop, number, many in ..: .. -/
theorem qss_nbn {f v a1 a2 a3 a4 a5 : Nat} {yf nl : Str} {py pl : Pos} {it tg2 it2 : Expr} {inner : Stmt} {rest : List Stmt} {scope : Scope} {fi fi2 : AF} {g : SF} {p1 p2 sp p3 : Pos} (own : PassesOwn (model X.prog X.w) X.A X.env X.xe) (calm : X.calm = true) (nd : X.N.Nodup)
    (hi : QI X c W (.Name nl pl) it fi) (ok : blkC X.N X.env.scope scope [(nl, v)] = true)
    (hg : ∀ (s : Shared) (H : Hp) (C : Addr) (cl : List (Str × Addr)) (fp : List Addr), QG (X.blk s H scope (compEnvC scope cl C X.env) fp) c [v] (.Name nl pl) (gN v))
    (hi2 : QI X c W tg2 it2 fi2) (hg2 : QG X c [a1, a2, a3, a4] tg2 (gT (gNs [a1, a2, a3, a4])))
    (hin : PS X inner fun Dn σ H => ∃ D ρF G ρ bs rows n s t, NS X c f D ρF G ρ bs rows σ H ∧ ρF[a5]? = some none ∧ a5 < ρ.length ∧ ρ[a3]? = some (some (.int n)) ∧ ρ[a1]? = some (some (.int ((s : Nat) : Int))) ∧ ρ[a2]? = some (some (.int ((t : Nat) : Int))) ∧
      s ≤ t ∧ t ≤ rows.length ∧ rows.length ≤ 1000 ∧ RowsLe 5000000 rows ∧ ∀ σ' G' ρ' bs' H', Ex G G' → NS X c f D ρF G' ρ' bs' (markN (t - s) s n rows) σ' H' → Dn.nx σ' H')
    (hrest : QSs X c W fr rest g) (hm : c.mu = [] := by rfl) (hda : c.da = none := by rfl) (hnd : [a1, a2, a3, a4, a5, f, v].Nodup := by decide)
    (hy : X.N[f]? = some yf := by rfl) (hyl : X.env.scope.names.lookup yf = some .local := by rfl) (hsw : swapsWith (.ListComp (.List [] p1) [⟨.Name nl pl, it, [], 0⟩] scope p2) (some (.Name yf py)) sp.line X.env = pure true := by exact sw_true rfl rfl rfl (by decide +kernel))
    (hs1 : ∀ x, foldedSetIterable it X.env x = pure x := by intro _; rfl) (hs2 : ∀ x, foldedSetIterable it2 X.env x = pure x := by intro _; rfl) :
    QSs X c W fr (.Assign [.Name yf py] (.ListComp (.List [] p1) [⟨.Name nl pl, it, [], 0⟩] scope p2) sp :: .For tg2 it2 [inner] [] p3 :: rest) (sSeq (sNbn f v [a1, a2, a3, a4, a5] fi fi2) g) :=
  PSs.weak (pss_cons (ps_setLc (g := tqg (Cx.T X) c [v] (gN v)) (tt := tq (Cx.T X) c W0 relB tTrue) (te := tLst tNil) calm nd hy hyl hsw hi (blkOk_by ok) hg (fun _ _ _ _ _ => qts_nil) (fun _ _ _ _ _ => pe_lst pa_nil) hs1)
    (pss_cons (ps_for own calm hi2 hg2 (pss_one hin) hs2) hrest)) fun Dn σ H h0 => by
    simp only [List.nodup_cons, List.mem_cons, List.not_mem_nil, or_false, not_or, List.nodup_nil, and_true, not_false_eq_true] at hnd
    obtain ⟨⟨n12, n13, n14, n15, n1f, n1v⟩, ⟨n23, n24, n25, n2f, n2v⟩, ⟨n34, n35, n3f, n3v⟩, ⟨n45, n4f, n4v⟩, ⟨n5f, n5v⟩, nfv⟩ := hnd
    obtain ⟨G, ρ, r, h⟩ := tqs_seq h0
    refine ⟨G, ρ, r, ?_⟩
    unfold sNbn at h
    cases ha : fi ρ with
    | exc C ρ1 =>
      rw [ha] at h
      exact fun G' H' d e' r' => h σ G' H' d e'.g r'
    | stuck =>
      rw [ha] at h
      exact h
    | ok us ρ1 =>
    rw [ha] at h
    simp only [Fl.of] at h
    intro J G1 H1 st1 r1 l1 D0 hD
    split at h
    · rename_i hz
      refine nb_lc hm hda r1 l1 (Nat.le_trans hz (by decide)) hD fun H2 G2 bs2 ex2 r2 nb2 => ?_
      have r3 : R (Cx.T X) c G2 (wipeU ρ1 [v, f]) (σ.set f (some (.ref D0))) H2 := by
        refine (r2.less hm hda (by rw [wipeU_len, wipeU_len]) fun i u e => ?_).setFree hm hda fun u => wipeU_in (by simp)
        obtain ⟨e1, e2⟩ := wipeU_some e
        rw [wipeU_out fun z => e2 (by simp at z; simp [z])]
        exact e1
      refine ⟨G2, _, r3, ?_⟩
      have exG : Ex G G2 := st1.g.trans ex2
      cases hb : fi2 (wipeU ρ1 [v, f]) with
      | exc C ρ2 =>
        rw [hb] at h
        exact fun G' H' d e' r' => h _ G' H' d (exG.trans e'.g) r'
      | stuck =>
        rw [hb] at h
        exact h
      | ok ts ρ2 =>
      rw [hb] at h
      simp only at h
      intro J2 G3 H3 st3 r3' l3
      have nb3 := nb2.stp r2.th hm st3
      split at h
      · rename_i rowsF hrun
        split at h
        · rename_i hts
          obtain ⟨hts, hvs⟩ := hts
          simp only [List.all_cons, List.all_nil, Bool.and_true, Bool.and_eq_true, decide_eq_true_eq] at hvs
          obtain ⟨bf, b1, b2, b3, b4, b5⟩ := hvs
          have hfσ : f < σ.length := by
            have := r3'.len
            rw [List.length_set] at this
            omega
          have hF : ∀ (i : Nat) (u : U), (wipeU ρ2 [f, v, a1, a2, a3, a4, a5])[i]? = some (some u) → ρ2[i]? = some (some u) ∧ i ≠ f ∧ i ≠ a1 ∧ i ≠ a2 ∧ i ≠ a3 ∧ i ≠ a4 ∧ i ≠ a5 := fun i u e => by
            obtain ⟨e1, e2⟩ := wipeU_some e
            simp only [List.mem_cons, List.not_mem_nil, or_false, not_or] at e2
            exact ⟨e1, e2.1, e2.2.2.1, e2.2.2.2.1, e2.2.2.2.2.1, e2.2.2.2.2.2.1, e2.2.2.2.2.2.2⟩
          refine ⟨fun i m σ H => ∃ G ρ bs rows, Ex G3 G ∧ NS X c f D0 (wipeU ρ2 [f, v, a1, a2, a3, a4, a5]) G ρ bs rows σ H ∧ nbnRun (ts.drop i) rows = some rowsF ∧ rows.length = us.length ∧ RowsLe (100 * i) rows ∧ ρ.length = ρ2.length ∧ i ≤ ts.length ∧ m = ts.length - i,
            ⟨_, G3, ρ2, bs2, _, Ex.refl _, ⟨r3', List.getElem?_set_self hfσ, nb3, fun i u e => (hF i u e).1, by rw [wipeU_len]⟩, hrun, List.length_replicate, fun r hr => by rw [List.eq_of_mem_replicate hr]; exact Nat.zero_le _, rfl, Nat.zero_le _, rfl⟩, ?_⟩
          rintro i m σ2 H4 ⟨G4, ρ4, bs4, rows, ex4, ns, hrun4, hlen, hle, hl4, hi, rfl⟩
          obtain ⟨q1, q2⟩ := l3 G4 H4 ex4 ns.r.ex i
          by_cases hlt : i < ts.length
          · right
            have hd : ts.drop i = ts[i] :: ts.drop (i + 1) := List.drop_eq_getElem_cons hlt
            rw [hd] at hrun4
            obtain ⟨q3, q4⟩ := q2 ts[i] (by simp [hlt])
            obtain ⟨s, t, n, m, eu, hst, htl, hrun5⟩ := nbnRun_cons hrun4
            refine ⟨q3, fun σ' H' => ∃ G ρ bs rows, Ex G3 G ∧ NS X c f D0 (wipeU ρ2 [f, v, a1, a2, a3, a4, a5]) G ρ bs rows σ' H' ∧ nbnRun (ts.drop (i + 1)) rows = some rowsF ∧ rows.length = us.length ∧ RowsLe (100 * (i + 1)) rows ∧ ρ.length = ρ2.length,
              fun σ' H' ⟨G', ρ', bs', rw', k1, k2, k3, k4, k5, k6⟩ => ⟨ts.length - (i + 1), by omega, G', ρ', bs', rw', k1, k2, k3, k4, k5, k6, hlt, rfl⟩, fun x H' y => ?_⟩
            obtain ⟨G5, gw, rx⟩ := q4 x H' y
            rw [eu] at rx
            refine ⟨G5, ρ4, _, _, ns.r.grow gw, rx, rfl, fun σ5 ra hlen5 hag => ?_⟩
            have hll : ∀ (a b c d : Option U), ((((ρ4.set a1 a).set a2 b).set a3 c).set a4 d).length = ρ2.length := fun a b c d => by
              simp only [List.length_set]
              exact hl4
            refine ⟨D0, wipeU ρ2 [f, v, a1, a2, a3, a4, a5], G5, _, bs4, rows, n, s, t, ⟨ra, ?_, ns.n.grow gw, fun j u e => ?_, ?_⟩, ?_, ?_, ?_, ?_, ?_, hst, htl, by omega, fun r hr => ?_, fun σ6 G6 ρ6 bs6 H6 ex6 ns6 => ?_⟩
            · rw [hag f (by simp only [List.mem_cons, List.not_mem_nil, or_false, List.mem_append, not_or]; exact ⟨fun z => n1f z.symm, fun z => n2f z.symm, fun z => n3f z.symm, fun z => n4f z.symm⟩)]
              exact ns.s
            · obtain ⟨_, _, c1, c2, c3, c4, c5⟩ := hF j u e
              rw [List.getElem?_set_ne (Ne.symm c4), List.getElem?_set_ne (Ne.symm c3), List.getElem?_set_ne (Ne.symm c2), List.getElem?_set_ne (Ne.symm c1)]
              exact ns.k j u e
            · rw [hll, wipeU_len]
            · have : a5 < (wipeU ρ2 [f, v, a1, a2, a3, a4, a5]).length := by rw [wipeU_len]; exact b5
              cases q : (wipeU ρ2 [f, v, a1, a2, a3, a4, a5])[a5]? with
              | none => rw [List.getElem?_eq_none_iff] at q; omega
              | some o =>
                cases o with
                | none => rfl
                | some u => exact absurd rfl (hF a5 u q).2.2.2.2.2.2
            · rw [hll]
              exact b5
            · rw [List.getElem?_set_ne (Ne.symm n34), List.getElem?_set_self (by simp only [List.length_set]; omega)]
            · rw [List.getElem?_set_ne (Ne.symm n14), List.getElem?_set_ne (Ne.symm n13), List.getElem?_set_ne (Ne.symm n12), List.getElem?_set_self (by omega)]
            · rw [List.getElem?_set_ne (Ne.symm n24), List.getElem?_set_ne (Ne.symm n23), List.getElem?_set_self (by simp only [List.length_set]; omega)]
            · have := hle r hr
              omega
            · refine ⟨G6, ρ6, bs6, markN (t - s) s n rows, ?_, ns6, hrun5, by rw [markN_len]; exact hlen, fun r hr => ?_, ?_⟩
              · exact ex4.trans (gw.g.trans ex6)
              · have := rowsLe_markN (n := n) (t - s) s (100 * i) rows hle r hr
                omega
              · have := ns6.l
                rw [wipeU_len] at this
                exact this.symm
          · left
            have e : i = ts.length := by omega
            subst e
            rw [List.drop_length] at hrun4
            cases hrun4
            refine ⟨q1 (Nat.le_refl _) (Nat.le_refl _), ?_⟩
            obtain ⟨G6, ex6, r6⟩ := R.seal ns.r hm hda ns.n ns.s
            refine h σ2 G6 H4 ((exG.trans st3.g).trans (ex4.trans ex6)) (r6.less hm hda (by simp only [List.length_set, wipeU_len]; exact hl4.symm) fun j u e => ?_)
            by_cases hj : f = j
            · subst hj
              rw [List.getElem?_set_self (by rw [wipeU_len]; exact bf)] at e
              rw [List.getElem?_set_self (by omega)]
              exact e
            · rw [List.getElem?_set_ne hj] at e ⊢
              exact ns.k j u e
        · exact h.elim
      · exact h.elim
    · exact h.elim
theorem ps_ex {α : Type} {st : Stmt} {t : α → TS} (h : ∀ a, PS X st (t a)) : PS X st fun D σ H => ∃ a, t a D σ H := ⟨fun pins s σ H D I ⟨a, q⟩ => (h a).run pins s σ H D I q⟩
/-! ### x[k] += e, x a list of its own -/
theorem get_own : PGet X (rIxL X.K) := by
  intro pins s σ H o i ov iv Q I ro ri h
  obtain ⟨p, xs, j, v, rfl, rfl, hq, he, q⟩ := h
  cases ro
  obtain ⟨t, rfl⟩ := ri
  obtain ⟨its, r, pl, hz⟩ := I.list hq
  obtain ⟨m, h1, h2, h3, h4, h5⟩ := atI_get he
  obtain ⟨w, ew, rw'⟩ := r.get h2
  have hl := r.length
  have hn := line63
  have fin : EP X pins σ Q w s := ⟨v, H, I, rw', q⟩
  by_cases h0 : 0 ≤ j
  · have hj : j.toNat = m := by
      rw [seqIndex_of h0 h5] at h1
      exact Option.some.inj h1
    exact wpAny_getItem_list pl.isList h0 (by omega) (by rw [hj]; simpa using ew) fin
  · have hj : (j + (its.toArray.size : Int)).toNat = m := by
      rw [seqIndex_neg (by omega) h4] at h1
      rw [List.size_toArray, ← hl]
      exact Option.some.inj h1
    exact wpAny_getItem_list_neg pl.isList (by omega) (by rw [List.size_toArray] <;> omega) (by omega) (by rw [hj]; simpa using ew) fin
theorem qs_augIx (i : Nat) {x : Str} {p tpos : Pos} {ix e : Expr} {fk fe : EF} (hk : QE X c W ix fk) (he : QE X c W e fe) (hm : c.mu.contains i = true := by rfl) (hN : X.N[i]? = some x := by rfl)
    (hv : Vis X.env.scope x := by first | exact Or.inl rfl | exact Or.inr (Or.inl rfl) | exact Or.inr (Or.inr rfl)) (hd : (x == ("__debug__" : Str)) = false := by decide) (hcd : (x == ("__classdict__" : Str)) = false := by decide)
    (ha : ∀ ov iv new, augStore ix ov iv new = (do holding [new, ov, iv] (setItem ov iv new); release [new, ov, iv] []; pure .next) := by intros; rfl) :
    QS X c W fr (.AugAssign (.Subscript (.Name x p) ix tpos) .Add e pos) (sAugIx i fk fe) :=
  PS.weak (ps_augS (pe_var hN hv hd hcd) hk get_own he ip_add set_list ha) fun D σ H ⟨G, ρ, r, h⟩ => by
    unfold sAugIx at h
    split at h
    · rename_i u0 e0
      obtain ⟨a, e1, e2, e3, e4⟩ := r.ow i u0 e0 (isIn hm)
      refine ⟨.ref a, e1, G, ρ, r, (PFl.of (rel := relU (Cx.T X)) h).imp fun z H2 ⟨G2, ρ2, j, s2, r2, l2, h2⟩ => ?_⟩
      split at h2
      · rename_i xs n ex
        obtain ⟨a', f1, f2, f3, vs, f5, f6⟩ := r2.ow i _ ex (isIn hm)
        rw [e1] at f1
        cases f1
        split at h2
        · rename_i m hx
          have hn0 : 0 ≤ n ∧ xs[n.toNat]? = some (.int m) := by
            split at hx
            · exact ⟨by assumption, hx⟩
            · cases hx
          obtain ⟨v, hv1, hv2⟩ := f6.get hn0.2
          rw [rep_int] at hv2
          subst hv2
          have hlt : n.toNat < vs.length := (List.getElem?_eq_some_iff.mp hv1).1
          refine ⟨a, vs, n, .int m, rfl, rep_int.1 l2, .inl (.inl f5), ?_, G2, ρ2, r2, (PFl.of (rel := relU (Cx.T X)) h2).imp fun w H3 ⟨G3, ρ3, u3, s3, r3, l3, h3⟩ => ?_⟩
          · unfold atI ixN
            rw [if_pos hn0.1, if_pos (by omega)]
            exact hv1
          · split at h3
            · rename_i ys q ey
              obtain ⟨a2, g1, g2, g3, vs3, g5, g6⟩ := r3.ow i _ ey (isIn hm)
              rw [e1] at g1
              cases g1
              split at h3
              · rename_i hl
                refine ⟨m, q, rfl, rep_int.1 l3, a, vs3, n, n.toNat, rfl, rep_int.1 l2, g5, ?_, ?_⟩
                · unfold ixN
                  rw [if_pos hn0.1, if_pos (by rw [← g6.length]; omega)]
                · exact h3 σ G3 _ (Ex.refl _) (r3.mut (isIn hm) ey e1 (g6.set _ (rep_int.2 rfl)))
              · exact h3.elim
            · exact h3.elim
        · exact h2.elim
      · exact h2.elim
    · exact h.elim
end
end Q
set_option maxRecDepth 100000
set_option maxHeartbeats 2000000
/-! QEnd: the rest of a body, in which the slots' own things are known -/
namespace Q
open PySem PySem.Spec PyProof.Rows L2
open Evl (Ex)
section
variable {X : Cx} {c : Cn} {W : WX} {k : Nat} {fr : Bool} {pos : Pos} {f : SF} {b : List Stmt}
theorem qss_end (mu' : List Nat) (h : QSs X (c.to mu') W fr b f) (ht : c.tr = false := by rfl) (hs : (mu'.all fun i => c.mu.contains i) = true := by rfl) (h0 : c.da = none ∨ (0 : Nat) ∈ mu' := by first | exact .inr (by decide) | exact .inl rfl | assumption) : QSs X c W fr b (sEnd f) :=
  PSs.weak h fun D σ H ⟨G, ρ, r, h⟩ => by
    have hs' : ∀ i ∈ mu', i ∈ c.mu := fun i hi => isIn (List.all_eq_true.mp hs i hi)
    obtain ⟨G', eg, r', _⟩ := r.freeze mu' hs' h0
    refine ⟨G', ρ, r', ?_⟩
    unfold sEnd at h
    generalize f ρ = z at h ⊢
    cases z with
    | next ρ' => exact h.elim
    | brk ρ' => exact h.elim
    | cont ρ' => exact h.elim
    | stuck => exact h.elim
    | ret u ρ' => exact fun v G2 H2 e2 fi hr => h v G2 H2 (eg.trans e2) fi.to hr
    | exc C ρ' =>
      intro σ' G2 H2 d e2 xr hm
      refine h σ' G2 H2 d (eg.trans e2) ?_ hm
      unfold XR at xr ⊢
      rw [show (c.to mu').tr = false from ht] at xr
      rw [ht]
      exact xr.to
/-- a test that reads the slots' own things -/
theorem qt_borrow {e : Expr} {t : BF} (hd : c.da = none) (he : QT X (c.to []) W e t) : QT X c W e (tBorrow t) :=
  PT.weak he fun σ H Q ⟨G, ρ, r, h⟩ => by
    obtain ⟨Gf, ef, rf, hf⟩ := r.freeze [] (by simp) (.inl hd)
    refine ⟨Gf, ρ, rf, ?_⟩
    unfold tBorrow at h
    generalize t ρ = z at h ⊢
    cases z with
    | ok u ρ' =>
      intro v G' H' s r' l
      obtain ⟨G2, r2, s2, _⟩ := r.thaw hd ef hf s r'
      exact h v G2 H' s2 r2 l
    | exc C ρ' => exact h.elim
    | stuck => exact h.elim
end
end Q
set_option maxRecDepth 100000
/-! QAll: all rules; the built-ins' names -/
namespace Q
open PySem PySem.Spec PyProof.Rows L2
theorem bo_len : bootBuiltins "len" = some (.builtin "len") := by decide +kernel
theorem bo_isinstance : bootBuiltins "isinstance" = some (.builtin "isinstance") := by decide +kernel
theorem bo_all : bootBuiltins "all" = some (.builtin "all") := by decide +kernel
theorem bo_any : bootBuiltins "any" = some (.builtin "any") := by decide +kernel
theorem bo_sum : bootBuiltins "sum" = some (.builtin "sum") := by decide +kernel
theorem bo_max : bootBuiltins "max" = some (.builtin "max") := by decide +kernel
theorem bo_min : bootBuiltins "min" = some (.builtin "min") := by decide +kernel
theorem bo_sorted : bootBuiltins "sorted" = some (.builtin "sorted") := by decide +kernel
theorem bo_int : bootBuiltins "int" = some (.type "int") := by decide +kernel
theorem bo_bool : bootBuiltins "bool" = some (.type "bool") := by decide +kernel
theorem bo_str : bootBuiltins "str" = some (.type "str") := by decide +kernel
theorem bo_list : bootBuiltins "list" = some (.type "list") := by decide +kernel
theorem bo_tuple : bootBuiltins "tuple" = some (.type "tuple") := by decide +kernel
end Q
set_option maxRecDepth 100000
/-! QEndW: the facts of the top; the law's end -/
namespace Q
open PySem PySem.Spec PyProof.Rows L2
section
variable {K : PySem.W.Frag} {h : Heap} {mg : Str → Option Value}
theorem mod_f {x : Str} {st : Stmt} {f : Addr} {oc : Value} {od an : Option Addr} {osl : Array (Option Value)} {kV doc pm cdv ct : Value} (X : K.In h) (G : h.Ns mainGlobals mg) (a : PySem.W.nsIn K mainGlobals x = some (some (.ref f)))
    (l : K.lookup f = some ⟨oc, od, .func (PySem.W.fnOf x x (defArgs st) (defBody st) (defScope st) .none kV doc pm an cdv ct), osl⟩) (c : PySem.W.codeIn K cdv x = true) (k : PySem.W.keepIn K (.ref f) = true) :
    ∃ (f : Addr) (fd : FuncData), mg x = some (.ref f) ∧ Fun K x x st f fd := ⟨f, _, PySem.W.mg_of X G a, fun_mk l c k⟩
theorem mod_i {x : Str} {i : Int} {t : Tok} (X : K.In h) (G : h.Ns mainGlobals mg) (a : PySem.W.nsIn K mainGlobals x = some (some (.int i t))) : ∃ t, mg x = some (.int i t) := ⟨t, PySem.W.mg_of X G a⟩
theorem mod_n {x : Str} (X : K.In h) (G : h.Ns mainGlobals mg) (a : PySem.W.nsIn K mainGlobals x = some none) : mg x = none := PySem.W.mg_none_of X G a
theorem mod_x {x : Str} {C : Addr} (X : K.In h) (G : h.Ns mainGlobals mg) (a : PySem.W.nsIn K mainGlobals x = some (some (.ref C))) (k : PySem.W.keepIn K (.ref C) = true)
    (q : PySem.W.excIn K C [.type "ValueError", .type "Exception", .type "BaseException", .type "object"] "ValueError.__new__" = true) (s : PySem.W.subIn K (.ref C) (.type "BaseException") = some true) (t : PySem.W.typeIn K (.ref C) = some (.type "type")) : XCls K mg x :=
  ⟨C, _, _, _, _, PySem.W.mg_of X G a, k, PySem.F.excBase_ValueError, q, s, t⟩
end
/-- what is asked of the law's own function, in plain words -/
def Keeps (φ : List U → FR) : Prop := ∀ ns : List Int, ns.length ≤ 63 → ∃ d, φ [.lst (ns.map .int)] = .ok (.bl true) d
/-- the law's promise -/
def spLaw (tb : List (Addr × Str)) (K : PySem.W.Frag) : Sp := fun vs H Q E => ∃ (a : Addr) (ns : List Int), vs = [.ref a] ∧ SqL K H a (ns.map V.int) ∧ ns.length ≤ 63 ∧ LamX.Tabs tb H ∧ ∀ H', Q (.bl true) H'
theorem spQ_law {tb : List (Addr × Str)} {P : Program} {w : World} {K : PySem.W.Frag} {mg : Str → Option Value} {φ : List U → FR} (hk : Keeps φ) (vs : List V) (H : Hp) (Q : VK) (E : XK) (h : spLaw tb K vs H Q E) : spQ tb ⟨K, mg, P, w⟩ false false 1 φ vs H Q E := by
  obtain ⟨a, ns, rfl, hs, hl, ht, q⟩ := h
  obtain ⟨d, e⟩ := hk ns hl
  let G : Hp := fun b => match H b with
    | some (.tbl _) => none
    | x => x
  have ng : ∀ {b : Addr} {o : HO}, H b = some o → (∀ ps, o ≠ .tbl ps) → G b = some o := fun {b o} e n => by
    show (match H b with | some (.tbl _) => none | x => x) = some o
    rw [e]
    cases o with
    | tbl ps => exact absurd rfl (n ps)
    | _ => rfl
  have gh : ∀ {b : Addr} {o : HO}, G b = some o → H b = some o ∧ ∀ ps, o ≠ .tbl ps := fun {b o} e => by
    have e' : (match H b with | some (.tbl _) => none | x => x) = some o := e
    cases hb : H b with
    | none =>
      rw [hb] at e'
      cases e'
    | some u =>
      rw [hb] at e'
      cases u with
      | tbl ps => cases e'
      | _ =>
        cases e'
        exact ⟨rfl, fun ps z => by cases z⟩
  have hs' : SqL K G a (ns.map V.int) := by
    rcases hs with (z | ⟨o, z⟩) | z
    · exact .inl (.inl (ng z fun ps z => by cases z))
    · exact .inl (.inr ⟨o, ng z fun ps z => by cases z⟩)
    · exact .inr z
  refine ⟨rfl, G, [.lst (ns.map .int)], fun b o q => (gh q).1, ⟨ht, fun b ps q => (gh q).2 ps rfl⟩, Reps.cons (rep_lst.2 ⟨a, _, rfl, hs', reps_ints⟩) .nil, ?_⟩
  rw [e]
  intro v G' H' _ _ r
  have r' : v = .bl true := rep_bl.1 (show Rep ⟨K, mg, P, w⟩ G' (.bl true) v from r)
  subst r'
  exact q H'
theorem law_F {tb : List (Addr × Str)} {P : Program} {w : World} {K : PySem.W.Frag} {mg : Str → Option Value} {fa : Addr} {x : Str} {st : Stmt} {N : List Str} {mu : List Nat} {b : SF} {k : Nat} (hfa : mg x = some (.ref fa)) (M : ∃ (f : Addr) (fd : FuncData), mg x = some (.ref f) ∧ Fun K x x st f fd) (S : FnScope N ["script"] (defScope st))
    (bt : ∀ (kV doc pm : Value) (an : Option Addr) (cdv ct : Value) (s : Shared) (u : Value), BindsTo s (PySem.W.fnOf x x (defArgs st) (defBody st) (defScope st) .none kV doc pm an cdv ct) ⟨[u], []⟩ [("script", u)])
    (hm : muOk false 1 mu = true) (hk : Keeps (fnOf false false N.length 1 b))
    (hb : ∀ (base : Heap) (f : Addr) (cdv : Value) (A : Around) (outer : List Env) (s : Shared) (H : Hp) (E : XK) (G : Hp) (a : Addr), Room k (A.deeper (envOfC x (defScope st) s.heap.objs.size f cdv)) →
      QSs (cxOf (L2N.CX P w) P w K mg base N x (defScope st) f cdv A outer s H E) ⟨mu, G, H, daF false a, false, tb⟩ (fun cls d _ H => E cls d H) false (defBody st) b) :
    ∃ fd : FuncData, (∀ (s : Shared) (u : Value), BindsTo s fd ⟨[u], []⟩ [("script", u)]) ∧ ∀ base : Heap, K.In base → base.Ns mainGlobals mg → FnOk P w K mg base (L2N.CX P w) (k + 1) fa fd ["script"] (spLaw tb K) := by
  obtain ⟨f, fd, h, F⟩ := M
  cases hfa.symm.trans h
  refine ⟨fd, fun s u => ?_, fun base _ _ => (fnok_of (io := false) (fr := false) (N := N) (ps := ["script"]) F S hm (hb base fa)).imp fun vs H Q E h => spQ_law hk vs H Q E h⟩
  obtain ⟨oc, od, kV, doc, pm, an, cdv, ct, osl, rfl, lk, hcd⟩ := F.ex
  exact bt kV doc pm an cdv ct s u
theorem law_walk {l : PySem.W.OpenLaw} {k : Nat} {q : Program} {loose : List Str} {XP : (Str → Option Value) → Heap → Prop} {YP : World → Heap → Prop} {d : DefRec} {K : Params → PySem.W.Frag} (hn : l.most = some 63) (hdf : d.params.defaults = []) (hr : Room k callerA)
    (hY : ∀ (w : World) (h : Heap), YP w h → (K w.params).In h)
    (F : ∀ (w : World) (mg : Str → Option Value) (fa : Addr) (h : Heap), (K w.params).In h → h.Ns mainGlobals mg → mg d.name = some (.ref fa) →
      ∃ fd : FuncData, (∀ (s : Shared) (u : Value), BindsTo s fd ⟨[u], []⟩ [("script", u)]) ∧ ∀ base : Heap, (K w.params).In base → base.Ns mainGlobals mg → FnOk l.prog w (K w.params) mg base (L2N.CX l.prog w) k fa fd ["script"] (spLaw [] (K w.params))) :
    PySem.W.WalkO q loose XP YP l.row.toRowW d [] (fun f vs => PySem.call f vs) :=
  L2.walk_of (n := 63) (k := k) (x := "script") (CX := fun w => L2N.CX l.prog w) (sp := fun w => spLaw [] (K w.params)) hn (by decide) hdf hr hY F (fun _ _ a ns hl _ hS => ⟨a, ns, rfl, hS, hl, (fun p hp => by cases hp), fun _ => rfl⟩) fun w H s e s' h => by
    obtain ⟨_, _, _, _, _, _, _, _, _, _, _, _, z⟩ := h
    exact z
/-- .. with tables of code objects: cs, the code objects and their tables, and the names of what is made there -/
theorem law_walkT {l : PySem.W.OpenLaw} {k : Nat} {q : Program} {loose : List Str} {XP : (Str → Option Value) → Heap → Prop} {YP : World → Heap → Prop} {d : DefRec} {K : Params → PySem.W.Frag} (cs : World → List (Addr × Addr × Str)) (hn : l.most = some 63) (hdf : d.params.defaults = []) (hr : Room k callerA)
    (hY : ∀ (w : World) (h : Heap), YP w h → (K w.params).In h)
    (hC : ∀ (w : World) (h : Heap), YP w h → ∀ p ∈ cs w, h.get? p.2.1 = some { cls := .none, data := .fields #[] } ∧ (K w.params).lookup p.2.1 = none ∧ PySem.W.CodeHd h p.1 p.2.1)
    (F : ∀ (w : World) (mg : Str → Option Value) (fa : Addr) (h : Heap), (K w.params).In h → h.Ns mainGlobals mg → mg d.name = some (.ref fa) →
      ∃ fd : FuncData, (∀ (s : Shared) (u : Value), BindsTo s fd ⟨[u], []⟩ [("script", u)]) ∧ ∀ base : Heap, (K w.params).In base → base.Ns mainGlobals mg → (∀ p ∈ cs w, LamX.TabB base mg p.1 p.2.1) → FnOk l.prog w (K w.params) mg base (L2N.CX l.prog w) k fa fd ["script"] (spLaw ((cs w).map fun p => p.2) (K w.params))) :
    PySem.W.WalkO q loose XP YP l.row.toRowW d [] (fun f vs => PySem.call f vs) :=
  LamX.walk_ofTs (n := 63) (k := k) (x := "script") (CX := fun w => L2N.CX l.prog w) hn (by decide) hdf hr hY (fun w mg fa h Y KX G hmg => by
    obtain ⟨fd, hb, hF⟩ := F w mg fa h KX G hmg
    have hc := hC w h Y
    refine ⟨fd, (cs w).map fun p => (p.1, p.2.1), spLaw ((cs w).map fun p => p.2) (K w.params), fun p hp => ?_, fun p hp => ?_, fun p hp => ?_, hb, fun H a ns hl _ hT hS => ⟨a, ns, rfl, hS, hl, fun p hp => ?_, fun _ => rfl⟩, fun base K1 N1 hB => hF base K1 N1 fun p hp => hB (p.1, p.2.1) (List.mem_map.mpr ⟨p, hp, rfl⟩)⟩
    · obtain ⟨p', hp', rfl⟩ := List.mem_map.mp hp
      exact (hc p' hp').1
    · obtain ⟨p', hp', rfl⟩ := List.mem_map.mp hp
      exact (hc p' hp').2.1
    · obtain ⟨p', hp', rfl⟩ := List.mem_map.mp hp
      exact (hc p' hp').2.2
    · obtain ⟨p', hp', rfl⟩ := List.mem_map.mp hp
      exact LamX.TabS.nil (hT (p'.1, p'.2.1) (List.mem_map.mpr ⟨p', hp', rfl⟩))) fun w H s e s' h => by
    obtain ⟨_, _, _, _, _, _, _, _, _, _, _, _, z⟩ := h
    exact z
end Q
set_option maxRecDepth 100000
set_option maxHeartbeats 2000000
/-! QLam: lambdas -/
namespace Q
open PySem PySem.Spec PyProof.Rows L2
open Evl (Ex)
/-- the context of a lambda's body; an exception that leaves it has no context of its own -/
def lamC (X : Cx) (A : Around) (outer : List Env) (s : Shared) (H : Hp) (E : XK) (sc : Scope) (g d : Addr) : Cx :=
  (LamX.lamCx X A outer s H E sc g d).wish fun u t => wpAny (model X.prog X.w) (A.deeper (LamX.lamEnv X sc s.heap.objs.size g d)) (leaving (LamX.lamEnv X sc s.heap.objs.size g d) u)
    (fun _ t1 => L2N.CX X.prog X.w outer H s E u t1) (fun u1 t1 => L2N.CX X.prog X.w outer H s E u1 t1) t
theorem okx_lam {X : Cx} {A : Around} {outer : List Env} {s : Shared} {H : Hp} {E : XK} {scope : Scope} {f c' : Addr} {k : Nat} (nd : X.N.Nodup) (hr : Room k (A.deeper (LamX.lamEnv X scope s.heap.objs.size f c'))) :
    OkX (lamC X A outer s H E scope f c') (L2N.CX X.prog X.w) (fun cls d _ H => E cls d H) k :=
  ⟨nd, rfl, hr, L2N.passAt (L2N.takes_of rfl rfl rfl rfl), passes_of rfl, L2N.takes_of rfl rfl rfl rfl⟩
/-- all but the one table stays -/
structure StayP (P : Addr) (H H1 : Hp) : Prop where
  k : ∀ b o, H b = some o → b ≠ P → H1 b = some o
  p : ∃ ps, H1 P = some (.tbl ps)
abbrev lamN (X : Cx) : Str := X.env.qual ++ "<lambda>"
section
variable {X : Cx} {pins : List (Addr × Obj)} {σ : L2.St} {H : Hp} {s : Shared}
theorem no_frame (I : Inv X pins σ H s) {g : Addr} (hg : s.heap.objs.size ≤ g) : g ∉ frs X.stack := fun z => by
  rcases List.mem_cons.mp (I.stkSub _ z) with e | e
  · have h := I.lt
    rw [← e] at h
    exact Nat.lt_irrefl _ (Nat.lt_of_lt_of_le h hg)
  · exact I.nofs hg e
/-- lambda: body, evaluated; the def's table of code objects may grow -/
theorem lam_mk {T : List (Addr × Str)} {cd P : Addr} {ar : Arguments} {bd : Expr} {sc : Scope} {wh : Pos} {E Q : Value → Shared → Prop} (I : Inv X pins σ H s) (B : LamX.TabB X.base X.mg cd P) (hcd : X.env.code = .ref cd)
    (hin : (P, lamN X) ∈ T) (hun : ∀ p ∈ T, p.1 = P → p.2 = lamN X) (ht : LamX.Tabs T H) (hdf : defaultsOf ar X.env = ([], [])) (hfr : ∀ y ∈ sc.names, y.2 = .free → ∃ c, X.env.cells.lookup y.1 = some c)
    (go : ∀ (g d : Addr) (m t : Value) (H1 : Hp) (s1 : Shared), Inv X pins σ H1 s1 → StayP P H H1 → LamX.Tabs T H1 → s1.heap.get? g = some (PySem.W.kla_obj "<lambda>" (lamN X) ar bd sc (cloFrom X.env.cells sc.names []) m d t) →
      H1 g = none → g ∉ frs X.stack → H1 d = some (LamX.CodeO d (lamN X)) → Q (.ref g) s1) :
    wpAny (model X.prog X.w) X.A (eval (.Lambda ar bd sc wh) X.env) Q E s := by
  obtain ⟨tb, e1, e2, e3⟩ := ht _ hin
  have tp : s.heap.get? P = some { cls := .none, data := .fields tb } := I.hok P _ e1
  apply PySem.W.kla_eval hdf
  cases hca : codeAmong wh tb.toList with
  | some cv =>
    obtain ⟨d, rfl, hd⟩ := e3 wh cv hca
    apply PySem.W.kla_makeFunctionHit (c := cd) (ps := tb) (closure_ok hfr) I.ok.glob (I.mod.glob.keeps I.bk) hcd (B.code.keeps I.bk) tp e2 hca (B.bm.keeps I.bk)
    intro t h2 tk x1 x2
    have hx : ∀ b o, s.heap.get? b = some o → (h2.push (PySem.W.kla_obj "<lambda>" (lamN X) ar bd sc (cloFrom X.env.cells sc.names []) ((X.mg "__name__").getD .none) d t)).get? b = some o := fun b o e => Heap.get?_push_of_some _ (x1 b o e)
    exact go _ d _ t H { s with heap := h2.push _, toks := tk } (I.kept hx) ⟨fun _ _ e _ => e, _, e1⟩ ht (Heap.get?_push_size _ rfl) (I.hok.fresh x2) (no_frame I x2) hd
  | none =>
    apply PySem.W.kla_makeFunction (c := cd) (ps := tb) (closure_ok hfr) I.ok.glob (I.mod.glob.keeps I.bk) hcd (B.code.keeps I.bk) tp e2 hca B.gP (B.bm.keeps I.bk)
    intro d t h2 tk x1 x2 x3 x4 x5
    obtain ⟨d', oc, vs, tt, q1, q2, q3, q4⟩ := x4
    cases q1
    have nd : H d = none := I.hok.fresh x2
    have nP : P ≠ d := ne_of_none e1 nd
    have sz : s.heap.objs.size ≤ h2.objs.size := by omega
    generalize hmore : (#[rawInt wh.line, rawInt wh.col, Value.ref d] : Array Value) = more at x5
    generalize hob : PySem.W.kla_obj "<lambda>" (lamN X) ar bd sc (cloFrom X.env.cells sc.names []) ((X.mg "__name__").getD .none) d t = ob
    have I1 := LamX.inv_table (q := lamN X) (t' := tk) (more := more) (h' := h2.push ob) I e1 (fun b o hb e => Heap.get?_push_of_some _ (x1 b o hb e)) (Heap.get?_push_of_some _ x5) x2 ⟨oc, vs, tt, Heap.get?_push_of_some _ q2, q3, q4⟩
    have st : StayP P H (upd (upd H P (.tbl (tb ++ more))) d (LamX.CodeO d (lamN X))) := ⟨fun b o e nb => by rw [upd_ne (ne_of_none e nd), upd_ne nb]; exact e, _, by rw [upd_ne nP, upd_same]⟩
    have kc : ∀ b q, H b = some (LamX.CodeO b q) → upd (upd H P (.tbl (tb ++ more))) d (LamX.CodeO d (lamN X)) b = some (LamX.CodeO b q) := fun b q e => st.k b _ e fun z => by
      rw [z, e1] at e
      exact LamX.codeO_ne tb (Option.some.inj e).symm
    refine go h2.objs.size d _ t _ _ I1 st (fun p hp => ?_) (by rw [← hob]; exact Heap.get?_push_size _ rfl) ?_ (no_frame I sz) upd_same
    · obtain ⟨tq, f1, f2, f3⟩ := ht p hp
      by_cases hb : p.1 = P
      · rw [hun p hp hb, hb]
        have eL : (tb ++ more).toList = tb.toList ++ [rawInt wh.line, rawInt wh.col, Value.ref d] := by rw [← hmore]; simp
        refine ⟨tb ++ more, by rw [upd_ne nP, upd_same], by rw [eL]; exact PySem.TriplesOk_snoc _ _ _ _ e2, fun p' cv hcv => ?_⟩
        rw [eL] at hcv
        rcases LamX.among_app _ e2 hcv with z | z
        · obtain ⟨c0, g1, g2⟩ := e3 p' cv z
          exact ⟨c0, g1, kc _ _ g2⟩
        · exact ⟨d, z, upd_same⟩
      · refine ⟨tq, by rw [upd_ne (ne_of_none f1 nd), upd_ne hb]; exact f1, f2, fun p' cv hcv => ?_⟩
        obtain ⟨c0, g1, g2⟩ := f3 p' cv hcv
        exact ⟨c0, g1, kc _ _ g2⟩
    · have n1 : h2.objs.size ≠ d := by omega
      have n2 : h2.objs.size ≠ P := Nat.ne_of_gt (Nat.lt_of_lt_of_le (Heap.lt_size tp) sz)
      rw [upd_ne n1, upd_ne n2]
      exact I.hok.fresh sz
section
variable {X : Cx} {pins : List (Addr × Obj)} {σ : L2.St} {H : Hp} {s : Shared}
/-- d(), d the parameter that holds the lambda g: in the called def's context, whatever its wishes are -/
theorem pe_door {CXd : CXT} {Ed E : XK} {Nd : List Str} {qd : Str} {sd : Scope} {fd g d : Addr} {cdd m t : Value} {ar : Arguments} {bd : Expr} {sc : Scope} {n i : Nat} {x : Str} {pn : List (Addr × Obj)} {xe : Value → Shared → Prop} {W : WX} {tb : TE} {p1 p2 : Pos}
    (I : Inv X pins σ H s) (L : LamX.LamS X.env.scope sc) (hg : s.heap.get? g = some (PySem.W.kla_obj "<lambda>" (lamN X) ar bd sc (cloFrom X.env.cells sc.names []) m d t)) (g0 : H g = none) (gf : g ∉ frs X.stack)
    (hb : bindArgs (PySem.W.kla_fn "<lambda>" (lamN X) ar bd sc (cloFrom X.env.cells sc.names []) m (.ref d) t) ⟨[], []⟩ = pure [])
    (tk : L2N.Takes ((cxOf CXd X.prog X.w X.K X.mg X.base Nd qd sd fd cdd X.A X.stack s H Ed).tr pn xe) W) (hW : ∀ C o σ1 H1, E C o H1 → W C o σ1 H1) (room : Room (n + 1) (X.A.deeper (envOfC qd sd s.heap.objs.size fd cdd)))
    (body : ∀ (A : Around) (outer : List Env) (s : Shared) (H : Hp), Room n (A.deeper (LamX.lamEnv X sc s.heap.objs.size g d)) → PE (lamC X A outer s H E sc g d) bd tb)
    (hN : Nd[i]? = some x) (hv : Vis sd x) (hd : (x == ("__debug__" : Str)) = false) (hc : (x == ("__classdict__" : Str)) = false) :
    PE ((cxOf CXd X.prog X.w X.K X.mg X.base Nd qd sd fd cdd X.A X.stack s H Ed).tr pn xe) (.Call (.Name x p1) [] [] p2)
      (fun τ Hτ Q => τ[i]? = some (some (.ref g)) ∧ Hτ d = some (LamX.CodeO d (lamN X)) ∧ tb σ Hτ Q) := by
  constructor
  rintro pz sz τ Hτ Q J ⟨h1, h2, h3⟩
  apply wpAny_Call_Name_kw
  refine thn ((pe_var (pos := p1) (i := i) hN hv hd hc).run pz sz τ Hτ (fun v H1 => v = V.ref g ∧ H1 = Hτ) J ⟨_, h1, rfl, rfl⟩) fun fv s1 got => ?_
  obtain ⟨v0, H0, J1, rv, ev, eH⟩ := got
  rw [ev] at rv
  rw [eH] at J1
  have rv : fv = Value.ref g := rv
  subst rv
  have og := J1.base.keep g _ hg g0 gf (List.not_mem_nil)
  refine PySem.W.callWith_F0 ⟨_, _, _, _, og⟩ ?_
  obtain ⟨⟨ob, vs, tk0, q1, q2, q3⟩, _⟩ := J1.hok d _ h2
  have far : codeAny (model X.prog X.w) (X.A.deeper (envOfC qd sd s.heap.objs.size fd cdd)) (.call (.ref g) ⟨[], []⟩) (CR (L2N.CX X.prog X.w) (envOfC qd sd s.heap.objs.size fd cdd :: X.stack) X.prog X.w Hτ s1 Q E) s1 := by
    apply PySem.W.kla_callFunE room.depth og rfl L.co L.gen rfl ⟨d, ob, vs, tk0, rfl, q1, q2, q3⟩
    rw [hb]
    apply wpAny_pure
    apply wpAny_newFunctionEnv (fun y hy => (L.own y hy).2) (fun y hy => by cases hy) _ L.kind
    intro h1 ns sb
    refine ⟨J1.nolimit.fresh _ sb, ?_⟩
    show codeAny _ _ (.expr bd (LamX.lamEnv X sc s1.heap.objs.size g d)) _ _
    have same : ∀ b o, s1.heap.get? b = some o → h1.get? b = some o := fun b o e => sb.extBut b o (Nat.ne_of_lt (Heap.lt_size e)) (Heap.get?_push_of_some _ e)
    have start := LamX.lam_start2 (A := X.A.deeper (envOfC qd sd s.heap.objs.size fd cdd)) (outer := envOfC qd sd s.heap.objs.size fd cdd :: X.stack) (E := E) (f := g) (c' := d) (tk := s1.toks + ([] : List (Str × Value)).length) I L J1.env0 room.hd J1.base ns same
    refine PySem.W.kla_codeExpr (wpAny_mono ((body _ _ s1 Hτ (room.deeper _)).run [] _ σ Hτ Q (start.wish _) h3) (fun v t1 done => ?_) fun _ _ up => up)
    obtain ⟨v1, H1, K1, r1, fin⟩ := done
    exact ⟨v1, H1, K1.os, K1.bare, K1.base, K1.hok, r1, fin⟩
  have up := L2N.passes_call (E := E) tk hW
  refine wpAny_call (codeAny_mono far fun r t1 e => ?_)
  cases r with
  | error u => exact up pz τ Hτ s1 u t1 J1 e
  | ok fl => cases fl with
    | ret u => exact J1.after e
    | next => exact e.elim
    | brk => exact e.elim
    | cont => exact e.elim
end
/-- a def that calls what it got: TT, what it makes of the lambda's reading -/
def GivesN (X : Cx) (Nd : List Str) (x : Str) (sd : Scope) (fd : Addr) (cdd : Value) (bd : List Stmt) (a q : Str) (TT : (XK → Hp → VK → Prop) → Hp → VK → Prop) : Prop :=
  ∀ (g d : Addr) (s : Shared) (H : Hp) (Q : VK) (rd : XK → Hp → VK → Prop), Room 2 X.A → (∀ E H Q Q', (∀ v H, Q v H → Q' v H) → rd E H Q → rd E H Q') →
    (∀ (W : WX) (pn : List (Addr × Obj)) (xe : Value → Shared → Prop) (E : XK) (p1 p2 : Pos), L2N.Takes ((cxOf C8.CX0 X.prog X.w X.K X.mg X.base Nd x sd fd cdd X.A X.stack s H C8.E0).tr pn xe) W → (∀ C o σ1 H1, E C o H1 → W C o σ1 H1) →
      PE ((cxOf C8.CX0 X.prog X.w X.K X.mg X.base Nd x sd fd cdd X.A X.stack s H C8.E0).tr pn xe) (.Call (.Name a p1) [] [] p2) (fun τ Hτ Q => τ[0]? = some (some (.ref g)) ∧ Hτ d = some (LamX.CodeO d q) ∧ rd E Hτ Q)) →
    H d = some (LamX.CodeO d q) → TT rd H Q → ∃ t, PSs (cxOf C8.CX0 X.prog X.w X.K X.mg X.base Nd x sd fd cdd X.A X.stack s H C8.E0).nox bd t ∧ t { nx := fun _ H1 => Q .non H1, rt := Q } (L2.start Nd [.ref g]) H
/-- what the called def makes of the lambda, whichever the table's state -/
def tLamP (T : List (Addr × Str)) (P : Addr) (TT : (XK → Hp → VK → Prop) → Hp → VK → Prop) (t : XK → TE) : TE := fun σ H Q =>
  LamX.Tabs T H ∧ ∀ H1, StayP P H H1 → LamX.Tabs T H1 → TT (fun E H' Q' => t E σ H' Q') H1 Q
/-- x(lambda: body), x a def of the module with one parameter -/
theorem pe_lam {T : List (Addr × Str)} {TT : (XK → Hp → VK → Prop) → Hp → VK → Prop} {x a : Str} {gd cd P : Addr} {j : Nat} {pg : Arguments} {bg : List Stmt} {sg : Scope} {dV kV doc pm cv ct oc : Value} {an od : Option Addr} {osl : Array (Option Value)} {Ng : List Str}
    {ar : Arguments} {bd : Expr} {sc : Scope} {t : XK → TE} {p1 p2 p3 : Pos} (hgl : Gl X x) (hmg : X.mg x = some (.ref gd)) (hkp : PySem.W.keepIn X.K (.ref gd) = true)
    (hlk : X.K.lookup gd = some ⟨oc, od, .func (PySem.W.fnOf x x pg bg sg dV kV doc pm an cv ct), osl⟩) (hcv : PySem.W.codeIn X.K cv x = true) (hbi : L2.Binds X.K (PySem.W.fnOf x x pg bg sg dV kV doc pm an cv ct) [a] []) (S : FnScope Ng [a] sg) (hN : Ng[0]? = some a) (hvis : Vis sg a)
    (hgv : GivesN X Ng x sg gd cv bg a (lamN X) TT) (B : LamX.TabB X.base X.mg cd P) (hcd : X.env.code = .ref cd) (hin : (P, lamN X) ∈ T) (hun : ∀ p ∈ T, p.1 = P → p.2 = lamN X) (room : Room (j + 2) X.A) (L : LamX.LamS X.env.scope sc) (hdf : defaultsOf ar X.env = ([], []))
    (hb0 : ∀ (q : Str) (cl : List (Str × Addr)) (m c v : Value), bindArgs (PySem.W.kla_fn "<lambda>" q ar bd sc cl m c v) ⟨[], []⟩ = pure [])
    (hbody : ∀ (A : Around) (outer : List Env) (s : Shared) (H : Hp) (E : XK) (f c' : Addr), Room j (A.deeper (LamX.lamEnv X sc s.heap.objs.size f c')) → PE (lamC X A outer s H E sc f c') bd (t E))
    (hmono : ∀ E σ H Q Q', (∀ v H, Q v H → Q' v H) → t E σ H Q → t E σ H Q') (hdb : (x == ("__debug__" : Str)) = false := by decide) (hda : (a == ("__debug__" : Str)) = false := by decide) (hca : (a == ("__classdict__" : Str)) = false := by decide) :
    PE X (.Call (.Name x p1) [.Lambda ar bd sc p2] [] p3) (tLamP T P TT t) := by
  refine ⟨fun pins s σ H Q I hq => ?_⟩
  obtain ⟨ht, hq⟩ := hq
  refine wpAny_Call_Name_kw (ld_glob I hgl hmg ?_ hdb)
  apply PySem.W.callWith_K (h₀ := X.base) I.ok.mod.kin hkp _ (by rfl) (by rfl)
  show wpAny _ _ (spliced ((false, eval (.Lambda ar bd sc p2) X.env) :: backTo p3 (starEach [] X.env))) _ _ s
  apply Calls.spliced_cons
  refine lam_mk I B hcd hin hun ht hdf (L.has I.ok) fun g d m v H1 s1 I1 st ht1 hg hg0 hgf hd => ?_
  refine Calls.spliced_nil ⟨I1.kIn, ?_⟩
  have run : codeAny (model X.prog X.w) X.A (.call (.ref gd) ⟨[.ref g], []⟩) (CR C8.CX0 X.stack X.prog X.w H1 s1 Q C8.E0) s1 := by
    refine LamX.run_ofS (N := Ng) (ps := [a]) (us := [.ref g]) (vs := [.ref g]) hlk hcv S room I1.env0 (hbi s1 [.ref g] I1.kIn rfl) (.cons rfl .nil) rfl fun room' => ?_
    obtain ⟨t', k1, k2⟩ := hgv g d s1 H1 Q (fun E H' Q' => t E σ H' Q') (room.mono (Nat.le_add_left 2 j)) (fun E H Q Q' => hmono E σ H Q Q') (fun W pn xe E q1 q2 tk hW => pe_door (i := 0) I1 L hg hg0 hgf (hb0 _ _ _ _ _) tk hW room' (fun A outer s H r2 => hbody A outer s H E g d r2) hN hvis hda hca) hd (hq H1 st ht1)
    exact ⟨t', k1.nox, k2⟩
  refine wpAny_call (codeAny_mono run fun r s2 e => ?_)
  cases r with
  | error _ => exact (show False from e).elim
  | ok fl => cases fl with
    | ret u => exact I1.after e
    | next => exact False.elim e
    | brk => exact False.elim e
    | cont => exact False.elim e
end
section
variable {T : Tab} {c : Cn} {G H H1 : Hp} {ρ : Sl} {σ : L2.St} {P : Addr}
/-- the state, where only a table has grown -/
theorem R.stay (r : R T c G ρ σ H) (hm : c.mu = []) (hda : c.da = none) (st : StayP P H H1) (ht : LamX.Tabs c.tb H1) (hp : ∃ ps, H P = some (.tbl ps)) : R T c G ρ σ H1 where
  dk := fun a h => by rw [hda] at h; cases h
  ex := fun a o h => st.k a o (r.ex a o h) fun z => by
    obtain ⟨ps, e⟩ := hp
    rw [← z, r.ex a o h] at e
    cases e
    exact r.ng a ps h
  g0 := r.g0
  nw := r.nw
  fr := fun a o h d n => st.k a o (r.fr a o h d n) fun z => by
    obtain ⟨ps, e⟩ := hp
    rw [← z, r.fr a o h d n] at e
    cases e
    exact n ps rfl
  ng := r.ng
  dm := fun a o h => by
    obtain ⟨o', q⟩ := r.dm a o h
    by_cases z : a = P
    · subst z
      obtain ⟨ps, e⟩ := st.p
      exact ⟨_, e⟩
    · exact ⟨o', st.k a o' q z⟩
  th := ht
  dd := fun a h => by rw [hda] at h; cases h
  len := r.len
  sh := r.sh
  ow := fun i u h m => by rw [hm] at m; cases m
  ap := r.ap
  lv := r.lv
theorem StayP.stp (st : StayP P H H1) (hp : ∃ ps, H P = some (.tbl ps)) : Stp c σ G H G H1 where
  g := Ex.refl _
  k := fun a o h _ n => st.k a o h fun z => by
    obtain ⟨ps, e⟩ := hp
    rw [← z, h] at e
    cases e
    exact n ps rfl
  n := fun _ _ _ h => h
  d := fun a o h => by
    by_cases z : a = P
    · subst z
      obtain ⟨ps, e⟩ := st.p
      exact ⟨_, e⟩
    · exact ⟨o, st.k a o h z⟩
end
end Q
set_option maxRecDepth 100000
set_option maxHeartbeats 2000000
/-! QHot: a comprehension over zip of two lists while an exception is in hand -/
namespace Q
open PySem PySem.Spec PyProof.Rows L2
open Evl (Ex)
/-- the exception in hand stands at x and is o; it has no context -/
def HotO (A : Around) (x : Addr) (o : Obj) : Prop := A.handled = some (.ref x) ∧ ∃ fs : Array Value, o.data = .fields fs ∧ fs[2]? = some .none
section
variable {prog : Program} {w : World} {A : Around} {E : Value → Shared → Prop} {s : Shared}
theorem next_end_hot {it l x : Addr} {o : Obj} {i : Nat} {items : Array Value} {Q : Value → Shared → Prop} (hot : HotO A x o) (gx : s.heap.get? x = some o) (hx : x ≠ it) (hi : s.heap.IsListIter it l i) (hl : s.heap.IsList l items) (none_ : items[i]? = none)
    (go : ∀ h' e, Heap.ExtBut it s.heap h' → (∃ o, h'.get? e = some o ∧ o.cls = .type "StopIteration") → E (.ref e) { s with heap := h' }) : wpAny (model prog w) A (Builtin.SmallTypes.nextOf (.ref it)) Q E s := by
  obtain ⟨hh, fs, df, cf⟩ := hot
  obtain ⟨oi, gi, _, di⟩ := id hi
  obtain ⟨ol, gl, _, nl, dl⟩ := hl
  unfold Builtin.SmallTypes.nextOf
  apply wpAny_bind
  apply wpAny_callSpecial?_slot (name := Str.ofString "__next__") hi.typeIs slot_listiter_next
  apply wpAny_call_entry slot_listiter_next hi.typeIs entry_listiter_next _ (args_listiter_next _)
  show wpAny _ _ (field (.ref it) 0 >>= fun _ => _) _ _ s
  apply wpAny_bind
  apply wpAny_field gi di (x := .ref l) rfl
  show wpAny _ _ (if (Value.ref l == Value.none) = true then _ else _) _ _ s
  rw [if_neg (by simp)]
  show wpAny _ _ (field (.ref it) 1 >>= fun _ => _) _ _ s
  apply wpAny_bind
  apply wpAny_field gi di (x := .int i 0) rfl
  show wpAny _ _ (seqItems? (.ref l) >>= fun _ => _) _ _ s
  apply wpAny_bind
  apply wpAny_seqItems gl dl
  simp only [none_, Int.toNat_natCast]
  apply wpAny_bind
  apply wpAny_rule
  apply wpAny_bind
  apply wpAny_setField gi di (by simp)
  show wpAny _ _ (newExc (.type "StopIteration") [] >>= fun _ => _) _ _ _
  apply wpAny_bind
  simp only [newExc, newTuple]
  apply wpAny_bind
  apply wpAny_newObj_type _ (by size_fits)
  apply wpAny_bind (m := firstArgMember _ _)
  apply wpAny_of_eq (a := Value.none) (by first | rfl | (simp only [firstArgMember]; rfl))
  apply wpAny_newObj_type _ (by size_fits)
  have sb := Heap.SameBut.update s.heap it (Obj.mapFields (·.setIfInBounds 0 Value.none))
  have keep : ∀ {h' : Heap} {ob : Obj} {b : Addr} {ox : Obj}, h'.get? b = some ox → (h'.push ob).get? b = some ox := fun e => Heap.get?_push_of_some _ e
  refine HotX.raiseNew_hot ⟨hh, o, fs, keep (keep ((sb.2 x hx).trans gx)), df, cf⟩ (Nat.ne_of_lt (Heap.lt_size (keep ((sb.2 x hx).trans gx)))) (Heap.get?_push_size _ rfl) rfl (by first | (simp; done) | (simp; omega) | (simp only [Array.size_append]; simp; omega)) ?_
  refine go _ _ (fun b ob hb e => ?_) ⟨_, Heap.get?_update_self _ (Heap.get?_push_size _ rfl) rfl, rfl⟩
  have e1 := keep (ob := { cls := .type "tuple", data := .seq #[] }) ((sb.2 b hb).trans e)
  rw [Heap.get?_update_other _ _ (Nat.ne_of_gt (Heap.lt_size e1))]
  exact keep e1
theorem draws_hot {x : Addr} {o : Obj} (hot : HotO A x o) (it l : Addr) (hl : l ≠ it) (hx : x ≠ it) (items : Array Value) :
    Draws prog w A it [it, l, x] items.size (fun i v => items[i]? = some v) (fun i h => (h.IsListIter it l i ∧ h.IsList l items) ∧ h.get? x = some o) where
  live := fun _ _ ⟨⟨⟨ob, e, _⟩, _⟩, _⟩ => ⟨ob, e⟩
  frame := fun _ _ _ ⟨⟨a, b⟩, c⟩ k => ⟨⟨a.at fun ob e => k it (by simp) ob e, b.at fun ob e => k l (by simp) ob e⟩, k x (by simp) _ c⟩
  item := fun i s Q E lt ⟨⟨a, b⟩, c⟩ go => by
    have hv : items[i]? = some items[i] := by simp [lt]
    refine wpAny_nextOf_list_item a b hv fun h1 a1 sb => go _ h1 s.toks hv ⟨⟨a1, b.extBut sb.extBut hl⟩, ?_⟩ sb
    exact (sb.2 x hx).trans c
  done := fun s Q E ⟨⟨a, b⟩, c⟩ go => next_end_hot hot c hx a b (by simp) go
end
/-- how a walk turns while an exception is in hand: C, what the abstract heap bears at each turn -/
structure TurnC (P : Program) (w : World) (K : PySem.W.Frag) (A : Around) (C : Heap → Prop) (tg : Expr) (J : It) (fp : List Addr) (it : Addr) (tn : Nat → Heap → Prop) : Prop where
  obj : ∀ i h, tn i h → ∀ b ∈ fp, ∃ o, h.get? b = some o ∧ ∀ v, o.data ≠ .cell v
  keep : ∀ i h h', tn i h → (∀ b ∈ fp, ∀ o, h.get? b = some o → h'.get? b = some o) → tn i h'
  item : ∀ (X : Cx), X.prog = P → X.w = w → X.K = K → X.A = A → ∀ (i : Nat) (pins : List (Addr × Obj)) (s : Shared) (σ : L2.St) (H : Hp) (E : Value → Shared → Prop), Inv X pins σ H s → C s.heap → (∀ b ∈ fp, FpOk X pins H b) → tn i s.heap → J.go i H →
    wpAny (model P w) A (pyNext (.ref it)) (fun r s1 => ∃ u, r = some u ∧ wpAny (model P w) A (letOwnedTupleGo tg (.ref it) u) (fun _ s2 => ∃ x H', Inv X pins σ H' s2 ∧ RelV x u ∧ J.yld i H x H' ∧ tn (i + 1) s2.heap ∧ ∀ b ∈ fp, H' b = none) E s1) E s
  done : ∀ (X : Cx), X.prog = P → X.w = w → X.K = K → X.A = A → ∀ (i : Nat) (pins : List (Addr × Obj)) (s : Shared) (σ : L2.St) (H : Hp) (E : Value → Shared → Prop), Inv X pins σ H s → C s.heap → (∀ b ∈ fp, FpOk X pins H b) → tn i s.heap → J.stop i H →
    wpAny (model P w) A (pyNext (.ref it)) (fun r s1 => r = none ∧ Inv X pins σ H s1) E s
  self : ∀ (A : Around) (i : Nat) (s : Shared) (Q : Value → Shared → Prop) (E : Value → Shared → Prop), tn i s.heap → Q (.ref it) s → wpAny (model P w) A (pyIter (.ref it)) Q E s
/-- the exception stands in the heap -/
abbrev FrzC (x : Addr) (o : Obj) : Heap → Prop := fun h => h.get? x = some o
theorem turn_zipC {P : Program} {w : World} {K : PySem.W.Frag} {A : Around} {elts : List Expr} {kk : Nat} {tpos : Pos} {a b z TI TO i1 i2 x : Addr} {o : Obj} (hot : HotO A x o) (D : SepB z TI TO i1 i2 a b) (hx : x ∉ [z, TI, TO, i1, i2]) :
    TurnC P w K A (FrzC x o) (.Tuple elts kk tpos) (ItzB false false K a b) [z, TI, TO, i1, i2] z (fun i h => IsZip h z TI TO .none ∧ IsTupOf2 h TI (.ref i1) (.ref i2) ∧ (∃ x y, IsTupOf2 h TO x y) ∧ h.IsListIter i1 a i ∧ h.IsListIter i2 b i) := by
  have hx' : x ≠ z ∧ x ≠ TI ∧ x ≠ TO ∧ x ≠ i1 ∧ x ≠ i2 := by simpa using hx
  obtain ⟨xz, xTI, xTO, x1, x2⟩ := hx'
  have D2 : ZipSep2 z TI TO i1 i2 [i1, a, x] [i2, b, x] := by
    have d := D.s
    refine ⟨d.TIz, d.TOz, d.TITO, d.TIi1, by simp, ?_, ?_, d.TIi2, by simp, ?_, ?_, ?_, ?_⟩
    · have := d.zf1
      simp only [List.mem_cons, List.not_mem_nil, or_false, not_or] at this ⊢
      exact ⟨this.1, this.2, Ne.symm xz⟩
    · have := d.Tf1
      simp only [List.mem_cons, List.not_mem_nil, or_false, not_or] at this ⊢
      exact ⟨this.1, this.2, Ne.symm xTO⟩
    · have := d.zf2
      simp only [List.mem_cons, List.not_mem_nil, or_false, not_or] at this ⊢
      exact ⟨this.1, this.2, Ne.symm xz⟩
    · have := d.Tf2
      simp only [List.mem_cons, List.not_mem_nil, or_false, not_or] at this ⊢
      exact ⟨this.1, this.2, Ne.symm xTO⟩
    · have := d.sep1_2
      simp only [List.mem_cons, List.not_mem_nil, or_false, not_or] at this ⊢
      exact ⟨this.1, this.2, Ne.symm x1⟩
    · have := d.sep2_1
      simp only [List.mem_cons, List.not_mem_nil, or_false, not_or] at this ⊢
      exact ⟨this.1, this.2, Ne.symm x2⟩
  have hot1 : HotO A.in1 x o := hot
  have B := turn_zipB (P := P) (w := w) (K := K) (elts := elts) (kk := kk) (tpos := tpos) false false D
  refine ⟨B.obj, B.keep, ?_, ?_, B.self⟩
  · intro X hP hw hK hA i pins s σ H E I ex hf st hg
    subst hP hw hK hA
    obtain ⟨hz, hTI, ⟨x0, y0, hTO⟩, h1, h2⟩ := st
    obtain ⟨xs, ys, p, q, hqx, hqy, hp, hq⟩ := hg
    obtain ⟨its, rv, p1⟩ := sqB_get I hqx
    obtain ⟨its2, rv2, p2⟩ := sqB_get I hqy
    obtain ⟨v1, hu, ru⟩ := rv.get hp
    obtain ⟨v2, hu2, ru2⟩ := rv2.get hq
    have hzl : z < s.heap.objs.size := Heap.lt_size hz
    have l1 : i < its.toArray.size := by
      have := (List.getElem?_eq_some_iff.mp hu).1
      rwa [List.size_toArray]
    have l2 : i < its2.toArray.size := by
      have := (List.getElem?_eq_some_iff.mp hu2).1
      rwa [List.size_toArray]
    refine wpAny_pyNext_zipD2_item D2 (draws_hot hot1 i1 a D.a1 x1 its.toArray) (draws_hot hot1 i2 b D.b2 x2 its2.toArray) hz hTI hTO ⟨⟨h1, p1⟩, ex⟩ ⟨⟨h2, p2⟩, ex⟩ l1 l2 fun y1 y2 h' tk P1 P2 z' TO' h1' h2' hT hsz hk => ?_
    have q1 : its.toArray[i]? = some y1 := P1
    have q2 : its2.toArray[i]? = some y2 := P2
    rw [List.getElem?_toArray, hu] at q1
    rw [List.getElem?_toArray, hu2] at q2
    cases q1
    cases q2
    refine ⟨_, rfl, wpAny_letOwnedTupleGo_zip (s := { s with heap := h', toks := tk }) z' fun h'' z'' sb => ?_⟩
    have hT2 : h''.get? s.heap.objs.size = some { cls := .type "tuple", data := .seq #[v1, v2] } := (sb.2 _ (Nat.ne_of_gt hzl)).trans hT
    have new : ObjOk X.prog X.w (upd H s.heap.objs.size (.tup [p, q])) h'' s.heap.objs.size (.tup [p, q]) :=
      ⟨by show 2 ≤ sizeLine; decide, [v1, v2], .cons ru (.cons ru2 .nil), ⟨_, hT2, rfl, _, rfl⟩⟩
    have I1 : Inv X pins σ (upd H s.heap.objs.size (.tup [p, q])) { s with heap := h'', toks := tk } :=
      I.turnedNew (t' := tk) (ch := [z, TI, TO, i1, i2]) (fun c o hb q => (sb.2 c (fun q' => hb (by simp [q']))).trans (hk c o (fun q' => hb (by simp [q'])) (fun q' => hb (by simp [q'])) (fun q' => hb (by simp [q'])) (fun q' => hb (by simp [q'])) q)) hf (Nat.le_refl _) new
    refine ⟨.ref s.heap.objs.size, _, I1, rfl, ⟨_, p, q, rfl, I.hok.fresh (Nat.le_refl _), rfl, fun l hl => by rw [sqB_inj I hl hqx]; exact hp, fun l hl => by rw [sqB_inj I hl hqy]; exact hq⟩, ⟨z'', ?_, ⟨v1, v2, ?_⟩, ?_, ?_⟩, fun c hcm => ?_⟩
    · exact (sb.2 _ D.s.TIz).trans (hk _ _ D.s.TIz D.s.TITO D.s.TIi1 D.s.TIi2 hTI)
    · exact (sb.2 _ D.s.TOz).trans TO'
    · exact h1'.1.1.at fun o q => (sb.2 _ D.s.zi1.symm).trans q
    · exact h2'.1.1.at fun o q => (sb.2 _ D.s.zi2.symm).trans q
    · have hlt : c < s.heap.objs.size := by
        obtain ⟨ob, e, _⟩ := B.obj i s.heap ⟨hz, hTI, ⟨x0, y0, hTO⟩, h1, h2⟩ c hcm
        exact Heap.lt_size e
      rw [upd_ne (Nat.ne_of_lt hlt)]
      exact (hf c hcm).1
  · intro X hP hw hK hA i pins s σ H E I ex hf st hg
    subst hP hw hK hA
    obtain ⟨hz, hTI, ⟨x0, y0, hTO⟩, h1, h2⟩ := st
    obtain ⟨xs, ys, hqx, hqy, n1, n2, hend⟩ := hg
    obtain ⟨its, rv, p1⟩ := sqB_get I hqx
    obtain ⟨its2, rv2, p2⟩ := sqB_get I hqy
    have l1 := rv.length
    have l2 := rv2.length
    refine wpAny_pyNext_zipD2_end D2 (draws_hot hot1 i1 a D.a1 x1 its.toArray) (draws_hot hot1 i2 b D.b2 x2 its2.toArray) hz hTI hTO ⟨⟨h1, p1⟩, ex⟩ ⟨⟨h2, p2⟩, ex⟩ (by rw [List.size_toArray]; omega) (by rw [List.size_toArray]; omega) (by rw [List.size_toArray, List.size_toArray]; omega) fun h' tk hk => ⟨rfl, I.turnedL (t' := tk) (ch := [z, TI, TO, i1, i2]) (fun c o hb q =>
      hk c o (fun q' => hb (by simp [q'])) (fun q' => hb (by simp [q'])) (fun q' => hb (by simp [q'])) (fun q' => hb (by simp [q'])) q) hf⟩
end Q
set_option maxRecDepth 100000
set_option maxHeartbeats 2000000
/-! QHotU: (a, b) = a tuple, while an exception is in hand -/
namespace Q
open PySem PySem.Spec PyProof.Rows L2
open Evl (Ex)
section
variable {prog : Program} {w : World} {A : Around} {E : Value → Shared → Prop} {s : Shared}
theorem tup_end_hot {it t x : Addr} {o : Obj} {i : Nat} {items : Array Value} {Q : Option Value → Shared → Prop} (hot : HotO A x o) (gx : s.heap.get? x = some o) (hx : x ≠ it) (hi : IsTupIter s.heap it t i) (ht : IsTup s.heap t items) (none_ : items[i]? = none)
    (go : ∀ h', Heap.ExtBut it s.heap h' → Q none { s with heap := h' }) : wpAny (model prog w) A (pyNext (.ref it)) Q E s := by
  obtain ⟨hh, fs, df, cf⟩ := hot
  obtain ⟨oi, gi, _, di⟩ := id hi
  obtain ⟨ot, gt, _, nt, dt⟩ := ht
  unfold pyNext
  apply wpAny_bind
  apply wpAny_attempt
  apply wpAny_callSpecial?_slot (name := Str.ofString "__next__") hi.typeIs slot_tupleiter_next
  apply wpAny_call_entry slot_tupleiter_next hi.typeIs entry_tupleiter_next _ (args_tupleiter_next _)
  show wpAny _ _ (field (.ref it) 0 >>= fun _ => _) _ _ s
  apply wpAny_bind
  apply wpAny_field gi di (x := .ref t) rfl
  show wpAny _ _ (if (Value.ref t == Value.none) = true then _ else _) _ _ s
  rw [if_neg (by simp)]
  show wpAny _ _ (field (.ref it) 1 >>= fun _ => _) _ _ s
  apply wpAny_bind
  apply wpAny_field gi di (x := .int i 0) rfl
  show wpAny _ _ (seqItems? (.ref t) >>= fun _ => _) _ _ s
  apply wpAny_bind
  apply wpAny_seqItems gt dt
  simp only [none_, Int.toNat_natCast]
  apply wpAny_bind
  apply wpAny_rule
  apply wpAny_bind
  apply wpAny_setField gi di (by simp)
  show wpAny _ _ (newExc (.type "StopIteration") [] >>= fun _ => _) _ _ _
  apply wpAny_bind
  simp only [newExc, newTuple]
  apply wpAny_bind
  apply wpAny_newObj_type _ (by size_fits)
  apply wpAny_bind (m := firstArgMember _ _)
  apply wpAny_of_eq (a := Value.none) (by first | rfl | (simp only [firstArgMember]; rfl))
  apply wpAny_newObj_type _ (by size_fits)
  have sb := Heap.SameBut.update s.heap it (Obj.mapFields (·.setIfInBounds 0 Value.none))
  have keep : ∀ {h' : Heap} {ob : Obj} {b : Addr} {ox : Obj}, h'.get? b = some ox → (h'.push ob).get? b = some ox := fun e => Heap.get?_push_of_some _ e
  refine HotX.raiseNew_hot ⟨hh, o, fs, keep (keep ((sb.2 x hx).trans gx)), df, cf⟩ (Nat.ne_of_lt (Heap.lt_size (keep ((sb.2 x hx).trans gx)))) (Heap.get?_push_size _ rfl) rfl (by first | (simp; done) | (simp; omega) | (simp only [Array.size_append]; simp; omega)) ?_
  refine wpAny_bind (wpAny_isInstance (T := "StopIteration") (b := true) ⟨_, Heap.get?_update_self _ (Heap.get?_push_size _ rfl) rfl, rfl⟩ isSubtype_stop (wpAny_pure (go _ fun b ob hb e => ?_)))
  have e1 := keep (ob := { cls := .type "tuple", data := .seq #[] }) ((sb.2 b hb).trans e)
  rw [Heap.get?_update_other _ _ (Nat.ne_of_gt (Heap.lt_size e1))]
  exact keep e1
theorem tup_items_hot {t x : Addr} {o : Obj} {items : Array Value} {Q : List Value → Shared → Prop} (hot : HotO A x o) (gx : s.heap.get? x = some o) (ht : IsTup s.heap t items) (go : ∀ h', Heap.ExtBut s.heap.objs.size s.heap h' → Q items.toList { s with heap := h' }) : wpAny (model prog w) A (unpackItems (.ref t) items.size none) Q E s := by
  have lt : t ≠ s.heap.objs.size := by
    obtain ⟨ob, e, _⟩ := ht
    exact Nat.ne_of_lt (Heap.lt_size e)
  unfold unpackItems notIterableAtAll
  apply wpAny_bind
  apply wpAny_bind
  apply wpAny_specialOf ht.typeIs slot_tuple_iter.lookup
  apply wpAny_pure
  rw [if_neg (by simp)]
  apply wpAny_bind
  apply wpAny_holding
  apply iter_tuple ht
  apply wpAny_bind
  apply wpAny_holding
  refine draw_tuple lt items.size 0 _ _ ⟨_, Heap.get?_push_size _ rfl, rfl, rfl⟩ (ht.push _) (by omega) fun h1 i1 sb => ?_
  have all : List.take items.size (List.drop 0 items.toList) = items.toList := by
    rw [List.drop_zero]
    exact List.take_of_length_le (by simp)
  rw [all, if_neg (by simp)]
  apply wpAny_bind
  apply wpAny_holding
  refine tup_end_hot (s := { s with heap := h1 }) hot ((sb.2 x (Nat.ne_of_lt (Heap.lt_size gx))).trans (Heap.get?_push_of_some _ gx)) (Nat.ne_of_lt (Heap.lt_size gx)) i1 ((ht.push _).extBut sb.extBut lt) (by simp) fun h2 e2 => ?_
  simp only [Option.isSome_none, Bool.false_eq_true, if_false]
  exact wpAny_pure (go h2 fun b ob hb e => e2 b ob hb (sb.extBut b ob hb (Heap.get?_push_of_some _ e)))
end
/-- (a, b, ..) = a tuple, an exception in hand -/
theorem pg_tupH {X : Cx} {es : List Expr} {k : Nat} {t : TGs} {n : Nat} {x : Addr} {o : Obj} {pos : Pos} (hot : HotO X.A x o) (kp : ∀ (pins : List (Addr × Obj)) (τ : L2.St) (H : Hp) (t : Shared), Inv X pins τ H t → t.heap.get? x = some o) (h : PGs X es t)
    (hn : (assignEach es X.env).length = n) (hst : (assignEach es X.env).findIdx? (·.1) = none) : PG X (.Tuple es k pos) (gTup X.K n t) := by
  constructor
  rintro pins s σ H v u Q I r ⟨a, xs, rfl, hq, hl, hw⟩
  cases r
  obtain ⟨its, rv, ht, _⟩ := I.tuple hq
  have hlen : (assignEach es X.env).length = its.toArray.size := by simp [hn, ← hl, rv.length]
  rw [PyProof.Rows.assign_Tuple]
  apply wpAny_bind
  apply wpAny_standAt
  unfold unpack
  rw [hlen, hst]
  apply wpAny_bind
  apply wpAny_holding
  refine tup_items_hot hot (kp _ _ _ _ I) ht fun h' ex => ?_
  have I1 : Inv X pins σ H { s with heap := h' } := I.kept (t' := s.toks) fun b ob e => ex b ob (Nat.ne_of_lt (Heap.lt_size e)) e
  exact h.run pins _ σ H xs _ Q I1 (by simpa using rv) hw
theorem qg_tupH {X : Cx} {c : Cn} {sl : List Nat} {es : List Expr} {k : Nat} {n : Nat} {gs : TgsF} {x : Addr} {o : Obj} {pos : Pos} (hot : HotO X.A x o) (kp : ∀ (pins : List (Addr × Obj)) (τ : L2.St) (H : Hp) (t : Shared), Inv X pins τ H t → t.heap.get? x = some o) (h : QGs X c sl es gs)
    (hg : ∀ us ρ ρ', gs us ρ = some ρ' → us.length = n) (hn : (assignEach es X.env).length = n := by rfl) (hst : (assignEach es X.env).findIdx? (·.1) = none := by rfl) : QG X c sl (.Tuple es k pos) (gT gs) :=
  PG.weak (pg_tupH hot kp h hn hst) fun v σ H Q ⟨G, ρ, u, ρ', r, l, e, h⟩ => by
    unfold gT at e
    split at e
    · rename_i us
      obtain ⟨a, vs, rfl, h1, h2⟩ := rep_tup.1 l
      exact ⟨a, vs, rfl, Evl.ex_t r.ex h1, h2.length.symm.trans (hg _ _ _ e), G, ρ, us, ρ', r, h2, e, h⟩
    · cases e
end Q
set_option maxRecDepth 100000
set_option maxHeartbeats 2000000
/-! QHotL: name = [elt for target in zip(a, b) if ..] while an exception is in hand -/
namespace Q
open PySem PySem.Spec PyProof.Rows L2
open Evl (Ex)
/-- what the walk asks of the pure part -/
def tZipC (K : PySem.W.Frag) (ta : TA) (g : TG) (tt : TT) (te : TE) (vs : List Nat) : TE := fun σ H Q => ta σ H fun args H1 => ∃ a b xs ys, args = [.ref a, .ref b] ∧ SqL K H1 a xs ∧ SqL K H1 b ys ∧
  ∀ D, H1 D = none → ∃ W : Nat → Nat → Hp → Prop, (∃ m, W 0 m (upd H1 D (.lst []))) ∧ ∀ i m H, W i m H → ((ItzB false false K a b).stop i H ∧ Q (.ref D) H) ∨
    ((ItzB false false K a b).go i H ∧ ∃ Nx : Hp → Prop, (∀ H', Nx H' → ∃ m', m' < m ∧ W (i + 1) m' H') ∧ ∀ x H', (ItzB false false K a b).yld i H x H' → g x (wipe σ vs) H' fun σ2 H2 => wipe σ2 vs = wipe σ vs ∧ tt σ2 H2 fun b H3 =>
      if b = true then te σ2 H3 fun y H4 => ∃ acc, H4 D = some (.lst acc) ∧ acc.length < sizeLine ∧ Nx (upd H4 D (.lst (acc ++ [y]))) else Nx H3)
section
variable {X : Cx} {x : Addr} {o : Obj}
/-- the walk itself, from the point where both lists are at hand -/
theorem lc_hot {pins : List (Addr × Obj)} {s : Shared} {σ : L2.St} {H : Hp} {Q : VK} {ea eb elt : Expr} {elts : List Expr} {kk : Nat} {tpos zp zpos pos pos' : Pos} {ifs : List Expr} {scope : Scope} {own : List (Str × Nat)} {ta : TA} {g : TG} {tt : TT} {te : TE} {use : Option (Value → Sem Unit)} {Qf : Value → Shared → Prop}
    (hot : HotO X.A x o) (hpn : (x, o) ∈ X.pn) (nd : X.N.Nodup) (I : Inv X pins σ H s) (mz : X.mg "zip" = none) (gz : Gl X "zip") (ha : PA X [ea, eb] ta) (ok : BlkOk X.N X.env.scope scope own)
    (hst : starEach [ea, eb] X.env = (false, eval ea X.env) :: starEach [eb] X.env) (hpl : (backTo zpos (starEach [eb] X.env)).any (·.1) = false)
    (hg : ∀ (s : Shared) (H : Hp) (C : Addr) (cl : List (Str × Addr)) (fp : List Addr), (∀ (pins : List (Addr × Obj)) (τ : L2.St) (H' : Hp) (t : Shared), Inv (X.blk s H scope (compEnvC scope cl C X.env) fp) pins τ H' t → t.heap.get? x = some o) → PG (X.blk s H scope (compEnvC scope cl C X.env) fp) (.Tuple elts kk tpos) g) (ht : ∀ (s : Shared) (H : Hp) (C : Addr) (cl : List (Str × Addr)) (fp : List Addr), PTs (X.blk s H scope (compEnvC scope cl C X.env) fp) ifs tt)
    (he : ∀ (s : Shared) (H : Hp) (C : Addr) (cl : List (Str × Addr)) (fp : List Addr), PE (X.blk s H scope (compEnvC scope cl C X.env) fp) elt te) (hs : ∀ v, foldedSetIterable (.Call (.Name "zip" zp) [ea, eb] [] zpos) X.env v = pure v)
    (h : tZipC X.K ta g tt te (own.map (·.2)) σ H Q)
    (fin : ∀ D C s' m H', Inv X pins σ H' s' → Q (.ref D) H' → s'.heap.Ns C m → FpOk X pins H' C → compPost (model X.prog X.w) X.A X.xe use Qf (.ref D) C (.ok .next) s') :
    wpAny (model X.prog X.w) X.A (comprehension (.ListComp elt [⟨.Tuple elts kk tpos, .Call (.Name "zip" zp) [ea, eb] [] zpos, ifs, 0⟩] scope pos) scope X.env pos' (newList []) false (eval (.Call (.Name "zip" zp) [ea, eb] [] zpos) X.env) use) Qf X.xe s := by
  have caught : ∀ y ∈ scope.names, y.2 = .free → ∃ c, X.env.cells.lookup y.1 = some c := by
    intro y hy e
    cases ok.free y hy e with
    | inl k => exact I.ok.has _ (.inl k)
    | inr k => exact I.ok.has _ (.inr k)
  apply wpAny_comprehension_free (use := use) rfl hs (closure_ok caught) ok.kind (fun y hy e => by rw [ok.uniq y hy, e])
  refine Call_ (ld_blt I gz mz PyProof.Rows.boot_zip (PyProof.Rows.callWith_type1 (thn (ha.run zpos pins s σ H _ I h) fun us sa ⟨args, Ha, Ia, ra, qa⟩ => ?_) hst hpl))
  obtain ⟨a, b, xs, ys, rfl, qx, qy, more⟩ := qa
  obtain ⟨ua, rest, rfl, rua, rrest⟩ : ∃ ua rest, us = ua :: rest ∧ RelV (.ref a) ua ∧ Vals [.ref b] rest := by cases ra with | cons r t => exact ⟨_, _, rfl, r, t⟩
  obtain ⟨ub, rfl, rub⟩ : ∃ ub, rest = [ub] ∧ RelV (.ref b) ub := by cases rrest with | cons r t => cases t; exact ⟨_, rfl, r⟩
  obtain rfl : ua = Value.ref a := rua
  obtain rfl : ub = Value.ref b := rub
  have le5 : ∀ c, c ∈ [sa.heap.objs.size + 4, sa.heap.objs.size + 2, sa.heap.objs.size + 3, sa.heap.objs.size, sa.heap.objs.size + 1] → sa.heap.objs.size ≤ c := fun c hc => by
    simp only [List.mem_cons, List.not_mem_nil, or_false] at hc
    omega
  obtain ⟨its, rv, pa⟩ := sqB_get (t := false) Ia qx
  obtain ⟨its2, rv2, pb⟩ := sqB_get (t := false) Ia qy
  refine zip_begins2 (beginsB false a its.toArray) (beginsB false b its2.toArray) pa pb fun hp hz hTI hTO h1 h2 hsz hk => wpAny_pyIter_zip hz ?_
  have Ib : Inv X pins σ Ha { sa with heap := hp } := Ia.kept (t' := sa.toks) hk
  have pinx := Ia.pin (x, o) (List.mem_append_left _ hpn)
  have xlt : x < sa.heap.objs.size := Heap.lt_size pinx.1
  have xout : x ∉ [sa.heap.objs.size + 4, sa.heap.objs.size + 2, sa.heap.objs.size + 3, sa.heap.objs.size, sa.heap.objs.size + 1] := fun m => Nat.lt_irrefl _ (Nat.lt_of_lt_of_le xlt (le5 x m))
  obtain ⟨it, fp, tn, eit, T, st0, free5⟩ : ∃ (it : Addr) (fp : List Addr) (tn : Nat → Heap → Prop), it = sa.heap.objs.size + 4 ∧ TurnC X.prog X.w X.K X.A (FrzC x o) (.Tuple elts kk tpos) (ItzB false false X.K a b) fp it tn ∧ tn 0 hp ∧ ∀ c ∈ fp, FpOk X pins Ha c :=
    ⟨_, _, _, rfl, turn_zipC hot (sepB_new pa.lt pb.lt) xout, ⟨hz, hTI, ⟨_, _, hTO⟩, iterB_new (t := false) h1, iterB_new (t := false) h2⟩, fun c hc => Ia.fpOk (le5 c hc) (Ia.hok.fresh (le5 c hc))⟩
  rw [← eit]
  generalize hsb : ({ sa with heap := hp } : Shared) = sb at Ib ⊢
  have st0 : tn 0 sb.heap := by rw [← hsb]; exact st0
  refine wpAny_newObj_type (newEnv_comp ?_) (by show 0 ≤ sizeLine; decide)
  generalize eD : sb.heap.objs.size = D
  have noD : Ha D = none := Ib.hok.fresh (Nat.le_of_eq eD)
  obtain ⟨W, ⟨m0, w0⟩, turn⟩ := more D noD
  generalize esc : ({ sb with heap := sb.heap.push { cls := .type "list", data := .seq ([] : List Value).toArray } } : Shared) = sc
  have hc : sc.heap = sb.heap.push { cls := .type "list", data := .seq ([] : List Value).toArray } := by rw [← esc]
  have Ic : Inv X pins σ (upd Ha D (.lst [])) sc := by
    rw [← esc]
    refine Ib.laid (t' := sb.toks) (fun _ _ e => Heap.get?_push_of_some _ e) (Nat.le_of_eq eD) ⟨Nat.zero_le _, [], 0, .nil, ?_⟩
    rw [← eD]
    exact Heap.get?_push_size _ rfl
  have pinc := Ic.pin (x, o) (List.mem_append_left _ hpn)
  have xfp : x ∉ fp := fun m => by
    obtain ⟨_, _, _, _, _, k6⟩ := free5 x m
    exact k6 (x, o) (List.mem_append_left _ hpn) rfl
  have pinf : x ∉ frs X.stack := fun m => (List.mem_cons.mp (Ic.stkSub x m)).elim pinc.2.2.1 pinc.2.2.2.1
  have fresh : ∀ c ∈ fp, FpOk X pins (upd Ha D (.lst [])) c ∧ c < sc.heap.objs.size := by
    intro c hcm
    obtain ⟨oc, ec, _⟩ := T.obj _ _ st0 c hcm
    have lt : c < sb.heap.objs.size := Heap.lt_size ec
    obtain ⟨k0, k1⟩ := free5 c hcm
    refine ⟨⟨?_, k1⟩, by rw [hc, Heap.size_push]; exact Nat.lt_succ_of_lt lt⟩
    rw [upd_ne (by rw [← eD]; exact Nat.ne_of_lt lt)]
    exact k0
  have stc : tn 0 sc.heap := T.keep _ _ _ st0 fun c _ oc e => by rw [hc]; exact Heap.get?_push_of_some _ e
  have Id := block_start Ic ok nd fresh
  generalize hcl : cellsFrom (sc.heap.objs.size + 1) scope.names (cloFrom X.env.cells scope.names []) = cl at Id
  have pg := hg sc (upd Ha D (.lst [])) sc.heap.objs.size cl fp fun pins τ H' t J => J.base.keep x o pinc.1 pinc.2.1 (fun m => pinf m) xfp
  have pt := ht sc (upd Ha D (.lst [])) sc.heap.objs.size cl fp
  have pe := he sc (upd Ha D (.lst [])) sc.heap.objs.size cl fp
  show codeAny _ _ (.compStart (.ListComp elt [⟨.Tuple elts kk tpos, .Call (.Name "zip" zp) [ea, eb] [] zpos, ifs, 0⟩] scope pos) 0 (.ref it) (.ref D) (compEnvC scope cl sc.heap.objs.size X.env)) (compPost (model X.prog X.w) X.A X.xe use Qf (.ref D) sc.heap.objs.size) { sc with heap := pushCells (sc.heap.push { cls := .type "dict", data := .dict #[] }) scope.names }
  have locs : (compEnvC scope cl sc.heap.objs.size X.env).locals = sc.heap.objs.size := rfl
  have out0 : ∀ c ∈ fp, (upd Ha D (.lst [])) c = none := fun c hcm => (fresh c hcm).1.1
  generalize compEnvC scope cl sc.heap.objs.size X.env = ce at Id pg pt pe locs ⊢
  have pinH : (upd Ha D (.lst [])) x = none := pinc.2.1
  have pinG : sc.heap.get? x = some o := pinc.1
  clear pinc
  generalize upd Ha D (.lst []) = Hc at Ic Id pg pt pe w0 out0 fresh pinH
  generalize esd : ({ sc with heap := pushCells (sc.heap.push { cls := .type "dict", data := .dict #[] }) scope.names } : Shared) = sd at Id ⊢
  have std : tn 0 sd.heap := T.keep _ _ _ stc fun c _ oc e => by rw [← esd]; exact pushCells_keeps _ _ _ _ (Heap.get?_push_of_some _ e)
  have fpB : ∀ {τ : L2.St} {H' : Hp} {t : Shared}, Inv (X.blk sc Hc scope ce fp) [] τ H' t → (∀ c ∈ fp, H' c = none) → ∀ c ∈ fp, FpOk (X.blk sc Hc scope ce fp) [] H' c := fun J n c hcm =>
    ⟨n c hcm, (J.ok.exf c hcm).1, J.ok.exfs c hcm, .inl hcm, fun y c' e => (J.ok.exf c hcm).2 y c' e, fun p hp => by cases hp⟩
  refine codeAny_compStart_list (compLoop_any (fun n t => ∃ i H', Inv (X.blk sc Hc scope ce fp) [] (wipe σ (own.map (·.2))) H' t ∧ tn i t.heap ∧ (∀ c ∈ fp, H' c = none) ∧ W i n H') ?_ m0 ⟨0, Hc, Id, std, out0, w0⟩) (T.self X.A 0 _ _ _ std (compLoop_any (fun n t => ∃ i H', Inv (X.blk sc Hc scope ce fp) [] (wipe σ (own.map (·.2))) H' t ∧ tn i t.heap ∧ (∀ c ∈ fp, H' c = none) ∧ W i n H') ?_ m0 ⟨0, Hc, Id, std, out0, w0⟩))
  all_goals
    rintro n t ⟨i, H', J, st, nf, w'⟩
    have bears : t.heap.get? x = some o := J.base.keep x o pinG pinH (fun m => pinf m) xfp
    rcases turn i n H' w' with ⟨stop, qD⟩ | ⟨go, Nx, next, step⟩
    · refine thnF (T.done (X.blk sc Hc scope ce fp) rfl rfl rfl rfl i [] t _ H' (fun _ _ => False) J bears (fpB J nf) st stop) fun r t1 ⟨er, J1⟩ => ?_
      rw [er]
      have back : Inv X pins σ H' t1 := Ic.call' (ch := fp) J1.os J1.base J1.hok J1.bare fun c hcm => by
        obtain ⟨_, k2, k3, k4, k5, k6⟩ := (fresh c hcm).1
        exact ⟨k4, k2, k5, k6⟩
      have noC : H' sc.heap.objs.size = none := by
        have z : H' ce.locals = none := J1.free
        rwa [locs] at z
      obtain ⟨m, ns, _⟩ := J1.loc
      have ns : t1.heap.Ns ce.locals m := ns
      rw [locs] at ns
      exact fin D sc.heap.objs.size t1 m H' back qD ns (Ic.fpOk (Nat.le_refl _) noC)
    · refine thnF (T.item (X.blk sc Hc scope ce fp) rfl rfl rfl rfl i [] t _ H' (fun _ _ => False) J bears (fpB J nf) st go) fun r t1 ⟨u, er, k1⟩ => ?_
      rw [er]
      refine thnF k1 fun _ t2 ⟨v, H2, J2, rv2, y2, st2, n2⟩ => ?_
      refine thnF (pg.run _ t2 _ H2 v u _ (J2.pinned (fpB J2 n2) (T.obj _ _ st2)) rv2 (step v H2 y2)) fun _ t3 ⟨τ, H3, J3, ew, k3⟩ => ?_
      refine thnF (pt.run _ t3 τ H3 _ J3 k3) fun yes t4 ⟨H4, J4, k4⟩ => ?_
      have again : ∀ {t' : Shared} {H5 : Hp}, Inv (X.blk sc Hc scope ce fp) ([] ++ pinsAt fp t2.heap) τ H5 t' → Nx H5 → ∃ m, m < n ∧ ∃ i H', Inv (X.blk sc Hc scope ce fp) [] (wipe σ (own.map (·.2))) H' t' ∧ tn i t'.heap ∧ (∀ c ∈ fp, H' c = none) ∧ W i m H' := by
        intro t' H5 J5 nx
        obtain ⟨m, lt, w5⟩ := next H5 nx
        have pinned : ∀ c ∈ fp, ∀ oc, t2.heap.get? c = some oc → t'.heap.get? c = some oc ∧ H5 c = none := fun c hcm oc e =>
          have q := J5.pin (c, oc) (List.mem_append_right _ (List.mem_append_right _ (mem_pinsAt hcm e)))
          ⟨q.1, q.2.1⟩
        refine ⟨m, lt, i + 1, H5, (J5.unpinned (pins := [])).weak (by rw [← ew, wipe_length]) (fun j v e => ?_), T.keep _ _ _ st2 fun c hcm oc e => (pinned c hcm oc e).1, fun c hcm => ?_, w5⟩
        · rw [← ew] at e
          exact (wipe_some e).1
        · obtain ⟨oc, e, _⟩ := T.obj _ _ st2 c hcm
          exact (pinned c hcm oc e).2
      cases yes with
      | false =>
        rw [if_neg Bool.false_ne_true] at k4 ⊢
        exact again J4 k4
      | true =>
        rw [if_pos rfl] at k4 ⊢
        refine thnF (pe.run _ t4 τ H4 _ J4 k4) fun z t5 ⟨y, H5, J5, r5, acc, hD5, lt5, nx⟩ => ?_
        exact app_ok (X := X.blk sc Hc scope ce fp) J5 hD5 lt5 r5 fun t6 J6 => again J6 nx
end
end Q
set_option maxHeartbeats 0
/-! QOpsX: exceptions in hand, texts joined, lambdas tried -/
namespace Q
open PySem (Str)
/-- the program's exception classes, but for their common base -/
def exnNames : List Str := ["InvalidPiece", "InvalidWishes", "InvalidBowing", "InvalidGaps", "InvalidNote", "InvalidNumber", "InvalidLength", "InvalidStrokes", "NotPossible", "NothingToUndo"]
/-- isinstance(e, C) of the exception in hand: at a, of the class C0 -/
def bIsX (a : Int) (C0 : Str) : List U → Option U
  | [.obj C [] [.int i], .fn C2] => if i = a ∧ (C == C0 && exnNames.contains C2) = true then some (.bl (C0 == C2)) else none
  | [.obj C [] [.int i], .ty n] => if i = a ∧ (C == C0 && n == "ValueError") = true then some (.bl true) else none
  | _ => none
def strsOf : List U → Option (List (List Nat))
  | [] => some []
  | .str x :: r => (strsOf r).map (x :: ·)
  | _ => none
def joinN (a : List Nat) : List (List Nat) → List Nat
  | [] => []
  | [x] => x
  | x :: y :: r => x ++ (a ++ joinN a (y :: r))
def uJoin : U → U → Option U
  | .str a, .lst xs => (strsOf xs).bind fun ys => if (ys.map List.length).sum + ys.length * a.length ≤ 100000 then some (.str (joinN a ys)) else none
  | _, _ => none
/-- zip of two lists -/
def iZipL (as : AF) : AF := fun ρ => (as ρ).bind fun xs ρ1 => match xs with
  | [.lst a, .lst b] => .ok (zipU a b) ρ1
  | _ => .stuck
/-- the short names -/
def exnShort : List (Str × List Nat) := [("InvalidPiece", [80, 105, 101, 99, 101, 43]), ("InvalidWishes", [87, 105, 115, 104, 101, 115, 43]), ("InvalidBowing", [66, 111, 119, 105, 110, 103, 43]), ("InvalidGaps", [71, 97, 112, 115, 43]), ("InvalidNote", [78, 111, 116, 101, 43]),
  ("InvalidNumber", [78, 117, 109, 98, 101, 114, 43]), ("InvalidLength", [76, 101, 110, 103, 116, 104, 43]), ("InvalidStrokes", [83, 116, 114, 111, 107, 101, 115, 43]), ("NotPossible", [78, 111, 116, 43]), ("NothingToUndo", [85, 110, 100, 111, 43])]
def exnName (C : Str) : Option (List Nat) := exnShort.lookup C
/-- _law_try(lambda: e) -/
def eTry (e : EF) : EF := fun ρ => match e ρ with
  | .ok u ρ1 => .ok (.tup [.str [116, 111, 108, 100], u]) ρ1
  | .exc C ρ1 => match exnName C with
    | some x => .ok (.str x) ρ1
    | none => .stuck
  | .stuck => .stuck
/-! _law_name_of -/
def isX (a : Int) (C0 C2 : Str) : EF := eB (bIsX a C0) (aCons (eV 0) (aCons (eC (.fn C2)) aNil))
def b_nameOf (a : Int) (C0 : Str) : SF :=
  sSeq (sSet 1 (eLst (aCons (isX a C0 "InvalidPiece") (aCons (isX a C0 "InvalidWishes") (aCons (isX a C0 "InvalidBowing") aNil)))))
  (sSeq (sSet 1 (eBorrowF (e2 (lo uAdd) (eV 1) (eLst (aCons (isX a C0 "InvalidGaps") (aCons (isX a C0 "InvalidNote") (aCons (isX a C0 "InvalidNumber") aNil)))))))
  (sSeq (sSet 1 (eBorrowF (e2 (lo uAdd) (eV 1) (eLst (aCons (isX a C0 "InvalidLength") (aCons (isX a C0 "InvalidStrokes") (aCons (isX a C0 "NotPossible") aNil)))))))
  (sSeq (sAppend 1 (isX a C0 "NothingToUndo"))
  (sSeq (sSet 2 (eLst (aCons (eC (.str [80, 105, 101, 99, 101])) (aCons (eC (.str [87, 105, 115, 104, 101, 115])) (aCons (eC (.str [66, 111, 119, 105, 110, 103])) (aCons (eC (.str [71, 97, 112, 115])) (aCons (eC (.str [78, 111, 116, 101])) (aCons (eC (.str [78, 117, 109, 98, 101, 114]))
    (aCons (eC (.str [76, 101, 110, 103, 116, 104])) (aCons (eC (.str [83, 116, 114, 111, 107, 101, 115])) (aCons (eC (.str [78, 111, 116])) (aCons (eC (.str [85, 110, 100, 111])) aNil))))))))))))
  (sEnd (sSeq (sSet 3 (eComp [4, 5] (iZipL (aCons (eV 2) (aCons (eV 1) aNil))) (gT (gsCons (gN 4) (gsCons (gN 5) gsNil))) (tB (eV 5)) (eV 4)))
    (sRet (e2 uAdd (e1 (uJoin (.str [])) (eV 3)) (eIf (tB (eB (bIsX a C0) (aCons (eV 0) (aCons (eC (.ty "ValueError")) aNil)))) (eC (.str [43])) (eC (.str []))))))))))) 
theorem isX_ok {a : Int} {C0 C2 : Str} {ρ : Sl} (h : ρ[0]? = some (some (.obj C0 [] [.int a]))) (hc : exnNames.contains C2 = true) : isX a C0 C2 ρ = .ok (.bl (C0 == C2)) ρ := by
  have e : bIsX a C0 [.obj C0 [] [.int a], .fn C2] = some (.bl (C0 == C2)) := by
    show (if a = a ∧ (C0 == C0 && exnNames.contains C2) = true then some (U.bl (C0 == C2)) else none) = _
    rw [if_pos ⟨rfl, by rw [hc, beq_self_eq_true]; rfl⟩]
  unfold isX eB aCons eV
  rw [h]
  show rs (bIsX a C0 [.obj C0 [] [.int a], .fn C2]) ρ = _
  rw [e]
  rfl
theorem isV_ok {a : Int} {C0 : Str} {ρ : Sl} (h : ρ[0]? = some (some (.obj C0 [] [.int a]))) : eB (bIsX a C0) (aCons (eV 0) (aCons (eC (.ty "ValueError")) aNil)) ρ = .ok (.bl true) ρ := by
  have e : bIsX a C0 [.obj C0 [] [.int a], .ty "ValueError"] = some (.bl true) := by
    show (if a = a ∧ (C0 == C0 && "ValueError" == "ValueError") = true then some (U.bl true) else none) = _
    rw [if_pos ⟨rfl, by rw [beq_self_eq_true]; rfl⟩]
  unfold eB aCons eV
  rw [h]
  show rs (bIsX a C0 [.obj C0 [] [.int a], .ty "ValueError"]) ρ = _
  rw [e]
  rfl
theorem eLst3_ok {f g h : EF} {x y z : U} {ρ : Sl} (a : f ρ = .ok x ρ) (b : g ρ = .ok y ρ) (c : h ρ = .ok z ρ) : eLst (aCons f (aCons g (aCons h aNil))) ρ = .ok (.lst [x, y, z]) ρ := by
  unfold eLst aCons
  rw [a]
  simp only [Rs.bind]
  rw [b]
  simp only [Rs.bind]
  rw [c]
  rfl
theorem sSeq_ok {f g : SF} {ρ ρ1 : Sl} (h : f ρ = .next ρ1) : sSeq f g ρ = g ρ1 := by
  unfold sSeq
  rw [h]
abbrev wordsU : List U := [.str [80, 105, 101, 99, 101], .str [87, 105, 115, 104, 101, 115], .str [66, 111, 119, 105, 110, 103], .str [71, 97, 112, 115], .str [78, 111, 116, 101], .str [78, 117, 109, 98, 101, 114], .str [76, 101, 110, 103, 116, 104], .str [83, 116, 114, 111, 107, 101, 115], .str [78, 111, 116], .str [85, 110, 100, 111]]
theorem nameOf_key {a : Int} {C0 : Str} {b0 b1 b2 b3 b4 b5 b6 b7 b8 b9 : Bool} {x y : List Nat} {ys : List U} (h0 : (C0 == "InvalidPiece") = b0) (h1 : (C0 == "InvalidWishes") = b1) (h2 : (C0 == "InvalidBowing") = b2) (h3 : (C0 == "InvalidGaps") = b3) (h4 : (C0 == "InvalidNote") = b4)
    (h5 : (C0 == "InvalidNumber") = b5) (h6 : (C0 == "InvalidLength") = b6) (h7 : (C0 == "InvalidStrokes") = b7) (h8 : (C0 == "NotPossible") = b8) (h9 : (C0 == "NothingToUndo") = b9)
    (hc : ∀ e, eComp [4, 5] (iZipL (aCons (eV 2) (aCons (eV 1) aNil))) (gT (gsCons (gN 4) (gsCons (gN 5) gsNil))) (tB (eV 5)) (eV 4) [some e, some (.lst [.bl b0, .bl b1, .bl b2, .bl b3, .bl b4, .bl b5, .bl b6, .bl b7, .bl b8, .bl b9]), some (.lst wordsU), none, none, none] =
      .ok (.lst ys) [some e, some (.lst [.bl b0, .bl b1, .bl b2, .bl b3, .bl b4, .bl b5, .bl b6, .bl b7, .bl b8, .bl b9]), some (.lst wordsU), none, none, none])
    (hj : uJoin (.str []) (.lst ys) = some (.str y)) (hx : uAdd (.str y) (.str [43]) = some (.str x)) : fnOf false false 6 1 (b_nameOf a C0) [.obj C0 [] [.int a]] = .ok (.str x) .non := by
  generalize he : U.obj C0 [] [.int a] = e
  have g : ∀ {C2 : Str} {b : Bool} {r : Sl}, (C0 == C2) = b → exnNames.contains C2 = true → isX a C0 C2 (some e :: r) = .ok (.bl b) (some e :: r) := fun {C2 b r} q m => by
    rw [isX_ok (by rw [← he]; rfl) m, q]
  have gV : ∀ {r : Sl}, eB (bIsX a C0) (aCons (eV 0) (aCons (eC (.ty "ValueError")) aNil)) (some e :: r) = .ok (.bl true) (some e :: r) := fun {r} => isV_ok (by rw [← he]; rfl)
  have s1 : sSet 1 (eLst (aCons (isX a C0 "InvalidPiece") (aCons (isX a C0 "InvalidWishes") (aCons (isX a C0 "InvalidBowing") aNil)))) [some e, none, none, none, none, none] = .next [some e, some (.lst [.bl b0, .bl b1, .bl b2]), none, none, none, none] := by
    unfold sSet sAsg
    rw [eLst3_ok (g h0 (by decide)) (g h1 (by decide)) (g h2 (by decide))]
    rfl
  have s2 : sSet 1 (eBorrowF (e2 (lo uAdd) (eV 1) (eLst (aCons (isX a C0 "InvalidGaps") (aCons (isX a C0 "InvalidNote") (aCons (isX a C0 "InvalidNumber") aNil)))))) [some e, some (.lst [.bl b0, .bl b1, .bl b2]), none, none, none, none] = .next [some e, some (.lst [.bl b0, .bl b1, .bl b2, .bl b3, .bl b4, .bl b5]), none, none, none, none] := by
    unfold sSet sAsg eBorrowF e2 eV
    simp only [List.getElem?_cons_succ, List.getElem?_cons_zero, Rs.bind]
    rw [eLst3_ok (g h3 (by decide)) (g h4 (by decide)) (g h5 (by decide))]
    rfl
  have s3 : sSet 1 (eBorrowF (e2 (lo uAdd) (eV 1) (eLst (aCons (isX a C0 "InvalidLength") (aCons (isX a C0 "InvalidStrokes") (aCons (isX a C0 "NotPossible") aNil)))))) [some e, some (.lst [.bl b0, .bl b1, .bl b2, .bl b3, .bl b4, .bl b5]), none, none, none, none] = .next [some e, some (.lst [.bl b0, .bl b1, .bl b2, .bl b3, .bl b4, .bl b5, .bl b6, .bl b7, .bl b8]), none, none, none, none] := by
    unfold sSet sAsg eBorrowF e2 eV
    simp only [List.getElem?_cons_succ, List.getElem?_cons_zero, Rs.bind]
    rw [eLst3_ok (g h6 (by decide)) (g h7 (by decide)) (g h8 (by decide))]
    rfl
  have s4 : sAppend 1 (isX a C0 "NothingToUndo") [some e, some (.lst [.bl b0, .bl b1, .bl b2, .bl b3, .bl b4, .bl b5, .bl b6, .bl b7, .bl b8]), none, none, none, none] = .next [some e, some (.lst [.bl b0, .bl b1, .bl b2, .bl b3, .bl b4, .bl b5, .bl b6, .bl b7, .bl b8, .bl b9]), none, none, none, none] := by
    unfold sAppend
    simp only [List.getElem?_cons_succ, List.getElem?_cons_zero]
    rw [g h9 (by decide)]
    rfl
  show fnEnd false false (b_nameOf a C0 [some e, none, none, none, none, none]) = _
  unfold b_nameOf
  rw [sSeq_ok s1, sSeq_ok s2, sSeq_ok s3, sSeq_ok s4]
  rw [sSeq_ok (f := sSet 2 _) (ρ1 := [some e, some (.lst [.bl b0, .bl b1, .bl b2, .bl b3, .bl b4, .bl b5, .bl b6, .bl b7, .bl b8, .bl b9]), some (.lst wordsU), none, none, none]) (by rfl)]
  have s5 : sSet 3 (eComp [4, 5] (iZipL (aCons (eV 2) (aCons (eV 1) aNil))) (gT (gsCons (gN 4) (gsCons (gN 5) gsNil))) (tB (eV 5)) (eV 4)) [some e, some (.lst [.bl b0, .bl b1, .bl b2, .bl b3, .bl b4, .bl b5, .bl b6, .bl b7, .bl b8, .bl b9]), some (.lst wordsU), none, none, none] =
      .next [some e, some (.lst [.bl b0, .bl b1, .bl b2, .bl b3, .bl b4, .bl b5, .bl b6, .bl b7, .bl b8, .bl b9]), some (.lst wordsU), some (.lst ys), none, none] := by
    unfold sSet sAsg
    rw [hc]
    rfl
  have s6 : sRet (e2 uAdd (e1 (uJoin (.str [])) (eV 3)) (eIf (tB (eB (bIsX a C0) (aCons (eV 0) (aCons (eC (.ty "ValueError")) aNil)))) (eC (.str [43])) (eC (.str [])))) [some e, some (.lst [.bl b0, .bl b1, .bl b2, .bl b3, .bl b4, .bl b5, .bl b6, .bl b7, .bl b8, .bl b9]), some (.lst wordsU), some (.lst ys), none, none] =
      .ret (.str x) [some e, some (.lst [.bl b0, .bl b1, .bl b2, .bl b3, .bl b4, .bl b5, .bl b6, .bl b7, .bl b8, .bl b9]), some (.lst wordsU), some (.lst ys), none, none] := by
    generalize hr : [some (U.lst [.bl b0, .bl b1, .bl b2, .bl b3, .bl b4, .bl b5, .bl b6, .bl b7, .bl b8, .bl b9]), some (.lst wordsU), some (.lst ys), none, none] = r
    have j : e1 (uJoin (.str [])) (eV 3) (some e :: r) = .ok (.str y) (some e :: r) := by
      rw [← hr]
      show rs (uJoin (.str []) (.lst ys)) _ = _
      rw [hj]
      rfl
    have f : eIf (tB (eB (bIsX a C0) (aCons (eV 0) (aCons (eC (.ty "ValueError")) aNil)))) (eC (.str [43])) (eC (.str [])) (some e :: r) = .ok (.str [43]) (some e :: r) := by
      unfold eIf tB
      rw [gV]
      rfl
    unfold sRet e2
    rw [j]
    simp only [Rs.bind]
    rw [f]
    simp only [Rs.bind, hx, rs]
    rfl
  unfold sEnd
  rw [sSeq_ok s5, s6]
  rfl
theorem nameOf_at {a : Int} {C : Str} {x : List Nat} (h : exnName C = some x) : fnOf false false 6 1 (b_nameOf a C) [.obj C [] [.int a]] = .ok (.str x) .non := by
  have hp : (C, x) ∈ exnShort := by
    unfold exnName at h
    revert h
    generalize exnShort = l
    induction l with
    | nil => intro h; cases h
    | cons p r ih =>
      intro h
      rw [List.lookup_cons] at h
      split at h
      · rename_i q
        cases h
        have e : C = p.1 := beq_iff_eq.mp q
        rw [e]
        exact List.mem_cons_self
      · exact List.mem_cons_of_mem _ (ih h)
  simp only [exnShort, List.mem_cons, List.not_mem_nil, or_false, Prod.mk.injEq] at hp
  rcases hp with ⟨rfl, rfl⟩ | ⟨rfl, rfl⟩ | ⟨rfl, rfl⟩ | ⟨rfl, rfl⟩ | ⟨rfl, rfl⟩ | ⟨rfl, rfl⟩ | ⟨rfl, rfl⟩ | ⟨rfl, rfl⟩ | ⟨rfl, rfl⟩ | ⟨rfl, rfl⟩
  · exact nameOf_key (b0 := true) (b1 := false) (b2 := false) (b3 := false) (b4 := false) (b5 := false) (b6 := false) (b7 := false) (b8 := false) (b9 := false) (ys := [.str [80, 105, 101, 99, 101]]) (y := [80, 105, 101, 99, 101]) (by decide) (by decide) (by decide) (by decide) (by decide) (by decide) (by decide) (by decide) (by decide) (by decide) (fun e => by kernel_rfl) (by kernel_rfl) (by kernel_rfl)
  · exact nameOf_key (b0 := false) (b1 := true) (b2 := false) (b3 := false) (b4 := false) (b5 := false) (b6 := false) (b7 := false) (b8 := false) (b9 := false) (ys := [.str [87, 105, 115, 104, 101, 115]]) (y := [87, 105, 115, 104, 101, 115]) (by decide) (by decide) (by decide) (by decide) (by decide) (by decide) (by decide) (by decide) (by decide) (by decide) (fun e => by kernel_rfl) (by kernel_rfl) (by kernel_rfl)
  · exact nameOf_key (b0 := false) (b1 := false) (b2 := true) (b3 := false) (b4 := false) (b5 := false) (b6 := false) (b7 := false) (b8 := false) (b9 := false) (ys := [.str [66, 111, 119, 105, 110, 103]]) (y := [66, 111, 119, 105, 110, 103]) (by decide) (by decide) (by decide) (by decide) (by decide) (by decide) (by decide) (by decide) (by decide) (by decide) (fun e => by kernel_rfl) (by kernel_rfl) (by kernel_rfl)
  · exact nameOf_key (b0 := false) (b1 := false) (b2 := false) (b3 := true) (b4 := false) (b5 := false) (b6 := false) (b7 := false) (b8 := false) (b9 := false) (ys := [.str [71, 97, 112, 115]]) (y := [71, 97, 112, 115]) (by decide) (by decide) (by decide) (by decide) (by decide) (by decide) (by decide) (by decide) (by decide) (by decide) (fun e => by kernel_rfl) (by kernel_rfl) (by kernel_rfl)
  · exact nameOf_key (b0 := false) (b1 := false) (b2 := false) (b3 := false) (b4 := true) (b5 := false) (b6 := false) (b7 := false) (b8 := false) (b9 := false) (ys := [.str [78, 111, 116, 101]]) (y := [78, 111, 116, 101]) (by decide) (by decide) (by decide) (by decide) (by decide) (by decide) (by decide) (by decide) (by decide) (by decide) (fun e => by kernel_rfl) (by kernel_rfl) (by kernel_rfl)
  · exact nameOf_key (b0 := false) (b1 := false) (b2 := false) (b3 := false) (b4 := false) (b5 := true) (b6 := false) (b7 := false) (b8 := false) (b9 := false) (ys := [.str [78, 117, 109, 98, 101, 114]]) (y := [78, 117, 109, 98, 101, 114]) (by decide) (by decide) (by decide) (by decide) (by decide) (by decide) (by decide) (by decide) (by decide) (by decide) (fun e => by kernel_rfl) (by kernel_rfl) (by kernel_rfl)
  · exact nameOf_key (b0 := false) (b1 := false) (b2 := false) (b3 := false) (b4 := false) (b5 := false) (b6 := true) (b7 := false) (b8 := false) (b9 := false) (ys := [.str [76, 101, 110, 103, 116, 104]]) (y := [76, 101, 110, 103, 116, 104]) (by decide) (by decide) (by decide) (by decide) (by decide) (by decide) (by decide) (by decide) (by decide) (by decide) (fun e => by kernel_rfl) (by kernel_rfl) (by kernel_rfl)
  · exact nameOf_key (b0 := false) (b1 := false) (b2 := false) (b3 := false) (b4 := false) (b5 := false) (b6 := false) (b7 := true) (b8 := false) (b9 := false) (ys := [.str [83, 116, 114, 111, 107, 101, 115]]) (y := [83, 116, 114, 111, 107, 101, 115]) (by decide) (by decide) (by decide) (by decide) (by decide) (by decide) (by decide) (by decide) (by decide) (by decide) (fun e => by kernel_rfl) (by kernel_rfl) (by kernel_rfl)
  · exact nameOf_key (b0 := false) (b1 := false) (b2 := false) (b3 := false) (b4 := false) (b5 := false) (b6 := false) (b7 := false) (b8 := true) (b9 := false) (ys := [.str [78, 111, 116]]) (y := [78, 111, 116]) (by decide) (by decide) (by decide) (by decide) (by decide) (by decide) (by decide) (by decide) (by decide) (by decide) (fun e => by kernel_rfl) (by kernel_rfl) (by kernel_rfl)
  · exact nameOf_key (b0 := false) (b1 := false) (b2 := false) (b3 := false) (b4 := false) (b5 := false) (b6 := false) (b7 := false) (b8 := false) (b9 := true) (ys := [.str [85, 110, 100, 111]]) (y := [85, 110, 100, 111]) (by decide) (by decide) (by decide) (by decide) (by decide) (by decide) (by decide) (by decide) (by decide) (by decide) (fun e => by kernel_rfl) (by kernel_rfl) (by kernel_rfl)
end Q
namespace Q
open PySem (Str)
/-- x(e, ..): x a def that may change its first argument, here a new list -/
def eCallT (φ : List U → FR) (a : EF) (as : AF) : EF := fun ρ => (a ρ).bind fun d ρ1 => (as ρ1).bind fun xs ρ2 => match φ (d :: xs) with
  | .ok u _ => .ok u ρ2
  | .exc C _ => .exc C ρ2
  | .stuck => .stuck
/-- x(..): x a name that holds one of these defs -/
def eCallV (l : List (Str × (List U → FR))) (a : EF) (as : AF) : EF := fun ρ => (a ρ).bind fun d ρ1 => match d with
  | .fn x => match l.lookup x with
    | some φ => eCall φ as ρ1
    | none => .stuck
  | _ => .stuck
end Q
set_option maxRecDepth 100000
set_option maxHeartbeats 2000000
/-! QExc: exceptions in hand -/
namespace Q
open PySem PySem.Spec PyProof.Rows L2
open Evl (Ex)
/-! ### texts joined -/
theorem strs_reps {T : Tab} {G : Hp} : ∀ {us : List U} {ys : List (List Nat)} {vs : List V}, strsOf us = some ys → Reps T G us vs → vs = (ys.map (fun y => (⟨y.toArray⟩ : Str))).map V.str
  | [], ys, vs, h, r => by
    cases h
    exact reps_nil.1 r
  | u :: us, ys, vs, h, r => by
    cases u with
    | str x =>
      obtain ⟨zs, h1, h2⟩ := Option.map_eq_some_iff.mp (show (strsOf us).map (x :: ·) = some ys from h)
      obtain ⟨v, w, rfl, r1, r2⟩ := reps_cons.1 r
      rw [← h2, rep_str.1 r1, strs_reps h1 r2]
      rfl
    | _ => cases h
theorem joinN_TL (a : List Nat) : ∀ ys : List (List Nat), TL.joinL a ys = joinN a ys
  | [] => rfl
  | [x] => rfl
  | x :: y :: r => by
    show x ++ (a ++ TL.joinL a (y :: r)) = x ++ (a ++ joinN a (y :: r))
    rw [joinN_TL a (y :: r)]
section
variable {X : Cx} {c : Cn} {W : WX} {k : Nat} {pos : Pos}
/-- "..".join(e) -/
theorem qe_join {e : Expr} {fe : EF} {apos p0 : Pos} {j : Nat} {x : Str} (a : List Nat) (he : QE X c W e fe) (hx : x = ⟨a.toArray⟩ := by decide +kernel) (hs : starEach [e] X.env = [(false, eval e X.env)] := by rfl)
    (hbase : attributeBase (.Constant (.str x) j p0) "join" X.env (eval (.Constant (.str x) j p0) X.env) = eval (.Constant (.str x) j p0) X.env := by rfl) (hline : (apos.endLine == pos.line) = true := by rfl) :
    QE X c W (.Call (.Attribute (.Constant (.str x) j p0) "join" apos) [e] [] pos) (e1 (uJoin (.str a)) fe) :=
  PE.weak (pe_join pe_str he hs hbase hline) fun σ H Q ⟨G, ρ, r, h⟩ => by
    refine ⟨⟨_, rfl⟩, G, ρ, r, (PQ.bind (rel := relU (Cx.T X)) h).imp fun y H2 ⟨G2, ρ2, w, s2, r2, l2, h2⟩ => ?_⟩
    obtain ⟨z, hz, h3⟩ := rs_ok h2
    unfold uJoin at hz
    split at hz
    · rename_i a0 xs ea
      cases ea
      obtain ⟨ys, hy, e2⟩ := Option.bind_eq_some_iff.mp hz
      split at e2
      · rename_i hl
        cases e2
        obtain ⟨p, vs, e1, h4, h5⟩ := rep_lst.1 l2
        have ev := strs_reps hy h5
        subst ev
        refine ⟨⟨a.toArray⟩, p, ys.map (fun y => (⟨y.toArray⟩ : Str)), by rw [hx], by rw [e1], .inl (Evl.ex_l r2.ex h4), ?_, ?_⟩
        · have e6 : ((ys.map fun y => (⟨y.toArray⟩ : Str)).map (·.length)) = ys.map List.length := by
            rw [List.map_map]
            exact List.map_congr_left fun y _ => rfl
          rw [e6, List.length_map]
          have e7 : (⟨a.toArray⟩ : Str).length = a.length := rfl
          rw [e7]
          omega
        · refine h3 _ G2 H2 Stp.refl r2 (rep_str.2 ?_)
          have := SX.join_S a ys
          rw [joinN_TL] at this
          exact congrArg V.str this
      · cases e2
    · cases hz
end
end Q
set_option maxRecDepth 100000
set_option maxHeartbeats 2000000
/-! QExc2: isinstance of an exception; a def that is called while an exception is in hand -/
namespace Q
open PySem PySem.Spec PyProof.Rows L2
open Evl (Ex)
/-- the program's exception classes -/
structure ExnFam (K : PySem.W.Frag) (mg : Str → Option Value) : Prop where
  at_ : ∀ C ∈ exnNames, ∃ D, mg C = some (.ref D) ∧ ExcC K D ∧ PySem.W.kitOne K (.ref D) (.type "ValueError") = some true ∧ ∀ C2 ∈ exnNames, ∃ D2, mg C2 = some (.ref D2) ∧ PySem.W.kitOne K (.ref D) (.ref D2) = some (C == C2)
  base : ∃ B, mg "BowError" = some (.ref B) ∧ ∀ C ∈ exnNames, ∀ D, mg C = some (.ref D) → PySem.W.exmOne K (.ref D) (.ref B) = some true
theorem inNames {C : Str} (h : exnNames.contains C = true) : C ∈ exnNames := List.contains_iff_mem.mp h
/-- the exception in hand: at a, the object oe, of the class C0 -/
structure InHand (X : Cx) (a : Addr) (oe : Obj) (C0 : Str) : Prop where
  hot : HotO X.A a oe
  pin : (a, oe) ∈ X.pn
  cls : ∃ D, X.mg C0 = some (.ref D) ∧ L2N.Zn (.ref D) none oe
  nm : C0 ∈ exnNames
theorem c_isX {X : Cx} {a : Addr} {oe : Obj} {C0 : Str} (F : ExnFam X.K X.mg) (hand : InHand X a oe C0) : CallR X (.builtin "isinstance") (rc nuS (Cx.T X) (bIsX (Int.ofNat a) C0)) := by
  obtain ⟨D, mD, zn⟩ := hand.cls
  obtain ⟨D', m', ec, kv, all⟩ := F.at_ C0 hand.nm
  rw [mD] at m'
  cases m'
  intro pins s σ H xs us Q I r ⟨G, ws, z, e, hr, hz, q⟩
  have core : ∀ {c2 : V} {cv : Value} {b : Bool} {us : List Value}, Vals [.ref a, c2] us → (∀ u, RelV c2 u → u = cv) → PySem.W.kitOne X.K (.ref D) cv = some b → nuS (Cx.T X) G H (.bl b) Q → wpAny (model X.prog X.w) X.A (call (.builtin "isinstance") us) (EP X pins σ Q) X.xe s := by
    intro c2 cv b us rvs hcv hb qq
    cases rvs with
    | cons rx rr =>
      cases rr with
      | cons rt rr =>
        cases rr
        cases rx
        have et := hcv _ rt
        subst et
        have hget : s.heap.get? a = some oe := (I.pin (a, oe) (List.mem_append_left _ hand.pin)).1
        obtain ⟨_, vs, hv, _⟩ := hand.hot
        have J : PySem.W.InstAt s.heap a oe D none := by
          obtain ⟨oc, od, oda, osl⟩ := oe
          obtain ⟨h1, h2, _⟩ := zn
          dsimp only at h1 h2 hv
          subst h1 h2 hv
          exact ⟨hget, rfl, rfl, trivial⟩
        exact PySem.W.kia_one (PySem.W.handS_kitx_exc ec.hg ec.hk ec.hs ec.hd ec.ha ec.hn ec.ht ec.hm) I.kIn J hb (fun z => nomatch z) fun tk => ⟨.bl b, H, I.kept (t' := tk) fun _ _ z => z, rfl, nuS_bl e qq⟩
  unfold bIsX at hz
  split at hz
  · rename_i C i C2
    split at hz
    · rename_i hc
      cases hz
      obtain ⟨hi, hc⟩ := hc
      rw [Bool.and_eq_true] at hc
      obtain ⟨v, w, e1, h1, h3⟩ := reps2 hr
      subst e1
      obtain ⟨a1, rfl, ea⟩ := rep_exn.1 h1
      have ei : i = Int.ofNat a1 := by simpa using ea
      have ea' : a1 = a := Int.ofNat.inj (ei.symm.trans hi)
      subst ea'
      obtain ⟨a2, rfl, m2⟩ := rep_fn.1 h3
      refine core r (cv := .ref a2) (fun u h => h) ?_ q
      obtain ⟨D2, m2', k⟩ := all C2 (inNames hc.2)
      rw [show X.mg C2 = some (.ref a2) from m2] at m2'
      cases m2'
      exact k
    · cases hz
  · rename_i C i n
    split at hz
    · rename_i hc
      cases hz
      obtain ⟨hi, hc⟩ := hc
      rw [Bool.and_eq_true] at hc
      obtain ⟨v, w, e1, h1, h3⟩ := reps2 hr
      subst e1
      obtain ⟨a1, rfl, ea⟩ := rep_exn.1 h1
      have ei : i = Int.ofNat a1 := by simpa using ea
      have ea' : a1 = a := Int.ofNat.inj (ei.symm.trans hi)
      subst ea'
      rw [rep_ty.1 h3] at r
      have hn : n = "ValueError" := by simpa using hc.2
      subst hn
      exact core r (cv := .type "ValueError") (fun u h => h) kv q
    · cases hz
  · cases hz
/-! ### the comprehension -/
section
variable {X : Cx} {c : Cn} {W : WX} {k : Nat} {fr : Bool} {pos : Pos}
/-- the two lists of a zip -/
def zTwo (xs : List U) : AF := fun ρ1 => match xs with
  | [.lst a, .lst b] => .ok (zipU a b) ρ1
  | _ => .stuck
/-- a comprehension over zip behind its arguments -/
def zTail (vs : List Nat) (gt : TgF) (ft : BF) (fe : EF) (xs : List U) : EF := fun ρ1 => (zTwo xs ρ1).bind fun us ρ1 =>
  if us.length ≤ 100000 then (compL vs gt ft fe us ρ1 []).bind fun ys ρ2 => .ok (.lst ys) (backU ρ1 ρ2 vs) else .stuck
theorem eComp_zip {vs : List Nat} {as : AF} {gt : TgF} {ft : BF} {fe : EF} {ρ : Sl} : eComp vs (iZipL as) gt ft fe ρ = (as ρ).bind (zTail vs gt ft fe) := by
  unfold eComp iZipL zTail zTwo
  cases as ρ with
  | ok xs ρ1 => rfl
  | exc C ρ1 => rfl
  | stuck => rfl
/-- x = [elt for t in zip(a, b) if ..], an exception in hand, nothing that changes in the slots -/
theorem qs_setLcH {x : Addr} {o : Obj} {ea eb elt : Expr} {elts : List Expr} {kk : Nat} {tpos zp zpos : Pos} {ifs : List Expr} {scope : Scope} {own : List (Str × Nat)} {sl : List Nat} {as : AF} {gt : TgF} {ft : BF} {fe : EF} {i : Nat} {y : Str} {py spos : Pos}
    (hot : HotO X.A x o) (hpn : (x, o) ∈ X.pn) (hm0 : c.mu = []) (nd : X.N.Nodup) (hz : X.mg "zip" = none) (ha : QA X c W [ea, eb] as) (ok : blkC X.N X.env.scope scope own = true)
    (hg : ∀ (s : Shared) (H : Hp) (C : Addr) (cl : List (Str × Addr)) (fp : List Addr), (∀ (pins : List (Addr × Obj)) (τ : L2.St) (H' : Hp) (t : Shared), Inv (X.blk s H scope (compEnvC scope cl C X.env) fp) pins τ H' t → t.heap.get? x = some o) → QG (X.blk s H scope (compEnvC scope cl C X.env) fp) c sl (.Tuple elts kk tpos) gt) (ht : ∀ (s : Shared) (H : Hp) (C : Addr) (cl : List (Str × Addr)) (fp : List Addr), QTs (X.blk s H scope (compEnvC scope cl C X.env) fp) c W0 ifs ft)
    (he : ∀ (s : Shared) (H : Hp) (C : Addr) (cl : List (Str × Addr)) (fp : List Addr), QE (X.blk s H scope (compEnvC scope cl C X.env) fp) c W0 elt fe) (hsl : (sl.all fun i => (own.map (·.2)).contains i) = true := by rfl)
    (hy : X.N[i]? = some y := by rfl) (hyl : X.env.scope.names.lookup y = some .local := by rfl) (gz : Gl X "zip" := by rfl)
    (hsw : swapsWith (.ListComp elt [⟨.Tuple elts kk tpos, .Call (.Name "zip" zp) [ea, eb] [] zpos, ifs, 0⟩] scope pos) (some (.Name y py)) spos.line X.env = pure true := by exact sw_true rfl rfl rfl (by decide +kernel))
    (hst : starEach [ea, eb] X.env = (false, eval ea X.env) :: starEach [eb] X.env := by rfl) (hpl : (backTo zpos (starEach [eb] X.env)).any (·.1) = false := by rfl)
    (hs : ∀ v, foldedSetIterable (.Call (.Name "zip" zp) [ea, eb] [] zpos) X.env v = pure v := by intro _; rfl) :
    QS X c W fr (.Assign [.Name y py] (.ListComp elt [⟨.Tuple elts kk tpos, .Call (.Name "zip" zp) [ea, eb] [] zpos, ifs, 0⟩] scope pos) spos) (sSet i (eComp (own.map (·.2)) (iZipL as) gt ft fe)) := by
  refine ⟨fun pins s σ H D I ⟨G, ρ, r, h⟩ => ?_⟩
  have hvm : ∀ j ∈ own.map (·.2), j ∉ c.mu := fun j _ q => by rw [hm0] at q; cases q
  have hsl' : ∀ j ∈ sl, j ∈ own.map (·.2) := fun j hj => isIn (List.all_eq_true.mp hsl j hj)
  have read : tZipC X.K (tq (Cx.T X) c W (relUs (Cx.T X)) as) (tqg (Cx.T X) c sl gt) (tq (Cx.T X) c W0 relB ft) (tq (Cx.T X) c W0 (relU (Cx.T X)) fe) (own.map (·.2)) σ H fun v H1 => gName i v σ H1 D.nx := by
    have h' : PQ (Cx.T X) c W (relF (Cx.T X) c H) G H σ (eComp (own.map (·.2)) (iZipL as) gt ft fe ρ) (fun v H1 => gName i v σ H1 D.nx) :=
      PQ.freeze ((PFl.of (rel := relU (Cx.T X)) h).imp fun v H1 ⟨G1, ρ1, u, e1, r1, l1, h1⟩ => h1 _ G1 H1 (Ex.refl _) (r1.store (by rw [hm0]; exact List.not_mem_nil) l1))
    rw [eComp_zip] at h'
    refine ⟨G, ρ, r, (PQ.bind (rel := relUs (Cx.T X)) h').imp fun args H1 ⟨G1, ρ1, us, s1, r1, l1, h2⟩ => ?_⟩
    unfold zTail zTwo at h2
    split at h2
    · rename_i ua ub
      simp only [Rs.bind] at h2
      obtain ⟨v, w, e2, l2, l3⟩ := reps2 l1
      obtain ⟨a1, vs1, rfl, k1, k2⟩ := rep_lst.1 l2
      obtain ⟨a2, vs2, rfl, k3, k4⟩ := rep_lst.1 l3
      refine ⟨a1, a2, vs1, vs2, e2, Evl.ex_l r1.ex k1, Evl.ex_l r1.ex k3, fun Dn hDn => ?_⟩
      split at h2
      · rename_i hz100
        cases hF : compL (own.map (·.2)) gt ft fe (zipU ua ub) ρ1 [] with
        | ok accF ρF =>
          rw [hF] at h2
          obtain ⟨Wk, w0, wS, w1⟩ := lc_allS (T := Cx.T X) (Qd := fun H2 => gName i (.ref Dn) σ H2 D.nx) hsl' hvm r1 (it_zipB (t := false) (u := false) k1 k2 k3 k4) hz100 hDn (fun b o q => s1.d b o q) hF fun H2 G2 s2 r2 l2 => h2 _ G2 H2 s2 r2 l2
          exact ⟨Wk, w0, w1⟩
        | exc C ρF => exact (compL_noexc _ _ _ _ _ _ _ _ _ hF).elim
        | stuck =>
          rw [hF] at h2
          exact h2.elim
      · exact h2.elim
    · exact h2.elim
  rw [exec_Assign_Name_used _ _ _ _ hsw]
  apply wpAny_bind
  apply wpAny_standAt
  apply wpAny_bind
  show wpAny _ X.A (do let _ ← comprehension (.ListComp elt [⟨.Tuple elts kk tpos, .Call (.Name "zip" zp) [ea, eb] [] zpos, ifs, 0⟩] scope pos) scope X.env (firstIterPos [⟨.Tuple elts kk tpos, .Call (.Name "zip" zp) [ea, eb] [] zpos, ifs, 0⟩] pos) (newList []) false (eval (.Call (.Name "zip" zp) [ea, eb] [] zpos) X.env) (some (assign (.Name y py) X.env))) _ _ s
  apply wpAny_bind
  refine thn (lc_hot (g := tqg (Cx.T X) c sl gt) (tt := tq (Cx.T X) c W0 relB ft) (te := tq (Cx.T X) c W0 (relU (Cx.T X)) fe) (Qf := fun _ t => SP X pins D .next t) hot hpn nd I hz gz ha (blkOk_by ok) hst hpl hg ht he hs read fun L C t m H1 J q ns fp => ?_) fun _ t hq => wpAny_pure (wpAny_pure hq)
  show wpAny _ _ (assign (.Name y py) X.env (.ref L)) _ _ _
  refine wpAny_assign_Name (store_ok2 (v := V.ref L) J nd hy (.inl hyl) rfl (fun t2 J2 ⟨a, sb, where_⟩ => ?_) (.inr hyl))
  obtain ⟨f0, f1, f2, f3, f4, f5⟩ := fp
  have other : C ≠ a := by
    cases where_ with
    | inl z => rw [z]; exact f1
    | inr z => exact fun e => f4 y a z e.symm
  exact ⟨m, ns.sameBut sb other, fun h3 sb3 => ⟨_, H1, J2.turned (t' := t2.toks) (fun b o hb e => (sb3.2 b hb).trans e) f0 f1 f3 f4 f5, q⟩⟩
end
end Q
set_option maxRecDepth 100000
set_option maxHeartbeats 2000000
/-! QExc3: a def called with the exception in hand; _law_try -/
namespace Q
open PySem PySem.Spec PyProof.Rows L2
open Evl (Ex)
section
variable {P : Program} {w : World} {K : PySem.W.Frag} {mg : Str → Option Value} {base : Heap}
/-- a def's run by its body, whatever is in hand -/
theorem run_hot {nm ql : Str} {st : Stmt} {fa : Addr} {dat : FuncData} {N ps : List Str} {n : Nat} (D : Fun K nm ql st fa dat) (S : FnScope N ps (defScope st)) {A : Around} {outer : List Env} {s : Shared} {H : Hp} {args : Args} {us : List Value} {vs : List V} {Q : VK} {E : XK}
    (room : L2H.RoomH (n + 1) A) (e0 : Env0 P w K mg base A outer s H) (bind : BindsTo s dat args (ps.zip us)) (r : Vals vs us) (hl : vs.length = ps.length) {p : Addr × Obj} (pin : L2H.PinOk outer H s p)
    (body : ∀ (code : Value), L2H.RoomH n (A.deeper (envOfC ql (defScope st) s.heap.objs.size fa code)) →
      ∃ t, PSs (L2H.cxH (L2N.CX P w) P w K mg base N ql (defScope st) fa code A outer s H E p) (defBody st) t ∧ t { nx := fun _ H1 => Q .non H1, rt := Q } (L2.start N vs) H) :
    codeAny (model P w) A (.call (.ref fa) args) (CR (L2N.CX P w) outer P w H s Q E) s := by
  obtain ⟨oc, od, kV, doc, pm, an, code, ct, osl, ed, look, good⟩ := D.ex
  subst ed
  have inS : K.In s.heap := e0.mod.kin.keeps fun b o e => (e0.bs b o e).1
  have few : s.heap.NoLimit := e0.mod.nolimit.keeps fun b o e => (e0.bs b o e).1
  have kinds : ∀ y ∈ ps.zip us, (defScope st).names.lookup y.1 = some .local ∨ ((defScope st).names.lookup y.1 = some .cell ∧ ((cellsFrom (s.heap.objs.size + 1) (defScope st).names []).lookup y.1).isSome = true) := by
    rintro ⟨y, v⟩ hy
    cases S.par y (List.of_mem_zip hy).1 with
    | inl q => exact .inl q
    | inr q => exact .inr ⟨q, PySem.W.cellsFrom_some _ _ _ (.inl q)⟩
  apply codeAny_call_function room.depth (inS _ _ look) rfl S.co S.gen rfl (PySem.W.codeRec_of inS good)
  apply bind
  refine wpAny_newFunctionEnv_cells S.kind kinds fun env he t0 xc => ?_
  subst he
  refine ⟨few.keeps xc.toInCall.keep, codeAny_func ?_⟩
  obtain ⟨t, ht, hq⟩ := body code (room.deeper _)
  have I0 := L2H.inv_startH (CX := L2N.CX P w) (E := E) S pin e0 hl r xc
  refine wpAny_mono (ht.run [] t0 (L2.start N vs) H _ I0 hq) (fun fl t1 done => ?_) fun _ _ up => up
  cases fl with
  | ret u =>
    obtain ⟨v, τ, H1, J, rv, q⟩ := done
    exact ⟨v, H1, J.os, J.bare, J.base, J.hok, rv, q⟩
  | next =>
    obtain ⟨τ, H1, J, q⟩ := done
    exact ⟨V.non, H1, J.os, J.bare, J.base, J.hok, rfl, q⟩
  | brk =>
    obtain ⟨_, _, _, q⟩ := done
    exact q.elim
  | cont =>
    obtain ⟨_, _, _, q⟩ := done
    exact q.elim
/-- a def of one parameter that is called with the exception in hand -/
structure CalH (tb : List (Addr × Str)) (P : Program) (w : World) (K : PySem.W.Frag) (mg : Str → Option Value) (base : Heap) (x : Str) (φ : Int → Str → List U → FR) (j : Nat) : Prop where
  ex : ∃ (f : Addr) (fd : FuncData) (pr : Str), mg x = some (.ref f) ∧ PySem.W.keepIn K (.ref f) = true ∧ Binds K fd [pr] [] ∧ ∀ (A : Around) (outer : List Env) (s : Shared) (H : Hp) (a : Addr) (oe : Obj) (C D : _) (Q : VK), L2H.RoomH j A → HotO A a oe → L2H.PinOk outer H s (a, oe) → mg C = some (.ref D) → L2N.Zn (.ref D) none oe → C ∈ exnNames →
    Env0 P w K mg base A outer s H → BindsTo s fd ⟨[.ref a], []⟩ ([pr].zip [.ref a]) → (∃ G, Ex G H ∧ (LamX.Tabs tb H ∧ ∀ a ps, G a ≠ some (.tbl ps)) ∧ ∃ u d, φ (Int.ofNat a) C [.obj C [] [.int (Int.ofNat a)]] = .ok u d ∧ ∀ v G' H', Frm tb none G H G' H' → Rep ⟨K, mg, P, w⟩ G' u v → Q v H') →
    codeAny (model P w) A (.call (.ref f) ⟨[.ref a], []⟩) (CR (L2N.CX P w) outer P w H s Q (fun _ _ _ => False)) s
theorem calH_of {tb : List (Addr × Str)} {x : Str} {st : Stmt} {f : Addr} {fd : FuncData} {N : List Str} {pr : Str} {mu : List Nat} {b : Int → Str → SF} {k : Nat} (F : Fun K x x st f fd) (hx : mg x = some (.ref f)) (S : FnScope N [pr] (defScope st)) (bd : Binds K fd [pr] []) (hm : muOk false 1 mu = true)
    (hb : ∀ (cdv : Value) (A : Around) (outer : List Env) (s : Shared) (H : Hp) (E : XK) (G : Hp) (a : Addr) (oe : Obj) (C : Str), InHand (L2H.cxH (L2N.CX P w) P w K mg base N x (defScope st) f cdv A outer s H E (a, oe)) a oe C →
      QSs (L2H.cxH (L2N.CX P w) P w K mg base N x (defScope st) f cdv A outer s H E (a, oe)) ⟨mu, G, H, none, false, tb⟩ (fun cls d _ H => E cls d H) false (defBody st) (b (Int.ofNat a) C)) : CalH tb P w K mg base x (fun a C => fnOf false false N.length 1 (b a C)) (k + 1) := by
  refine ⟨f, fd, pr, hx, F.kp, bd, fun A outer s H a oe C D Q hr hot pin mC zn nC e0 bind want => ?_⟩
  obtain ⟨G, e, tq, u, d, hφ, fin⟩ := want
  refine run_hot (n := k) (vs := [V.ref a]) F S hr e0 bind (.cons (show L2.RelV (.ref a) (.ref a) from rfl) .nil) rfl pin fun code _ => ⟨_, hb code A outer s H _ G a oe C ⟨hot, List.mem_cons_self, ⟨D, mC, zn⟩, nC⟩, ?_⟩
  have hrep : Reps ⟨K, mg, P, w⟩ G [.obj C [] [.int (Int.ofNat a)]] [V.ref a] := .cons (rep_exn.2 ⟨a, rfl, rfl⟩) .nil
  obtain ⟨a', hd, hu, r⟩ := R.start (T := ⟨K, mg, P, w⟩) (io := false) (N := N) (p := 1) (mu := mu) (us := [.obj C [] [.int (Int.ofNat a)]]) (vs := [V.ref a]) tq e rfl hrep hm
  refine ⟨G, startU N.length [.obj C [] [.int (Int.ofNat a)]], r, ?_⟩
  unfold fnOf at hφ
  rw [if_pos hu] at hφ
  show PFl ⟨K, mg, P, w⟩ _ _ false G _ _
  generalize b (Int.ofNat a) C (startU N.length [.obj C [] [.int (Int.ofNat a)]]) = z at hφ ⊢
  cases z with
  | next ρ' =>
    intro σ' G' H' e' r'
    have fi := r'.fin
    cases hφ
    exact fin .non G' H' ⟨e', fi.ex, fi.nw, fi.fr, fi.dm, fi.th, fi.ng⟩ (rep_non.2 rfl)
  | brk ρ' => cases hφ
  | cont ρ' => cases hφ
  | ret v ρ' =>
    cases hφ
    intro v G' H' e' fi hr
    exact fin v G' H' ⟨e', fi.ex, fi.nw, fi.fr, fi.dm, fi.th, fi.ng⟩ hr
  | exc C ρ' => cases hφ
  | stuck => cases hφ
end
end Q
set_option maxRecDepth 100000
set_option maxHeartbeats 2000000
/-! QTry: _law_try(lambda: e) -/
namespace Q
open PySem PySem.Spec PyProof.Rows L2
open Evl (Ex)
theorem exnName_in {C : Str} {x : List Nat} (h : exnName C = some x) : C ∈ exnNames := by
  have hp : ∀ l : List (Str × List Nat), l.lookup C = some x → C ∈ l.map (·.1) := fun l => by
    induction l with
    | nil => intro h; cases h
    | cons p r ih =>
      intro h
      rw [List.lookup_cons] at h
      split at h
      · rename_i q
        rw [beq_iff_eq.mp q]
        exact List.mem_cons_self
      · exact List.mem_cons_of_mem _ (ih h)
  exact hp _ h
/-- the slots' number is known where an exception is met -/
theorem takes_len {X : Cx} {W : WX} (t : L2N.Takes X W) : L2N.Takes X fun C d τ H => τ.length = X.N.length → W C d τ H := fun u s' q => by
  obtain ⟨a, B, sI, pins, τ, H, C, d, e, I, r1, r2, r3, r4, r5, r6, r7⟩ := q
  exact t u s' ⟨a, B, sI, pins, τ, H, C, d, e, I, r1, r2, r3, r4, r5, r6, r7 I.len⟩
/-- x(e), e the exception that the suite holds -/
theorem pe_exn {X : Cx} {a D : Addr} {oe : Obj} {pn : List (Addr × Obj)} {tb : List (Addr × Str)} {x e C0 : Str} {φ : Int → Str → List U → FR} {i j : Nat} {p p1 pos : Pos} (C : CalH tb X.prog X.w X.K X.mg X.base x φ j) (room : L2H.RoomH j X.A) (hg : Gl X x) (hN : X.N[i]? = some e) (hv : Vis X.env.scope e)
    (hdb : (x == ("__debug__" : Str)) = false) (hd : (e == ("__debug__" : Str)) = false) (hc : (e == ("__classdict__" : Str)) = false) (zn : L2N.Zn (.ref D) none oe) (hf : ∃ vs, oe.data = .fields vs) (mC : X.mg C0 = some (.ref D)) (nC : C0 ∈ exnNames) :
    PE (X.suite a ((a, oe) :: pn)) (.Call (.Name x p) [.Name e p1] [] pos) (fun σ H Q => σ[i]? = some (some (.ref a)) ∧ ∃ G, Ex G H ∧ (LamX.Tabs tb H ∧ ∀ a ps, G a ≠ some (.tbl ps)) ∧ ∃ u d, φ (Int.ofNat a) C0 [.obj C0 [] [.int (Int.ofNat a)]] = .ok u d ∧ ∀ v G' H', Frm tb none G H G' H' → Rep (Cx.T X) G' u v → Q v H') := by
  obtain ⟨f, fd, pr, m1, kp, bd, run⟩ := C.ex
  constructor
  rintro pins s σ H Q I ⟨hσ, want⟩
  apply wpAny_Call_Name_kw
  refine ld_glob I (show Gl (X.suite a ((a, oe) :: pn)) x from hg) m1 ?_ hdb
  have args : PA (X.suite a ((a, oe) :: pn)) [.Name e p1] (tCons (tVar i) tNil) := pa_cons (pe_var hN hv hd hc) pa_nil
  refine PySem.W.callWith_K (h₀ := X.base) I.ok.mod.kin kp (thn (args.run pos pins s σ H (fun vs H1 => vs = [V.ref a] ∧ H1 = H) I ⟨_, hσ, rfl, rfl⟩) fun us s1 ⟨vs, H1, I1, r, ev, eH⟩ => ⟨I1.kIn, ?_⟩) rfl rfl
  rw [ev] at r
  rw [eH] at I1
  obtain ⟨u, rfl, ru⟩ : ∃ u, us = [u] ∧ RelV (.ref a) u := by
    cases r with
    | cons r t =>
      cases t
      exact ⟨_, rfl, r⟩
  have ru : u = Value.ref a := ru
  subst ru
  have P1 := I1.pin (a, oe) (List.mem_append_left _ List.mem_cons_self)
  obtain ⟨vs, hvs⟩ := id hf
  have hot : HotO (X.A.mark (some (.ref a))) a oe := ⟨rfl, vs, hvs, zn.2.2 vs hvs⟩
  have pin : L2H.PinOk (X.suite a ((a, oe) :: pn)).stack H s1 (a, oe) := ⟨P1.1, P1.2.1, fun m => (List.mem_cons.mp (I1.stkSub a m)).elim P1.2.2.1 P1.2.2.2.1, P1.2.2.2.2⟩
  refine wpAny_call (codeAny_mono (run (X.A.mark (some (.ref a))) (X.suite a ((a, oe) :: pn)).stack s1 H a oe C0 D Q ⟨room.dp, room.un⟩ hot pin mC zn nC I1.env0 (bd s1 [.ref a] I1.kIn rfl) want) fun r t e => ?_)
  cases r with
  | error u =>
    obtain ⟨_, _, _, _, _, _, _, _, _, _, _, _, no⟩ := e
    exact no.elim
  | ok fl => cases fl with
    | ret u => exact I1.after e
    | next => exact e.elim
    | brk => exact e.elim
    | cont => exact e.elim
/-- what _law_try makes of a lambda -/
def TTry (tb : List (Addr × Str)) (mg : Str → Option Value) : (XK → Hp → VK → Prop) → Hp → VK → Prop := fun rd H Q =>
  rd (fun cls d H1 => ∃ C D nm G, cls = .ref D ∧ d = none ∧ mg C = some (.ref D) ∧ exnName C = some nm ∧ Ex G H1 ∧ (LamX.Tabs tb H1 ∧ ∀ a ps, G a ≠ some (.tbl ps)) ∧ ∀ G' H', Frm tb none G H1 G' H' → Q (.str ⟨nm.toArray⟩) H') H
    (fun v H1 => [V.str "told", v].length ≤ sizeLine ∧ ∀ p, H1 p = none → Q (.ref p) (upd H1 p (.tup [.str "told", v])))
/-- the try's body: the lambda g called -/
def tbTry (g d : Addr) (q : Str) (rd : XK → Hp → VK → Prop) : WX → TS := fun W D σ H => ∃ Ech : XK, (∀ cls o τ H1, Ech cls o H1 → τ.length = 3 → W cls o τ H1) ∧ σ[0]? = some (some (.ref g)) ∧ H d = some (LamX.CodeO d q) ∧
  rd Ech H fun v H1 => [V.str "told", v].length ≤ sizeLine ∧ ∀ p, H1 p = none → D.nx (σ.set 1 (some (.ref p))) (upd H1 p (.tup [.str "told", v]))
/-- its suite -/
def tsTry (tb : List (Addr × Str)) (mg : Str → Option Value) : Addr → Value → Option Addr → TS := fun a cls d D σ H => σ[2]? = some (some (.ref a)) ∧ ∃ C De nm G, cls = .ref De ∧ d = none ∧ mg C = some (.ref De) ∧ exnName C = some nm ∧ Ex G H ∧ (LamX.Tabs tb H ∧ ∀ a ps, G a ≠ some (.tbl ps)) ∧
  ∀ G' H', Frm tb none G H G' H' → D.nx (σ.set 1 (some (.str ⟨nm.toArray⟩))) H'
theorem try_gives {X : Cx} {tb : List (Addr × Str)} {x q : Str} {sd : Scope} {fd : Addr} {cdd : Value} {j1 j2 kt : Nat} {q1 q2 q3 q4 q5 q6 q7 q8 q9 q10 q11 q12 q13 q14 q15 q16 q17 q18 q19 : Pos} (F : ExnFam X.K X.mg) (C : CalH tb X.prog X.w X.K X.mg X.base "_law_name_of" (fun a C => fnOf false false 6 1 (b_nameOf a C)) 1)
    (l1 : sd.names.lookup ("door" : Str) = some .local) (l2 : sd.names.lookup ("found" : Str) = some .local) (l3 : sd.names.lookup ("e" : Str) = some .local) (l4 : sd.names.lookup ("BowError" : Str) = some .globalImplicit) (l5 : sd.names.lookup ("_law_name_of" : Str) = some .globalImplicit) :
    GivesN X ["door", "found", "e"] x sd fd cdd
      [.Assign [.Name "found" q1] (.Constant .none j1 q2) q3,
       .Try [.Assign [.Name "found" q4] (.Tuple [.Constant (.str "told") j2 q5, .Call (.Name "door" q6) [] [] q7] kt q8) q9]
        [.ExceptHandler (some (.Name "BowError" q10)) (some "e") [.Assign [.Name "found" q11] (.Call (.Name "_law_name_of" q12) [.Name "e" q13] [] q14) q15] q16] [] [] q17,
       .Return (some (.Name "found" q18)) q19] "door" q (TTry tb X.mg) := by
  intro g d s H Q rd room mono act hd want
  obtain ⟨B, mB, exm⟩ := F.base
  generalize hZ : (cxOf C8.CX0 X.prog X.w X.K X.mg X.base ["door", "found", "e"] x sd fd cdd X.A X.stack s H C8.E0).nox = Z
  have loc : Loc sd "found" := .inl l2
  have body : PS Z (.Try [.Assign [.Name "found" q4] (.Tuple [.Constant (.str "told") j2 q5, .Call (.Name "door" q6) [] [] q7] kt q8) q9]
        [.ExceptHandler (some (.Name "BowError" q10)) (some "e") [.Assign [.Name "found" q11] (.Call (.Name "_law_name_of" q12) [.Name "e" q13] [] q14) q15] q16] [] [] q17)
      (fun D σ H => tbTry g d q rd (wAs X.K (.ref B) 2 (tsTry tb X.mg) (fun _ _ _ _ => False) D) D σ H) := by
    subst hZ
    refine L2N.ps_try_as (X := (cxOf C8.CX0 X.prog X.w X.K X.mg X.base ["door", "found", "e"] x sd fd cdd X.A X.stack s H C8.E0).nox) (n := "e") (i := 2) (c := .ref B) (tb := tbTry g d q rd) (ts := tsTry tb X.mg) (Wout := fun _ _ _ _ => False) rfl rfl (show (["door", "found", "e"] : List Str).Nodup by decide) rfl l3 ⟨l4, by decide, .inl mB⟩ takesN0 (fun W pn xe tk _ => ?_) (fun a oe cls d pn zn fl => ?_)
    · constructor
      rintro pins t σ H1 D I ⟨Ech, hW, h1, h2, h3⟩
      have call := act (fun C d τ H => τ.length = 3 → W C d τ H) pn xe Ech q6 q7 (takes_len tk) (fun C d τ H1 h => hW C d τ H1 h)
      have st := pss_one (ps_set (i := 1) (x := "found") (pos := q9) (pos' := q4) (show (["door", "found", "e"] : List Str).Nodup by decide) rfl loc (pe_tup (x1 := kt) (pos := q8) (pa_cons (pe_str (j := j2) (pos := q5) (x := "told")) (pa_cons call pa_nil))) rfl (.inr l2))
      exact st.run pins t σ H1 D I ⟨h1, h2, h3⟩
    · constructor
      rintro pins t σ H1 D I ⟨hσ, C0, De, nm, G, rfl, rfl, mC, nmC, e1, tq, fin⟩
      have call := pe_exn (X := (cxOf C8.CX0 X.prog X.w X.K X.mg X.base ["door", "found", "e"] x sd fd cdd X.A X.stack s H C8.E0).nox) (pn := pn) (a := a) (i := 2) (p := q12) (p1 := q13) (pos := q14) (e := "e") C (L2H.roomH_of (room.deeper _)) l5 rfl (.inl l3) (by decide) (by decide) (by decide) zn fl mC (exnName_in nmC)
      have st := pss_one (ps_set (i := 1) (x := "found") (pos := q15) (pos' := q11) (show (["door", "found", "e"] : List Str).Nodup by decide) rfl loc call rfl (.inr l2))
      refine st.run pins t σ H1 D I ⟨hσ, G, e1, tq, .str nm, .non, nameOf_at nmC, fun v G' H' fr rp => ?_⟩
      rw [rep_str.1 rp]
      exact fin G' H' fr
  have ret : PS Z (.Return (some (.Name "found" q18)) q19) (tRet (tVar 1)) := by
    subst hZ
    exact ps_ret (pe_var rfl (.inl l2))
  have first : PS Z (.Assign [.Name "found" q1] (.Constant .none j1 q2) q3) (tAsg (tC .non) (gName 1)) := by
    subst hZ
    exact ps_set (show (["door", "found", "e"] : List Str).Nodup by decide) rfl loc pe_non rfl (.inr l2)
  refine ⟨_, pss_cons first (pss_cons body (pss_one ret)), _, ?_, rfl, hd, mono _ _ _ _ (fun v H1 q => ⟨q.1, fun p hp => ⟨_, rfl, q.2 p hp⟩⟩) want⟩
  rintro cls d τ H1 ⟨C0, De, nm, G, rfl, rfl, mC, nmC, e1, tq, fin⟩ len
  refine ⟨true, exm C0 (exnName_in nmC) De mC, fun _ a _ => ⟨?_, C0, De, nm, G, rfl, rfl, mC, nmC, e1, tq, fun G' H' fr => ?_⟩, fun z => by cases z⟩
  · rw [List.getElem?_set_self (by omega)]
  · refine ⟨_, ?_, fin G' H' fr⟩
    rw [List.getElem?_set_ne (by decide), List.getElem?_set_self (by rw [List.length_set]; omega)]
end Q
set_option maxRecDepth 100000
set_option maxHeartbeats 2000000
/-! QTry2: the rule for _law_try(lambda: e); defs that make lambdas -/
namespace Q
open PySem PySem.Spec PyProof.Rows L2
open Evl (Ex)
/-- within a try -/
def Cn.tri (c : Cn) : Cn := ⟨c.mu, c.G0, c.H0, c.da, true, c.tb⟩
theorem R.tri {T : Tab} {c : Cn} {G H : Hp} {ρ : Sl} {σ : L2.St} (r : R T c G ρ σ H) : R T c.tri G ρ σ H := ⟨r.dk, r.ex, r.g0, r.nw, r.fr, r.ng, r.dm, r.th, r.dd, r.len, r.sh, r.ow, r.ap, r.lv⟩
theorem R.untri {T : Tab} {c : Cn} {G H : Hp} {ρ : Sl} {σ : L2.St} (r : R T c.tri G ρ σ H) : R T c G ρ σ H := ⟨r.dk, r.ex, r.g0, r.nw, r.fr, r.ng, r.dm, r.th, r.dd, r.len, r.sh, r.ow, r.ap, r.lv⟩
theorem Stp.untri {c : Cn} {σ : L2.St} {G H G' H' : Hp} (s : Stp c.tri σ G H G' H') : Stp c σ G H G' H' := ⟨s.g, s.k, s.n, s.d⟩
/-- a def that makes lambdas: its code object, that one's table -/
structure LamD (tb : List (Addr × Str)) (K : PySem.W.Frag) (mg : Str → Option Value) (base : Heap) (x nm : Str) (st : Stmt) (f : Addr) (fd : FuncData) (cd P : Addr) : Prop where
  ex : ∃ (oc : Value) (od : Option Addr) (kV doc pm : Value) (an : Option Addr) (ct : Value) (osl : Array (Option Value)),
    fd = PySem.W.fnOf x x (defArgs st) (defBody st) (defScope st) .none kV doc pm an (.ref cd) ct ∧ K.lookup f = some ⟨oc, od, .func fd, osl⟩ ∧ PySem.W.codeIn K (.ref cd) x = true
  kp : PySem.W.keepIn K (.ref f) = true
  tab : LamX.TabB base mg cd P
  inT : (P, nm) ∈ tb
  un : ∀ p ∈ tb, p.1 = P → p.2 = nm
theorem LamD.fn {tb : List (Addr × Str)} {K : PySem.W.Frag} {mg : Str → Option Value} {base : Heap} {x nm : Str} {st : Stmt} {f : Addr} {fd : FuncData} {cd P : Addr} (L : LamD tb K mg base x nm st f fd cd P) : Fun K x x st f fd := by
  obtain ⟨oc, od, kV, doc, pm, an, ct, osl, h1, h2, h3⟩ := L.ex
  exact ⟨⟨oc, od, kV, doc, pm, an, .ref cd, ct, osl, h1, h2, h3⟩, L.kp⟩
section
variable {P : Program} {w : World} {K : PySem.W.Frag} {mg : Str → Option Value} {base : Heap}
/-- its promise, where its own code object is known -/
theorem fn_L {tb : List (Addr × Str)} {nm mn : Str} {st : Stmt} {fa : Addr} {dat : FuncData} {cd Pt : Addr} {N ps : List Str} {n : Nat} {pr : Sp} (D : LamD tb K mg base nm mn st fa dat cd Pt) (S : FnScope N ps (defScope st)) (hl : ∀ vs H Q E, pr vs H Q E → vs.length = ps.length)
    (body : ∀ (A : Around) (outer : List Env) (s : Shared) (H : Hp) (vs : List V) (Q : VK) (E : XK), Room n (A.deeper (envOfC nm (defScope st) s.heap.objs.size fa (.ref cd))) → pr vs H Q E →
      ∃ t, PSs (cxOf (L2N.CX P w) P w K mg base N nm (defScope st) fa (.ref cd) A outer s H E) (defBody st) t ∧ t { nx := fun _ H1 => Q .non H1, rt := Q } (L2.start N vs) H) : FnOk P w K mg base (L2N.CX P w) (n + 1) fa dat ps pr := by
  obtain ⟨_, _, _, _, _, _, _, _, e, look, good⟩ := D.ex
  subst e
  exact fn_of look good S hl fun A outer s H vs Q E r q => body A outer s H vs Q E r q
theorem calL_of {tb : List (Addr × Str)} {x nm : Str} {st : Stmt} {f : Addr} {fd : FuncData} {cd Pt : Addr} {N ps : List Str} {mu : List Nat} {b : SF} {io fr : Bool} {k : Nat} (D : LamD tb K mg base x nm st f fd cd Pt) (hx : mg x = some (.ref f)) (S : FnScope N ps (defScope st)) (bd : Binds K fd ps []) (hm : muOk io ps.length mu = true)
    (hb : ∀ (A : Around) (outer : List Env) (s : Shared) (H : Hp) (E : XK) (G : Hp) (a : Addr), Room k (A.deeper (envOfC x (defScope st) s.heap.objs.size f (.ref cd))) →
      QSs (cxOf (L2N.CX P w) P w K mg base N x (defScope st) f (.ref cd) A outer s H E) ⟨mu, G, H, daF io a, false, tb⟩ (fun cls d _ H => E cls d H) fr (defBody st) b) :
    Cal tb P w K mg base (L2N.CX P w) x io fr ps.length (fnOf io fr N.length ps.length b) (k + 1) :=
  ⟨⟨f, fd, ps, hx, D.kp, bd, fn_L D S (fun vs H Q E h => h.1) fun A outer s H vs Q E hr hsp => body_of hm (fun G a => hb A outer s H E G a hr) hsp⟩⟩
/-- the law itself, where it makes lambdas -/
theorem law_FL {tb : List (Addr × Str)} {fa : Addr} {x nm : Str} {st : Stmt} {fd : FuncData} {cd Pt : Addr} {N : List Str} {mu : List Nat} {b : SF} {k : Nat} (D : LamD tb K mg base x nm st fa fd cd Pt) (S : FnScope N ["script"] (defScope st)) (hm : muOk false 1 mu = true) (hk : Keeps (fnOf false false N.length 1 b))
    (hb : ∀ (A : Around) (outer : List Env) (s : Shared) (H : Hp) (E : XK) (G : Hp) (a : Addr), Room k (A.deeper (envOfC x (defScope st) s.heap.objs.size fa (.ref cd))) →
      QSs (cxOf (L2N.CX P w) P w K mg base N x (defScope st) fa (.ref cd) A outer s H E) ⟨mu, G, H, daF false a, false, tb⟩ (fun cls d _ H => E cls d H) false (defBody st) b) :
    FnOk P w K mg base (L2N.CX P w) (k + 1) fa fd ["script"] (spLaw tb K) :=
  FnOk.imp (fn_L D S (fun vs H Q E h => h.1) fun A outer s H vs Q E hr hsp => body_of (ps := ["script"]) hm (fun G a => hb A outer s H E G a hr) hsp) fun vs H Q E h => spQ_law hk vs H Q E h
end
section
variable {X : Cx} {c : Cn} {W : WX} {j : Nat}
/-- _law_try(lambda: bd) -/
theorem qe_try {st : Stmt} {j1 j2 kt : Nat} {q1 q2 q3 q4 q5 q6 q7 q8 q9 q10 q11 q12 q13 q14 q15 q16 q17 q18 q19 p1 p2 p3 : Pos} {ar : Arguments} {bd : Expr} {sc : Scope} {fe : EF} {cd P : Addr}
    (F : ExnFam X.K X.mg) (C : CalH c.tb X.prog X.w X.K X.mg X.base "_law_name_of" (fun a C => fnOf false false 6 1 (b_nameOf a C)) 1) (M : ∃ (f : Addr) (fd : FuncData), X.mg "_law_try" = some (.ref f) ∧ Fun X.K "_law_try" "_law_try" st f fd) (S : FnScope ["door", "found", "e"] ["door"] (defScope st))
    (hcd : X.env.code = .ref cd) (B : LamX.TabB X.base X.mg cd P) (hin : (P, lamN X) ∈ c.tb) (hun : ∀ p ∈ c.tb, p.1 = P → p.2 = lamN X) (room : Room (j + 2) X.A)
    (hE : ∀ (A : Around) (outer : List Env) (s : Shared) (H : Hp) (E : XK) (f c' : Addr), Room j (A.deeper (LamX.lamEnv X sc s.heap.objs.size f c')) → QE (lamC X A outer s H E sc f c') c.tri (fun cls d _ H => E cls d H) bd fe)
    (bind : ∀ (kV doc pm : Value) (an : Option Addr) (cdv ct : Value) (us : List Value), us.length = 1 → bindArgs (PySem.W.fnOf "_law_try" "_law_try" (defArgs st) (defBody st) (defScope st) .none kV doc pm an cdv ct) ⟨us, []⟩ = pure ((["door"] : List Str).zip us))
    (hm : c.mu = [] := by rfl) (hda : c.da = none := by rfl) (L : LamX.LamS X.env.scope sc := by exact LamX.lamS_by (by kernel_rfl)) (hgl : Gl X "_law_try" := by rfl) (hdf : defaultsOf ar X.env = ([], []) := by rfl)
    (hb0 : ∀ (q : Str) (cl : List (Str × Addr)) (m c v : Value), bindArgs (PySem.W.kla_fn "<lambda>" q ar bd sc cl m c v) ⟨[], []⟩ = pure [] := by intro _ _ _ _ _; rfl)
    (l1 : (defScope st).names.lookup ("door" : Str) = some .local := by rfl) (l2 : (defScope st).names.lookup ("found" : Str) = some .local := by rfl) (l3 : (defScope st).names.lookup ("e" : Str) = some .local := by rfl)
    (l4 : (defScope st).names.lookup ("BowError" : Str) = some .globalImplicit := by rfl) (l5 : (defScope st).names.lookup ("_law_name_of" : Str) = some .globalImplicit := by rfl)
    (hbd : defBody st = [.Assign [.Name "found" q1] (.Constant .none j1 q2) q3,
       .Try [.Assign [.Name "found" q4] (.Tuple [.Constant (.str "told") j2 q5, .Call (.Name "door" q6) [] [] q7] kt q8) q9]
        [.ExceptHandler (some (.Name "BowError" q10)) (some "e") [.Assign [.Name "found" q11] (.Call (.Name "_law_name_of" q12) [.Name "e" q13] [] q14) q15] q16] [] [] q17,
       .Return (some (.Name "found" q18)) q19] := by rfl) :
    QE X c W (.Call (.Name "_law_try" p1) [.Lambda ar bd sc p2] [] p3) (eTry fe) := by
  obtain ⟨f, fd, mf, D⟩ := M
  obtain ⟨oc, od, kV, doc, pm, an, cdv, ct, osl, ed, look, good⟩ := D.ex
  subst ed
  have hb1 : L2.Binds X.K (PySem.W.fnOf "_law_try" "_law_try" (defArgs st) (defBody st) (defScope st) .none kV doc pm an cdv ct) ["door"] [] := D.binds bind
  have gv := try_gives (X := X) (tb := c.tb) (x := "_law_try") (q := lamN X) (fd := f) (cdd := cdv) (j1 := j1) (j2 := j2) (kt := kt) (q1 := q1) (q2 := q2) (q3 := q3) (q4 := q4) (q5 := q5) (q6 := q6) (q7 := q7) (q8 := q8) (q9 := q9) (q10 := q10) (q11 := q11) (q12 := q12) (q13 := q13) (q14 := q14) (q15 := q15) (q16 := q16) (q17 := q17) (q18 := q18) (q19 := q19) F C l1 l2 l3 l4 l5
  rw [← hbd] at gv
  have hmono : ∀ (E : XK) (σ : L2.St) (H : Hp) (Q Q' : VK), (∀ v H, Q v H → Q' v H) → tq (Cx.T X) c.tri (fun cls d _ H => E cls d H) (relU (Cx.T X)) fe σ H Q → tq (Cx.T X) c.tri (fun cls d _ H => E cls d H) (relU (Cx.T X)) fe σ H Q' := fun E σ H Q Q' k ⟨G, ρ, r, h⟩ => ⟨G, ρ, r, h.imp k⟩
  refine PE.weak (pe_lam (T := c.tb) (t := fun E => tq (Cx.T X) c.tri (fun cls d _ H => E cls d H) (relU (Cx.T X)) fe) hgl mf D.kp look good hb1 S rfl (.inl l1) gv B hcd hin hun room L hdf hb0 hE hmono) fun σ H Q ⟨G, ρ, r, h⟩ => ⟨r.th, fun H1 st ht => ?_⟩
  have hp : ∃ ps, H P = some (.tbl ps) := by
    obtain ⟨ps, e, _⟩ := r.th _ hin
    exact ⟨ps, e⟩
  have s0 : Stp c σ G H G H1 := st.stp hp
  refine ⟨G, ρ, (r.stay hm hda st ht hp).tri, ?_⟩
  unfold eTry at h
  cases hf : fe ρ with
  | ok u ρ' =>
    rw [hf] at h
    intro v G' H' s1 r1 hv
    refine ⟨by show 2 ≤ sizeLine; decide, fun p hp => ?_⟩
    have gn := Grow.new (o := .tup [.str "told", v]) r1.ex hp
    refine h (.ref p) (upd G' p (.tup [.str "told", v])) _ (s0.trans (s1.untri.trans gn.stp)) (r1.untri.grow gn) (rep_tup.2 ⟨p, _, rfl, .inl (.inl upd_same), .cons (rep_str.2 ?_) (.cons (Rep.mono gn.g _ _ hv) .nil)⟩)
    exact congrArg V.str (by decide +kernel)
  | exc Ce ρ' =>
    rw [hf] at h
    intro G' H' d s1 xr md
    have r1 : R (Cx.T X) c.tri G' ρ' σ H' := xr
    cases hn : exnName Ce with
    | none =>
      simp only [hn] at h
      exact h.elim
    | some x =>
      simp only [hn] at h
      exact ⟨Ce, d, x, G', rfl, rfl, md, hn, r1.ex, r1.tcall, fun G2 H2 fr => h _ G2 H2 (s0.trans (s1.untri.trans (Frm.stp (c := c) fr))) (r1.untri.frm fr) (rep_str.2 rfl)⟩
  | stuck =>
    rw [hf] at h
    exact h.elim
end
end Q
set_option maxRecDepth 100000
set_option maxHeartbeats 2000000
/-! QCall2: a def that changes its argument, called on a new list; a name that holds a def -/
namespace Q
open PySem PySem.Spec PyProof.Rows L2
open Evl (Ex)
section
variable {X : Cx} {c : Cn} {W : WX} {k j p : Nat} {fr io : Bool} {pos : Pos} {e : Expr} {fe : EF} {CX : CXT} {x : Str} {φ : List U → FR} {a : Expr} {es : List Expr} {as : AF} {q : Pos}
/-- behind a call that changed a new list -/
theorem R.frmT {T : Tab} {G H G' H' : Hp} {ρ : Sl} {σ : L2.St} {b : Addr} (r : R T c G ρ σ H) (h0 : c.H0 b = none) (hd : c.da ≠ some b) (no : ∀ i ∈ c.mu, σ[i]? ≠ some (some (.ref b))) (gb : G b = none) (w : Frm c.tb (some b) G H G' H') : R T c G' ρ σ H' where
  dk := r.dk
  ex := w.e
  g0 := r.g0.trans w.g
  nw := fun a o h z => by
    obtain ⟨o', h'⟩ := r.dm a o h
    exact w.n a o' h' (r.nw a o h z)
  fr := fun a o h d t => w.k a o (r.fr a o h d t) (fun z => by
    cases z
    rw [h0] at h
    cases h) t
  ng := w.ng
  dm := fun a o h => by
    obtain ⟨o', q⟩ := r.dm a o h
    exact w.d a o' q
  th := w.t
  dd := fun a h => by
    obtain ⟨o, q⟩ := r.dd a h
    exact w.d a o q
  len := r.len
  sh := fun i u h m => by
    obtain ⟨v, e1, e2⟩ := r.sh i u h m
    exact ⟨v, e1, Rep.mono w.g _ _ e2⟩
  ow := fun i u h m => by
    obtain ⟨a, e1, e2, e3, e4⟩ := r.ow i u h m
    obtain ⟨o, ho⟩ := e4.at
    have ne : (some b : Option Addr) ≠ some a := fun z => by
      cases z
      exact no i m e1
    exact ⟨a, e1, w.n a o ho e2, e3, e4.mono w.g ((w.k a o ho ne (e4.not ho)).trans ho.symm)⟩
  ap := r.ap
  lv := r.lv
/-- x(e, ..), x a def that may change its first argument, e a new list -/
theorem qe_callT {fa : EF} (C : Cal c.tb X.prog X.w X.K X.mg X.base CX x true false (p + 1) φ j) (ok : OkX X CX W k) (hj : j ≤ k) (he : QF X c W a fa) (ha : QA X c W es as) (hl : ∀ ρ us ρ', as ρ = .ok us ρ' → us.length = p)
    (hg : Gl X x := by rfl) (hdb : (x == ("__debug__" : Str)) = false := by decide) (hst : starEach (a :: es) X.env = (false, eval a X.env) :: starEach es X.env := by rfl) (hpl : (backTo pos (starEach es X.env)).any (·.1) = false := by rfl) :
    QE X c W (.Call (.Name x q) (a :: es) [] pos) (eCallT φ fa as) := by
  obtain ⟨f, fd, ps, h1, h2, h3, h4⟩ := C.ex
  refine PE.weak (pe_callS h4 (ok.room.mono hj) hg h1 h2 h3 ok.pa (pa_cons he ha hst) hdb hst hpl) fun σ H Q ⟨G, ρ, r, h⟩ => ?_
  refine ⟨G, ρ, r, ?_⟩
  unfold eCallT at h
  cases hf : fa ρ with
  | exc C ρ1 =>
    rw [hf] at h
    exact h
  | stuck =>
    rw [hf] at h
    exact h
  | ok d0 ρ1 =>
    rw [hf] at h
    simp only [Rs.bind] at h
    rintro v G1 H1 s1 r1 ⟨b, rfl, g1, b1, b2, own, hb, no⟩
    obtain ⟨o0, ho0, _⟩ := own.known
    refine ⟨G1, ρ1, r1, ?_⟩
    cases hx : as ρ1 with
    | exc C ρ2 =>
      rw [hx] at h
      exact fun G2 H2 d s2 xr md => h G2 H2 d (s1.trans s2) xr md
    | stuck =>
      rw [hx] at h
      exact h
    | ok us ρ2 =>
      rw [hx] at h
      simp only at h
      intro vs G2 H2 s2 r2 l2
      have hb2 : H2 b = some o0 := s2.k _ _ ho0 no (own.not ho0)
      have gb2 : G2 b = none := s2.n _ _ ho0 g1
      have own2 : OwnAt (Cx.T X) G2 H2 b d0 := own.mono s2.g (hb2.trans ho0.symm)
      have s12 := s1.trans s2
      refine ⟨by rw [List.length_cons, ← l2.length, hl _ _ _ hx], G2, d0 :: us, r2.ex, r2.tcall, ⟨b, d0, us, vs, rfl, rfl, gb2, own2, l2⟩, ?_⟩
      have stp : ∀ {G' H' : Hp}, Frm c.tb (some b) G2 H2 G' H' → Stp c σ G H G' H' := fun {G' H'} w =>
        ⟨s12.g.trans w.g, fun a o e m t => w.k a o (s12.k a o e m t) (fun z => by
          cases z
          rw [hb] at e
          cases e) t, fun a o e z => by
            obtain ⟨o', e'⟩ := s12.d a o e
            exact w.n a o' e' (s12.n a o e z), fun a o e => by
            obtain ⟨o', e'⟩ := s12.d a o e
            exact w.d a o' e'⟩
      generalize φ (d0 :: us) = z at h ⊢
      cases z with
      | ok u d' => exact fun v G' H' w _ rv => h v G' H' (stp w) (r2.frmT b1 b2 no gb2 w) rv
      | exc C d' => exact fun G' H' x w _ hx => h G' H' x (stp w) (r2.frmT b1 b2 no gb2 w).xr hx
      | stuck => exact h
/-- a def, for the names that hold it -/
structure CalV (tb : List (Addr × Str)) (P : Program) (w : World) (K : PySem.W.Frag) (mg : Str → Option Value) (base : Heap) (CX : CXT) (p : Nat) (l : List (Str × (List U → FR))) (j : Nat) : Prop where
  ex : ∀ x φ, l.lookup x = some φ → ∃ fr, Cal tb P w K mg base CX x false fr p φ j
theorem calV_nil {tb : List (Addr × Str)} {P : Program} {w : World} {K : PySem.W.Frag} {mg : Str → Option Value} {base : Heap} : CalV tb P w K mg base CX p [] j := ⟨fun _ _ h => by cases h⟩
theorem calV_cons {tb : List (Addr × Str)} {P : Program} {w : World} {K : PySem.W.Frag} {mg : Str → Option Value} {base : Heap} {l : List (Str × (List U → FR))} {i : Nat} (C : Cal tb P w K mg base CX x false fr p φ i) (hi : i ≤ j) (t : CalV tb P w K mg base CX p l j) : CalV tb P w K mg base CX p ((x, φ) :: l) j :=
  ⟨fun y ψ h => by
    rw [List.lookup_cons] at h
    split at h
    · rename_i q
      cases h
      have e : y = x := beq_iff_eq.mp q
      subst e
      obtain ⟨f, fd, ps, h1, h2, h3, h4⟩ := C.ex
      exact ⟨fr, f, fd, ps, h1, h2, h3, h4.mono hi⟩
    · exact t.ex y ψ h⟩
/-- y(e, ..), y a name that holds a def -/
theorem qe_callV {l : List (Str × (List U → FR))} (i : Nat) {y : Str} (C : CalV c.tb X.prog X.w X.K X.mg X.base CX p l j) (ok : OkX X CX W k) (hj : j ≤ k) (ha : QA X c W (a :: es) as) (hl : ∀ ρ us ρ', as ρ = .ok us ρ' → us.length = p) (hm : c.mu.contains i = false := by rfl) (hN : X.N[i]? = some y := by rfl)
    (hv : Vis X.env.scope y := by first | exact Or.inl rfl | exact Or.inr (Or.inl rfl) | exact Or.inr (Or.inr rfl)) (hd : (y == ("__debug__" : Str)) = false := by decide) (hcd : (y == ("__classdict__" : Str)) = false := by decide)
    (he : starEach (a :: es) X.env = (false, eval a X.env) :: starEach es X.env := by rfl) (hpl : (backTo pos (starEach es X.env)).any (·.1) = false := by rfl) : QE X c W (.Call (.Name y q) (a :: es) [] pos) (eCallV l (eV i) as) := by
  constructor
  rintro pins s σ H Q I ⟨G, ρ, r, h⟩
  unfold eCallV eV at h
  split at h
  · rename_i u eu
    simp only [Rs.bind] at h
    split at h
    · rename_i x
      split at h
      · rename_i φ el
        obtain ⟨fr', f, fd, ps, m1, kp, bd, F⟩ := C.ex x φ el
        have F1 : FnOk X.prog X.w X.K X.mg X.base CX j f fd ps (spQ c.tb (Cx.T X) false false p φ) := by
          cases fr' with
          | false => exact F
          | true => exact F.imp fun vs H Q E h => spQ_weak h
        obtain ⟨v, e1, e2⟩ := r.sh i _ eu (notIn hm)
        obtain ⟨f', ev, mf⟩ := rep_fn.1 e2
        rw [show X.mg x = some (.ref f') from mf] at m1
        cases m1
        rw [ev] at e1
        apply wpAny_Call_Name_kw
        refine thn ((pe_var hN hv hd hcd).run pins s σ H (fun w H1 => w = V.ref f ∧ H1 = H) I ⟨_, e1, rfl, rfl⟩) fun fv s1 ⟨w, H1, I1, rv, ew, eH⟩ => ?_
        rw [ew] at rv
        rw [eH] at I1
        have rv : fv = Value.ref f := rv
        subst rv
        have rd := tq_call (p := p) (W := W) (X := X) (c := c) (Q := Q) (H := H) (σ := σ) ⟨G, ρ, r, h⟩ hl
        refine PySem.W.callWith_K (h₀ := X.base) I1.ok.mod.kin kp (thn (ha.run pos pins s1 σ H _ I1 rd) fun us s2 ⟨vs, H2, I2, rr, qq⟩ => ⟨I2.kIn, ?_⟩) he hpl
        exact run_fnS F1 (ok.room.mono hj) bd (ok.pa σ) I2 rr qq
      · exact h.elim
    · exact h.elim
  · exact h.elim
end
end Q
set_option maxRecDepth 100000
set_option maxHeartbeats 2000000
/-! QTop: the facts of the top for lambdas and exceptions -/
namespace Q
open PySem PySem.Spec PyProof.Rows L2
/-- the name of the lambdas that a def makes -/
abbrev lamNm (x : Str) (st : Stmt) : Str := (envOfC x (defScope st) 0 0 .none).qual ++ "<lambda>"
/-- a def and its code object -/
structure LamC (K : PySem.W.Frag) (x : Str) (st : Stmt) (f : Addr) (fd : FuncData) (cd : Addr) : Prop where
  ex : ∃ (oc : Value) (od : Option Addr) (kV doc pm : Value) (an : Option Addr) (ct : Value) (osl : Array (Option Value)),
    fd = PySem.W.fnOf x x (defArgs st) (defBody st) (defScope st) .none kV doc pm an (.ref cd) ct ∧ K.lookup f = some ⟨oc, od, .func fd, osl⟩ ∧ PySem.W.codeIn K (.ref cd) x = true
  kp : PySem.W.keepIn K (.ref f) = true
theorem LamC.to {tb : List (Addr × Str)} {K : PySem.W.Frag} {mg : Str → Option Value} {base : Heap} {x nm : Str} {st : Stmt} {f : Addr} {fd : FuncData} {cd P : Addr} (L : LamC K x st f fd cd) (h : LamX.TabB base mg cd P ∧ (P, nm) ∈ tb ∧ ∀ p ∈ tb, p.1 = P → p.2 = nm) : LamD tb K mg base x nm st f fd cd P := ⟨L.ex, L.kp, h.1, h.2.1, h.2.2⟩
section
variable {K : PySem.W.Frag} {h : Heap} {mg : Str → Option Value}
theorem mod_l {x : Str} {st : Stmt} {f cd : Addr} {oc : Value} {od an : Option Addr} {osl : Array (Option Value)} {kV doc pm ct : Value} (X : K.In h) (G : h.Ns mainGlobals mg) (a : PySem.W.nsIn K mainGlobals x = some (some (.ref f)))
    (l : K.lookup f = some ⟨oc, od, .func (PySem.W.fnOf x x (defArgs st) (defBody st) (defScope st) .none kV doc pm an (.ref cd) ct), osl⟩) (c : PySem.W.codeIn K (.ref cd) x = true) (k : PySem.W.keepIn K (.ref f) = true) :
    ∃ (f : Addr) (fd : FuncData), mg x = some (.ref f) ∧ LamC K x st f fd cd := ⟨f, _, PySem.W.mg_of X G a, ⟨oc, od, kV, doc, pm, an, ct, osl, rfl, l, c⟩, k⟩
/-! the family of exceptions, by one computation -/
def excB (K : PySem.W.Frag) (D : Addr) : Bool :=
  PySem.W.findIn K (.ref D) "__getattribute__" == some (some (.builtin "BaseException.__getattribute__")) && PySem.W.findIn K (.ref D) "__getattr__" == some none && PySem.W.subIn K (.ref D) (.type "BaseException") == some true && PySem.W.hasDictIn K D &&
  PySem.W.findIn K (.ref D) "__class__" == some (some (.builtin "object.__class__")) && PySem.W.specialIn K (.builtin "object.__class__") "__get__" == some (some (.builtin "getset_descriptor.__get__")) && PySem.W.takesIn K (.builtin "object.__class__") == some true && PySem.W.mroIn K D (.type "object") == some true
def famB (K : PySem.W.Frag) (l : List (Str × Addr)) (B : Addr) : Bool :=
  l.map (·.1) == exnNames && PySem.W.nsIn K mainGlobals "BowError" == some (some (.ref B)) && l.all fun p => PySem.W.nsIn K mainGlobals p.1 == some (some (.ref p.2)) && excB K p.2 && PySem.W.kitOne K (.ref p.2) (.type "ValueError") == some true && PySem.W.exmOne K (.ref p.2) (.ref B) == some true &&
    l.all fun q => PySem.W.kitOne K (.ref p.2) (.ref q.2) == some (p.1 == q.1)
theorem excB_of {D : Addr} (e : excB K D = true) : ExcC K D := by
  unfold excB at e
  simp only [Bool.and_eq_true, beq_iff_eq] at e
  obtain ⟨⟨⟨⟨⟨⟨⟨h1, h2⟩, h3⟩, h4⟩, h5⟩, h6⟩, h7⟩, h8⟩ := e
  exact ⟨h1, h2, h3, h4, h5, h6, h7, h8⟩
theorem fam_of {l : List (Str × Addr)} {B : Addr} (X : K.In h) (G : h.Ns mainGlobals mg) (e : famB K l B = true) : ExnFam K mg := by
  unfold famB at e
  simp only [Bool.and_eq_true, beq_iff_eq, List.all_eq_true] at e
  obtain ⟨⟨h1, h2⟩, h3⟩ := e
  have at_ : ∀ C ∈ exnNames, ∃ D, (C, D) ∈ l := fun C hC => by
    rw [← h1] at hC
    obtain ⟨p, hp, rfl⟩ := List.mem_map.mp hC
    exact ⟨p.2, hp⟩
  refine ⟨fun C hC => ?_, B, PySem.W.mg_of X G h2, fun C hC D hD => ?_⟩
  · obtain ⟨D, hD⟩ := at_ C hC
    obtain ⟨⟨⟨⟨g1, g2⟩, g3⟩, _⟩, g5⟩ := h3 _ hD
    refine ⟨D, PySem.W.mg_of X G g1, excB_of g2, g3, fun C2 hC2 => ?_⟩
    obtain ⟨D2, hD2⟩ := at_ C2 hC2
    obtain ⟨⟨⟨⟨k1, _⟩, _⟩, _⟩, _⟩ := h3 _ hD2
    exact ⟨D2, PySem.W.mg_of X G k1, g5 _ hD2⟩
  · obtain ⟨D', hD'⟩ := at_ C hC
    obtain ⟨⟨⟨⟨g1, _⟩, _⟩, g4⟩, _⟩ := h3 _ hD'
    have m := PySem.W.mg_of X G g1
    rw [hD] at m
    cases m
    exact g4
end
theorem ExnFam.fn {K : PySem.W.Frag} {mg : Str → Option Value} (F : ExnFam K mg) {C : Str} (h : exnNames.contains C = true := by decide) : ∃ a, mg C = some (.ref a) := by
  obtain ⟨D, m, _⟩ := F.at_ C (inNames h)
  exact ⟨D, m⟩
section
variable {P : Program} {w : World} {K : PySem.W.Frag} {mg : Str → Option Value} {base : Heap}
/-- the law itself, at one ground -/
theorem law_F1 {tb : List (Addr × Str)} {fa : Addr} {x : Str} {st : Stmt} {fd : FuncData} {N : List Str} {mu : List Nat} {b : SF} {k : Nat} (D : Fun K x x st fa fd) (S : FnScope N ["script"] (defScope st)) (hm : muOk false 1 mu = true) (hk : Keeps (fnOf false false N.length 1 b))
    (hb : ∀ (cdv : Value) (A : Around) (outer : List Env) (s : Shared) (H : Hp) (E : XK) (G : Hp) (a : Addr), Room k (A.deeper (envOfC x (defScope st) s.heap.objs.size fa cdv)) →
      QSs (cxOf (L2N.CX P w) P w K mg base N x (defScope st) fa cdv A outer s H E) ⟨mu, G, H, daF false a, false, tb⟩ (fun cls d _ H => E cls d H) false (defBody st) b) :
    FnOk P w K mg base (L2N.CX P w) (k + 1) fa fd ["script"] (spLaw tb K) :=
  FnOk.imp (fn_N D S (fun vs H Q E h => h.1) fun cdv A outer s H vs Q E hr hsp => body_of (ps := ["script"]) hm (fun G a => hb cdv A outer s H E G a hr) hsp) fun vs H Q E h => spQ_law hk vs H Q E h
end
end Q
namespace Q
open PySem
theorem bo_ValueError : bootBuiltins "ValueError" = some (.type "ValueError") := by decide +kernel
end Q
/-! QOpsT: a tuple times a number -/
namespace Q
def uMulT : U → U → Option U
  | .tup xs, .int k => if 1 ≤ k ∧ k ≤ 1000 ∧ xs.length ≤ 1000 ∧ 1 ≤ xs.length then some (.tup (List.replicate k.toNat xs).flatten) else none
  | _, _ => none
theorem uMulT_one {u : U} {k : Int} (h : 1 ≤ k ∧ k ≤ 1000) : uMulT (.tup [u]) (.int k) = some (.tup (List.replicate k.toNat u)) := by
  have e : ∀ n : Nat, (List.replicate n [u]).flatten = List.replicate n u := fun n => by
    induction n with
    | zero => rfl
    | succ n ih => rw [List.replicate_succ, List.flatten_cons, ih]; rfl
  show (if 1 ≤ k ∧ k ≤ 1000 ∧ [u].length ≤ 1000 ∧ 1 ≤ [u].length then some (U.tup (List.replicate k.toNat [u]).flatten) else none) = _
  rw [if_pos ⟨h.1, h.2, by show 1 ≤ 1000; decide, by show 1 ≤ 1; decide⟩, e]
end Q
set_option maxRecDepth 100000
set_option maxHeartbeats 4000000
/-! QMulT: a tuple times a number is what Python does -/
namespace Q
open PySem PySem.Spec PyProof.Rows L2
open Evl (Ex)
theorem tuple_mulW1 (l : Addr) (items : Array Value) (n : Nat) (dd : Option Addr) (sl : Array (Option Value)) (x : Int) (u : Tok) (c0 : (decide (x < -(2 ^ 63)) || decide (x ≥ 2 ^ 63)) = false) (c1 : (items.isEmpty || x == 1) = true) :
    Meets (Builtin.«tuple.__mul__» ⟨[.ref l, .int x u], []⟩) (fun _ R s => s.heap.get? l = some { cls := .type "tuple", dict := dd, data := .seq items n, slots := sl } ∧
      R (.ok (.ret (Value.ref l))) s) :=
  .of_wp fun prog w A R s h => by
    obtain ⟨hp, g, d, tk, os⟩ := s
    obtain ⟨hl, h⟩ := h
    have f1 := AutoSeq1.idx_int
    wp_walk using wpAny_loadPart' hl
    repeat (first
      | (refine wpAny_ite_false (decide_eq_false (by rw [c0]; exact Bool.false_ne_true)) ?_; wp_walk using wpAny_loadPart' hl)
      | (refine wpAny_ite_true (decide_eq_true c1) ?_; wp_walk using wpAny_loadPart' hl))
    exact ⟨_, rfl, h⟩
section
variable {X : Cx} {c : SF → Prop}
theorem rep1 : OpR X (binaryOp .Mult) (fun x y H Q => ∃ l xs, x = .ref l ∧ y = .int 1 ∧ SqT X.K H l xs ∧ Q (.ref l) H) := by
  intro pins s σ H x y v u Q I rx ry h
  obtain ⟨l, xs, rfl, rfl, hT, q⟩ := h
  cases rx
  obtain ⟨t, rfl⟩ := ry
  obtain ⟨its, r, ⟨⟨cls, dd, data, sl⟩, ho, hc, n, hd⟩, hs⟩ := I.tuple hT
  simp only at hc hd
  subst hc hd
  have c1 : (its.toArray.isEmpty || (1 : Int) == 1) = true := by
    rw [Bool.or_eq_true]
    exact .inr rfl
  refine wpAny_binaryOp_repeat_ref (T := "tuple") (U := "int") (by decide) ⟨_, ho, rfl⟩ (fun s' => typeIs_int s' 1 t) noFill_tuple_mul F.fills_int_mul F.slot_int_rmul repeat_tuple F.slot_int_index.lookup
    (call_meets F.slot_int_rmul (typeIs_int s 1 t) F.entry_int_rmul (F.args_int_rmul_2 _ _) (int_rmul_tuple 1 t l its.toArray n dd sl)
      ⟨ho, rfl, ⟨_, ho, rfl⟩, call_meets F.slot_tuple_mul ⟨_, ho, rfl⟩ F.entry_tuple_mul (F.args_tuple_mul_2 _ _) (tuple_mulW1 l its.toArray n dd sl 1 t (by decide) c1) ⟨ho, ?_⟩⟩)
  exact ⟨.ref l, _, I, rfl, q⟩
theorem op_uMulT : OpR X (binaryOp .Mult) (r2 nuN (Cx.T X) uMulT) := by
  intro pins s σ H x y v u Q I rx ry ⟨G, a, b, z, e, ra, rb, hz, q⟩
  unfold uMulT at hz
  split at hz
  · rename_i us k
    split at hz
    · rename_i hk
      cases hz
      have hy := rep_int.1 rb
      obtain ⟨p, vs, e1, h1, h2⟩ := rep_tup.1 ra
      have hl : us.length = vs.length := h2.length
      by_cases k1 : k = 1
      · subst k1
        refine rep1 pins s σ H x y v u Q I rx ry ⟨p, vs, e1, hy, Evl.ex_t e h1, ?_⟩
        have e0 : (List.replicate (1 : Int).toNat us).flatten = us := by
          show us ++ [] = us
          exact List.append_nil _
        rw [e0] at q
        rw [← e1]
        exact nuN_old e q ra
      · refine op_repT pins s σ H x y v u Q I rx ry ⟨p, k, vs, e1, hy, Evl.ex_t e h1, fun z => ?_, by omega, hk.2.1, by omega, nuN_tup e q (h2.rep _)⟩
        rw [z] at hl
        have := hk.2.2.2
        rw [hl] at this
        exact absurd this (by decide)
    · cases hz
  · cases hz
end
end Q
set_option maxRecDepth 100000
set_option maxHeartbeats 4000000
/-! QSetS: a set of one text, and sorted of it -/
namespace Q
open PySem PySem.Spec PyProof.Rows L2
open Evl (Ex)
/-- the set at a has the one member x -/
def OneS (w : World) (h : Heap) (a : Addr) (x : Str) : Prop :=
  ∃ o es ep t k u, h.get? a = some o ∧ o.ExactSet ∧ o.data = .set es ep t ∧ es.toList = [(k, Value.str x u)] ∧ t.fits es.size = true ∧ Ris t.place.toList ∧ (w.params.followText "set-order" = true ∨ t.led = true)
theorem OneS.at {w : World} {h h' : Heap} {a : Addr} {x : Str} (R : OneS w h a x) (k : ∀ o, h.get? a = some o → h'.get? a = some o) : OneS w h' a x := by
  obtain ⟨o, es, ep, t, n, u, ho, r⟩ := R
  exact ⟨o, es, ep, t, n, u, k o ho, r⟩
theorem fits_one {es : Array (Int × Value)} {k : Int} {v : Value} (h : es.toList = [(k, v)]) : es.size < scanBound := by
  rw [← Array.length_toList, h]
  show 1 < scanBound
  decide
section
variable {P : Program} {w : World} {A : Around} {E : Value → Shared → Prop} {s : Shared} {a : Addr}
theorem one_tail {g : Bool → Sem Unit} (hg : ∀ (b : Bool) (s₁ : Shared) (Q' : Unit → Shared → Prop), Q' () s₁ → wpAny (model P w) A (g b) Q' E s₁)
    {o : Obj} {es : Array (Int × Value)} {ep : Nat} {t : SetTable} (ho : s.heap.get? a = some o) (hex : o.ExactSet) (hd : o.data = .set es ep t)
    {es1 : Array (Int × Value)} {t2 : SetTable} {k : Int} {x : Str} {u : Tok} (e1 : es1.toList = [(k, Value.str x u)])
    (hf2 : t2.fits es1.size = true) (hr : Ris t2.place.toList) (hl : w.params.followText "set-order" = true ∨ t2.led = true) {wasDummy : Bool} {R : Option Bool → Shared → Prop}
    (hR : ∀ h', Heap.SameBut a s.heap h' → OneS w h' a x → R (some true) { s with heap := h' }) :
    wpAny (model P w) A (do
        storeSet a es1 t2
        if (!wasDummy && t2.tooFull) = true then do
            g (relayAll t2 es1 (SetTable.grown es1.size)).2.2
            storeSet a (relayAll t2 es1 (SetTable.grown es1.size)).1 (relayAll t2 es1 (SetTable.grown es1.size)).2.1
            pure (some true)
          else pure (some true)) R E s := by
  have hb1 := fits_one e1
  refine wpAny_bind (wpAny_storeSet_of ho hd ?_ (fits_of_scanBound hb1))
  have ho1 := store_at (es' := es1) (t' := t2) ho hd
  have sb1 := Heap.SameBut.update s.heap a (Obj.putSet es1 t2)
  split
  · have pm := relayAll_perm t2 es1 (SetTable.grown es1.size)
    have hf3 := relayAll_fits t2 es1 (SetTable.grown es1.size)
    have hr3 := relayAll_ris t2 es1 (SetTable.grown es1.size)
    have hl3 := relayAll_led t2 es1 (SetTable.grown es1.size)
    generalize relayAll t2 es1 (SetTable.grown es1.size) = Z at pm hf3 hr3 hl3 ⊢
    obtain ⟨es2, t3, gave⟩ := Z
    dsimp only at pm hf3 hr3 hl3 ⊢
    rw [e1] at pm
    have e2 := List.perm_singleton.mp pm
    refine wpAny_bind (hg _ _ _ ?_)
    refine wpAny_bind (wpAny_storeSet_of ho1 rfl ?_ (fits_of_scanBound (fits_one e2)))
    have ho2 := store_at (es' := es2) (t' := t3) ho1 rfl
    exact wpAny_pure (hR _ (sb1.trans (Heap.SameBut.update _ a _)) ⟨_, es2, _, t3, k, u, ho2, hex, rfl, e2, hf3, hr3, hl.imp id fun z => by rw [hl3]; exact z⟩)
  · exact wpAny_pure (hR _ sb1 ⟨_, es1, _, t2, k, u, ho1, hex, rfl, e1, hf2, hr, hl⟩)
/-- a text put into an empty set -/
theorem one_add {x : Str} {u : Tok} {o : Obj} {ep : Nat} {t : SetTable} {Q : Bool → Shared → Prop} (ho : s.heap.get? a = some o) (hex : o.ExactSet) (hd : o.data = .set #[] ep t) (hf : t.fits 0 = true) (hr : Ris t.place.toList)
    (hl : w.params.followText "set-order" = true ∨ t.led = true) (hQ : ∀ h', Heap.SameBut a s.heap h' → OneS w h' a x → Q true { s with heap := h' }) :
    wpAny (model P w) A (setAddHashed a (.str x u) ((PySem.strKind P w).hash x)) Q E s := by
  have hkey : (PySem.strKind P w).is x (.str x u) = true := strKind_is _ _ _ _
  have hsc : (Value.str x u).scannable = true := rfl
  have hel : ElemsOf (PySem.strKind P w) (#[] : Array (Int × Value)).toList := fun e he => by cases he
  unfold setAddHashed setAddHashedIn
  refine wpAny_holding (wpAny_bind (wpAny_setState_of ho hd hf ?_))
  dsimp only
  rw [byScan_of hsc (by decide) hel]
  simp only [↓reduceIte]
  unfold setAddByScan
  refine wpAny_bind ?_
  refine wpAny_bind (wpAny_rule ?_)
  refine wpAny_bind (wpAny_setScan_of hkey ho hd hf hel ?_)
  dsimp only [List.findIdx?_nil]
  have hgw : ∀ (b : Bool) {s₁ : Shared} {Q' : Unit → Shared → Prop}, Q' () s₁ → wpAny (model P w) A (match b with | true => rule "set.scan.the-table-gave-way" | false => pure ()) Q' E s₁ :=
    fun b s₁ Q' q => by cases b <;> first | exact wpAny_pure q | exact wpAny_rule q
  have pm := layNew_perm t #[] ((PySem.strKind P w).hash x) (.str x u)
  have hf1 := layNew_fits t #[] ((PySem.strKind P w).hash x) (.str x u)
  have hr1 := layNew_ris t #[] ((PySem.strKind P w).hash x) (.str x u) hr
  have hl1 := layNew_led t #[] ((PySem.strKind P w).hash x) (.str x u)
  generalize layNew t #[] ((PySem.strKind P w).hash x) (.str x u) = Z at pm hf1 hr1 hl1 ⊢
  obtain ⟨es1, t1, wasDummy, gave⟩ := Z
  dsimp only at pm hf1 hr1 hl1 ⊢
  have e1 : es1.toList = [((PySem.strKind P w).hash x, Value.str x u)] := List.perm_singleton.mp pm
  have hled : w.params.followText "set-order" = true ∨ t1.led = true := hl.imp id fun z => by rw [hl1]; exact z
  refine wpAny_bind (hgw _ ?_)
  split
  · refine wpAny_bind ?_
    rw [hashByValue_scannable 8 hsc]
    refine wpAny_pure ?_
    refine one_tail ?_ ho hex hd e1 ?_ ?_ ?_ ?_
    · intro b s₁ Q' q; cases b <;> first | exact wpAny_pure q | exact wpAny_rule q
    · first | (split <;> first | exact hf1 | exact SetTable.fits_plain_off hf1) | exact hf1
    · first | (split <;> exact hr1) | exact hr1
    · first | (split <;> exact hled) | exact hled
    · intro h' sb r; dsimp only; exact wpAny_pure (hQ h' sb r)
  · refine wpAny_bind (wpAny_pure ?_)
    simp only [↓reduceIte]
    refine one_tail ?_ ho hex hd e1 hf1 hr1 hled ?_
    · intro b s₁ Q' q; cases b <;> first | exact wpAny_pure q | exact wpAny_rule q
    · intro h' sb r; dsimp only; exact wpAny_pure (hQ h' sb r)
theorem one_done {I : Addr} {fp wr : List Addr} {G : Array GenState → Array GenState → Prop} {Pv : Nat → Value → Prop} {St : Nat → Shared → Prop} {R : Result → Shared → Prop}
    (W : WalksS P w A.in1 I fp wr G 1 Pv St) (S : Addr) (hSf : S ∉ fp) (x : Str) (s : Shared) (hst : St 1 s) (hS : OneS w s.heap S x)
    (hR : ∀ s', Moved (S :: wr) G s s' → OneS w s'.heap S x → R (.ok (.ret .none)) s') :
    codeAny (model P w) A (.builtin "set.update.loop" ⟨[.ref S, .ref I], []⟩) R s := by
  have hSw : S ∉ wr := fun h => hSf (W.sub _ h)
  refine codeAny_builtin F.entry_set_update_loop ?_
  rw [Around.under_plainId F.plain_set_update_loop _]
  show wpAny _ A.in1 (pyNext (.ref I) >>= _) _ _ s
  refine wpAny_bind (W.done s _ _ hst fun s' hm => ?_)
  show wpAny _ A.in1 (ret Value.none) _ _ s'
  exact wpAny_pure (hR s' (hm.mono fun b hb => List.mem_cons_of_mem _ hb) (hS.at fun o e => hm.heap S o hSw e))
theorem one_loop {I : Addr} {fp wr : List Addr} {G : Array GenState → Array GenState → Prop} {Pv : Nat → Value → Prop} {St : Nat → Shared → Prop} {R : Result → Shared → Prop}
    (W : WalksS P w A.in1 I fp wr G 1 Pv St) (S : Addr) (hSf : S ∉ fp) (x : Str) (hval : ∀ v, Pv 0 v → ∃ t, v = .str x t) (s : Shared) (hst : St 0 s)
    (hS : s.heap.get? S = some { cls := .type "set", dict := none, data := .set #[] 0 (.fresh 0 0 (!w.params.followText "set-order")) })
    (hR : ∀ s', Moved (S :: wr) G s s' → OneS w s'.heap S x → R (.ok (.ret .none)) s') :
    codeAny (model P w) A (.builtin "set.update.loop" ⟨[.ref S, .ref I], []⟩) R s := by
  have hSw : S ∉ wr := fun h => hSf (W.sub _ h)
  have hsub : ∀ b ∈ wr, b ∈ S :: wr := fun b hb => List.mem_cons_of_mem _ hb
  refine codeAny_builtin F.entry_set_update_loop ?_
  rw [Around.under_plainId F.plain_set_update_loop _]
  show wpAny _ A.in1 (pyNext (.ref I) >>= _) _ _ s
  refine wpAny_bind (W.item 0 s _ _ (Nat.lt_succ_self 0) hst fun v s' hP hst' hm => ?_)
  obtain ⟨u, rfl⟩ := hval v hP
  have hS' := hm.heap S _ hSw hS
  show wpAny _ A.in1 (holding [Value.str x u] (setAdd S (.str x u)) >>= _) _ _ s'
  refine wpAny_bind (wpAny_holding ?_)
  unfold setAdd
  refine wpAny_holding ?_
  refine wpAny_bind ((PySem.strKind P w).pyHash (k := x) (strKind_is _ _ _ _) ?_)
  refine one_add (s := { s' with toks := s'.toks + 1 }) hS' ⟨rfl, rfl, rfl⟩ rfl (by rfl) List.Pairwise.nil ?_ fun h' hsb hS2 => ?_
  · show _ ∨ (!w.params.followText "set-order") = true
    cases w.params.followText "set-order"
    · exact .inr rfl
    · exact .inl rfl
  refine wpAny_pure ⟨plainId_quiet F.plain_set_update_loop _, one_done W S hSf x _ (W.frame _ s' _ _ hst' (Nat.le_succ _) fun b hb o e => ?_) hS2 fun s'' hm'' hS'' => ?_⟩
  · rw [hsb.2 b (fun h : b = S => hSf (by rw [← h]; exact hb))]; exact e
  · refine hR s'' (Moved.trans W.gtrans ((hm.mono hsub).then_heap (Nat.le_succ _) fun b o hb e => ?_) hm'') hS''
    rw [hsb.2 b (fun h : b = S => hb (by rw [h]; exact List.mem_cons_self))]; exact e
set_option maxHeartbeats 3200000 in
/-- set(xs), one text in xs -/
theorem call_set_one {l : Addr} {x : Str} {u : Tok} {Q : Value → Shared → Prop} (hh : A.handled = none) (hl : s.heap.IsList l #[.str x u])
    (h : ∀ (h' : Heap) (tk : Nat), OneS w h' s.heap.objs.size x → (∀ b o, s.heap.get? b = some o → h'.get? b = some o) → Q (.ref s.heap.objs.size) { s with heap := h', toks := tk }) :
    wpAny (model P w) A (call (.type "set") [.ref l]) Q E s := by
  obtain ⟨c, tl, hmro⟩ := F.called_set.mro
  have hmade := F.called_set.made
  have hsub := F.called_set.sub
  refine wpAny_call (codeAny_of_tree ?_)
  show wpAny _ _ (callAny (.type "set") _) _ _ _
  refine wpAny_pure ⟨Code.quiet_builtin _ (by decide +kernel), codeAny_builtin F.entry_type_call ?_⟩
  rw [Around.under_plain (weight_type_call_type "set" [.ref l] []) rfl]
  have h1 := F.called_set.notType
  have h2 := F.called_set.canCreate
  have hct := F.typeCall_set_1 (.ref l)
  repeat (any_goals (first | assumption | wp_step))
  refine codeAny_mono (code_set_led1 (.ref l) (E := E) (Q₁ := fun obj s₁ => obj = .ref s.heap.objs.size ∧ s₁ = { s with heap := s.heap.push { cls := .type "set", dict := none, data := .set #[] 0 (.fresh 0 0 (!w.params.followText "set-order")) } }) ⟨rfl, rfl⟩) fun r s₁ hr => ?_
  cases r with
  | error e => exact hr
  | ok fl =>
    cases fl with
    | ret obj =>
      obtain ⟨rfl, rfl⟩ := hr
      have hS : (s.heap.push { cls := .type "set", dict := none, data := .set #[] 0 (.fresh 0 0 (!w.params.followText "set-order")) }).get? s.heap.objs.size = some { cls := .type "set", dict := none, data := .set #[] 0 (.fresh 0 0 (!w.params.followText "set-order")) } := Heap.get?_push_size _ rfl
      have hT : Shared.TypeIs { s with heap := s.heap.push { cls := .type "set", dict := none, data := .set #[] 0 (.fresh 0 0 (!w.params.followText "set-order")) } } (.ref s.heap.objs.size) "set" := ⟨_, hS, rfl⟩
      have hli := F.called_set.init.lookup
      have hbi := F.called_set.init.bind (.ref s.heap.objs.size)
      repeat (any_goals (first | assumption | wp_step))
      refine codeAny_mono (codeAny_call_builtin (R := wants (fun r s₂ => r = .none ∧ ∃ h' tk, s₂ = { s with heap := h', toks := tk } ∧ OneS w h' s.heap.objs.size x ∧
          (∀ b o, s.heap.get? b = some o → h'.get? b = some o)) E) F.called_set.init.plain F.entry_set_init (check_set_init_1 hT ?_)) fun r₂ s₂ hr₂ => ?_
      · obtain ⟨ol, hol, hcl, nl, hdl⟩ := hl
        obtain ⟨ocls, odict, odata, oslots⟩ := ol
        simp only at hcl hdl
        subst hcl; subst hdl
        have hol' : (s.heap.push { cls := .type "set", dict := none, data := .set #[] 0 (.fresh 0 0 (!w.params.followText "set-order")) }).get? l = some { cls := .type "list", dict := odict, data := .seq #[.str x u] nl, slots := oslots } := Heap.get?_push_of_some _ hol
        have hsls := F.sub_list_set
        have hslf := F.sub_list_frozenset
        have hne : (Value.type "list" == Value.type "dict") = false := by decide
        have hl1 : (s.heap.push { cls := .type "set", dict := none, data := .set #[] 0 (.fresh 0 0 (!w.params.followText "set-order")) }).IsList l #[.str x u] := ⟨_, hol', rfl, nl, rfl⟩
        unfold Builtin.«set.__init__» noKeywords Builtin.Frozenset.updateFrom
        generalize hPI : pyIter = PI
        wp_walk
        subst hPI
        refine wpAny_pyIter_list hl1 ?_
        refine wpAny_bind (wpAny_runValue ?_)
        have hlS : l < s.heap.objs.size := Heap.lt_size hol
        have hh3 : A.in1.in1.in1.handled = none := by simp [hh]
        have hneI : l ≠ (s.heap.push { cls := .type "set", dict := none, data := .set #[] 0 (.fresh 0 0 (!w.params.followText "set-order")) }).objs.size := by
          rw [Heap.size_push]; exact Nat.ne_of_lt (Nat.lt_succ_of_lt hlS)
        have hSf : s.heap.objs.size ∉ [(s.heap.push { cls := .type "set", dict := none, data := .set #[] 0 (.fresh 0 0 (!w.params.followText "set-order")) }).objs.size, l] := by
          rw [Heap.size_push]; simp only [List.mem_cons, List.mem_singleton, List.not_mem_nil, or_false, not_or]
          exact ⟨Nat.ne_of_lt (Nat.lt_succ_self _), Nat.ne_of_gt hlS⟩
        refine one_loop ((Walks.list hh3 _ l hneI #[.str x u]).toS) s.heap.objs.size hSf x (fun v hv => ⟨u, (Option.some.inj hv).symm⟩) _
          ⟨⟨_, Heap.get?_push_size _ rfl, rfl, rfl⟩, (hl1.push _)⟩ ?hS0 ?hR
        case hS0 =>
          exact Heap.get?_push_of_some _ hS
        case hR =>
          intro s' hm hS'
          obtain ⟨h', g2, d', tk', os'⟩ := s'
          have eg : g2 = s.gens := hm.gens
          have ed : d' = s.drawn := hm.drawn
          have eo : os' = s.os := hm.os
          subst eg; subst ed; subst eo
          show wpAny _ _ _ _ _ _
          refine wpAny_pure ?_
          show wpAny _ _ (ret Value.none) _ _ _
          refine wpAny_pure ⟨rfl, h', tk', rfl, hS', fun b o e => ?_⟩
          have hb0 : b < s.heap.objs.size := Heap.lt_size e
          have hb1 : b ≠ s.heap.objs.size := Nat.ne_of_lt hb0
          have hb2 : b ≠ (s.heap.push { cls := .type "set", dict := none, data := .set #[] 0 (.fresh 0 0 (!w.params.followText "set-order")) }).objs.size := by
            rw [Heap.size_push]; exact Nat.ne_of_lt (Nat.lt_succ_of_lt hb0)
          exact hm.heap b o (by simp only [List.mem_cons, List.mem_singleton, List.not_mem_nil, or_false, not_or]; exact ⟨hb1, hb2⟩) (Heap.get?_push_of_some _ (Heap.get?_push_of_some _ e))
      · cases r₂ with
        | error e => exact hr₂
        | ok fl₂ =>
          cases fl₂ with
          | ret r =>
            obtain ⟨rfl, h', tk, rfl, hS', hk'⟩ := hr₂
            repeat (any_goals (first | assumption | wp_step))
            exact h _ _ hS' hk'
          | _ => exact hr₂.elim
    | _ => exact hr.elim
end
end Q
set_option maxRecDepth 100000
set_option maxHeartbeats 4000000
/-! QSetS2: sorted(set(xs)) of one text -/
namespace Q
open PySem PySem.Spec PyProof.Rows L2
open Evl (Ex)
open PySem.W (EachIs AllAlike Sortable dataLe)
section
variable {P : Program} {w : World} {A : Around} {E : Value → Shared → Prop} {s : Shared} {a : Addr}
theorem sorted_one {x : Str} {Q : Value → Shared → Prop} (R : OneS w s.heap a x) (hh : A.handled = none) (hu : A.units + 66 < cLine)
    (hQ : ∀ s' p c u, (∀ b o, s.heap.get? b = some o → s'.heap.get? b = some o) → s'.gens = s.gens → s'.os = s.os → s.heap.objs.size ≤ p → s'.heap.get? p = some (seqObj "list" #[.str x u] c) → Q (.ref p) s') :
    wpAny (model P w) A (call (.builtin "sorted") [.ref a]) Q E s := by
  obtain ⟨o, es, ep, t, k, u, ho, hex, hd, he, hf, hr, hl⟩ := R
  refine Calls.call_function_entry PyProof.Rows.kind_sorted PyProof.Rows.plain_sorted PyProof.Rows.entry_sorted (PyProof.Rows.args_sorted1 _) ?_
  unfold Builtin.«sorted»
  refine wpAny_bind (m := checkCount "sorted" 1 1 _) (wpAny_pure ?_)
  refine wpAny_bind (collect_set (A := A.in1) hh ⟨o, ho, hex.1, hd⟩ hf (fits_one he) hr hl fun s1 vs k1 hz g1 o1 pm => ?_)
  rw [he] at pm
  have ev : vs = [Value.str x u] := List.perm_singleton.mp pm
  subst ev
  have hL : ([Value.str x u] : List Value).length ≤ sizeLine := by
    rw [sizeLine_eq]
    show 1 ≤ _
    omega
  refine wpAny_bind (wpAny_newList ?_ hL)
  have hoL : (s1.heap.push (seqObj "list" [Value.str x u].toArray 0)).get? s1.heap.objs.size = some (seqObj "list" [Value.str x u].toArray 0) := Heap.get?_push_size _ rfl
  have ea : EachIs (fun v (d : PyData) => v = Value.str x u ∧ d = .str x) [Value.str x u] [PyData.str x] := .cons ⟨rfl, rfl⟩ .nil
  have er : ∀ h : Heap, EachIs (fun v (d : PyData) => ∃ as, Reads h v (id d) as) [Value.str x u] [PyData.str x] := fun h => .cons ⟨[], .str x u⟩ .nil
  have hal : AllAlike ([PyData.str x].map id) := fun d hd d' hd' => by
    cases List.mem_singleton.mp hd
    cases List.mem_singleton.mp hd'
    rfl
  have hk : Sortable ([PyData.str x].map id) := .inr fun d hd => by
    cases List.mem_singleton.mp hd
    exact ⟨fun z => PyData.noConfusion z, fun xs z => PyData.noConfusion z⟩
  refine wpAny_bind (wpAny_holding (wpAny_call_entry PyProof.Rows.slot_list_sort ⟨_, hoL, rfl⟩ PyProof.Rows.entry_list_sort
    (PySem.W.list_sort_vals (s := { s1 with heap := s1.heap.push (seqObj "list" [Value.str x u].toArray 0) }) hoL (PySem.W.SortsAt.data (ds := [PyData.str x].map id) (s := { s1 with heap := PySem.W.sortingHeap (s1.heap.push (seqObj "list" [Value.str x u].toArray 0)) s1.heap.objs.size [Value.str x u] }) (PySem.W.each_map (R := fun v d => ∃ as, Reads _ v d as) id (er _)) hal hk (fun d hd => ?_)) hL ⟨_, rfl, ?_⟩) (PyProof.Rows.args_list_sort _)))
  · cases List.mem_singleton.mp hd
    show A.units + 1 + 1 + _ < cLine
    have : (id (PyData.str x)).depth ≤ 64 := by
      show PyData.depth (.str x) ≤ 64
      rw [PyData.depth]
      decide
    omega
  · have eo := PySem.W.sortVals_data (h' := PySem.W.sortingHeap (s1.heap.push (seqObj "list" [Value.str x u].toArray 0)) s1.heap.objs.size [Value.str x u]) false ea (er _) hal
    rw [List.mergeSort_singleton] at eo
    obtain ⟨e', he'⟩ := PyProof.Rows.sortedHeap_at (vs := [Value.str x u]) (out := (PySem.W.sortVals (PySem.W.dataKind (PySem.W.sortingHeap (s1.heap.push (seqObj "list" [Value.str x u].toArray 0)) s1.heap.objs.size [Value.str x u]) ([PyData.str x].map id)) false [Value.str x u] [Value.str x u]).toArray) hoL
    generalize (PySem.W.sortVals _ false [Value.str x u] [Value.str x u]) = out at eo he'
    cases eo with
    | cons e1 e2 =>
      cases e2
      obtain ⟨rfl, _⟩ := e1
      refine wpAny_pure ⟨_, rfl, hQ _ s1.heap.objs.size e' u (fun b o2 e => ?_) g1 o1 hz he'⟩
      have q := k1 b o2 e
      have hb := Heap.lt_size q
      show (PyProof.Rows.sortedHeap (s1.heap.push _) s1.heap.objs.size _ _).get? b = some o2
      rw [PyProof.Rows.sortedHeap_old (Nat.ne_of_lt hb) (by rw [size_push']; exact Nat.lt_succ_of_lt hb)]
      exact Heap.get?_push_of_some _ q
end
end Q
/-! QOpsT2: sorted(set(xs)) of one text -/
namespace Q
def uSortedSet : U → Option U
  | .lst [.str x] => some (.lst [.str x])
  | _ => none
end Q
set_option maxRecDepth 100000
set_option maxHeartbeats 4000000
/-! QSetS3: sorted(set(xs)) of one text, as an expression -/
namespace Q
open PySem PySem.Spec PyProof.Rows L2
open Evl (Ex)
theorem bo_set : bootBuiltins "set" = some (.type "set") := by decide +kernel
section
variable {X : Cx} {c : Cn} {W : WX}
def tSS (K : PySem.W.Frag) (ta : TE) : TE := fun σ H Q => ta σ H fun x H1 => ∃ (l : Addr) (y : Str), x = .ref l ∧ SqL K H1 l [V.str y] ∧ ∀ p, H1 p = none → Q (.ref p) (upd H1 p (.lst [V.str y]))
theorem ss_fin {pins : List (Addr × Obj)} {σ : L2.St} {H1 : Hp} {s2 s' : Shared} {Q : VK} {p : Addr} {y : Str} {cc : Nat} {u' : Tok} (I2 : Inv X pins σ H1 s2) (k : ∀ b o, s2.heap.get? b = some o → s'.heap.get? b = some o) (g : s'.gens = s2.gens) (o : s'.os = s2.os)
    (hp : s2.heap.objs.size ≤ p) (hg : s'.heap.get? p = some (seqObj "list" #[.str y u'] cc)) (q : Q (.ref p) (upd H1 p (.lst [V.str y]))) : EP X pins σ Q (.ref p) s' := by
  have hn : H1 p = none := I2.hok.fresh hp
  have J : Inv X pins σ (upd H1 p (.lst [V.str y])) { s2 with heap := s'.heap, gens := s'.gens, drawn := s'.drawn, toks := s'.toks } :=
    I2.call (ch := []) (Un.laid k hp hn) (I2.hok.laid k hp ⟨by rw [sizeLine_eq]; show 1 ≤ _; omega, [Value.str y u'], cc, .cons ⟨u', rfl⟩ .nil, hg⟩) (by rw [g]; exact I2.bare) (fun _ z => nomatch z)
  have e : s' = { s2 with heap := s'.heap, gens := s'.gens, drawn := s'.drawn, toks := s'.toks } := by
    cases s'
    cases s2
    cases o
    rfl
  rw [e]
  exact ⟨.ref p, _, J, rfl, q⟩
theorem pe_sortedSet {a : Expr} {ta : TE} {p p2 q pos : Pos} {j : Nat} (hc : X.calm = true) (hr : Room j X.A) (hm : X.mg "sorted" = none) (hm2 : X.mg "set" = none) (ha : PE X a ta) (hg : Gl X "sorted") (hg2 : Gl X "set")
    (na : starEach [a] X.env = (false, eval a X.env) :: starEach [] X.env := by rfl) : PE X (.Call (.Name "sorted" p) [.Call (.Name "set" p2) [a] [] q] [] pos) (tSS X.K ta) := by
  refine ⟨fun pins s σ H Q I h => ?_⟩
  refine Call_ (ld_blt I hg hm bo_sorted ?_)
  refine PyProof.Rows.callWith_builtin1 (PyProof.Rows.args_cons ?_ rfl) rfl rfl
  refine Call_ (ld_blt I hg2 hm2 bo_set ?_)
  refine PyProof.Rows.callWith_type1 (PyProof.Rows.args_cons (thn (ha.run pins s σ H _ I h) fun v s1 ⟨x, H1, I1, r1, q1⟩ => PyProof.Rows.args_nil ?_) na) na rfl
  obtain ⟨l, y, rfl, hq, q1⟩ := q1
  cases r1
  obtain ⟨its, r, pl, hz⟩ := I1.list hq
  obtain ⟨u, rfl⟩ : ∃ u, its = [Value.str y u] := by
    cases r with
    | cons r1 r2 =>
      cases r2
      obtain ⟨u, rfl⟩ := r1
      exact ⟨u, rfl⟩
  have hu := hr.un
  refine call_set_one (I1.ok.hd hc) pl.isList fun h' tk hS hk => ?_
  refine PyProof.Rows.args_nil ?_
  have I2 : Inv X pins σ H1 { s1 with heap := h', toks := tk } := I1.kept fun b o e => hk b o e
  refine sorted_one (s := { s1 with heap := h', toks := tk }) hS (I1.ok.hd hc) (by omega) fun s' p cc u' k g o hp hg => ?_
  exact ss_fin I2 k g o hp hg (q1 p (I2.hok.fresh hp))
theorem qe_sortedSet {a : Expr} {fa : EF} {p p2 q pos : Pos} {j : Nat} (hc : X.calm = true) (hr : Room j X.A) (hm : X.mg "sorted" = none) (hm2 : X.mg "set" = none) (ha : QE X c W a fa) (hg : Gl X "sorted" := by rfl) (hg2 : Gl X "set" := by rfl)
    (na : starEach [a] X.env = (false, eval a X.env) :: starEach [] X.env := by rfl) : QE X c W (.Call (.Name "sorted" p) [.Call (.Name "set" p2) [a] [] q] [] pos) (e1 uSortedSet fa) :=
  PE.weak (pe_sortedSet hc hr hm hm2 ha hg hg2 na) fun σ H Q ⟨G, ρ, r, h⟩ => by
    refine ⟨G, ρ, r, (PQ.bind (rel := relU (Cx.T X)) h).imp fun x H1 ⟨G1, ρ1, u, s1, r1, l1, h1⟩ => ?_⟩
    obtain ⟨z, hz, h3⟩ := rs_ok h1
    unfold uSortedSet at hz
    split at hz
    · rename_i y
      cases hz
      obtain ⟨b, vs, rfl, h4, h5⟩ := rep_lst.1 l1
      obtain ⟨v, rfl, e1⟩ := reps1 h5
      cases rep_str.1 e1
      exact ⟨b, _, rfl, Evl.ex_l r1.ex h4, fun p2 hp => nuN_S r1 h3 p2 _ hp h5⟩
    · cases hz
end
end Q
/-! the defs that the laws have in common, as pure functions (printed by gen.py) -/
namespace LB
open Q
open PySem (Str)
def b_is_from : SF :=
    (sRet (eAnd (eB bIsInst (aCons (eV 0) (aCons (eC (.ty "int")) aNil))) (eAnd (eNot (eB bIsInst (aCons (eV 0) (aCons (eC (.ty "bool")) aNil)))) (eChain uLeI uLeI (eV 1) (eV 0) (eV 2)))))
def fn_is_from : List U → FR := fnOf false false 3 3 b_is_from
def b_are_gaps : SF :=
    (sSeq (sIf (tOr (tNot (tB (eB bIsInst (aCons (eV 1) (aCons (eC (.ty "tuple")) aNil))))) (tNot (tB (eB bAll (aCons (eComp [2] (iSeq (eV 1)) (gN 2) tTrue (eCall fn_is_from (aCons (eV 2) (aCons (eC (.int 1)) (aCons (e2 uSub (eV 0) (eC (.int 1))) aNil))))) aNil))))) (sRet (eC (.bl false))) sNil)
    (sRet (eB bAll (aCons (eComp [3, 4] (iZip2 (aCons (eV 1) (aCons (eSl (eV 1) (oSome (eC (.int 1))) oNo) aNil))) (gT (gsCons (gN 3) (gsCons (gN 4) gsNil))) tTrue (e2 uLtI (eV 3) (eV 4))) aNil))))
def fn_are_gaps : List U → FR := fnOf false false 5 2 b_are_gaps
def l_blocks_of_1 : SF :=
    (sIf (tB (e2 uIn (eV 3) (eV 1))) (sSet 2 (e2 uAdd (eSl (eV 2) oNo (oSome (e1 uNeg (eC (.int 1))))) (eLst (aCons (e2 uAdd (e2 uIx (eV 2) (e1 uNeg (eC (.int 1)))) (eV 4)) aNil)))) (sSet 2 (e2 uAdd (eV 2) (eLst (aCons (eV 4) aNil)))))
def b_blocks_of : SF :=
    (sSeq (sSet 2 (eLst aNil))
    (sSeq (sFor (iEnum (aCons (eV 0) aNil)) (gT (gsCons (gN 3) (gsCons (gN 4) gsNil))) l_blocks_of_1)
    (sRet (eV 2))))
def fn_blocks_of : List U → FR := fnOf false false 5 2 b_blocks_of
def b_is_piece : SF :=
    (sSeq (sIf (tOr (tNot (tB (eB bIsInst (aCons (eV 0) (aCons (eC (.ty "tuple")) aNil))))) (tB (e2 uNe (eB bLen (aCons (eV 0) aNil)) (eC (.int 4))))) (sRet (eC (.bl false))) sNil)
    (sSeq (sAsg (eV 0) (gT (gsCons (gN 1) (gsCons (gN 2) (gsCons (gN 3) (gsCons (gN 4) gsNil))))))
    (sSeq (sIf (tOr (tNot (tB (eB bIsInst (aCons (eV 1) (aCons (eC (.ty "tuple")) aNil))))) (tNot (tB (eChain uLeI uLeI (eC (.int 1)) (eB bLen (aCons (eV 1) aNil)) (eC (.int 30)))))) (sRet (eC (.bl false))) sNil)
    (sSeq (sIf (tOr (tNot (tB (eB bAll (aCons (eComp [5] (iSeq (eV 1)) (gN 5) tTrue (eCall fn_is_from (aCons (eV 5) (aCons (eC (.int 1)) (aCons (eC (.int 20)) aNil))))) aNil)))) (tNot (tB (eCall fn_is_from (aCons (eV 2) (aCons (eC (.int 1)) (aCons (eC (.int 100)) aNil))))))) (sRet (eC (.bl false))) sNil)
    (sSeq (sIf (tOr (tNot (tB (eCall fn_are_gaps (aCons (eB bLen (aCons (eV 1) aNil)) (aCons (eV 3) aNil))))) (tNot (tB (eCall fn_are_gaps (aCons (eB bLen (aCons (eV 1) aNil)) (aCons (eV 4) aNil)))))) (sRet (eC (.bl false))) sNil)
    (sRet (eAnd (eNot (eB bAny (aCons (eComp [6] (iSeq (eV 3)) (gN 6) tTrue (e2 uIn (eV 6) (eV 4))) aNil))) (e2 uLeI (eB bMax1 (aCons (eCall fn_blocks_of (aCons (eV 1) (aCons (eV 3) aNil))) aNil)) (eV 2)))))))))
def fn_is_piece : List U → FR := fnOf false false 7 1 b_is_piece
def b_is_direction : SF :=
    (sRet (eAnd (eB bIsInst (aCons (eV 0) (aCons (eC (.ty "str")) aNil))) (e2 uIn (eV 0) (eTup (aCons (eC (.str [100, 111, 119, 110])) (aCons (eC (.str [117, 112])) aNil))))))
def fn_is_direction : List U → FR := fnOf false false 1 1 b_is_direction
def l_good_wishes_1 : SF :=
    (sSeq (sIf (tOr (tNot (tB (eB bIsInst (aCons (eV 2) (aCons (eC (.ty "tuple")) aNil))))) (tB (e2 uNe (eB bLen (aCons (eV 2) aNil)) (eC (.int 2))))) (sRet (eC (.bl false))) sNil)
    (sIf (tOr (tNot (tB (eCall fn_is_from (aCons (e2 uIx (eV 2) (eC (.int 0))) (aCons (eC (.int 0)) (aCons (e2 uSub (eB bLen (aCons (e2 uIx (eV 0) (eC (.int 0))) aNil)) (eC (.int 1))) aNil)))))) (tNot (tB (eCall fn_is_direction (aCons (e2 uIx (eV 2) (eC (.int 1))) aNil))))) (sRet (eC (.bl false))) sNil))
def b_good_wishes : SF :=
    (sSeq (sIf (tNot (tB (eB bIsInst (aCons (eV 1) (aCons (eC (.ty "tuple")) aNil))))) (sRet (eC (.bl false))) sNil)
    (sSeq (sFor (iSeq (eV 1)) (gN 2) l_good_wishes_1)
    (sRet (eB bAll (aCons (eComp [3, 4] (iZip2 (aCons (eV 1) (aCons (eSl (eV 1) (oSome (eC (.int 1))) oNo) aNil))) (gT (gsCons (gN 3) (gsCons (gN 4) gsNil))) tTrue (e2 uLtI (e2 uIx (eV 3) (eC (.int 0))) (e2 uIx (eV 4) (eC (.int 0))))) aNil)))))
def fn_good_wishes : List U → FR := fnOf false false 5 2 b_good_wishes
def b_is_wishes : SF :=
    (sSeq (sIf (tNot (tB (eCall fn_is_piece (aCons (eV 0) aNil)))) (sRaise "InvalidPiece") sNil)
    (sRet (eCall fn_good_wishes (aCons (eV 0) (aCons (eV 1) aNil)))))
def fn_is_wishes : List U → FR := fnOf false false 2 2 b_is_wishes
def b_breaks_of : SF :=
    (sRet (eB bTuple (aCons (eComp [1] (iRange2 (aCons (eC (.int 1)) (aCons (eB bLen (aCons (eV 0) aNil)) aNil))) (gN 1) (tB (e2 uGtI (e2 uIx (eV 0) (eV 1)) (e2 uIx (eV 0) (e2 uSub (eV 1) (eC (.int 1)))))) (eV 1)) aNil)))
def fn_breaks_of : List U → FR := fnOf false false 2 1 b_breaks_of
def b_need_wishes : SF :=
    (sSeq (sIf (tNot (tB (eCall fn_is_piece (aCons (eV 0) aNil)))) (sRaise "InvalidPiece") sNil)
    (sIf (tNot (tB (eCall fn_good_wishes (aCons (eV 0) (aCons (eV 1) aNil))))) (sRaise "InvalidWishes") sNil))
def fn_need_wishes : List U → FR := fnOf false false 2 2 b_need_wishes
def b_first_direction : SF :=
    (sRet (eIf (tB (e2 uIn (eTup (aCons (eC (.int 0)) (aCons (eC (.str [117, 112])) aNil))) (eV 0))) (eC (.str [117, 112])) (eC (.str [100, 111, 119, 110]))))
def fn_first_direction : List U → FR := fnOf false false 1 1 b_first_direction
def b_turned : SF :=
    (sRet (eIf (tB (e2 uEq (eV 0) (eC (.str [100, 111, 119, 110])))) (eC (.str [117, 112])) (eC (.str [100, 111, 119, 110]))))
def fn_turned : List U → FR := fnOf false false 1 1 b_turned
def b_direction_of : SF :=
    (sSeq (sSet 2 (eCall fn_first_direction (aCons (eV 0) aNil)))
    (sRet (eIf (tB (e2 uEq (e2 uMod (eV 1) (eC (.int 2))) (eC (.int 1)))) (eV 2) (eCall fn_turned (aCons (eV 2) aNil)))))
def fn_direction_of : List U → FR := fnOf false false 3 2 b_direction_of
def b_stroke_right : SF :=
    (sSeq (sAsg (eV 0) (gT (gsCons (gN 5) (gsCons (gN 6) (gsCons (gN 7) (gsCons (gN 8) gsNil))))))
    (sSeq (sIf (tOr (tB (e2 uGtI (eB bSum (aCons (eSl (eV 5) (oSome (eV 2)) (oSome (eV 3))) aNil)) (eV 6))) (tB (e2 uIn (eV 3) (eV 7)))) (sRet (eC (.bl false))) sNil)
    (sSeq (sIf (tB (eB bAny (aCons (eComp [9] (iSeq (eV 8)) (gN 9) tTrue (eChain uLtI uLtI (eV 2) (eV 9) (eV 3))) aNil))) (sRet (eC (.bl false))) sNil)
    (sRet (eB bAll (aCons (eComp [10, 11] (iSeq (eV 1)) (gT (gsCons (gN 10) (gsCons (gN 11) gsNil))) (tB (eChain uLeI uLtI (eV 2) (eV 10) (eV 3))) (e2 uEq (eV 11) (eV 4))) aNil))))))
def fn_stroke_right : List U → FR := fnOf false false 12 5 b_stroke_right
def l_rests_1 : SF :=
    (sIf (tB (eCall fn_stroke_right (aCons (eV 0) (aCons (eV 1) (aCons (eV 4) (aCons (eV 7) (aCons (eCall fn_direction_of (aCons (eV 1) (aCons (eB bInt (aCons (eV 5) aNil)) aNil))) aNil))))))) (sAug 6 uAddI (eIxM 3 uIx (eTup (aCons (eV 7) (aCons (eNot (eV 5)) aNil))))) sNil)
def l_rests_2 : SF :=
    (sSeq (sSet 6 (eC (.int 0)))
    (sSeq (sFor (iRange2 (aCons (e2 uAdd (eV 4) (eC (.int 1))) (aCons (e2 uAdd (eV 2) (eC (.int 1))) aNil))) (gN 7) l_rests_1)
    (sDPut 3 (eTup (aCons (eV 4) (aCons (eV 5) aNil))) (eV 6))))
def l_rests_3 : SF :=
    (sFor (iSeq (eTup (aCons (eC (.bl true)) (aCons (eC (.bl false)) aNil)))) (gN 5) l_rests_2)
def b_rests : SF :=
    (sSeq (sSet 2 (eB bLen (aCons (e2 uIx (eV 0) (eC (.int 0))) aNil)))
    (sSeq (sSet 3 (eDct [((eTup (aCons (eV 2) (aCons (eC (.bl true)) aNil))), (eC (.int 1))), ((eTup (aCons (eV 2) (aCons (eC (.bl false)) aNil))), (eC (.int 1)))]))
    (sSeq (sFor (iRange3 (aCons (e2 uSub (eV 2) (eC (.int 1))) (aCons (e1 uNeg (eC (.int 1))) (aCons (e1 uNeg (eC (.int 1))) aNil)))) (gN 4) l_rests_3)
    (sRet (eV 3)))))
def fn_rests : List U → FR := fnOf false false 8 2 b_rests
def b_total : SF :=
    (sRet (e2 uIx (eCall fn_rests (aCons (eV 0) (aCons (eV 1) aNil))) (eTup (aCons (eC (.int 0)) (aCons (eC (.bl true)) aNil)))))
def fn_total : List U → FR := fnOf false false 2 2 b_total
def b_need_possible : SF :=
    (sSeq (sExpr (eCall fn_need_wishes (aCons (eV 0) (aCons (eV 1) aNil))))
    (sIf (tB (e2 uEq (eCall fn_total (aCons (eV 0) (aCons (eV 1) aNil))) (eC (.int 0)))) (sRaise "NotPossible") sNil))
def fn_need_possible : List U → FR := fnOf false false 2 2 b_need_possible
def l_begins_1 : SF :=
    (sIf (tB (eCall fn_stroke_right (aCons (eV 0) (aCons (eV 1) (aCons (eV 4) (aCons (eV 7) (aCons (eCall fn_direction_of (aCons (eV 1) (aCons (eV 5) aNil))) aNil))))))) (sDPut 3 (eTup (aCons (eV 7) (aCons (e2 uAdd (eV 5) (eC (.int 1))) aNil))) (e2 uAdd (eGetM 3 (eTup (aCons (eV 7) (aCons (e2 uAdd (eV 5) (eC (.int 1))) aNil))) (eC (.int 0))) (eV 6))) sNil)
def l_begins_2 : SF :=
    (sSeq (sSet 6 (eGetM 3 (eTup (aCons (eV 4) (aCons (eV 5) aNil))) (eC (.int 0))))
    (sIf (tB (e2 uGtI (eV 6) (eC (.int 0)))) (sFor (iRange2 (aCons (e2 uAdd (eV 4) (eC (.int 1))) (aCons (e2 uAdd (eV 2) (eC (.int 1))) aNil))) (gN 7) l_begins_1) sNil))
def l_begins_3 : SF :=
    (sFor (iRange2 (aCons (eC (.int 1)) (aCons (e2 uAdd (eV 4) (eC (.int 2))) aNil))) (gN 5) l_begins_2)
def b_begins : SF :=
    (sSeq (sPar (gNs [2, 3]) (aCons (eB bLen (aCons (e2 uIx (eV 0) (eC (.int 0))) aNil)) (aCons (eDct [((eTup (aCons (eC (.int 0)) (aCons (eC (.int 1)) aNil))), (eC (.int 1)))]) aNil)))
    (sSeq (sFor (iRange1 (aCons (eV 2) aNil)) (gN 4) l_begins_3)
    (sRet (eV 3))))
def fn_begins : List U → FR := fnOf false false 8 2 b_begins
def l_strokes_through_1 : SF :=
    (sIf (tB (eCall fn_stroke_right (aCons (eV 0) (aCons (eV 1) (aCons (eV 5) (aCons (eV 7) (aCons (eCall fn_direction_of (aCons (eV 1) (aCons (eV 6) aNil))) aNil))))))) (sSeq (sSet 8 (e2 uMul (e2 uIx (eV 2) (eTup (aCons (eV 5) (aCons (eV 6) aNil)))) (e2 uIx (eV 3) (eTup (aCons (eV 7) (aCons (e2 uEq (e2 uMod (eV 6) (eC (.int 2))) (eC (.int 0))) aNil))))))
    (sIf (tB (e2 uGtI (eV 8) (eC (.int 0)))) (sAppend 4 (eTup (aCons (eV 5) (aCons (eV 7) (aCons (eV 6) (aCons (eV 8) aNil)))))) sNil)) sNil)
def l_strokes_through_2 : SF :=
    (sIf (tB (e2 uLtI (eV 5) (eB bLen (aCons (e2 uIx (eV 0) (eC (.int 0))) aNil)))) (sFor (iRange2 (aCons (e2 uAdd (eV 5) (eC (.int 1))) (aCons (e2 uAdd (eB bLen (aCons (e2 uIx (eV 0) (eC (.int 0))) aNil)) (eC (.int 1))) aNil))) (gN 7) l_strokes_through_1) sNil)
def b_strokes_through : SF :=
    (sSeq (sPar (gNs [2, 3, 4]) (aCons (eCall fn_begins (aCons (eV 0) (aCons (eV 1) aNil))) (aCons (eCall fn_rests (aCons (eV 0) (aCons (eV 1) aNil))) (aCons (eLst aNil) aNil))))
    (sSeq (sFor (iSeq (eB bSortedA (aCons (eV 2) aNil))) (gT (gsCons (gN 5) (gsCons (gN 6) gsNil))) l_strokes_through_2)
    (sRet (eV 4))))
def fn_strokes_through : List U → FR := fnOf false false 9 2 b_strokes_through
def b_numbers_by_note : SF :=
    (sSeq (sNbn 2 8 [3, 4, 5, 6, 7] (iSeq (e2 uIx (eV 0) (eC (.int 0)))) (iSeq (eCall fn_strokes_through (aCons (eV 0) (aCons (eV 1) aNil)))))
    (sRet (eComp [9] (iSeq (eV 2)) (gN 9) tTrue (eB bSorted (aCons (eV 9) aNil)))))
def fn_numbers_by_note : List U → FR := fnOf false false 10 2 b_numbers_by_note
def b_least_bowing : SF :=
    (sSeq (sExpr (eCall fn_need_possible (aCons (eV 0) (aCons (eV 1) aNil))))
    (sRet (eCall fn_breaks_of (aCons (eComp [2] (iSeq (eCall fn_numbers_by_note (aCons (eV 0) (aCons (eV 1) aNil)))) (gN 2) tTrue (e2 uIx (eV 2) (eC (.int 0)))) aNil))))
def fn_least_bowing : List U → FR := fnOf false false 3 2 b_least_bowing
def b_greatest_bowing : SF :=
    (sSeq (sExpr (eCall fn_need_possible (aCons (eV 0) (aCons (eV 1) aNil))))
    (sRet (eCall fn_breaks_of (aCons (eComp [2] (iSeq (eCall fn_numbers_by_note (aCons (eV 0) (aCons (eV 1) aNil)))) (gN 2) tTrue (e2 uIx (eV 2) (e1 uNeg (eC (.int 1))))) aNil))))
def fn_greatest_bowing : List U → FR := fnOf false false 3 2 b_greatest_bowing
def b_stroke_range : SF :=
    (sSeq (sExpr (eCall fn_need_possible (aCons (eV 0) (aCons (eV 1) aNil))))
    (sSeq (sSet 2 (e2 uIx (eCall fn_numbers_by_note (aCons (eV 0) (aCons (eV 1) aNil))) (e1 uNeg (eC (.int 1)))))
    (sRet (eTup (aCons (e2 uIx (eV 2) (eC (.int 0))) (aCons (e2 uIx (eV 2) (e1 uNeg (eC (.int 1)))) aNil))))))
def fn_stroke_range : List U → FR := fnOf false false 3 2 b_stroke_range
def b_stops_in_order : SF :=
    (sSeq (sSet 2 (eB bLen (aCons (e2 uIx (eV 0) (eC (.int 0))) aNil)))
    (sRet (e2 uAdd (eLst (aCons (eV 2) aNil)) (eListRg (aCons (e2 uAdd (eV 1) (eC (.int 1))) (aCons (eV 2) aNil))))))
def fn_stops_in_order : List U → FR := fnOf false false 3 2 b_stops_in_order
def l_bowing_at_1 : SF :=
    (sSeq (sSet 8 (e2 uIx (eV 3) (eTup (aCons (eV 7) (aCons (e2 uEq (e2 uMod (eV 6) (eC (.int 2))) (eC (.int 0))) aNil)))))
    (sIf (tB (eCall fn_stroke_right (aCons (eV 0) (aCons (eV 1) (aCons (eV 5) (aCons (eV 7) (aCons (eCall fn_direction_of (aCons (eV 1) (aCons (eV 6) aNil))) aNil))))))) (sSeq (sIf (tB (e2 uLtI (eV 2) (eV 8))) (sSeq (sAppend 4 (eV 7))
    sBreak) sNil)
    (sAug 2 uSub (eV 8))) sNil))
def l_bowing_at_2 : SF :=
    (sSeq (sFor (iSeq (eCall fn_stops_in_order (aCons (eV 0) (aCons (eV 5) aNil)))) (gN 7) l_bowing_at_1)
    (sPar (gNs [5, 6]) (aCons (eIxM 4 uIx (e1 uNeg (eC (.int 1)))) (aCons (e2 uAdd (eV 6) (eC (.int 1))) aNil))))
def b_bowing_at : SF :=
    (sSeq (sExpr (eCall fn_need_possible (aCons (eV 0) (aCons (eV 1) aNil))))
    (sSeq (sIf (tNot (tB (eCall fn_is_from (aCons (eV 2) (aCons (eC (.int 0)) (aCons (e2 uSub (eCall fn_total (aCons (eV 0) (aCons (eV 1) aNil))) (eC (.int 1))) aNil)))))) (sRaise "InvalidNumber") sNil)
    (sSeq (sPar (gNs [3, 4, 5, 6]) (aCons (eCall fn_rests (aCons (eV 0) (aCons (eV 1) aNil))) (aCons (eLst aNil) (aCons (eC (.int 0)) (aCons (eC (.int 1)) aNil)))))
    (sSeq (sWhile 1000 (tB (e2 uLtI (eV 5) (eB bLen (aCons (e2 uIx (eV 0) (eC (.int 0))) aNil)))) l_bowing_at_2)
    (sRet (eB bTuple (aCons (eSl (eV 4) oNo (oSome (e1 uNeg (eC (.int 1))))) aNil)))))))
def fn_bowing_at : List U → FR := fnOf false false 9 3 b_bowing_at
def b_need_gaps : SF :=
    (sIf (tNot (tB (eCall fn_are_gaps (aCons (eB bLen (aCons (e2 uIx (eV 0) (eC (.int 0))) aNil)) (aCons (eV 1) aNil))))) (sRaise "InvalidGaps") sNil)
def fn_need_gaps : List U → FR := fnOf false false 2 2 b_need_gaps
def b_cheaper : SF :=
    (sRet (eIf (tOr (tB (e2 uIsN (eV 0) (eC .non))) (tB (e2 uLt (eV 1) (eV 0)))) (eV 1) (eV 0)))
def fn_cheaper : List U → FR := fnOf false false 2 2 b_cheaper
def l_best_edit_1 : SF :=
    (sIf (tB (eCall fn_stroke_right (aCons (eV 0) (aCons (eV 1) (aCons (eV 5) (aCons (eV 9) (aCons (eCall fn_direction_of (aCons (eV 1) (aCons (eB bInt (aCons (eV 6) aNil)) aNil))) aNil))))))) (sSeq (sSet 10 (eB bLen (aCons (eComp [13] (iSeq (eV 2)) (gN 13) (tB (eChain uLtI uLtI (eV 5) (eV 13) (eV 9))) (eV 13)) aNil)))
    (sSeq (sAug 10 uAddI (eB bInt (aCons (eAnd (e2 uLtI (eV 9) (eV 3)) (e2 uNotIn (eV 9) (eV 2))) aNil)))
    (sSeq (sSet 11 (eTup (aCons (e2 uAdd (eV 7) (eV 10)) (aCons (e2 uAdd (eV 8) (eTup (aCons (eV 9) aNil))) aNil))))
    (sDPut 4 (eTup (aCons (eV 9) (aCons (eNot (eV 6)) aNil))) (eCall fn_cheaper (aCons (eGetM 4 (eTup (aCons (eV 9) (aCons (eNot (eV 6)) aNil))) (eC .non)) (aCons (eV 11) aNil))))))) sNil)
def l_best_edit_2 : SF :=
    (sIf (tBorrow (tB (e2 uIn (eTup (aCons (eV 5) (aCons (eV 6) aNil))) (eV 4)))) (sSeq (sAsg (eIxM 4 uIx (eTup (aCons (eV 5) (aCons (eV 6) aNil)))) (gT (gsCons (gN 7) (gsCons (gN 8) gsNil))))
    (sFor (iRange2 (aCons (e2 uAdd (eV 5) (eC (.int 1))) (aCons (e2 uAdd (eV 3) (eC (.int 1))) aNil))) (gN 9) l_best_edit_1)) sNil)
def l_best_edit_3 : SF :=
    (sFor (iSeq (eTup (aCons (eC (.bl true)) (aCons (eC (.bl false)) aNil)))) (gN 6) l_best_edit_2)
def b_best_edit : SF :=
    (sSeq (sSet 3 (eB bLen (aCons (e2 uIx (eV 0) (eC (.int 0))) aNil)))
    (sSeq (sSet 4 (eDct [((eTup (aCons (eC (.int 0)) (aCons (eC (.bl true)) aNil))), (eTup (aCons (eC (.int 0)) (aCons (eTup aNil) aNil))))]))
    (sSeq (sFor (iRange1 (aCons (eV 3) aNil)) (gN 5) l_best_edit_3)
    (sSeq (sSet 12 (eComp [6] (iSeq (eTup (aCons (eC (.bl true)) (aCons (eC (.bl false)) aNil)))) (gN 6) (tBorrow (tB (e2 uIn (eTup (aCons (eV 3) (aCons (eV 6) aNil))) (eV 4)))) (eIxM 4 uIx (eTup (aCons (eV 3) (aCons (eV 6) aNil))))))
    (sRet (eTup (aCons (e2 uIx (eB bMinA (aCons (eV 12) aNil)) (eC (.int 0))) (aCons (eSl (e2 uIx (eB bMinA (aCons (eV 12) aNil)) (eC (.int 1))) oNo (oSome (e1 uNeg (eC (.int 1))))) aNil))))))))
def fn_best_edit : List U → FR := fnOf false false 14 3 b_best_edit
def b_fewest_changes : SF :=
    (sSeq (sExpr (eCall fn_need_possible (aCons (eV 0) (aCons (eV 1) aNil))))
    (sSeq (sExpr (eCall fn_need_gaps (aCons (eV 0) (aCons (eV 2) aNil))))
    (sRet (e2 uIx (eCall fn_best_edit (aCons (eV 0) (aCons (eV 1) (aCons (eV 2) aNil)))) (eC (.int 0))))))
def fn_fewest_changes : List U → FR := fnOf false false 3 3 b_fewest_changes
def b_nearest_bowing : SF :=
    (sSeq (sExpr (eCall fn_need_possible (aCons (eV 0) (aCons (eV 1) aNil))))
    (sSeq (sExpr (eCall fn_need_gaps (aCons (eV 0) (aCons (eV 2) aNil))))
    (sRet (e2 uIx (eCall fn_best_edit (aCons (eV 0) (aCons (eV 1) (aCons (eV 2) aNil)))) (eC (.int 1))))))
def fn_nearest_bowing : List U → FR := fnOf false false 3 3 b_nearest_bowing
def b_need_note : SF :=
    (sIf (tNot (tB (eCall fn_is_from (aCons (eV 1) (aCons (eC (.int 0)) (aCons (e2 uSub (eB bLen (aCons (e2 uIx (eV 0) (eC (.int 0))) aNil)) (eC (.int 1))) aNil)))))) (sRaise "InvalidNote") sNil)
def fn_need_note : List U → FR := fnOf false false 2 2 b_need_note
def b_numbers_at : SF :=
    (sSeq (sExpr (eCall fn_need_possible (aCons (eV 0) (aCons (eV 1) aNil))))
    (sSeq (sExpr (eCall fn_need_note (aCons (eV 0) (aCons (eV 2) aNil))))
    (sRet (e2 uIx (eCall fn_numbers_by_note (aCons (eV 0) (aCons (eV 1) aNil))) (eV 2)))))
def fn_numbers_at : List U → FR := fnOf false false 3 3 b_numbers_at
def b_directions_at : SF :=
    (sSeq (sExpr (eCall fn_need_possible (aCons (eV 0) (aCons (eV 1) aNil))))
    (sSeq (sExpr (eCall fn_need_note (aCons (eV 0) (aCons (eV 2) aNil))))
    (sRet (e1 uSortedSet (eComp [3] (iSeq (e2 uIx (eCall fn_numbers_by_note (aCons (eV 0) (aCons (eV 1) aNil))) (eV 2))) (gN 3) tTrue (eCall fn_direction_of (aCons (eV 1) (aCons (eV 3) aNil))))))))
def fn_directions_at : List U → FR := fnOf false false 4 3 b_directions_at
def l_counts_by_gap_1 : SF :=
    (sAugIx 2 (eV 3) (eV 6))
def b_counts_by_gap : SF :=
    (sSeq (sSet 2 (e2 uRep (eLst (aCons (eC (.int 0)) aNil)) (eB bLen (aCons (e2 uIx (eV 0) (eC (.int 0))) aNil))))
    (sSeq (sFor (iSeq (eCall fn_strokes_through (aCons (eV 0) (aCons (eV 1) aNil)))) (gT (gsCons (gN 3) (gsCons (gN 4) (gsCons (gN 5) (gsCons (gN 6) gsNil))))) l_counts_by_gap_1)
    (sRet (eV 2))))
def fn_counts_by_gap : List U → FR := fnOf false false 7 2 b_counts_by_gap
def b_sure_breaks : SF :=
    (sSeq (sExpr (eCall fn_need_possible (aCons (eV 0) (aCons (eV 1) aNil))))
    (sSeq (sAsg (eTup (aCons (eCall fn_total (aCons (eV 0) (aCons (eV 1) aNil))) (aCons (eCall fn_counts_by_gap (aCons (eV 0) (aCons (eV 1) aNil))) aNil))) (gT (gsCons (gN 2) (gsCons (gN 3) gsNil))))
    (sRet (eComp [4] (iRange2 (aCons (eC (.int 1)) (aCons (eB bLen (aCons (eV 3) aNil)) aNil))) (gN 4) (tB (e2 uEq (e2 uIx (eV 3) (eV 4)) (eV 2))) (eV 4)))))
def fn_sure_breaks : List U → FR := fnOf false true 5 2 b_sure_breaks
def b_sure_joins : SF :=
    (sSeq (sExpr (eCall fn_need_possible (aCons (eV 0) (aCons (eV 1) aNil))))
    (sSeq (sSet 2 (eCall fn_counts_by_gap (aCons (eV 0) (aCons (eV 1) aNil))))
    (sRet (eComp [3] (iRange2 (aCons (eC (.int 1)) (aCons (eB bLen (aCons (eV 2) aNil)) aNil))) (gN 3) (tB (e2 uEq (e2 uIx (eV 2) (eV 3)) (eC (.int 0)))) (eV 3)))))
def fn_sure_joins : List U → FR := fnOf false true 4 2 b_sure_joins
def b__law_deck : SF :=
    (sSeq (sIf (tB (e2 uGeI (eV 0) (e2 uPow (eC (.int 10)) (eC (.int 18))))) (sRet (eLst (aCons (e2 uSub (eV 0) (e2 uPow (eC (.int 10)) (eC (.int 18)))) (aCons (e2 uMod (eV 0) (eC (.int 2147483579))) (aCons (eV 1) aNil))))) sNil)
    (sRet (eLst (aCons (eC (.int 0)) (aCons (e2 uMod (eV 0) (eC (.int 2147483579))) (aCons (eV 1) aNil))))))
def fn__law_deck : List U → FR := fnOf false true 2 2 b__law_deck
def b__law_sort : SF :=
    (sSeq (sIf (tB (eB bIsInst (aCons (eV 0) (aCons (eC (.ty "bool")) aNil)))) (sRet (eC (.int 1))) sNil)
    (sSeq (sIf (tB (eB bIsInst (aCons (eV 0) (aCons (eC (.ty "int")) aNil)))) (sRet (eC (.int 2))) sNil)
    (sSeq (sIf (tB (eB bIsInst (aCons (eV 0) (aCons (eC (.ty "str")) aNil)))) (sRet (eC (.int 3))) sNil)
    (sSeq (sIf (tB (eB bIsInst (aCons (eV 0) (aCons (eC (.ty "list")) aNil)))) (sRet (eC (.int 4))) sNil)
    (sRet (eIf (tB (eB bIsInst (aCons (eV 0) (aCons (eC (.ty "tuple")) aNil)))) (eC (.int 5)) (eC (.int 6))))))))
def fn__law_sort : List U → FR := fnOf false false 1 1 b__law_sort
def b__law_same (φ : List U → FR) : SF :=
    (sSeq (sIf (tB (e2 uNe (eCall fn__law_sort (aCons (eV 0) aNil)) (eCall fn__law_sort (aCons (eV 1) aNil)))) (sRet (eC (.bl false))) sNil)
    (sSeq (sIf (tAnd (tB (e2 uGtI (eCall fn__law_sort (aCons (eV 0) aNil)) (eC (.int 3)))) (tB (e2 uLtI (eCall fn__law_sort (aCons (eV 0) aNil)) (eC (.int 6))))) (sSeq (sIf (tB (e2 uNe (eB bLen (aCons (eV 0) aNil)) (eB bLen (aCons (eV 1) aNil)))) (sRet (eC (.bl false))) sNil)
    (sRet (e2 uEq (eComp [2, 3] (iEnum (aCons (eV 0) aNil)) (gT (gsCons (gN 2) (gsCons (gN 3) gsNil))) (tNot (tB (eCall φ (aCons (eV 3) (aCons (e2 uIx (eV 1) (eV 2)) aNil))))) (eV 2)) (eLst aNil)))) sNil)
    (sRet (e2 uEq (eV 0) (eV 1)))))
def fn__law_same : Nat → List U → FR
  | 0 => fun _ => .stuck
  | j + 1 => fnOf false false 4 2 (b__law_same (fn__law_same j))
def b__law_pick : SF :=
    (sSeq (sIf (tB (e2 uGtI (eIxM 0 uIx (eC (.int 0))) (eC (.int 1)))) (sSeq (sSet 2 (e2 uMod (eIxM 0 uIx (eC (.int 0))) (eV 1)))
    (sSeq (sPut 0 (eC (.int 0)) (e2 uFdiv (eIxM 0 uIx (eC (.int 0))) (eV 1)))
    (sRet (eV 2)))) sNil)
    (sSeq (sPut 0 (eC (.int 2)) (e2 uAdd (eIxM 0 uIx (eC (.int 2))) (eC (.int 1))))
    (sSeq (sSet 3 (e2 uMod (e2 uPow (e2 uAdd (eIxM 0 uIx (eC (.int 1))) (e2 uMul (eC (.int 15485867)) (eIxM 0 uIx (eC (.int 2))))) (eC (.int 5))) (eC (.int 2147483647))))
    (sSeq (sSet 2 (e2 uFdiv (e2 uMod (e2 uPow (e2 uAdd (eV 3) (e2 uMul (eC (.int 7919)) (eIxM 0 uIx (eC (.int 2))))) (eC (.int 3))) (eC (.int 2147483629))) (eC (.int 32))))
    (sSeq (sIf (tB (e2 uGtI (eV 1) (eC (.int 1000000)))) (sRet (e2 uMod (e2 uAdd (e2 uMul (eV 2) (eC (.int 2147483563))) (eV 3)) (eV 1))) sNil)
    (sRet (e2 uMod (eV 2) (eV 1))))))))
def fn__law_pick : List U → FR := fnOf true false 4 2 b__law_pick
def b__law_one : SF :=
    (sRet (e2 uIx (eV 1) (eCallD 0 fn__law_pick (aCons (eB bLen (aCons (eV 1) aNil)) aNil))))
def fn__law_one : List U → FR := fnOf true false 2 2 b__law_one
def l__law_piece_1 : SF :=
    (sSeq (sSet 10 (eCallD 0 fn__law_pick (aCons (eC (.int 8)) aNil)))
    (sSeq (sSet 11 (e2 uAdd (eV 8) (e2 uIx (eV 4) (eV 9))))
    (sSeq (sSet 8 (eIf (tAnd (tB (e2 uEq (eV 10) (eC (.int 0)))) (tB (e2 uLeI (eV 11) (eV 5)))) (eV 11) (e2 uIx (eV 4) (eV 9))))
    (sIf (tB (e2 uGtI (eV 8) (e2 uIx (eV 4) (eV 9)))) (sAppend 6 (eV 9)) (sIf (tB (e2 uEq (eV 10) (eC (.int 1)))) (sAppend 7 (eV 9)) sNil)))))
def b__law_piece : SF :=
    (sSeq (sSet 3 (eCallD 0 fn__law_one (aCons (eLst (aCons (eC (.int 1)) (aCons (eC (.int 3)) (aCons (eC (.int 20)) aNil)))) aNil)))
    (sSeq (sSet 4 (eB bTuple (aCons (eComp [12] (iRange1 (aCons (e2 uAdd (eV 1) (eCallD 0 fn__law_pick (aCons (e2 uAdd (e2 uSub (eV 2) (eV 1)) (eC (.int 1))) aNil))) aNil)) (gN 12) tTrue (e2 uAdd (eC (.int 1)) (eCallD 0 fn__law_pick (aCons (eV 3) aNil)))) aNil)))
    (sSeq (sSet 5 (eB bMin2 (aCons (eC (.int 100)) (aCons (e2 uAdd (eB bMax1 (aCons (eV 4) aNil)) (eCallD 0 fn__law_pick (aCons (eCallD 0 fn__law_one (aCons (eLst (aCons (eC (.int 3)) (aCons (e2 uMul (eC (.int 3)) (eV 3)) (aCons (eB bSum (aCons (eV 4) aNil)) aNil)))) aNil)) aNil))) aNil))))
    (sSeq (sPar (gNs [6, 7, 8]) (aCons (eLst aNil) (aCons (eLst aNil) (aCons (e2 uIx (eV 4) (eC (.int 0))) aNil))))
    (sSeq (sFor (iRange2 (aCons (eC (.int 1)) (aCons (eB bLen (aCons (eV 4) aNil)) aNil))) (gN 9) l__law_piece_1)
    (sRet (eTup (aCons (eV 4) (aCons (eV 5) (aCons (eB bTuple (aCons (eV 6) aNil)) (aCons (eB bTuple (aCons (eV 7) aNil)) aNil)))))))))))
def fn__law_piece : List U → FR := fnOf true false 13 3 b__law_piece
def l__law_numbers_1 : SF :=
    (sSeq (sSet 3 (e2 uAdd (eV 3) (eB bInt (aCons (e2 uIn (eV 4) (eV 1)) aNil))))
    (sAppend 2 (eV 3)))
def b__law_numbers : SF :=
    (sSeq (sPar (gNs [2, 3]) (aCons (eLst aNil) (aCons (eC (.int 1)) aNil)))
    (sSeq (sFor (iRange1 (aCons (eV 0) aNil)) (gN 4) l__law_numbers_1)
    (sRet (eV 2))))
def fn__law_numbers : List U → FR := fnOf false false 5 2 b__law_numbers
def l__law_random_1 : SF :=
    (sSeq (sSet 11 (eB bSum (aCons (eSl (eV 2) (oSome (eV 9)) (oSome (eV 10))) aNil)))
    (sSeq (sSet 12 (eOr (e2 uIn (eV 9) (eV 5)) (e2 uGtI (e2 uAdd (eV 8) (eV 11)) (eV 3))))
    (sSeq (sIf (tAnd (tB (e2 uGtI (eV 9) (eC (.int 0)))) (tOr (tB (eV 12)) (tB (e2 uEq (eCallD 0 fn__law_pick (aCons (eC (.int 3)) aNil)) (eC (.int 0)))))) (sSeq (sAppend 7 (eV 9))
    (sSet 8 (eC (.int 0)))) sNil)
    (sSet 8 (e2 uAdd (eV 8) (eV 11))))))
def b__law_random : SF :=
    (sSeq (sAsg (eV 1) (gT (gsCons (gN 2) (gsCons (gN 3) (gsCons (gN 4) (gsCons (gN 5) gsNil))))))
    (sSeq (sSet 6 (e2 uAdd (e2 uAdd (eLst (aCons (eC (.int 0)) aNil)) (eComp [13] (iRange2 (aCons (eC (.int 1)) (aCons (eB bLen (aCons (eV 2) aNil)) aNil))) (gN 13) (tB (e2 uNotIn (eV 13) (eV 4))) (eV 13))) (eLst (aCons (eB bLen (aCons (eV 2) aNil)) aNil))))
    (sSeq (sPar (gNs [7, 8]) (aCons (eLst aNil) (aCons (eC (.int 0)) aNil)))
    (sSeq (sFor (iZip2 (aCons (eV 6) (aCons (eSl (eV 6) (oSome (eC (.int 1))) oNo) aNil))) (gT (gsCons (gN 9) (gsCons (gN 10) gsNil))) l__law_random_1)
    (sRet (eB bTuple (aCons (eV 7) aNil)))))))
def fn__law_random : List U → FR := fnOf true false 14 2 b__law_random
def l__law_wishes_1 : SF :=
    (sIf (tB (e2 uEq (eCallD 0 fn__law_pick (aCons (eV 4) aNil)) (eC (.int 0)))) (sSeq (sSet 9 (e2 uIx (eLst (aCons (eC (.str [117, 112])) (aCons (eC (.str [100, 111, 119, 110])) aNil))) (e2 uMod (eV 8) (eC (.int 2)))))
    (sAppend 3 (eTup (aCons (eV 7) (aCons (eIf (tB (eV 6)) (eV 9) (eCallD 0 fn__law_one (aCons (eLst (aCons (eC (.str [117, 112])) (aCons (eC (.str [100, 111, 119, 110])) aNil))) aNil))) aNil))))) sNil)
def b__law_wishes : SF :=
    (sSeq (sPar (gNs [2, 3]) (aCons (eB bLen (aCons (e2 uIx (eV 1) (eC (.int 0))) aNil)) (aCons (eLst aNil) aNil)))
    (sSeq (sPar (gNs [4, 5]) (aCons (eCallD 0 fn__law_one (aCons (eLst (aCons (eC (.int 2)) (aCons (eC (.int 3)) (aCons (eC (.int 6)) aNil)))) aNil)) (aCons (eCallD 0 fn__law_random (aCons (eV 1) aNil)) aNil)))
    (sSeq (sSet 6 (e2 uGtI (eCallD 0 fn__law_pick (aCons (eC (.int 3)) aNil)) (eC (.int 0))))
    (sSeq (sFor (iEnum (aCons (eCall fn__law_numbers (aCons (eV 2) (aCons (eV 5) aNil))) aNil)) (gT (gsCons (gN 7) (gsCons (gN 8) gsNil))) l__law_wishes_1)
    (sRet (eB bTuple (aCons (eV 3) aNil)))))))
def fn__law_wishes : List U → FR := fnOf true false 10 2 b__law_wishes
def b__law_whole : SF :=
    (sRet (eAnd (eB bIsInst (aCons (eV 0) (aCons (eC (.ty "int")) aNil))) (eNot (eB bIsInst (aCons (eV 0) (aCons (eC (.ty "bool")) aNil))))))
def fn__law_whole : List U → FR := fnOf false false 1 1 b__law_whole
def b__law_gaps_right : SF :=
    (sSeq (sIf (tOr (tNot (tB (eB bIsInst (aCons (eV 1) (aCons (eC (.ty "tuple")) aNil))))) (tB (e2 uNe (eComp [2] (iSeq (eV 1)) (gN 2) (tOr (tNot (tB (eCall fn__law_whole (aCons (eV 2) aNil)))) (tNot (tB (eChain uLeI uLtI (eC (.int 1)) (eV 2) (eV 0))))) (eC (.int 1))) (eLst aNil)))) (sRet (eC (.bl false))) sNil)
    (sRet (e2 uEq (eB bList (aCons (eV 1) aNil)) (e1 uSortedSet (eB bList (aCons (eV 1) aNil))))))
def fn__law_gaps_right : List U → FR := fnOf false false 3 2 b__law_gaps_right
def l__law_is_piece_1 : SF :=
    (sSeq (sSet 5 (eIf (tB (e2 uIn (eV 6) (eV 3))) (e2 uAdd (eV 5) (eV 7)) (eV 7)))
    (sIf (tOr (tB (e2 uGtI (eV 5) (eV 2))) (tAnd (tB (e2 uIn (eV 6) (eV 3))) (tB (e2 uIn (eV 6) (eV 4))))) (sRet (eC (.bl false))) sNil))
def b__law_is_piece : SF :=
    (sSeq (sIf (tOr (tNot (tB (eB bIsInst (aCons (eV 0) (aCons (eC (.ty "tuple")) aNil))))) (tOr (tB (e2 uNe (eB bLen (aCons (eV 0) aNil)) (eC (.int 4)))) (tNot (tB (eB bIsInst (aCons (e2 uIx (eV 0) (eC (.int 0))) (aCons (eC (.ty "tuple")) aNil))))))) (sRet (eC (.bl false))) sNil)
    (sSeq (sAsg (eV 0) (gT (gsCons (gN 1) (gsCons (gN 2) (gsCons (gN 3) (gsCons (gN 4) gsNil))))))
    (sSeq (sIf (tOr (tNot (tB (eChain uLeI uLeI (eC (.int 1)) (eB bLen (aCons (eV 1) aNil)) (eC (.int 30))))) (tOr (tNot (tB (eCall fn__law_whole (aCons (eV 2) aNil)))) (tNot (tB (eChain uLeI uLeI (eC (.int 1)) (eV 2) (eC (.int 100))))))) (sRet (eC (.bl false))) sNil)
    (sSeq (sIf (tB (e2 uNe (eComp [7] (iSeq (eV 1)) (gN 7) (tOr (tNot (tB (eCall fn__law_whole (aCons (eV 7) aNil)))) (tNot (tB (eChain uLeI uLeI (eC (.int 1)) (eV 7) (eC (.int 20)))))) (eC (.int 1))) (eLst aNil))) (sRet (eC (.bl false))) sNil)
    (sSeq (sIf (tOr (tNot (tB (eCall fn__law_gaps_right (aCons (eB bLen (aCons (eV 1) aNil)) (aCons (eV 3) aNil))))) (tNot (tB (eCall fn__law_gaps_right (aCons (eB bLen (aCons (eV 1) aNil)) (aCons (eV 4) aNil)))))) (sRet (eC (.bl false))) sNil)
    (sSeq (sSet 5 (eC (.int 0)))
    (sSeq (sFor (iEnum (aCons (eV 1) aNil)) (gT (gsCons (gN 6) (gsCons (gN 7) gsNil))) l__law_is_piece_1)
    (sRet (eC (.bl true))))))))))
def fn__law_is_piece : List U → FR := fnOf false false 8 1 b__law_is_piece
def l__law_are_wishes_1 : SF :=
    (sSeq (sIf (tOr (tNot (tB (eB bIsInst (aCons (eV 3) (aCons (eC (.ty "tuple")) aNil))))) (tOr (tB (e2 uNe (eB bLen (aCons (eV 3) aNil)) (eC (.int 2)))) (tNot (tB (eCall fn__law_whole (aCons (e2 uIx (eV 3) (eC (.int 0))) aNil)))))) (sRet (eC (.bl false))) sNil)
    (sSeq (sIf (tNot (tB (eChain uLtI uLtI (eV 2) (e2 uIx (eV 3) (eC (.int 0))) (eV 0)))) (sRet (eC (.bl false))) sNil)
    (sSeq (sIf (tOr (tNot (tB (eB bIsInst (aCons (e2 uIx (eV 3) (eC (.int 1))) (aCons (eC (.ty "str")) aNil))))) (tB (e2 uNotIn (e2 uIx (eV 3) (eC (.int 1))) (eTup (aCons (eC (.str [100, 111, 119, 110])) (aCons (eC (.str [117, 112])) aNil)))))) (sRet (eC (.bl false))) sNil)
    (sSet 2 (e2 uIx (eV 3) (eC (.int 0)))))))
def b__law_are_wishes : SF :=
    (sSeq (sIf (tNot (tB (eB bIsInst (aCons (eV 1) (aCons (eC (.ty "tuple")) aNil))))) (sRet (eC (.bl false))) sNil)
    (sSeq (sSet 2 (e1 uNeg (eC (.int 1))))
    (sSeq (sFor (iSeq (eV 1)) (gN 3) l__law_are_wishes_1)
    (sRet (eC (.bl true))))))
def fn__law_are_wishes : List U → FR := fnOf false false 4 2 b__law_are_wishes
def b_ends_of : SF :=
    (sSeq (sSet 2 (e2 uAdd (e2 uAdd (eTup (aCons (eC (.int 0)) aNil)) (eV 1)) (eTup (aCons (eB bLen (aCons (e2 uIx (eV 0) (eC (.int 0))) aNil)) aNil))))
    (sRet (eListZip (aCons (eV 2) (aCons (eSl (eV 2) (oSome (eC (.int 1))) oNo) aNil)))))
def fn_ends_of : List U → FR := fnOf false false 3 2 b_ends_of
def l_good_bowing_1 : SF :=
    (sIf (tNot (tB (eCall fn_stroke_right (aCons (eV 0) (aCons (eV 1) (aCons (eV 4) (aCons (eV 5) (aCons (eCall fn_direction_of (aCons (eV 1) (aCons (e2 uAdd (eV 3) (eC (.int 1))) aNil))) aNil)))))))) (sRet (eC (.bl false))) sNil)
def b_good_bowing : SF :=
    (sSeq (sIf (tNot (tB (eCall fn_are_gaps (aCons (eB bLen (aCons (e2 uIx (eV 0) (eC (.int 0))) aNil)) (aCons (eV 2) aNil))))) (sRet (eC (.bl false))) sNil)
    (sSeq (sFor (iEnum (aCons (eCall fn_ends_of (aCons (eV 0) (aCons (eV 2) aNil))) aNil)) (gT (gsCons (gN 3) (gsCons (gT (gsCons (gN 4) (gsCons (gN 5) gsNil))) gsNil))) l_good_bowing_1)
    (sRet (eC (.bl true)))))
def fn_good_bowing : List U → FR := fnOf false false 6 3 b_good_bowing
def b_is_bowing : SF :=
    (sSeq (sExpr (eCall fn_need_wishes (aCons (eV 0) (aCons (eV 1) aNil))))
    (sRet (eCall fn_good_bowing (aCons (eV 0) (aCons (eV 1) (aCons (eV 2) aNil))))))
def fn_is_bowing : List U → FR := fnOf false false 3 3 b_is_bowing
def b_need_bowing : SF :=
    (sIf (tNot (tB (eCall fn_good_bowing (aCons (eV 0) (aCons (eV 1) (aCons (eV 2) aNil)))))) (sRaise "InvalidBowing") sNil)
def fn_need_bowing : List U → FR := fnOf false false 3 3 b_need_bowing
def l_numbers_of_1 : SF :=
    (sSet 2 (eBorrowF (e2 (lo uAdd) (eV 2) (e2 uRep (eLst (aCons (e2 uAdd (eV 3) (eC (.int 1))) aNil)) (e2 uSub (eV 5) (eV 4))))))
def b_numbers_of : SF :=
    (sSeq (sSet 2 (eLst aNil))
    (sSeq (sFor (iEnum (aCons (eCall fn_ends_of (aCons (eV 0) (aCons (eV 1) aNil))) aNil)) (gT (gsCons (gN 3) (gsCons (gT (gsCons (gN 4) (gsCons (gN 5) gsNil))) gsNil))) l_numbers_of_1)
    (sRet (eV 2))))
def fn_numbers_of : List U → FR := fnOf false true 6 2 b_numbers_of
def b_stroke_numbers : SF :=
    (sSeq (sExpr (eCall fn_need_wishes (aCons (eV 0) (aCons (eV 1) aNil))))
    (sSeq (sExpr (eCall fn_need_bowing (aCons (eV 0) (aCons (eV 1) (aCons (eV 2) aNil)))))
    (sRet (eCall fn_numbers_of (aCons (eV 0) (aCons (eV 2) aNil))))))
def fn_stroke_numbers : List U → FR := fnOf false true 3 3 b_stroke_numbers
def b_directions : SF :=
    (sSeq (sExpr (eCall fn_need_wishes (aCons (eV 0) (aCons (eV 1) aNil))))
    (sSeq (sExpr (eCall fn_need_bowing (aCons (eV 0) (aCons (eV 1) (aCons (eV 2) aNil)))))
    (sRet (eComp [3] (iSeq (eCall fn_numbers_of (aCons (eV 0) (aCons (eV 2) aNil)))) (gN 3) tTrue (eCall fn_direction_of (aCons (eV 1) (aCons (eV 3) aNil)))))))
def fn_directions : List U → FR := fnOf false false 4 3 b_directions
def b_is_possible : SF :=
    (sSeq (sExpr (eCall fn_need_wishes (aCons (eV 0) (aCons (eV 1) aNil))))
    (sRet (e2 uGtI (eCall fn_total (aCons (eV 0) (aCons (eV 1) aNil))) (eC (.int 0)))))
def fn_is_possible : List U → FR := fnOf false false 2 2 b_is_possible
def b_lower : SF :=
    (sSeq (sExpr (eCall fn_need_wishes (aCons (eV 0) (aCons (eV 1) aNil))))
    (sSeq (sExpr (eCall fn_need_bowing (aCons (eV 0) (aCons (eV 1) (aCons (eV 2) aNil)))))
    (sSeq (sExpr (eCall fn_need_bowing (aCons (eV 0) (aCons (eV 1) (aCons (eV 3) aNil)))))
    (sRet (eCall fn_breaks_of (aCons (eComp [4, 5] (iZip2 (aCons (eCall fn_numbers_of (aCons (eV 0) (aCons (eV 2) aNil))) (aCons (eCall fn_numbers_of (aCons (eV 0) (aCons (eV 3) aNil))) aNil))) (gT (gsCons (gN 4) (gsCons (gN 5) gsNil))) tTrue (eB bMin2 (aCons (eV 4) (aCons (eV 5) aNil)))) aNil))))))
def fn_lower : List U → FR := fnOf false false 6 4 b_lower
def b_upper : SF :=
    (sSeq (sExpr (eCall fn_need_wishes (aCons (eV 0) (aCons (eV 1) aNil))))
    (sSeq (sExpr (eCall fn_need_bowing (aCons (eV 0) (aCons (eV 1) (aCons (eV 2) aNil)))))
    (sSeq (sExpr (eCall fn_need_bowing (aCons (eV 0) (aCons (eV 1) (aCons (eV 3) aNil)))))
    (sRet (eCall fn_breaks_of (aCons (eComp [4, 5] (iZip2 (aCons (eCall fn_numbers_of (aCons (eV 0) (aCons (eV 2) aNil))) (aCons (eCall fn_numbers_of (aCons (eV 0) (aCons (eV 3) aNil))) aNil))) (gT (gsCons (gN 4) (gsCons (gN 5) gsNil))) tTrue (eB bMax2 (aCons (eV 4) (aCons (eV 5) aNil)))) aNil))))))
def fn_upper : List U → FR := fnOf false false 6 4 b_upper
def b_count_bowings : SF :=
    (sSeq (sExpr (eCall fn_need_wishes (aCons (eV 0) (aCons (eV 1) aNil))))
    (sRet (eCall fn_total (aCons (eV 0) (aCons (eV 1) aNil)))))
def fn_count_bowings : List U → FR := fnOf false false 2 2 b_count_bowings
def b_count_with : SF :=
    (sSeq (sExpr (eCall fn_need_wishes (aCons (eV 0) (aCons (eV 1) aNil))))
    (sSeq (sIf (tNot (tB (eCall fn_is_from (aCons (eV 2) (aCons (eC (.int 0)) (aCons (eC (.int 30)) aNil)))))) (sRaise "InvalidNumber") sNil)
    (sRet (eGet (eCall fn_begins (aCons (eV 0) (aCons (eV 1) aNil))) (eTup (aCons (eB bLen (aCons (e2 uIx (eV 0) (eC (.int 0))) aNil)) (aCons (e2 uAdd (eV 2) (eC (.int 1))) aNil))) (eC (.int 0))))))
def fn_count_with : List U → FR := fnOf false false 3 3 b_count_with
def l_number_of_1 : SF :=
    (sSeq (sIf (tB (e2 uEq (eV 8) (eV 7))) sBreak sNil)
    (sIf (tB (eCall fn_stroke_right (aCons (eV 0) (aCons (eV 1) (aCons (eV 5) (aCons (eV 8) (aCons (eCall fn_direction_of (aCons (eV 1) (aCons (e2 uAdd (eV 6) (eC (.int 1))) aNil))) aNil))))))) (sAug 4 uAddI (e2 uIx (eV 3) (eTup (aCons (eV 8) (aCons (e2 uEq (e2 uMod (eV 6) (eC (.int 2))) (eC (.int 1))) aNil))))) sNil))
def l_number_of_2 : SF :=
    (sSeq (sFor (iSeq (eCall fn_stops_in_order (aCons (eV 0) (aCons (eV 5) aNil)))) (gN 8) l_number_of_1)
    (sSet 5 (eV 7)))
def b_number_of : SF :=
    (sSeq (sExpr (eCall fn_need_wishes (aCons (eV 0) (aCons (eV 1) aNil))))
    (sSeq (sExpr (eCall fn_need_bowing (aCons (eV 0) (aCons (eV 1) (aCons (eV 2) aNil)))))
    (sSeq (sPar (gNs [3, 4, 5]) (aCons (eCall fn_rests (aCons (eV 0) (aCons (eV 1) aNil))) (aCons (eC (.int 0)) (aCons (eC (.int 0)) aNil))))
    (sSeq (sFor (iEnum (aCons (e2 uAdd (eV 2) (eTup (aCons (eB bLen (aCons (e2 uIx (eV 0) (eC (.int 0))) aNil)) aNil))) aNil)) (gT (gsCons (gN 6) (gsCons (gN 7) gsNil))) l_number_of_2)
    (sRet (eV 4))))))
def fn_number_of : List U → FR := fnOf false false 9 3 b_number_of
def l_best_retakes_1 : SF :=
    (sIf (tB (eCall fn_stroke_right (aCons (eV 0) (aCons (eV 1) (aCons (eV 4) (aCons (eV 9) (aCons (eV 5) aNil))))))) (sSeq (sPar (gNs [10, 11]) (aCons (eTup (aCons (eV 9) (aCons (eCall fn_turned (aCons (eV 5) aNil)) aNil))) (aCons (eTup (aCons (eV 9) (aCons (eV 5) aNil))) aNil)))
    (sSeq (sDPut 3 (eV 10) (eCall fn_cheaper (aCons (eGetM 3 (eV 10) (eC .non)) (aCons (eTup (aCons (eV 6) (aCons (e2 uAdd (eV 7) (eTup (aCons (eV 9) aNil))) (aCons (eV 8) aNil)))) aNil))))
    (sIf (tB (e2 uLtI (eV 9) (eV 2))) (sSeq (sSet 12 (eTup (aCons (e2 uAdd (eV 6) (eC (.int 1))) (aCons (e2 uAdd (eV 7) (eTup (aCons (eV 9) aNil))) (aCons (e2 uAdd (eV 8) (eTup (aCons (eV 9) aNil))) aNil)))))
    (sDPut 3 (eV 11) (eCall fn_cheaper (aCons (eGetM 3 (eV 11) (eC .non)) (aCons (eV 12) aNil))))) sNil))) sNil)
def l_best_retakes_2 : SF :=
    (sIf (tBorrow (tB (e2 uIn (eTup (aCons (eV 4) (aCons (eV 5) aNil))) (eV 3)))) (sSeq (sAsg (eIxM 3 uIx (eTup (aCons (eV 4) (aCons (eV 5) aNil)))) (gT (gsCons (gN 6) (gsCons (gN 7) (gsCons (gN 8) gsNil)))))
    (sFor (iRange2 (aCons (e2 uAdd (eV 4) (eC (.int 1))) (aCons (e2 uAdd (eV 2) (eC (.int 1))) aNil))) (gN 9) l_best_retakes_1)) sNil)
def l_best_retakes_3 : SF :=
    (sFor (iSeq (eTup (aCons (eC (.str [100, 111, 119, 110])) (aCons (eC (.str [117, 112])) aNil)))) (gN 5) l_best_retakes_2)
def b_best_retakes : SF :=
    (sSeq (sSet 2 (eB bLen (aCons (e2 uIx (eV 0) (eC (.int 0))) aNil)))
    (sSeq (sSet 3 (eDct [((eTup (aCons (eC (.int 0)) (aCons (eCall fn_first_direction (aCons (eV 1) aNil)) aNil))), (eTup (aCons (eC (.int 0)) (aCons (eTup aNil) (aCons (eTup aNil) aNil)))))]))
    (sSeq (sFor (iRange1 (aCons (eV 2) aNil)) (gN 4) l_best_retakes_3)
    (sSeq (sSet 13 (eComp [5] (iSeq (eTup (aCons (eC (.str [100, 111, 119, 110])) (aCons (eC (.str [117, 112])) aNil)))) (gN 5) (tBorrow (tB (e2 uIn (eTup (aCons (eV 2) (aCons (eV 5) aNil))) (eV 3)))) (eIxM 3 uIx (eTup (aCons (eV 2) (aCons (eV 5) aNil))))))
    (sRet (eIf (tB (e2 uNe (eV 13) (eLst aNil))) (eB bMinA (aCons (eV 13) aNil)) (eC .non)))))))
def fn_best_retakes : List U → FR := fnOf false false 14 2 b_best_retakes
def b_fewest_retakes : SF :=
    (sSeq (sExpr (eCall fn_need_wishes (aCons (eV 0) (aCons (eV 1) aNil))))
    (sSeq (sSet 2 (eCall fn_best_retakes (aCons (eV 0) (aCons (eV 1) aNil))))
    (sRet (eIf (tB (e2 uIsN (eV 2) (eC .non))) (eC .non) (e2 uIx (eV 2) (eC (.int 0)))))))
def fn_fewest_retakes : List U → FR := fnOf false false 3 2 b_fewest_retakes
def b_with_retakes : SF :=
    (sSeq (sExpr (eCall fn_need_wishes (aCons (eV 0) (aCons (eV 1) aNil))))
    (sSeq (sSet 2 (eCall fn_best_retakes (aCons (eV 0) (aCons (eV 1) aNil))))
    (sRet (eIf (tB (e2 uIsN (eV 2) (eC .non))) (eC .non) (eTup (aCons (eSl (e2 uIx (eV 2) (eC (.int 1))) oNo (oSome (e1 uNeg (eC (.int 1))))) (aCons (e2 uIx (eV 2) (eC (.int 2))) aNil)))))))
def fn_with_retakes : List U → FR := fnOf false false 3 2 b_with_retakes
def l__law_sets_1 : SF :=
    (sSet 1 (e2 uAdd (eV 1) (eComp [3] (iSeq (eV 1)) (gN 3) tTrue (e2 uAdd (eV 3) (eTup (aCons (eV 2) aNil))))))
def b__law_sets : SF :=
    (sSeq (sSet 1 (eLst (aCons (eTup aNil) aNil)))
    (sSeq (sFor (iRange2 (aCons (eC (.int 1)) (aCons (eV 0) aNil))) (gN 2) l__law_sets_1)
    (sRet (eB bSorted (aCons (eV 1) aNil)))))
def fn__law_sets : List U → FR := fnOf false false 4 1 b__law_sets
def b__law_first : SF :=
    (sRet (eIf (tB (e2 uIn (eTup (aCons (eC (.int 0)) (aCons (eC (.str [117, 112])) aNil))) (eV 0))) (eC (.str [117, 112])) (eC (.str [100, 111, 119, 110]))))
def fn__law_first : List U → FR := fnOf false false 1 1 b__law_first
def b__law_way : SF :=
    (sRet (e2 uIx (eLst (aCons (eC (.str [117, 112])) (aCons (eC (.str [100, 111, 119, 110])) aNil))) (e2 uMod (e2 uAdd (eV 1) (eB bInt (aCons (e2 uEq (eCall fn__law_first (aCons (eV 0) aNil)) (eC (.str [117, 112]))) aNil))) (eC (.int 2)))))
def fn__law_way : List U → FR := fnOf false false 2 2 b__law_way
def l__law_good_1 : SF :=
    (sIf (tB (e2 uGtI (eB bSum (aCons (eComp [10, 11] (iZip2 (aCons (eV 3) (aCons (eV 7) aNil))) (gT (gsCons (gN 10) (gsCons (gN 11) gsNil))) (tB (e2 uEq (eV 11) (eV 8))) (eV 10)) aNil)) (eV 4))) (sRet (eC (.bl false))) sNil)
def b__law_good : SF :=
    (sSeq (sAsg (eV 0) (gT (gsCons (gN 3) (gsCons (gN 4) (gsCons (gN 5) (gsCons (gN 6) gsNil))))))
    (sSeq (sSet 7 (eCall fn__law_numbers (aCons (eB bLen (aCons (eV 3) aNil)) (aCons (eV 2) aNil))))
    (sSeq (sIf (tOr (tB (e2 uNe (eComp [9] (iSeq (eV 2)) (gN 9) (tB (e2 uIn (eV 9) (eV 5))) (eV 9)) (eLst aNil))) (tB (e2 uNe (eComp [9] (iSeq (eV 6)) (gN 9) (tB (e2 uNotIn (eV 9) (eV 2))) (eV 9)) (eLst aNil)))) (sRet (eC (.bl false))) sNil)
    (sSeq (sFor (iRange2 (aCons (eC (.int 1)) (aCons (e2 uAdd (e2 uIx (eV 7) (e1 uNeg (eC (.int 1)))) (eC (.int 1))) aNil))) (gN 8) l__law_good_1)
    (sRet (e2 uEq (eComp [12, 13] (iSeq (eV 1)) (gT (gsCons (gN 12) (gsCons (gN 13) gsNil))) (tB (e2 uNe (eCall fn__law_way (aCons (eV 1) (aCons (e2 uIx (eV 7) (eV 12)) aNil))) (eV 13))) (eV 12)) (eLst aNil)))))))
def fn__law_good : List U → FR := fnOf false false 14 3 b__law_good
def b__law_right : SF :=
    (sSeq (sSet 3 (eCall fn__law_good (aCons (eV 0) (aCons (eV 1) (aCons (eV 2) aNil)))))
    (sSeq (sIf (tNot (tB (eCall (fn__law_same 4) (aCons (eCall fn_is_bowing (aCons (eV 0) (aCons (eV 1) (aCons (eV 2) aNil)))) (aCons (eV 3) aNil))))) (sRet (eC (.bl false))) sNil)
    (sSeq (sIf (tNot (tB (eV 3))) (sRet (eC (.bl true))) sNil)
    (sSeq (sSet 4 (eCall fn__law_numbers (aCons (eB bLen (aCons (e2 uIx (eV 0) (eC (.int 0))) aNil)) (aCons (eV 2) aNil))))
    (sSeq (sSet 5 (eCall fn_stroke_numbers (aCons (eV 0) (aCons (eV 1) (aCons (eV 2) aNil)))))
    (sSeq (sIf (tNot (tB (eBorrow (eCall (fn__law_same 4) (aCons (eV 5) (aCons (eV 4) aNil)))))) (sRet (eC (.bl false))) sNil)
    (sSeq (sAppend 5 (eC (.int 0)))
    (sSeq (sIf (tB (e2 uNe (eCall fn_stroke_numbers (aCons (eV 0) (aCons (eV 1) (aCons (eV 2) aNil)))) (eV 4))) (sRet (eC (.bl false))) sNil)
    (sRet (eCall (fn__law_same 4) (aCons (eCall fn_directions (aCons (eV 0) (aCons (eV 1) (aCons (eV 2) aNil)))) (aCons (eComp [6] (iSeq (eV 4)) (gN 6) tTrue (eCall fn__law_way (aCons (eV 1) (aCons (eV 6) aNil)))) aNil))))))))))))
def fn__law_right : List U → FR := fnOf false false 7 3 b__law_right
def b__law_all : SF :=
    (sRet (eComp [2] (iSeq (eCall fn__law_sets (aCons (eB bLen (aCons (e2 uIx (eV 0) (eC (.int 0))) aNil)) aNil))) (gN 2) (tB (eCall fn__law_good (aCons (eV 0) (aCons (eV 1) (aCons (eV 2) aNil))))) (eV 2)))
def fn__law_all : List U → FR := fnOf false false 3 2 b__law_all
def b__law_breaks : SF :=
    (sRet (eB bTuple (aCons (eComp [1] (iRange2 (aCons (eC (.int 1)) (aCons (eB bLen (aCons (eV 0) aNil)) aNil))) (gN 1) (tB (e2 uGtI (e2 uIx (eV 0) (eV 1)) (e2 uIx (eV 0) (e2 uSub (eV 1) (eC (.int 1)))))) (eV 1)) aNil)))
def fn__law_breaks : List U → FR := fnOf false false 2 1 b__law_breaks
def b__law_pair_right : SF :=
    (sSeq (sPar (gNs [4, 5]) (aCons (eCall fn__law_numbers (aCons (eB bLen (aCons (e2 uIx (eV 0) (eC (.int 0))) aNil)) (aCons (eV 2) aNil))) (aCons (eCall fn__law_numbers (aCons (eB bLen (aCons (e2 uIx (eV 0) (eC (.int 0))) aNil)) (aCons (eV 3) aNil))) aNil)))
    (sSeq (sSet 6 (eCall fn__law_breaks (aCons (eComp [8, 9] (iZip2 (aCons (eV 4) (aCons (eV 5) aNil))) (gT (gsCons (gN 8) (gsCons (gN 9) gsNil))) tTrue (eB bMin2 (aCons (eV 8) (aCons (eV 9) aNil)))) aNil)))
    (sSeq (sSet 7 (eCall fn__law_breaks (aCons (eComp [8, 9] (iZip2 (aCons (eV 4) (aCons (eV 5) aNil))) (gT (gsCons (gN 8) (gsCons (gN 9) gsNil))) tTrue (eB bMax2 (aCons (eV 8) (aCons (eV 9) aNil)))) aNil)))
    (sSeq (sIf (tOr (tNot (tB (eCall (fn__law_same 4) (aCons (eCall fn_lower (aCons (eV 0) (aCons (eV 1) (aCons (eV 2) (aCons (eV 3) aNil))))) (aCons (eV 6) aNil))))) (tNot (tB (eCall (fn__law_same 4) (aCons (eCall fn_upper (aCons (eV 0) (aCons (eV 1) (aCons (eV 2) (aCons (eV 3) aNil))))) (aCons (eV 7) aNil)))))) (sRet (eC (.bl false))) sNil)
    (sSeq (sIf (tOr (tNot (tB (eCall fn__law_good (aCons (eV 0) (aCons (eV 1) (aCons (eV 6) aNil)))))) (tNot (tB (eCall fn__law_good (aCons (eV 0) (aCons (eV 1) (aCons (eV 7) aNil))))))) (sRet (eC (.bl false))) sNil)
    (sRet (eAnd (e2 uEq (eCall fn_lower (aCons (eV 0) (aCons (eV 1) (aCons (eV 3) (aCons (eV 2) aNil))))) (eV 6)) (e2 uEq (eCall fn_lower (aCons (eV 0) (aCons (eV 1) (aCons (eV 2) (aCons (eV 7) aNil))))) (eV 2)))))))))
def fn__law_pair_right : List U → FR := fnOf false false 10 4 b__law_pair_right
def l__law_small_right_1 : SF :=
    (sSeq (sSet 5 (e1 uSortedSet (eComp [7] (iSeq (eV 3)) (gN 7) tTrue (e2 uIx (eV 7) (eV 4)))))
    (sIf (tAnd (tB (e2 uNe (eV 2) (eLst aNil))) (tB (e2 uNe (eCall fn_numbers_at (aCons (eV 0) (aCons (eV 1) (aCons (eV 4) aNil)))) (eV 5)))) (sRet (eC (.bl false))) sNil))
def b__law_small_right : SF :=
    (sSeq (sSet 2 (eCall fn__law_all (aCons (eV 0) (aCons (eV 1) aNil))))
    (sSeq (sSet 3 (eComp [6] (iSeq (eV 2)) (gN 6) tTrue (eCall fn__law_numbers (aCons (eB bLen (aCons (e2 uIx (eV 0) (eC (.int 0))) aNil)) (aCons (eV 6) aNil)))))
    (sSeq (sFor (iRange1 (aCons (eB bLen (aCons (e2 uIx (eV 0) (eC (.int 0))) aNil)) aNil)) (gN 4) l__law_small_right_1)
    (sRet (eC (.bl true))))))
def fn__law_small_right : List U → FR := fnOf false false 8 2 b__law_small_right
def l__law_steps_right_1 : SF :=
    (sSeq (sIf (tNot (tB (eCall (fn__law_same 4) (aCons (eCall fn_numbers_at (aCons (eV 0) (aCons (eV 1) (aCons (eV 7) aNil)))) (aCons (eListRg (aCons (e2 uIx (eV 5) (eV 7)) (aCons (e2 uAdd (e2 uIx (eV 6) (eV 7)) (eC (.int 1))) (aCons (eV 3) aNil)))) aNil))))) (sRet (eC (.bl false))) sNil)
    (sIf (tB (e2 uNe (e2 uMod (e2 uSub (e2 uIx (eV 6) (eV 7)) (e2 uIx (eV 5) (eV 7))) (eV 3)) (eC (.int 0)))) (sRet (eC (.bl false))) sNil))
def b__law_steps_right : SF :=
    (sSeq (sSet 4 (eB bLen (aCons (e2 uIx (eV 0) (eC (.int 0))) aNil)))
    (sSeq (sSet 5 (eCall fn__law_numbers (aCons (eV 4) (aCons (eCall fn_least_bowing (aCons (eV 0) (aCons (eV 1) aNil))) aNil))))
    (sSeq (sSet 6 (eCall fn__law_numbers (aCons (eV 4) (aCons (eCall fn_greatest_bowing (aCons (eV 0) (aCons (eV 1) aNil))) aNil))))
    (sSeq (sFor (iSeq (eV 2)) (gN 7) l__law_steps_right_1)
    (sRet (eC (.bl true)))))))
def fn__law_steps_right : List U → FR := fnOf false false 8 4 b__law_steps_right
def l__law_filled_1 : SF :=
    (sSeq (sSet 9 (eComp [10] (iSeq (eV 4)) (gN 10) (tB (eChain uLtI uLtI (eV 6) (eV 10) (eV 8))) (eV 10)))
    (sIf (tAnd (tB (e2 uLeI (eB bSum (aCons (eSl (eV 1) (oSome (eV 6)) (oSome (eV 8))) aNil)) (eV 2))) (tAnd (tB (e2 uEq (eV 9) (eLst aNil))) (tB (e2 uNotIn (eV 8) (eV 3))))) (sSet 7 (eV 8)) sNil))
def l__law_filled_2 : SF :=
    (sSeq (sSet 7 (e2 uAdd (eV 6) (eC (.int 1))))
    (sSeq (sFor (iRange2 (aCons (e2 uAdd (eV 6) (eC (.int 1))) (aCons (e2 uAdd (eB bLen (aCons (eV 1) aNil)) (eC (.int 1))) aNil))) (gN 8) l__law_filled_1)
    (sSeq (sAppend 5 (eV 7))
    (sSet 6 (eV 7)))))
def b__law_filled : SF :=
    (sSeq (sAsg (eV 0) (gT (gsCons (gN 1) (gsCons (gN 2) (gsCons (gN 3) (gsCons (gN 4) gsNil))))))
    (sSeq (sPar (gNs [5, 6]) (aCons (eLst aNil) (aCons (eC (.int 0)) aNil)))
    (sSeq (sWhile 1000 (tB (e2 uLtI (eV 6) (eB bLen (aCons (eV 1) aNil)))) l__law_filled_2)
    (sRet (eB bTuple (aCons (eSl (eV 5) oNo (oSome (e1 uNeg (eC (.int 1))))) aNil))))))
def fn__law_filled : List U → FR := fnOf false false 11 1 b__law_filled
def b__law_unlike : SF :=
    (sRet (e2 uAdd (eB bLen (aCons (eComp [2] (iSeq (eV 0)) (gN 2) (tB (e2 uNotIn (eV 2) (eV 1))) (eV 2)) aNil)) (eB bLen (aCons (eComp [2] (iSeq (eV 1)) (gN 2) (tB (e2 uNotIn (eV 2) (eV 0))) (eV 2)) aNil))))
def fn__law_unlike : List U → FR := fnOf false false 3 2 b__law_unlike
def b__law_written : SF :=
    (sRet (eB bTuple (aCons (eComp [2] (iRange2 (aCons (eC (.int 1)) (aCons (eV 1) aNil))) (gN 2) (tB (e2 uEq (eCallD 0 fn__law_pick (aCons (eC (.int 3)) aNil)) (eC (.int 0)))) (eV 2)) aNil)))
def fn__law_written : List U → FR := fnOf true false 3 2 b__law_written
def l__law_wrong_1 : SF :=
    (sSeq (sSet 8 (eB bLen (aCons (eComp [9] (iSeq (eV 2)) (gN 9) (tB (eChain uLtI uLeI (eV 4) (eV 9) (eV 6))) (eV 9)) aNil)))
    (sSeq (sSet 3 (e2 uAdd (eV 3) (eB bInt (aCons (e2 uNe (e2 uEq (e2 uMod (eV 8) (eC (.int 2))) (eC (.int 0))) (e2 uEq (eV 7) (eV 5))) aNil))))
    (sAsg (eTup (aCons (eV 6) (aCons (eV 7) aNil))) (gT (gsCons (gN 4) (gsCons (gN 5) gsNil))))))
def b__law_wrong : SF :=
    (sSeq (sAsg (eTup (aCons (eC (.int 0)) (aCons (eC (.int 0)) (aCons (eCall fn__law_first (aCons (eV 1) aNil)) aNil)))) (gT (gsCons (gN 3) (gsCons (gN 4) (gsCons (gN 5) gsNil)))))
    (sSeq (sFor (iSeq (eV 1)) (gT (gsCons (gN 6) (gsCons (gN 7) gsNil))) l__law_wrong_1)
    (sRet (eV 3))))
def fn__law_wrong : List U → FR := fnOf false false 10 3 b__law_wrong
def l__law_ways_1 : SF :=
    (sSeq (sIf (tAnd (tB (e2 uIn (eV 6) (eV 2))) (tB (e2 uNotIn (eV 6) (eV 3)))) (sSet 5 (eIf (tB (e2 uEq (eV 5) (eC (.str [100, 111, 119, 110])))) (eC (.str [117, 112])) (eC (.str [100, 111, 119, 110])))) sNil)
    (sAppend 4 (eV 5)))
def b__law_ways : SF :=
    (sSeq (sPar (gNs [4, 5]) (aCons (eLst aNil) (aCons (eCall fn__law_first (aCons (eV 1) aNil)) aNil)))
    (sSeq (sFor (iRange1 (aCons (eB bLen (aCons (e2 uIx (eV 0) (eC (.int 0))) aNil)) aNil)) (gN 6) l__law_ways_1)
    (sRet (eV 4))))
def fn__law_ways : List U → FR := fnOf false false 7 4 b__law_ways
def b__law_done : SF :=
    (sSeq (sIf (tOr (tB (e2 uNe (eComp [5] (iSeq (eV 3)) (gN 5) (tB (e2 uNotIn (eV 5) (eV 2))) (eV 5)) (eLst aNil))) (tNot (tB (eCall fn__law_good (aCons (eV 0) (aCons (eTup aNil) (aCons (eV 2) aNil))))))) (sRet (eC (.bl false))) sNil)
    (sSeq (sSet 4 (eCall fn__law_ways (aCons (eV 0) (aCons (eV 1) (aCons (eV 2) (aCons (eV 3) aNil))))))
    (sRet (e2 uEq (eComp [6, 7] (iSeq (eV 1)) (gT (gsCons (gN 6) (gsCons (gN 7) gsNil))) (tB (e2 uNe (e2 uIx (eV 4) (eV 6)) (eV 7))) (eV 6)) (eLst aNil)))))
def fn__law_done : List U → FR := fnOf false false 8 4 b__law_done
def l__law_least_1 : SF :=
    (sSet 4 (e2 uAdd (eV 4) (eComp [7] (iSeq (eV 4)) (gN 7) tTrue (e2 uAdd (eV 7) (eTup (aCons (eV 5) aNil))))))
def l__law_least_2 : SF :=
    (sIf (tAnd (tOr (tB (e2 uIsN (eV 2) (eC .non))) (tB (e2 uLtI (eB bLen (aCons (eV 6) aNil)) (eV 2)))) (tB (eCall fn__law_done (aCons (eV 0) (aCons (eV 1) (aCons (eV 3) (aCons (eV 6) aNil))))))) (sSet 2 (eB bLen (aCons (eV 6) aNil))) sNil)
def l__law_least_3 : SF :=
    (sSeq (sSet 4 (eLst (aCons (eTup aNil) aNil)))
    (sSeq (sFor (iSeq (eV 3)) (gN 5) l__law_least_1)
    (sFor (iSeq (eV 4)) (gN 6) l__law_least_2)))
def b__law_least : SF :=
    (sSeq (sSet 2 (eC .non))
    (sSeq (sFor (iSeq (eCall fn__law_all (aCons (eV 0) (aCons (eTup aNil) aNil)))) (gN 3) l__law_least_3)
    (sRet (eV 2))))
def fn__law_least : List U → FR := fnOf false false 8 2 b__law_least
def l__law_within_1 : SF :=
    (sIf (tB (e2 uGtI (eV 6) (eV 7))) (sRet (eC (.bl false))) sNil)
def l__law_within_2 : SF :=
    (sIf (tB (e2 uLtI (eV 6) (eV 7))) (sRet (eC (.bl false))) sNil)
def b__law_within : SF :=
    (sSeq (sSet 3 (eB bLen (aCons (e2 uIx (eV 0) (eC (.int 0))) aNil)))
    (sSeq (sPar (gNs [4, 5]) (aCons (eCall fn_least_bowing (aCons (eV 0) (aCons (eV 1) aNil))) (aCons (eCall fn_least_bowing (aCons (eV 0) (aCons (eV 2) aNil))) aNil)))
    (sSeq (sFor (iZip2 (aCons (eCall fn__law_numbers (aCons (eV 3) (aCons (eV 4) aNil))) (aCons (eCall fn__law_numbers (aCons (eV 3) (aCons (eV 5) aNil))) aNil))) (gT (gsCons (gN 6) (gsCons (gN 7) gsNil))) l__law_within_1)
    (sSeq (sPar (gNs [8, 9]) (aCons (eCall fn_greatest_bowing (aCons (eV 0) (aCons (eV 1) aNil))) (aCons (eCall fn_greatest_bowing (aCons (eV 0) (aCons (eV 2) aNil))) aNil)))
    (sSeq (sFor (iZip2 (aCons (eCall fn__law_numbers (aCons (eV 3) (aCons (eV 8) aNil))) (aCons (eCall fn__law_numbers (aCons (eV 3) (aCons (eV 9) aNil))) aNil))) (gT (gsCons (gN 6) (gsCons (gN 7) gsNil))) l__law_within_2)
    (sSeq (sIf (tB (e2 uNe (eComp [10] (iSeq (eCall fn_sure_breaks (aCons (eV 0) (aCons (eV 1) aNil)))) (gN 10) (tB (e2 uNotIn (eV 10) (eCall fn_sure_breaks (aCons (eV 0) (aCons (eV 2) aNil))))) (eV 10)) (eLst aNil))) (sRet (eC (.bl false))) sNil)
    (sSeq (sIf (tB (e2 uNe (eComp [10] (iSeq (eCall fn_sure_joins (aCons (eV 0) (aCons (eV 1) aNil)))) (gN 10) (tB (e2 uNotIn (eV 10) (eCall fn_sure_joins (aCons (eV 0) (aCons (eV 2) aNil))))) (eV 10)) (eLst aNil))) (sRet (eC (.bl false))) sNil)
    (sRet (e2 uIsB (eCall fn_is_bowing (aCons (eV 0) (aCons (eV 1) (aCons (eV 5) aNil)))) (eC (.bl true)))))))))))
def fn__law_within : List U → FR := fnOf false false 11 3 b__law_within
def b__law_moved : SF :=
    (sRet (eB bTuple (aCons (eComp [2] (iSeq (eV 0)) (gN 2) tTrue (e2 uAdd (eV 2) (eV 1))) aNil)))
def fn__law_moved : List U → FR := fnOf false false 3 2 b__law_moved
def l__law_sizes_1 : SF :=
    (sSeq (sAppend 2 (e2 uAdd (eC (.int 1)) (eCallD 0 fn__law_pick (aCons (eB bMin2 (aCons (eV 3) (aCons (eCallD 0 fn__law_one (aCons (eLst (aCons (eC (.int 1)) (aCons (eC (.int 3)) (aCons (eC (.int 30)) aNil)))) aNil)) aNil))) aNil))))
    (sSet 3 (e2 uSub (eV 3) (eIxM 2 uIx (e1 uNeg (eC (.int 1)))))))
def b__law_sizes : SF :=
    (sSeq (sPar (gNs [2, 3]) (aCons (eLst aNil) (aCons (eV 1) aNil)))
    (sSeq (sWhile 1000 (tAnd (tB (e2 uGtI (eV 3) (eC (.int 0)))) (tB (e2 uGtI (eCallD 0 fn__law_pick (aCons (eC (.int 6)) aNil)) (eC (.int 0))))) l__law_sizes_1)
    (sRet (eB bTuple (aCons (eV 2) aNil)))))
def fn__law_sizes : List U → FR := fnOf true false 4 2 b__law_sizes
def l__law_notes_1 : SF :=
    (sSeq (sSet 2 (e2 uAdd (eV 2) (e2 uRep (eLst (aCons (eV 3) aNil)) (eV 4))))
    (sSet 3 (eIf (tB (e2 uEq (eV 3) (eC (.str [100, 111, 119, 110])))) (eC (.str [117, 112])) (eC (.str [100, 111, 119, 110])))))
def b__law_notes : SF :=
    (sSeq (sPar (gNs [2, 3]) (aCons (eLst aNil) (aCons (eV 0) aNil)))
    (sSeq (sFor (iSeq (eV 1)) (gN 4) l__law_notes_1)
    (sRet (eTup (aCons (eV 2) (aCons (eV 3) aNil))))))
def fn__law_notes : List U → FR := fnOf false false 5 2 b__law_notes
def b__law_deed : SF :=
    (sSeq (sSet 2 (eCallD 0 fn__law_one (aCons (eLst (aCons (eC (.str [115, 116, 114, 111, 107, 101])) (aCons (eC (.str [115, 116, 114, 111, 107, 101])) (aCons (eC (.str [115, 108, 117, 114])) (aCons (eC (.str [115, 108, 117, 114])) (aCons (eC (.str [114, 101, 116, 97, 107, 101])) (aCons (eC (.str [117, 110, 100, 111])) aNil))))))) aNil)))
    (sSeq (sSet 3 (eCallD 0 fn__law_one (aCons (eLst (aCons (eC (.int 1)) (aCons (eC (.int 1)) (aCons (eC (.int 2)) (aCons (eC (.int 3)) (aCons (eC (.int 0)) aNil)))))) aNil)))
    (sSeq (sSet 4 (eB bMin2 (aCons (eC (.int 20)) (aCons (eB bMax2 (aCons (eC (.int 1)) (aCons (e2 uFdiv (eV 1) (eCallD 0 fn__law_one (aCons (eLst (aCons (eC (.int 1)) (aCons (eC (.int 3)) (aCons (eC (.int 6)) aNil)))) aNil))) aNil))) aNil))))
    (sSeq (sSet 5 (eB bTuple (aCons (eComp [6] (iRange1 (aCons (eV 3) aNil)) (gN 6) tTrue (e2 uAdd (eC (.int 1)) (eCallD 0 fn__law_pick (aCons (eV 4) aNil)))) aNil)))
    (sSeq (sIf (tB (e2 uEq (eCallD 0 fn__law_pick (aCons (eC (.int 9)) aNil)) (eC (.int 0)))) (sSet 5 (e2 uAdd (eV 5) (eTup (aCons (eCallD 0 fn__law_one (aCons (eLst (aCons (eC (.int 0)) (aCons (eC (.int 21)) (aCons (eC .non) (aCons (eC (.bl true)) (aCons (eC (.str [49])) (aCons (eC (.int 20)) aNil))))))) aNil)) aNil)))) sNil)
    (sRet (eTup (aCons (eV 2) (aCons (eV 5) aNil)))))))))
def fn__law_deed : List U → FR := fnOf true false 7 2 b__law_deed
def b__law_same_bowings : SF :=
    (sSeq (sIf (tB (e2 uNe (eCall fn_count_bowings (aCons (eV 2) (aCons (eV 3) aNil))) (eCall fn_count_bowings (aCons (eV 1) (aCons (eV 3) aNil))))) (sRet (eC (.bl false))) sNil)
    (sSeq (sIf (tB (e2 uNe (eCall fn_fewest_retakes (aCons (eV 2) (aCons (eV 3) aNil))) (eCall fn_fewest_retakes (aCons (eV 1) (aCons (eV 3) aNil))))) (sRet (eC (.bl false))) sNil)
    (sSeq (sIf (tNot (tB (eCall fn_is_possible (aCons (eV 1) (aCons (eV 3) aNil))))) (sRet (eNot (eCall fn_is_possible (aCons (eV 2) (aCons (eV 3) aNil))))) sNil)
    (sSeq (sIf (tB (e2 uNe (eCall fn_least_bowing (aCons (eV 2) (aCons (eV 3) aNil))) (eCall fn_least_bowing (aCons (eV 1) (aCons (eV 3) aNil))))) (sRet (eC (.bl false))) sNil)
    (sSeq (sIf (tB (e2 uNe (eCall fn_greatest_bowing (aCons (eV 2) (aCons (eV 3) aNil))) (eCall fn_greatest_bowing (aCons (eV 1) (aCons (eV 3) aNil))))) (sRet (eC (.bl false))) sNil)
    (sSeq (sIf (tB (e2 uNe (eCall fn_stroke_range (aCons (eV 2) (aCons (eV 3) aNil))) (eCall fn_stroke_range (aCons (eV 1) (aCons (eV 3) aNil))))) (sRet (eC (.bl false))) sNil)
    (sSeq (sIf (tB (e2 uNe (eCall fn_sure_breaks (aCons (eV 2) (aCons (eV 3) aNil))) (eCall fn_sure_breaks (aCons (eV 1) (aCons (eV 3) aNil))))) (sRet (eC (.bl false))) sNil)
    (sSeq (sSet 4 (eCallD 0 fn__law_random (aCons (eV 1) aNil)))
    (sRet (e2 uEq (eCall fn_fewest_changes (aCons (eV 2) (aCons (eV 3) (aCons (eV 4) aNil)))) (eCall fn_fewest_changes (aCons (eV 1) (aCons (eV 3) (aCons (eV 4) aNil))))))))))))))
def fn__law_same_bowings : List U → FR := fnOf true false 5 4 b__law_same_bowings
def b__law_freer : SF :=
    (sSeq (sAsg (eV 1) (gT (gsCons (gN 2) (gsCons (gN 3) (gsCons (gN 4) (gsCons (gN 5) gsNil))))))
    (sSeq (sSet 6 (eCallD 0 fn__law_pick (aCons (eC (.int 3)) aNil)))
    (sSeq (sIf (tOr (tB (e2 uEq (eV 6) (eC (.int 0)))) (tB (e2 uEq (e2 uAdd (eV 4) (eV 5)) (eTup aNil)))) (sRet (eTup (aCons (eV 2) (aCons (eB bMin2 (aCons (eC (.int 100)) (aCons (e2 uAdd (e2 uAdd (eV 3) (eC (.int 1))) (eCallD 0 fn__law_pick (aCons (eC (.int 20)) aNil))) aNil))) (aCons (eV 4) (aCons (eV 5) aNil)))))) sNil)
    (sSeq (sSet 7 (eCallD 0 fn__law_one (aCons (eB bList (aCons (e2 uAdd (eV 4) (eV 5)) aNil)) aNil)))
    (sRet (eTup (aCons (eV 2) (aCons (eV 3) (aCons (eB bTuple (aCons (eComp [8] (iSeq (eV 4)) (gN 8) (tB (e2 uNe (eV 8) (eV 7))) (eV 8)) aNil)) (aCons (eB bTuple (aCons (eComp [8] (iSeq (eV 5)) (gN 8) (tB (e2 uNe (eV 8) (eV 7))) (eV 8)) aNil)) aNil))))))))))
def fn__law_freer : List U → FR := fnOf true false 9 2 b__law_freer
def b__law_six_right : SF :=
    (sSeq (sAsg (eTup (aCons (eTup (aCons (e2 uMulT (eTup (aCons (eV 0) aNil)) (eC (.int 6))) (aCons (e2 uMul (eC (.int 3)) (eV 0)) (aCons (eTup aNil) (aCons (eTup aNil) aNil))))) (aCons (eTup (aCons (eTup (aCons (eC (.int 3)) (aCons (eC (.str [100, 111, 119, 110])) aNil))) (aCons (eTup (aCons (eC (.int 5)) (aCons (eC (.str [100, 111, 119, 110])) aNil))) aNil))) aNil))) (gT (gsCons (gN 1) (gsCons (gN 2) gsNil))))
    (sSeq (sSet 3 (eLst (aCons (eTup (aCons (eC (.int 1)) (aCons (eC (.int 2)) (aCons (eC (.int 4)) (aCons (eC (.int 5)) aNil))))) (aCons (eTup (aCons (eC (.int 1)) (aCons (eC (.int 3)) aNil))) (aCons (eTup (aCons (eC (.int 1)) (aCons (eC (.int 3)) (aCons (eC (.int 4)) (aCons (eC (.int 5)) aNil))))) (aCons (eTup (aCons (eC (.int 2)) (aCons (eC (.int 3)) aNil))) (aCons (eTup (aCons (eC (.int 2)) (aCons (eC (.int 3)) (aCons (eC (.int 4)) (aCons (eC (.int 5)) aNil))))) aNil)))))))
    (sSeq (sIf (tB (e2 uNe (eComp [5] (iRange1 (aCons (eCall fn_count_bowings (aCons (eV 1) (aCons (eV 2) aNil))) aNil)) (gN 5) tTrue (eCall fn_bowing_at (aCons (eV 1) (aCons (eV 2) (aCons (eV 5) aNil))))) (eV 3))) (sRet (eC (.bl false))) sNil)
    (sSeq (sIf (tOr (tB (e2 uNe (eCall fn_least_bowing (aCons (eV 1) (aCons (eV 2) aNil))) (eTup (aCons (eC (.int 2)) (aCons (eC (.int 3)) aNil))))) (tB (e2 uNe (eCall fn_greatest_bowing (aCons (eV 1) (aCons (eV 2) aNil))) (eTup (aCons (eC (.int 1)) (aCons (eC (.int 2)) (aCons (eC (.int 4)) (aCons (eC (.int 5)) aNil)))))))) (sRet (eC (.bl false))) sNil)
    (sSeq (sIf (tB (e2 uNe (eComp [6] (iRange1 (aCons (eC (.int 6)) aNil)) (gN 6) tTrue (eCall fn_numbers_at (aCons (eV 1) (aCons (eV 2) (aCons (eV 6) aNil))))) (eLst (aCons (eLst (aCons (eC (.int 1)) aNil)) (aCons (eLst (aCons (eC (.int 1)) (aCons (eC (.int 2)) aNil))) (aCons (eLst (aCons (eC (.int 2)) (aCons (eC (.int 3)) aNil))) (aCons (eLst (aCons (eC (.int 3)) aNil)) (aCons (eLst (aCons (eC (.int 3)) (aCons (eC (.int 4)) aNil))) (aCons (eLst (aCons (eC (.int 3)) (aCons (eC (.int 5)) aNil))) aNil))))))))) (sRet (eC (.bl false))) sNil)
    (sSeq (sIf (tOr (tB (e2 uNe (eCall fn_sure_breaks (aCons (eV 1) (aCons (eV 2) aNil))) (eLst aNil))) (tB (e2 uNe (eCall fn_sure_breaks (aCons (eV 1) (aCons (e2 uAdd (eTup (aCons (eTup (aCons (eC (.int 1)) (aCons (eC (.str [117, 112])) aNil))) aNil)) (eV 2)) aNil))) (eLst (aCons (eC (.int 1)) aNil))))) (sRet (eC (.bl false))) sNil)
    (sSeq (sIf (tOr (tB (e2 uNe (eCall fn_lower (aCons (eV 1) (aCons (eV 2) (aCons (eTup (aCons (eC (.int 1)) (aCons (eC (.int 3)) aNil))) (aCons (eTup (aCons (eC (.int 2)) (aCons (eC (.int 3)) aNil))) aNil))))) (eTup (aCons (eC (.int 2)) (aCons (eC (.int 3)) aNil))))) (tB (e2 uNe (eCall fn_upper (aCons (eV 1) (aCons (eV 2) (aCons (eTup (aCons (eC (.int 1)) (aCons (eC (.int 3)) aNil))) (aCons (eTup (aCons (eC (.int 2)) (aCons (eC (.int 3)) aNil))) aNil))))) (eTup (aCons (eC (.int 1)) (aCons (eC (.int 3)) aNil)))))) (sRet (eC (.bl false))) sNil)
    (sSeq (sIf (tOr (tB (e2 uNe (eCall fn_fewest_changes (aCons (eV 1) (aCons (eV 2) (aCons (eTup aNil) aNil)))) (eC (.int 2)))) (tB (e2 uNe (eCall fn_fewest_changes (aCons (eV 1) (aCons (eV 2) (aCons (eTup (aCons (eC (.int 1)) (aCons (eC (.int 2)) (aCons (eC (.int 3)) (aCons (eC (.int 4)) (aCons (eC (.int 5)) aNil)))))) aNil)))) (eC (.int 1))))) (sRet (eC (.bl false))) sNil)
    (sSeq (sSet 4 (eCall fn_nearest_bowing (aCons (eV 1) (aCons (eV 2) (aCons (eTup (aCons (eC (.int 1)) (aCons (eC (.int 3)) (aCons (eC (.int 4)) aNil)))) aNil)))))
    (sRet (eOr (e2 uEq (eV 4) (eTup (aCons (eC (.int 1)) (aCons (eC (.int 3)) aNil)))) (e2 uEq (eV 4) (eTup (aCons (eC (.int 1)) (aCons (eC (.int 3)) (aCons (eC (.int 4)) (aCons (eC (.int 5)) aNil)))))))))))))))))
def fn__law_six_right : List U → FR := fnOf false false 7 1 b__law_six_right
def b__law_ties_right : SF :=
    (sSeq (sSet 1 (eTup (aCons (eTup (aCons (eV 0) (aCons (eV 0) (aCons (e2 uMul (eC (.int 2)) (eV 0)) (aCons (eV 0) (aCons (eV 0) aNil)))))) (aCons (e2 uMul (eC (.int 4)) (eV 0)) (aCons (eTup (aCons (eC (.int 2)) aNil)) (aCons (eTup (aCons (eC (.int 4)) aNil)) aNil))))))
    (sSeq (sSet 2 (eComp [4] (iRange1 (aCons (eCall fn_count_bowings (aCons (eV 1) (aCons (eTup aNil) aNil))) aNil)) (gN 4) tTrue (eCall fn_bowing_at (aCons (eV 1) (aCons (eTup aNil) (aCons (eV 4) aNil))))))
    (sSeq (sIf (tB (e2 uNe (eV 2) (eLst (aCons (eTup (aCons (eC (.int 1)) (aCons (eC (.int 3)) (aCons (eC (.int 4)) aNil)))) (aCons (eTup (aCons (eC (.int 1)) (aCons (eC (.int 4)) aNil))) (aCons (eTup (aCons (eC (.int 3)) (aCons (eC (.int 4)) aNil))) aNil)))))) (sRet (eC (.bl false))) sNil)
    (sSeq (sIf (tOr (tB (e2 uNe (eCall fn_directions (aCons (eV 1) (aCons (eTup aNil) (aCons (eTup (aCons (eC (.int 1)) (aCons (eC (.int 4)) aNil))) aNil)))) (eLst (aCons (eC (.str [100, 111, 119, 110])) (aCons (eC (.str [117, 112])) (aCons (eC (.str [117, 112])) (aCons (eC (.str [117, 112])) (aCons (eC (.str [100, 111, 119, 110])) aNil)))))))) (tB (e2 uNe (eCall fn_stroke_range (aCons (eV 1) (aCons (eTup aNil) aNil))) (eTup (aCons (eC (.int 3)) (aCons (eC (.int 4)) aNil)))))) (sRet (eC (.bl false))) sNil)
    (sSeq (sIf (tOr (tB (e2 uNe (eCall fn_sure_breaks (aCons (eV 1) (aCons (eTup aNil) aNil))) (eLst (aCons (eC (.int 4)) aNil)))) (tOr (tB (e2 uNe (eCall fn_sure_joins (aCons (eV 1) (aCons (eTup aNil) aNil))) (eLst (aCons (eC (.int 2)) aNil)))) (tB (e2 uNe (eCall fn_least_bowing (aCons (eV 1) (aCons (eTup aNil) aNil))) (eTup (aCons (eC (.int 3)) (aCons (eC (.int 4)) aNil))))))) (sRet (eC (.bl false))) sNil)
    (sSeq (sSet 3 (eTup (aCons (eTup (aCons (eC (.int 1)) (aCons (eC (.str [100, 111, 119, 110])) aNil))) (aCons (eTup (aCons (eC (.int 4)) (aCons (eC (.str [117, 112])) aNil))) aNil))))
    (sSeq (sIf (tOr (tB (e2 uNotB (eCall fn_is_possible (aCons (eV 1) (aCons (eV 3) aNil))) (eC (.bl false)))) (tB (e2 uNe (eCall fn_fewest_retakes (aCons (eV 1) (aCons (eV 3) aNil))) (eC (.int 1))))) (sRet (eC (.bl false))) sNil)
    (sSeq (sSet 3 (eTup (aCons (eTup (aCons (eC (.int 1)) (aCons (eC (.str [117, 112])) aNil))) (aCons (eTup (aCons (eC (.int 2)) (aCons (eC (.str [100, 111, 119, 110])) aNil))) aNil))))
    (sSeq (sIf (tOr (tB (e2 uNotN (eCall fn_fewest_retakes (aCons (eV 1) (aCons (eV 3) aNil))) (eC .non))) (tB (e2 uNotN (eCall fn_with_retakes (aCons (eV 1) (aCons (eV 3) aNil))) (eC .non)))) (sRet (eC (.bl false))) sNil)
    (sRet (eAnd (e2 uEq (eCall fn_directions_at (aCons (eV 1) (aCons (eTup (aCons (eTup (aCons (eC (.int 4)) (aCons (eC (.str [117, 112])) aNil))) aNil)) (aCons (eC (.int 3)) aNil)))) (eLst (aCons (eC (.str [100, 111, 119, 110])) aNil))) (e2 uEq (eCall fn_count_with (aCons (eV 1) (aCons (eTup (aCons (eTup (aCons (eC (.int 4)) (aCons (eC (.str [117, 112])) aNil))) aNil)) (aCons (eC (.int 4)) aNil)))) (eC (.int 1))))))))))))))
def fn__law_ties_right : List U → FR := fnOf false false 5 1 b__law_ties_right
def b__law_long_right : SF :=
    (sSeq (sPar (gNs [0, 1]) (aCons (eTup (aCons (e2 uMulT (eTup (aCons (eC (.int 1)) aNil)) (eC (.int 30))) (aCons (eC (.int 100)) (aCons (eTup aNil) (aCons (eTup aNil) aNil))))) (aCons (eTup (aCons (e2 uMulT (eTup (aCons (eC (.int 20)) aNil)) (eC (.int 30))) (aCons (eC (.int 20)) (aCons (eTup aNil) (aCons (eTup aNil) aNil))))) aNil)))
    (sSeq (sSet 2 (eTupRg (aCons (eC (.int 1)) (aCons (eC (.int 30)) aNil))))
    (sSeq (sIf (tOr (tB (e2 uNe (eCall fn_count_bowings (aCons (eV 0) (aCons (eTup aNil) aNil))) (e2 uPow (eC (.int 2)) (eC (.int 29))))) (tOr (tB (e2 uNe (eCall fn_count_bowings (aCons (eV 1) (aCons (eTup aNil) aNil))) (eC (.int 1)))) (tB (e2 uNe (eCall fn_least_bowing (aCons (eV 1) (aCons (eTup aNil) aNil))) (eV 2))))) (sRet (eC (.bl false))) sNil)
    (sSeq (sIf (tOr (tB (e2 uNe (eCall fn_numbers_at (aCons (eV 0) (aCons (eTup (aCons (eTup (aCons (eC (.int 29)) (aCons (eC (.str [117, 112])) aNil))) aNil)) (aCons (eC (.int 29)) aNil)))) (eListRg (aCons (eC (.int 2)) (aCons (eC (.int 31)) (aCons (eC (.int 2)) aNil)))))) (tB (e2 uNe (eCall fn_count_with (aCons (eV 0) (aCons (eTup aNil) (aCons (eC (.int 30)) aNil)))) (eC (.int 1))))) (sRet (eC (.bl false))) sNil)
    (sSeq (sIf (tOr (tB (e2 uNe (eCall fn_bowing_at (aCons (eV 0) (aCons (eTup aNil) (aCons (e2 uSub (e2 uPow (eC (.int 2)) (eC (.int 29))) (eC (.int 1))) aNil)))) (eTup (aCons (eC (.int 29)) aNil)))) (tB (e2 uNe (eCall fn_number_of (aCons (eV 0) (aCons (eTup aNil) (aCons (eV 2) aNil)))) (eC (.int 29))))) (sRet (eC (.bl false))) sNil)
    (sSeq (sIf (tB (e2 uNe (eCall fn_sure_breaks (aCons (eV 1) (aCons (eTup aNil) aNil))) (eB bList (aCons (eV 2) aNil)))) (sRet (eC (.bl false))) sNil)
    (sSeq (sIf (tOr (tB (e2 uNe (eCall fn_fewest_changes (aCons (eV 1) (aCons (eTup aNil) (aCons (eTup aNil) aNil)))) (eC (.int 29)))) (tB (e2 uNe (eCall fn_fewest_changes (aCons (eV 0) (aCons (eTup (aCons (eTup (aCons (eC (.int 29)) (aCons (eC (.str [100, 111, 119, 110])) aNil))) aNil)) (aCons (eV 2) aNil)))) (eC (.int 1))))) (sRet (eC (.bl false))) sNil)
    (sSeq (sSet 3 (eTup (aCons (e2 uMulT (eTup (aCons (eC (.int 1)) aNil)) (eC (.int 30))) (aCons (eC (.int 30)) (aCons (eV 2) (aCons (eTup aNil) aNil))))))
    (sSeq (sIf (tOr (tB (e2 uNe (eCall fn_count_bowings (aCons (eV 3) (aCons (eTup aNil) aNil))) (eC (.int 1)))) (tOr (tB (e2 uNe (eCall fn_greatest_bowing (aCons (eV 3) (aCons (eTup aNil) aNil))) (eTup aNil))) (tB (e2 uNe (eCall fn_sure_joins (aCons (eV 3) (aCons (eTup aNil) aNil))) (eB bList (aCons (eV 2) aNil)))))) (sRet (eC (.bl false))) sNil)
    (sSeq (sIf (tOr (tB (e2 uNotN (eCall fn_fewest_retakes (aCons (eV 3) (aCons (eTup (aCons (eTup (aCons (eC (.int 29)) (aCons (eC (.str [117, 112])) aNil))) aNil)) aNil))) (eC .non))) (tB (e2 uNe (eCall fn_fewest_retakes (aCons (eV 1) (aCons (eTup (aCons (eTup (aCons (eC (.int 28)) (aCons (eC (.str [117, 112])) aNil))) (aCons (eTup (aCons (eC (.int 29)) (aCons (eC (.str [117, 112])) aNil))) aNil))) aNil))) (eC (.int 2))))) (sRet (eC (.bl false))) sNil)
    (sSeq (sSet 4 (eB bTuple (aCons (eComp [5] (iRange1 (aCons (eC (.int 30)) aNil)) (gN 5) tTrue (eTup (aCons (eV 5) (aCons (e2 uIx (eLst (aCons (eC (.str [100, 111, 119, 110])) (aCons (eC (.str [117, 112])) aNil))) (e2 uMod (eV 5) (eC (.int 2)))) aNil)))) aNil)))
    (sSeq (sIf (tOr (tB (e2 uNe (eCall fn_count_bowings (aCons (eV 0) (aCons (eV 4) aNil))) (eC (.int 1)))) (tB (e2 uNe (eCall fn_least_bowing (aCons (eV 0) (aCons (eV 4) aNil))) (eV 2)))) (sRet (eC (.bl false))) sNil)
    (sRet (e2 uEq (eCall fn_lower (aCons (eV 0) (aCons (eTup aNil) (aCons (eTup aNil) (aCons (eV 2) aNil))))) (eTup aNil)))))))))))))))
def fn__law_long_right : List U → FR := fnOf false false 6 0 b__law_long_right
end LB
/-! the defs of law k21 as pure functions (printed by gen2.py); those that several laws have lie in GLib -/
namespace K21
open Q LB
open PySem (Str)
def l_law_1 : SF :=
    (sSeq (sSet 2 (e2 uAdd (eC (.int 1)) (eCallT fn__law_pick (eCall fn__law_deck (aCons (eV 1) (aCons (eC (.int 21)) aNil))) (aCons (eC (.int 10)) aNil))))
    (sIf (tOr (tNot (tB (eCall fn__law_six_right (aCons (eV 2) aNil)))) (tNot (tB (eCall fn__law_ties_right (aCons (eV 2) aNil))))) (sRet (eC (.bl false))) sNil))
def b_law : SF :=
    (sSeq (sFor (iSeq (eSl (e2 uAdd (eLst (aCons (eC (.int 0)) aNil)) (eV 0)) oNo (oSome (eC (.int 4))))) (gN 1) l_law_1)
    (sSeq (sSet 3 (eTup (aCons (e2 uMulT (eTup (aCons (eC (.int 1)) aNil)) (eC (.int 9))) (aCons (eC (.int 9)) (aCons (eTup aNil) (aCons (eTup aNil) aNil))))))
    (sSeq (sIf (tOr (tB (e2 uNe (eCall fn_count_bowings (aCons (eV 3) (aCons (eTup (aCons (eTup (aCons (eC (.int 8)) (aCons (eC (.str [100, 111, 119, 110])) aNil))) aNil)) aNil))) (eC (.int 128)))) (tB (e2 uNe (eCall fn_count_with (aCons (eV 3) (aCons (eTup (aCons (eTup (aCons (eC (.int 8)) (aCons (eC (.str [100, 111, 119, 110])) aNil))) aNil)) (aCons (eC (.int 5)) aNil)))) (eC (.int 70))))) (sRet (eC (.bl false))) sNil)
    (sSeq (sIf (tOr (tB (e2 uNe (eCall fn_number_of (aCons (eV 3) (aCons (eTup aNil) (aCons (eTup (aCons (eC (.int 1)) (aCons (eC (.int 2)) (aCons (eC (.int 3)) (aCons (eC (.int 4)) (aCons (eC (.int 5)) (aCons (eC (.int 6)) (aCons (eC (.int 7)) (aCons (eC (.int 8)) aNil))))))))) aNil)))) (eC (.int 8)))) (tB (e2 uNe (eCall fn_bowing_at (aCons (eV 3) (aCons (eTup aNil) (aCons (eC (.int 255)) aNil)))) (eTup (aCons (eC (.int 8)) aNil))))) (sRet (eC (.bl false))) sNil)
    (sRet (e2 uEq (eTry (eCall fn_stroke_range (aCons (eTup (aCons (eTup (aCons (eC (.int 1)) (aCons (eC (.int 1)) aNil))) (aCons (eC (.int 2)) (aCons (eTup (aCons (eC (.int 1)) aNil)) (aCons (eTup aNil) aNil))))) (aCons (eTup (aCons (eTup (aCons (eC (.int 1)) (aCons (eC (.str [117, 112])) aNil))) aNil)) aNil)))) (eC (.str [78, 111, 116, 43]))))))))
def fn_law : List U → FR := fnOf false false 4 1 b_law
end K21
/-! MBase: tools to compute with the pure functions -/
namespace Q
open PySem (Str)
abbrev inU (xs : List Int) : List U := xs.map U.int
/-! ### the combinators, unfolded -/
section
variable {ρ : Sl} {α β : Type}
@[simp] theorem bind_ok (a : α) (ρ : Sl) (k : α → Sl → Rs β) : (Rs.ok a ρ).bind k = k a ρ := (rfl)
@[simp] theorem bind_exc (C : Str) (ρ : Sl) (k : α → Sl → Rs β) : (Rs.exc C ρ).bind k = .exc C ρ := (rfl)
@[simp] theorem bind_stuck (k : α → Sl → Rs β) : (Rs.stuck).bind k = .stuck := (rfl)
@[simp] theorem rs_some (a : α) (ρ : Sl) : rs (some a) ρ = .ok a ρ := (rfl)
@[simp] theorem rs_none (ρ : Sl) : rs (none : Option α) ρ = .stuck := (rfl)
def nthS : Sl → Nat → Option U
  | [], _ => none
  | o :: _, 0 => o
  | _ :: r, n + 1 => nthS r n
@[simp] theorem nthS_0 (o : Option U) (r : Sl) : nthS (o :: r) 0 = o := (rfl)
@[simp] theorem nthS_s (o : Option U) (r : Sl) (n : Nat) : nthS (o :: r) (n + 1) = nthS r n := (rfl)
theorem nthS_some : ∀ {ρ : Sl} {i : Nat} {u : U}, nthS ρ i = some u → ρ[i]? = some (some u)
  | [], _, _, h => by cases h
  | o :: r, 0, u, h => by
    rw [nthS_0] at h
    rw [h]
    rfl
  | o :: r, n + 1, u, h => by
    rw [List.getElem?_cons_succ]
    exact nthS_some (by simpa using h)
theorem nthS_none : ∀ {ρ : Sl} {i : Nat}, nthS ρ i = none → ρ[i]? = none ∨ ρ[i]? = some none
  | [], _, _ => .inl rfl
  | o :: r, 0, h => by
    rw [nthS_0] at h
    rw [h]
    exact .inr rfl
  | o :: r, n + 1, h => by
    rw [List.getElem?_cons_succ]
    exact nthS_none (by simpa using h)
def vS (o : Option U) (ρ : Sl) : Rs U := match o with
  | some u => .ok u ρ
  | none => .stuck
@[simp] theorem vS_s (u : U) : vS (some u) ρ = .ok u ρ := (rfl)
@[simp] theorem eV_d (i : Nat) : eV i ρ = vS (nthS ρ i) ρ := by
  unfold eV vS
  cases h : nthS ρ i with
  | some u => rw [nthS_some h]
  | none => rcases nthS_none h with e | e <;> rw [e]
@[simp] theorem eC_d (u : U) : eC u ρ = .ok u ρ := (rfl)
@[simp] theorem e1_d (op : U → Option U) (a : EF) : e1 op a ρ = (a ρ).bind fun x ρ1 => rs (op x) ρ1 := (rfl)
@[simp] theorem e2_d (op : U → U → Option U) (a b : EF) : e2 op a b ρ = (a ρ).bind fun x ρ1 => (b ρ1).bind fun y ρ2 => rs (op x y) ρ2 := (rfl)
def bAnd (x : U) (ρ : Sl) (k : Sl → Rs U) : Rs U := match x with
  | .bl true => k ρ
  | .bl false => .ok (.bl false) ρ
  | _ => .stuck
def bOr (x : U) (ρ : Sl) (k : Sl → Rs U) : Rs U := match x with
  | .bl true => .ok (.bl true) ρ
  | .bl false => k ρ
  | _ => .stuck
@[simp] theorem bAnd_b (b : Bool) (k : Sl → Rs U) : bAnd (.bl b) ρ k = if b then k ρ else .ok (.bl false) ρ := by cases b <;> rfl
@[simp] theorem bOr_b (b : Bool) (k : Sl → Rs U) : bOr (.bl b) ρ k = if b then .ok (.bl true) ρ else k ρ := by cases b <;> rfl
@[simp] theorem eAnd_d (a b : EF) : eAnd a b ρ = (a ρ).bind fun x ρ1 => bAnd x ρ1 b := (rfl)
@[simp] theorem eOr_d (a b : EF) : eOr a b ρ = (a ρ).bind fun x ρ1 => bOr x ρ1 b := (rfl)
@[simp] theorem eChain_d (op op' : U → U → Option U) (a b c : EF) : eChain op op' a b c ρ = (a ρ).bind fun x ρ1 => (b ρ1).bind fun y ρ2 => (rs (op x y) ρ2).bind fun v ρ3 => bAnd v ρ3 fun ρ4 => (c ρ4).bind fun z ρ5 => rs (op' y z) ρ5 := by
  unfold eChain
  cases a ρ with
  | ok x ρ1 =>
    show ((b ρ1).bind _) = _
    cases hb : b ρ1 with
    | ok y ρ2 =>
      simp only [bind_ok, hb]
      cases op x y with
      | none => rfl
      | some v =>
        cases v with
        | bl w => cases w <;> rfl
        | _ => rfl
    | exc C ρ2 => simp only [bind_ok, hb, bind_exc]
    | stuck => simp only [bind_ok, hb, bind_stuck]
  | exc C ρ1 => rfl
  | stuck => rfl
@[simp] theorem iteA (p : Prop) [Decidable p] (c : Bool) : (if p then Rs.ok (U.bl c) ρ else .ok (.bl false) ρ) = .ok (.bl (decide p && c)) ρ := by split <;> simp_all
@[simp] theorem iteO (p : Prop) [Decidable p] (c : Bool) : (if p then Rs.ok (U.bl true) ρ else .ok (.bl c) ρ) = .ok (.bl (decide p || c)) ρ := by split <;> simp_all
@[simp] theorem iteAB (p : Prop) [Decidable p] (c : Bool) : (if p then Rs.ok c ρ else .ok false ρ) = .ok (decide p && c) ρ := by split <;> simp_all
@[simp] theorem iteOB (p : Prop) [Decidable p] (c : Bool) : (if p then Rs.ok true ρ else .ok c ρ) = .ok (decide p || c) ρ := by split <;> simp_all
@[simp] theorem eNot_d (a : EF) : eNot a ρ = (a ρ).bind fun x ρ1 => match x with
  | .bl b => .ok (.bl !b) ρ1
  | _ => .stuck := (rfl)
@[simp] theorem tB_d (a : EF) : tB a ρ = (a ρ).bind fun x ρ1 => match x with
  | .bl b => .ok b ρ1
  | _ => .stuck := (rfl)
@[simp] theorem tAnd_d (a b : BF) : tAnd a b ρ = (a ρ).bind fun x ρ1 => if x then b ρ1 else .ok false ρ1 := (rfl)
@[simp] theorem tOr_d (a b : BF) : tOr a b ρ = (a ρ).bind fun x ρ1 => if x then .ok true ρ1 else b ρ1 := (rfl)
@[simp] theorem tNot_d (a : BF) : tNot a ρ = (a ρ).bind fun x ρ1 => .ok (!x) ρ1 := (rfl)
@[simp] theorem tTrue_d : tTrue ρ = .ok true ρ := (rfl)
@[simp] theorem eIf_d (t : BF) (a b : EF) : eIf t a b ρ = (t ρ).bind fun x ρ1 => if x then a ρ1 else b ρ1 := (rfl)
@[simp] theorem aNil_d : aNil ρ = .ok [] ρ := (rfl)
@[simp] theorem aCons_d (a : EF) (r : AF) : aCons a r ρ = (a ρ).bind fun x ρ1 => (r ρ1).bind fun xs ρ2 => .ok (x :: xs) ρ2 := (rfl)
@[simp] theorem eTup_d (as : AF) : eTup as ρ = (as ρ).bind fun xs ρ1 => if xs.length ≤ 100000 then .ok (.tup xs) ρ1 else .stuck := (rfl)
@[simp] theorem eLst_d (as : AF) : eLst as ρ = (as ρ).bind fun xs ρ1 => if xs.length ≤ 100000 then .ok (.lst xs) ρ1 else .stuck := (rfl)
@[simp] theorem eB_d (op : List U → Option U) (as : AF) : eB op as ρ = (as ρ).bind fun xs ρ1 => rs (op xs) ρ1 := (rfl)
def cRes (r : FR) (ρ : Sl) : Rs U := match r with
  | .ok u _ => .ok u ρ
  | .exc C _ => .exc C ρ
  | .stuck => .stuck
@[simp] theorem cRes_ok (u d : U) : cRes (.ok u d) ρ = .ok u ρ := (rfl)
@[simp] theorem cRes_exc (C : Str) (d : U) : cRes (.exc C d) ρ = .exc C ρ := (rfl)
@[simp] theorem eCall_d (φ : List U → FR) (as : AF) : eCall φ as ρ = (as ρ).bind fun xs ρ1 => cRes (φ xs) ρ1 := (rfl)
@[simp] theorem oNo_d : oNo ρ = .ok none ρ := (rfl)
@[simp] theorem oSome_d (e : EF) : oSome e ρ = (e ρ).bind fun x ρ1 => match x with
  | .int i => .ok (some i) ρ1
  | _ => .stuck := (rfl)
@[simp] theorem eSl_d (a : EF) (lo hi : OF) : eSl a lo hi ρ = (a ρ).bind fun x ρ1 => (lo ρ1).bind fun l ρ2 => (hi ρ2).bind fun h ρ3 => rs (uSl x l h) ρ3 := (rfl)
@[simp] theorem eBorrow_d (e : EF) : eBorrow e ρ = (match e ρ with
  | .ok u _ => if scalU u then .ok u ρ else .stuck
  | _ => .stuck) := (rfl)
@[simp] theorem eBorrowF_d (e : EF) : eBorrowF e ρ = (match e ρ with
  | .ok (.lst us) _ => if us.all scalU then .ok (.lst us) ρ else .stuck
  | _ => .stuck) := (rfl)
@[simp] theorem gN_d (i : Nat) (u : U) : gN i u ρ = some (ρ.set i (some u)) := (rfl)
@[simp] theorem gsNil_d : gsNil [] ρ = some ρ := (rfl)
@[simp] theorem gsCons_d (g : TgF) (gs : TgsF) (u : U) (r : List U) : gsCons g gs (u :: r) ρ = (match g u ρ with
  | some ρ1 => gs r ρ1
  | none => none) := (rfl)
@[simp] theorem gT_d (gs : TgsF) (us : List U) : gT gs (.tup us) ρ = gs us ρ := (rfl)
@[simp] theorem gNs_nil : gNs [] = gsNil := (rfl)
@[simp] theorem gNs_cons (i : Nat) (is : List Nat) : gNs (i :: is) = gsCons (gN i) (gNs is) := (rfl)
@[simp] theorem of_ok (a : α) (k : α → Sl → Fl) : Fl.of (.ok a ρ) k = k a ρ := (rfl)
@[simp] theorem of_exc (C : Str) (k : α → Sl → Fl) : Fl.of (.exc C ρ) k = .exc C ρ := (rfl)
@[simp] theorem of_stuck (k : α → Sl → Fl) : Fl.of (.stuck) k = .stuck := (rfl)
@[simp] theorem of_ite (c : Prop) [Decidable c] (a b : Rs α) (k : α → Sl → Fl) : Fl.of (if c then a else b) k = if c then Fl.of a k else Fl.of b k := by split <;> rfl
@[simp] theorem bind_ite (c : Prop) [Decidable c] (a b : Rs α) (k : α → Sl → Rs β) : (if c then a else b).bind k = if c then a.bind k else b.bind k := by split <;> rfl
@[simp] theorem sNil_d : sNil ρ = .next ρ := (rfl)
def thn (f : Fl) (b : SF) : Fl := match f with
  | .next ρ1 => b ρ1
  | f => f
@[simp] theorem thn_next (b : SF) : thn (.next ρ) b = b ρ := (rfl)
@[simp] theorem thn_ret (u : U) (b : SF) : thn (.ret u ρ) b = .ret u ρ := (rfl)
@[simp] theorem thn_exc (C : Str) (b : SF) : thn (.exc C ρ) b = .exc C ρ := (rfl)
@[simp] theorem thn_brk (b : SF) : thn (.brk ρ) b = .brk ρ := (rfl)
@[simp] theorem thn_cont (b : SF) : thn (.cont ρ) b = .cont ρ := (rfl)
@[simp] theorem thn_stuck (b : SF) : thn .stuck b = .stuck := (rfl)
@[simp] theorem thn_ite (c : Prop) [Decidable c] (x y : Fl) (b : SF) : thn (if c then x else y) b = if c then thn x b else thn y b := by split <;> rfl
@[simp] theorem sSeq_d (a b : SF) : sSeq a b ρ = thn (a ρ) b := by
  unfold sSeq thn
  split <;> simp_all
@[simp] theorem sExpr_d (e : EF) : sExpr e ρ = .of (e ρ) fun _ ρ1 => .next ρ1 := (rfl)
@[simp] theorem sRet_d (e : EF) : sRet e ρ = .of (e ρ) fun u ρ1 => .ret u ρ1 := (rfl)
@[simp] theorem sRetN_d : sRetN ρ = .ret .non ρ := (rfl)
def nxO (o : Option Sl) : Fl := match o with
  | some ρ2 => .next ρ2
  | none => .stuck
@[simp] theorem nxO_s : nxO (some ρ) = .next ρ := (rfl)
@[simp] theorem sAsg_d (e : EF) (g : TgF) : sAsg e g ρ = .of (e ρ) fun u ρ1 => nxO (g u ρ1) := (rfl)
@[simp] theorem sPar_d (gs : TgsF) (as : AF) : sPar gs as ρ = .of (as ρ) fun us ρ1 => nxO (gs us ρ1) := (rfl)
@[simp] theorem sIf_d (t : BF) (a b : SF) : sIf t a b ρ = .of (t ρ) fun x ρ1 => if x then a ρ1 else b ρ1 := (rfl)
@[simp] theorem sRaise_d (C : Str) : sRaise C ρ = .exc C ρ := (rfl)
@[simp] theorem sBreak_d : sBreak ρ = .brk ρ := (rfl)
@[simp] theorem sCont_d : sCont ρ = .cont ρ := (rfl)
@[simp] theorem sFor_d (it : AF) (g : TgF) (b : SF) : sFor it g b ρ = .of (it ρ) fun us ρ1 => forL g b us ρ1 := (rfl)
@[simp] theorem iSeq_d (e : EF) : iSeq e ρ = (e ρ).bind fun x ρ1 => match x with
  | .lst xs => .ok xs ρ1
  | .tup xs => .ok xs ρ1
  | _ => .stuck := (rfl)
@[simp] theorem fnEnd_ret (io fr : Bool) (u : U) : fnEnd io fr (.ret u ρ) = .ok u (if io then slot0 ρ else .non) := (rfl)
@[simp] theorem fnEnd_next (io : Bool) : fnEnd io false (.next ρ) = .ok .non (if io then slot0 ρ else .non) := (rfl)
@[simp] theorem fnEnd_exc (io fr : Bool) (C : Str) : fnEnd io fr (.exc C ρ) = .exc C (if io then slot0 ρ else .non) := (rfl)
@[simp] theorem fnEnd_ite (io fr : Bool) (c : Prop) [Decidable c] (x y : Fl) : fnEnd io fr (if c then x else y) = if c then fnEnd io fr x else fnEnd io fr y := by split <;> rfl
@[simp] theorem cRes_ite (c : Prop) [Decidable c] (x y : FR) : cRes (if c then x else y) ρ = if c then cRes x ρ else cRes y ρ := by split <;> rfl
end
/-! ### operations -/
@[simp] theorem intsOf_in : ∀ xs : List Int, intsOf (xs.map U.int) = some xs
  | [] => rfl
  | x :: xs => by rw [List.map_cons, intsOf, intsOf_in xs]; rfl
@[simp] theorem blsOf_map {α : Type} (p : α → Bool) : ∀ xs : List α, blsOf (xs.map fun x => U.bl (p x)) = some (xs.map p)
  | [] => rfl
  | x :: xs => by rw [List.map_cons, blsOf, blsOf_map p xs]; rfl
theorem bAll_map {α : Type} (p : α → Bool) (xs : List α) : bAll [.lst (xs.map fun x => U.bl (p x))] = some (.bl (xs.all p)) := by
  unfold bAll
  simp [blsOf_map, List.all_map]
theorem bAny_map {α : Type} (p : α → Bool) (xs : List α) : bAny [.lst (xs.map fun x => U.bl (p x))] = some (.bl (xs.any p)) := by
  unfold bAny
  simp [blsOf_map, List.any_map]
@[simp] theorem bSum_l (xs : List Int) : bSum [.lst (xs.map U.int)] = some (.int xs.sum) := by simp [bSum]
@[simp] theorem bSum_t (xs : List Int) : bSum [.tup (xs.map U.int)] = some (.int xs.sum) := by simp [bSum]
@[simp] theorem bLen_l (xs : List U) : bLen [.lst xs] = some (.int xs.length) := (rfl)
@[simp] theorem bLen_t (xs : List U) : bLen [.tup xs] = some (.int xs.length) := (rfl)
@[simp] theorem bList_l (xs : List U) : bList [.lst xs] = some (.lst xs) := (rfl)
@[simp] theorem bList_t (xs : List U) : bList [.tup xs] = some (.lst xs) := (rfl)
@[simp] theorem bTuple_l (xs : List U) : bTuple [.lst xs] = some (.tup xs) := (rfl)
@[simp] theorem bTuple_t (xs : List U) : bTuple [.tup xs] = some (.tup xs) := (rfl)
@[simp] theorem bInt_i (i : Int) : bInt [.int i] = some (.int i) := (rfl)
@[simp] theorem bInt_b (b : Bool) : bInt [.bl b] = some (.int (if b then 1 else 0)) := (rfl)
@[simp] theorem uAdd_i (i j : Int) : uAdd (.int i) (.int j) = some (.int (i + j)) := (rfl)
@[simp] theorem uAdd_l (xs ys : List U) : uAdd (.lst xs) (.lst ys) = if xs.length + ys.length ≤ 100000 then some (.lst (xs ++ ys)) else none := (rfl)
@[simp] theorem uAdd_t (xs ys : List U) : uAdd (.tup xs) (.tup ys) = if xs.length + ys.length ≤ 100000 then some (.tup (xs ++ ys)) else none := (rfl)
@[simp] theorem uSub_i (i j : Int) : uSub (.int i) (.int j) = some (.int (i - j)) := (rfl)
@[simp] theorem uNeg_i (i : Int) : uNeg (.int i) = some (.int (-i)) := (rfl)
@[simp] theorem uLtI_i (i j : Int) : uLtI (.int i) (.int j) = some (.bl (decide (i < j))) := (rfl)
@[simp] theorem uLeI_i (i j : Int) : uLeI (.int i) (.int j) = some (.bl (decide (i ≤ j))) := (rfl)
@[simp] theorem uGtI_i (i j : Int) : uGtI (.int i) (.int j) = some (.bl (decide (j < i))) := (rfl)
@[simp] theorem uGeI_i (i j : Int) : uGeI (.int i) (.int j) = some (.bl (decide (j ≤ i))) := (rfl)
@[simp] theorem uIsB_b (a b : Bool) : uIsB (.bl a) (.bl b) = some (.bl (decide (a = b))) := (rfl)
@[simp] theorem uNotB_b (a b : Bool) : uNotB (.bl a) (.bl b) = some (.bl (!decide (a = b))) := (rfl)
@[simp] theorem uSl_l (xs : List U) (lo hi : Option Int) : uSl (.lst xs) lo hi = some (.lst (cutU xs lo hi)) := (rfl)
@[simp] theorem uSl_t (xs : List U) (lo hi : Option Int) : uSl (.tup xs) lo hi = some (.tup (cutU xs lo hi)) := (rfl)
@[simp] theorem uIx_l (xs : List U) (i : Int) : uIx (.lst xs) (.int i) = atU xs i := (rfl)
@[simp] theorem uIx_t (xs : List U) (i : Int) : uIx (.tup xs) (.int i) = atU xs i := (rfl)
theorem uMod_i {i j : Int} (h : 0 < j) : uMod (.int i) (.int j) = some (.int (i % j)) := if_pos h
@[simp] theorem lo_some (f : U → U → Option U) (x y : U) (us : List U) (h : f x y = some (.lst us)) : lo f x y = some (.lst us) := by
  unfold lo
  rw [h]
/-! plain data -/
@[simp] theorem eqvU_ii (i j : Int) : eqvU (.int i) (.int j) = (i == j) := by rw [eqvU]
@[simp] theorem eqvUs_in : ∀ xs ys : List Int, eqvUs (xs.map U.int) (ys.map U.int) = (xs == ys)
  | [], [] => by simp [eqvUs]
  | [], y :: ys => by simp [eqvUs]
  | x :: xs, [] => by simp [eqvUs]
  | x :: xs, y :: ys => by
    rw [List.map_cons, List.map_cons, eqvUs, eqvU_ii, eqvUs_in xs ys]
    rfl
@[simp] theorem plUs_map {α : Type} (f : α → U) (h : ∀ x, plU (f x) = true) : ∀ xs : List α, plUs (xs.map f) = true
  | [] => by simp [plUs]
  | x :: xs => by
    rw [List.map_cons, plUs, h x, plUs_map f h xs]
    rfl
theorem depUs_le {α : Type} {n : Nat} (f : α → U) (h : ∀ x, depU (f x) ≤ n) : ∀ xs : List α, depUs (xs.map f) ≤ n
  | [] => by simp [depUs]
  | x :: xs => by
    rw [List.map_cons, depUs]
    exact Nat.max_le.mpr ⟨h x, depUs_le f h xs⟩
@[simp] theorem okU_i (i : Int) : okU (.int i) = true := by simp [okU, plU, depU]
@[simp] theorem okU_b (b : Bool) : okU (.bl b) = true := by simp [okU, plU, depU]
theorem okU_lst {α : Type} (f : α → U) (h : ∀ x, plU (f x) = true) (hd : ∀ x, depU (f x) ≤ 60) (xs : List α) : okU (.lst (xs.map f)) = true := by
  have h1 := plUs_map f h xs
  have h2 := depUs_le f hd xs
  have h3 : depUs (xs.map f) + 1 ≤ 64 := by omega
  simp [okU, plU, depU, h1, h3]
theorem okU_tup {α : Type} (f : α → U) (h : ∀ x, plU (f x) = true) (hd : ∀ x, depU (f x) ≤ 60) (xs : List α) : okU (.tup (xs.map f)) = true := by
  have h1 := plUs_map f h xs
  have h2 := depUs_le f hd xs
  have h3 : depUs (xs.map f) + 1 ≤ 64 := by omega
  simp [okU, plU, depU, h1, h3]
@[simp] theorem okU_li (xs : List Int) : okU (.lst (xs.map U.int)) = true := okU_lst _ (fun x => by simp [plU]) (fun x => by simp [depU]) xs
@[simp] theorem okU_ti (xs : List Int) : okU (.tup (xs.map U.int)) = true := okU_tup _ (fun x => by simp [plU]) (fun x => by simp [depU]) xs
@[simp] theorem okU_l0 : okU (.lst []) = true := by simp [okU, plU, plUs, depU, depUs]
@[simp] theorem okU_t0 : okU (.tup []) = true := by simp [okU, plU, plUs, depU, depUs]
theorem any_eqv (xs : List Int) (i : Int) : ((xs.map U.int).any fun z => eqvU z (.int i)) = xs.contains i := by
  induction xs with
  | nil => rfl
  | cons x xs ih =>
    rw [List.map_cons, List.any_cons, ih, eqvU_ii, List.contains_cons]
    congr 1
    exact Bool.eq_iff_iff.mpr ⟨fun h => by simpa using (beq_iff_eq.mp h).symm, fun h => by simpa using (beq_iff_eq.mp h).symm⟩
@[simp] theorem uInB_t (i : Int) (xs : List Int) : uInB (.int i) (.tup (xs.map U.int)) = some (xs.contains i) := by
  simp only [uInB, okU_i, okU_ti, Bool.and_self, if_true, any_eqv]
@[simp] theorem uInB_l (i : Int) (xs : List Int) : uInB (.int i) (.lst (xs.map U.int)) = some (xs.contains i) := by
  simp only [uInB, okU_i, okU_li, Bool.and_self, if_true, any_eqv]
@[simp] theorem uIn_d {a b : U} {x : Bool} (h : uInB a b = some x) : uIn a b = some (.bl x) := by rw [uIn, h]; rfl
@[simp] theorem uNotIn_d {a b : U} {x : Bool} (h : uInB a b = some x) : uNotIn a b = some (.bl !x) := by rw [uNotIn, h]; rfl
@[simp] theorem uEq_ii (i j : Int) : uEq (.int i) (.int j) = some (.bl (i == j)) := by simp [uEq]
@[simp] theorem uNe_ii (i j : Int) : uNe (.int i) (.int j) = some (.bl (i != j)) := by simp [uNe, bne]
@[simp] theorem uEq_ll (xs ys : List Int) : uEq (.lst (xs.map U.int)) (.lst (ys.map U.int)) = some (.bl (xs == ys)) := by simp [uEq, eqvU]
@[simp] theorem uNe_ll (xs ys : List Int) : uNe (.lst (xs.map U.int)) (.lst (ys.map U.int)) = some (.bl (xs != ys)) := by simp [uNe, eqvU, bne]
@[simp] theorem uEq_l0 (xs : List Int) : uEq (.lst (xs.map U.int)) (.lst []) = some (.bl (xs == [])) := uEq_ll xs []
@[simp] theorem uNe_l0 (xs : List Int) : uNe (.lst (xs.map U.int)) (.lst []) = some (.bl (xs != [])) := uNe_ll xs []
@[simp] theorem uEq_tt (xs ys : List Int) : uEq (.tup (xs.map U.int)) (.tup (ys.map U.int)) = some (.bl (xs == ys)) := by simp [uEq, eqvU]
@[simp] theorem uEq_bb (a b : Bool) : uEq (.bl a) (.bl b) = some (.bl (a == b)) := by simp [uEq, eqvU]
@[simp] theorem uNe_bb (a b : Bool) : uNe (.bl a) (.bl b) = some (.bl (a != b)) := by simp [uNe, eqvU, bne]
/-! sequences -/
theorem sxU_map (n d : Nat) (o : Option Int) : sxU n d o = sxU n d o := (rfl)
@[simp] theorem cutU_map {α : Type} (f : α → U) (xs : List α) (lo hi : Option Int) : cutU (xs.map f) lo hi = (cutU xs lo hi).map f := by
  unfold cutU
  rw [List.length_map, List.map_take, List.map_drop]
@[simp] theorem atU_map {α : Type} (f : α → U) (xs : List α) (i : Int) : atU (xs.map f) i = (atU xs i).map f := by
  unfold atU
  rw [List.length_map]
  split
  · rw [List.getElem?_map]
  · split
    · rw [List.getElem?_map]
    · rfl
theorem zipU_map {α β : Type} (f : α → U) (g : β → U) : ∀ (xs : List α) (ys : List β), zipU (xs.map f) (ys.map g) = (xs.zip ys).map fun p => .tup [f p.1, g p.2]
  | [], ys => rfl
  | x :: xs, [] => rfl
  | x :: xs, y :: ys => by
    show U.tup [f x, g y] :: zipU (xs.map f) (ys.map g) = _
    rw [zipU_map f g xs ys]
    rfl
def rng (lo : Int) : Nat → List Int
  | 0 => []
  | n + 1 => lo :: rng (lo + 1) n
theorem rangeU_map : ∀ (n : Nat) (lo : Int), rangeU lo n = (rng lo n).map U.int
  | 0, _ => rfl
  | n + 1, lo => by
    rw [rangeU, rng, List.map_cons, rangeU_map n]
@[simp] theorem rng_length : ∀ (n : Nat) (lo : Int), (rng lo n).length = n
  | 0, _ => rfl
  | n + 1, lo => by rw [rng, List.length_cons, rng_length n]
def enumI {α : Type} (xs : List α) : List (Int × α) := (rng 0 xs.length).zip xs
theorem enumU_map {α : Type} (f : α → U) (xs : List α) : enumU (xs.map f) = (enumI xs).map fun p => .tup [.int p.1, f p.2] := by
  unfold enumU enumI
  rw [rangeU_map, List.length_map, zipU_map]
theorem mem_rng : ∀ {n : Nat} {lo i : Int}, i ∈ rng lo n ↔ lo ≤ i ∧ i < lo + n
  | 0, lo, i => by
    constructor
    · intro h
      simp [rng] at h
    · intro h
      omega
  | n + 1, lo, i => by
    rw [rng, List.mem_cons, mem_rng (n := n)]
    omega
/-! ### comprehensions, loops -/
theorem compL_map {α : Type} {vs : List Nat} {g : TgF} {t : BF} {e : EF} {w : Sl} (enc : α → U) (p : α → Bool) (f : α → U) : ∀ (xs : List α) (ρ : Sl) (acc : List U), wipeU ρ vs = w →
    (∀ x ∈ xs, ∃ ρ2, g (enc x) w = some ρ2 ∧ t ρ2 = .ok (p x) ρ2 ∧ (p x = true → e ρ2 = .ok (f x) ρ2) ∧ wipeU ρ2 vs = w) → ∃ ρ', wipeU ρ' vs = w ∧ compL vs g t e (xs.map enc) ρ acc = .ok (acc.reverse ++ (xs.filter p).map f) ρ'
  | [], ρ, acc, hw, _ => ⟨ρ, hw, by simp [compL]⟩
  | x :: xs, ρ, acc, hw, h => by
    obtain ⟨ρ2, h1, h2, h3, h4⟩ := h x (.head _)
    rw [List.map_cons, compL, hw, h1]
    simp only [h2]
    cases hp : p x with
    | true =>
      simp only [h3 hp]
      obtain ⟨ρ', k1, k2⟩ := compL_map enc p f xs ρ2 (f x :: acc) h4 fun y hy => h y (.tail _ hy)
      refine ⟨ρ', k1, ?_⟩
      rw [k2, List.reverse_cons, List.filter_cons_of_pos hp, List.map_cons, List.append_assoc]
      rfl
    | false =>
      obtain ⟨ρ', k1, k2⟩ := compL_map enc p f xs ρ2 acc h4 fun y hy => h y (.tail _ hy)
      refine ⟨ρ', k1, ?_⟩
      simp only
      rw [k2, List.filter_cons_of_neg (by simp [hp])]
theorem wipe_get (ρ : Sl) : ∀ (vs : List Nat) (i : Nat), (wipeU ρ vs)[i]? = if i ∈ vs then (if i < ρ.length then some none else none) else ρ[i]?
  | [], i => by simp [wipeU]
  | v :: vs, i => by
    have hl : ∀ vs, (wipeU ρ vs).length = ρ.length := fun vs => by
      induction vs with
      | nil => rfl
      | cons v vs ih => rw [wipeU, List.length_set, ih]
    rw [wipeU]
    by_cases h : v = i
    · subst h
      rw [if_pos (List.mem_cons_self ..)]
      by_cases hv : v < ρ.length
      · rw [List.getElem?_set_self (by rw [hl]; exact hv), if_pos hv]
      · rw [List.getElem?_eq_none (by rw [List.length_set, hl]; omega), if_neg hv]
    · rw [List.getElem?_set_ne h, wipe_get ρ vs i]
      by_cases hi : i ∈ vs
      · rw [if_pos hi, if_pos (List.mem_cons_of_mem _ hi)]
      · rw [if_neg hi, if_neg (fun m => by rcases List.mem_cons.mp m with e | m; exact h e.symm; exact hi m)]
theorem back_get (ρ0 ρ : Sl) : ∀ (vs : List Nat) (i : Nat), (backU ρ0 ρ vs)[i]? = if i ∈ vs then (if i < ρ.length then some (ρ0.getD i none) else none) else ρ[i]?
  | [], i => by simp [backU]
  | v :: vs, i => by
    have hl : ∀ vs, (backU ρ0 ρ vs).length = ρ.length := fun vs => by
      induction vs with
      | nil => rfl
      | cons v vs ih => rw [backU, List.length_set, ih]
    rw [backU]
    by_cases h : v = i
    · subst h
      rw [if_pos (List.mem_cons_self ..)]
      by_cases hv : v < ρ.length
      · rw [List.getElem?_set_self (by rw [hl]; exact hv), if_pos hv]
      · rw [List.getElem?_eq_none (by rw [List.length_set, hl]; omega), if_neg hv]
    · rw [List.getElem?_set_ne h, back_get ρ0 ρ vs i]
      by_cases hi : i ∈ vs
      · rw [if_pos hi, if_pos (List.mem_cons_of_mem _ hi)]
      · rw [if_neg hi, if_neg (fun m => by rcases List.mem_cons.mp m with e | m; exact h e.symm; exact hi m)]
theorem wipe_len (ρ : Sl) (vs : List Nat) : (wipeU ρ vs).length = ρ.length := by
  induction vs with
  | nil => rfl
  | cons v vs ih => rw [wipeU, List.length_set, ih]
theorem back_same {ρ0 ρ : Sl} {vs : List Nat} (h : wipeU ρ vs = wipeU ρ0 vs) : backU ρ0 ρ vs = ρ0 := by
  have hl : ρ.length = ρ0.length := by
    have := congrArg List.length h
    rwa [wipe_len, wipe_len] at this
  apply List.ext_getElem?
  intro i
  rw [back_get]
  by_cases hi : i ∈ vs
  · rw [if_pos hi, hl]
    by_cases hv : i < ρ0.length
    · rw [if_pos hv, List.getD_eq_getElem?_getD, List.getElem?_eq_getElem hv]
      rfl
    · rw [if_neg hv, List.getElem?_eq_none (by omega)]
  · rw [if_neg hi]
    have := congrArg (fun l => l[i]?) h
    simp only [wipe_get, if_neg hi] at this
    exact this
theorem eComp_map {α : Type} {vs : List Nat} {it : AF} {g : TgF} {t : BF} {e : EF} {ρ ρ1 : Sl} (xs : List α) (enc : α → U) (p : α → Bool) (f : α → U) (hit : it ρ = .ok (xs.map enc) ρ1) (hl : xs.length ≤ 100000)
    (h : ∀ x ∈ xs, ∃ ρ2, g (enc x) (wipeU ρ1 vs) = some ρ2 ∧ t ρ2 = .ok (p x) ρ2 ∧ (p x = true → e ρ2 = .ok (f x) ρ2) ∧ wipeU ρ2 vs = wipeU ρ1 vs) : eComp vs it g t e ρ = .ok (.lst ((xs.filter p).map f)) ρ1 := by
  unfold eComp
  rw [hit]
  obtain ⟨ρ', k1, k2⟩ := compL_map (w := wipeU ρ1 vs) enc p f xs ρ1 [] rfl h
  have hl' : (xs.map enc).length ≤ 100000 := by rwa [List.length_map]
  show (if (xs.map enc).length ≤ 100000 then (compL vs g t e (xs.map enc) ρ1 []).bind fun ys ρ2 => Rs.ok (U.lst ys) (backU ρ1 ρ2 vs) else Rs.stuck) = _
  rw [if_pos hl', k2]
  show Rs.ok (U.lst _) (backU ρ1 ρ' vs) = _
  rw [back_same k1]
  rfl
/-- for x in xs: if not c(x): return False -/
theorem forL_check {α : Type} {g : TgF} {b : SF} (enc : α → U) (c : α → Bool) (inv : Sl → Prop) : ∀ (xs : List α) (ρ : Sl), inv ρ → (∀ x ∈ xs, ∀ ρ, inv ρ → ∃ ρ1, g (enc x) ρ = some ρ1 ∧ ∃ ρ2, b ρ1 = (if c x then .next ρ2 else .ret (.bl false) ρ2) ∧ (c x = true → inv ρ2)) →
    ∃ ρ', forL g b (xs.map enc) ρ = (if xs.all c then .next ρ' else .ret (.bl false) ρ') ∧ (xs.all c = true → inv ρ')
  | [], ρ, h0, _ => ⟨ρ, rfl, fun _ => h0⟩
  | x :: xs, ρ, h0, h => by
    obtain ⟨ρ1, h1, ρ2, h2, h3⟩ := h x (.head _) ρ h0
    rw [List.map_cons, forL, h1, List.all_cons]
    by_cases hc : c x = true
    · rw [if_pos hc] at h2
      rw [hc]
      simp only [h2, Bool.true_and]
      exact forL_check enc c inv xs ρ2 (h3 hc) fun y hy => h y (.tail _ hy)
    · rw [if_neg hc] at h2
      have hc' : c x = false := by simpa using hc
      rw [hc']
      simp only [h2, Bool.false_and]
      exact ⟨ρ2, rfl, fun h => by cases h⟩
/-- a loop that goes through: a state carried on -/
theorem forL_fold {α σ : Type} {g : TgF} {b : SF} (enc : α → U) (inv : σ → Sl → Prop) (F : σ → α → σ) : ∀ (xs : List α) (s : σ) (ρ : Sl), inv s ρ → (∀ x ∈ xs, ∀ s ρ, inv s ρ → ∃ ρ1, g (enc x) ρ = some ρ1 ∧ ∃ ρ2, b ρ1 = .next ρ2 ∧ inv (F s x) ρ2) →
    ∃ ρ', forL g b (xs.map enc) ρ = .next ρ' ∧ inv (xs.foldl F s) ρ'
  | [], s, ρ, h0, _ => ⟨ρ, rfl, h0⟩
  | x :: xs, s, ρ, h0, h => by
    obtain ⟨ρ1, h1, ρ2, h2, h3⟩ := h x (.head _) s ρ h0
    rw [List.map_cons, forL, h1]
    simp only [h2, List.foldl_cons]
    exact forL_fold enc inv F xs (F s x) ρ2 h3 fun y hy => h y (.tail _ hy)
/-- a loop that goes through: a relation carried on, by the items gone through -/
theorem forL_inv {α : Type} {g : TgF} {b : SF} (enc : α → U) (inv : List α → Sl → Prop) : ∀ (ys xs : List α) (ρ : Sl), inv ys ρ → (∀ ys x zs, ys.reverse ++ x :: zs = ys.reverse ++ x :: zs → ∀ ρ, inv ys ρ → x ∈ xs → ∃ ρ1, g (enc x) ρ = some ρ1 ∧ ∃ ρ2, b ρ1 = .next ρ2 ∧ inv (x :: ys) ρ2) →
    ∃ ρ', forL g b (xs.map enc) ρ = .next ρ' ∧ inv (xs.reverse ++ ys) ρ'
  | ys, [], ρ, h0, _ => ⟨ρ, rfl, h0⟩
  | ys, x :: xs, ρ, h0, h => by
    obtain ⟨ρ1, h1, ρ2, h2, h3⟩ := h ys x xs rfl ρ h0 (.head _)
    rw [List.map_cons, forL, h1]
    simp only [h2]
    obtain ⟨ρ', k1, k2⟩ := forL_inv enc inv (x :: ys) xs ρ2 h3 fun ys y zs e ρ hi hy => h ys y zs e ρ hi (.tail _ hy)
    refine ⟨ρ', k1, ?_⟩
    rw [List.reverse_cons, List.append_assoc]
    exact k2
theorem eComp_same {α : Type} {vs : List Nat} {it : AF} {g : TgF} {t : BF} {e : EF} {ρ : Sl} (xs : List α) (enc : α → U) (p : α → Bool) (f : α → U) (hit : it ρ = .ok (xs.map enc) ρ) (hl : xs.length ≤ 100000)
    (h : ∀ x ∈ xs, ∃ ρ2, g (enc x) (wipeU ρ vs) = some ρ2 ∧ t ρ2 = .ok (p x) ρ2 ∧ (p x = true → e ρ2 = .ok (f x) ρ2) ∧ wipeU ρ2 vs = wipeU ρ vs) : eComp vs it g t e ρ = .ok (.lst ((xs.filter p).map f)) ρ := eComp_map xs enc p f hit hl h
theorem eComp_true {α : Type} {vs : List Nat} {it : AF} {g : TgF} {e : EF} {ρ : Sl} (xs : List α) (enc : α → U) (f : α → U) (hit : it ρ = .ok (xs.map enc) ρ) (hl : xs.length ≤ 100000)
    (h : ∀ x ∈ xs, ∃ ρ2, g (enc x) (wipeU ρ vs) = some ρ2 ∧ e ρ2 = .ok (f x) ρ2 ∧ wipeU ρ2 vs = wipeU ρ vs) : eComp vs it g tTrue e ρ = .ok (.lst (xs.map f)) ρ := by
  have q := eComp_map (t := tTrue) xs enc (fun _ => true) f hit hl fun x hx => by
    obtain ⟨ρ2, h1, h2, h3⟩ := h x hx
    exact ⟨ρ2, h1, rfl, fun _ => h2, h3⟩
  rw [q, show xs.filter (fun _ => true) = xs from List.filter_eq_self.mpr fun _ _ => rfl]
@[simp] theorem iZip2_d (as : AF) (ρ : Sl) : iZip2 as ρ = (as ρ).bind fun xs ρ1 => match xs with
  | [a, b] => match seqU a, seqU b with
    | some us, some ws => .ok (zipU us ws) ρ1
    | _, _ => .stuck
  | _ => .stuck := (rfl)
@[simp] theorem iEnum_d (as : AF) (ρ : Sl) : iEnum as ρ = (as ρ).bind fun xs ρ1 => match xs with
  | [.lst a] => .ok (enumU a) ρ1
  | [.tup a] => .ok (enumU a) ρ1
  | _ => .stuck := (rfl)
@[simp] theorem seqU_l (xs : List U) : seqU (.lst xs) = some xs := (rfl)
@[simp] theorem seqU_t (xs : List U) : seqU (.tup xs) = some xs := (rfl)
/-- a loop that goes through: a state carried on, the turns counted -/
theorem forL_foldN {α σ : Type} {g : TgF} {b : SF} (enc : α → U) (N : Nat) (inv : Nat → σ → Sl → Prop) (F : σ → α → σ) : ∀ (xs : List α) (k : Nat) (s : σ) (ρ : Sl), inv k s ρ → k + xs.length ≤ N →
    (∀ x ∈ xs, ∀ k s ρ, k < N → inv k s ρ → ∃ ρ1, g (enc x) ρ = some ρ1 ∧ ∃ ρ2, b ρ1 = .next ρ2 ∧ inv (k + 1) (F s x) ρ2) →
    ∃ ρ', forL g b (xs.map enc) ρ = .next ρ' ∧ inv (k + xs.length) (xs.foldl F s) ρ'
  | [], k, s, ρ, h0, _, _ => ⟨ρ, rfl, h0⟩
  | x :: xs, k, s, ρ, h0, hk, h => by
    rw [List.length_cons] at hk
    obtain ⟨ρ1, h1, ρ2, h2, h3⟩ := h x (.head _) k s ρ (by omega) h0
    rw [List.map_cons, forL, h1]
    simp only [h2, List.foldl_cons]
    obtain ⟨ρ', k1, k2⟩ := forL_foldN enc N inv F xs (k + 1) (F s x) ρ2 h3 (by omega) fun y hy => h y (.tail _ hy)
    refine ⟨ρ', k1, ?_⟩
    rw [List.length_cons, show k + (xs.length + 1) = k + 1 + xs.length by omega]
    exact k2
/-- a loop over numbered items -/
theorem forL_enumN {α σ : Type} {g : TgF} {b : SF} (enc : α → U) (inv : Int → σ → Sl → Prop) (F : σ → Int × α → σ) (N : Int) : ∀ (xs : List α) (k : Int) (s : σ) (ρ : Sl), inv k s ρ → k + xs.length ≤ N →
    (∀ x ∈ xs, ∀ k s ρ, k < N → inv k s ρ → ∃ ρ1, g (.tup [.int k, enc x]) ρ = some ρ1 ∧ ∃ ρ2, b ρ1 = .next ρ2 ∧ inv (k + 1) (F s (k, x)) ρ2) →
    ∃ ρ', forL g b (((rng k xs.length).zip xs).map fun p => .tup [.int p.1, enc p.2]) ρ = .next ρ' ∧ inv (k + xs.length) (((rng k xs.length).zip xs).foldl F s) ρ'
  | [], k, s, ρ, h0, _, _ => ⟨ρ, rfl, by simpa using h0⟩
  | x :: xs, k, s, ρ, h0, hk, h => by
    rw [List.length_cons] at hk
    obtain ⟨ρ1, h1, ρ2, h2, h3⟩ := h x (.head _) k s ρ (by omega) h0
    rw [List.length_cons, rng, List.zip_cons_cons, List.map_cons, forL, h1]
    simp only [h2, List.foldl_cons]
    obtain ⟨ρ', k1, k2⟩ := forL_enumN enc inv F N xs (k + 1) (F s (k, x)) ρ2 h3 (by omega) fun y hy => h y (.tail _ hy)
    refine ⟨ρ', k1, ?_⟩
    rw [show k + ((xs.length + 1 : Nat) : Int) = k + 1 + xs.length by omega]
    exact k2
@[simp] theorem iRange1_d (as : AF) (ρ : Sl) : iRange1 as ρ = (as ρ).bind fun xs ρ1 => match xs with
  | [.int j] => if -(2 ^ 62) ≤ j ∧ j < 2 ^ 62 then .ok (rangeU 0 j.toNat) ρ1 else .stuck
  | _ => .stuck := (rfl)
@[simp] theorem iRange2_d (as : AF) (ρ : Sl) : iRange2 as ρ = (as ρ).bind fun xs ρ1 => match xs with
  | [.int i, .int j] => if -(2 ^ 62) ≤ i ∧ i < 2 ^ 62 ∧ -(2 ^ 62) ≤ j ∧ j < 2 ^ 62 then .ok (rangeU i (j - i).toNat) ρ1 else .stuck
  | _ => .stuck := (rfl)
def appO (i : Nat) (y : U) (ρ : Sl) : Fl := match nthS ρ i with
  | some (.lst xs) => if xs.length ≤ 100000 then .next (ρ.set i (some (.lst (xs ++ [y])))) else .stuck
  | _ => .stuck
def liv (o : Option U) (f : Fl) : Fl := match o with
  | some _ => f
  | none => .stuck
@[simp] theorem liv_s (u : U) (f : Fl) : liv (some u) f = f := (rfl)
def livL (o : Option U) (f : Fl) : Fl := match o with
  | some (.lst _) => f
  | _ => .stuck
@[simp] theorem livL_s (xs : List U) (f : Fl) : livL (some (.lst xs)) f = f := (rfl)
@[simp] theorem sAppend_d (i : Nat) (e : EF) (ρ : Sl) : sAppend i e ρ = livL (nthS ρ i) (.of (e ρ) fun y ρ1 => appO i y ρ1) := by
  unfold sAppend
  cases h : nthS ρ i with
  | some u =>
    rw [nthS_some h]
    by_cases hu : ∃ xs0, u = .lst xs0
    case neg => cases u <;> first | rfl | exact absurd ⟨_, rfl⟩ hu
    obtain ⟨xs0, rfl⟩ := hu
    show Fl.of _ _ = Fl.of _ _
    congr 1
    funext y ρ1
    unfold appO
    cases h1 : nthS ρ1 i with
    | some w =>
      rw [nthS_some h1]
      cases w <;> rfl
    | none => rcases nthS_none h1 with e | e <;> rw [e] <;> rfl
  | none => rcases nthS_none h with e | e <;> rw [e] <;> rfl
def livR {α : Type} (o : Option U) (f : Rs α) : Rs α := match o with
  | some _ => f
  | none => .stuck
@[simp] theorem livR_s {α : Type} (u : U) (f : Rs α) : livR (some u) f = f := (rfl)
def opO (op : U → U → Option U) (o : Option U) (y : U) (ρ : Sl) : Rs U := match o with
  | some d => rs (op d y) ρ
  | none => .stuck
@[simp] theorem opO_s (op : U → U → Option U) (u y : U) (ρ : Sl) : opO op (some u) y ρ = rs (op u y) ρ := (rfl)
@[simp] theorem eIxM_d (i : Nat) (op : U → U → Option U) (b : EF) (ρ : Sl) : eIxM i op b ρ = livR (nthS ρ i) ((b ρ).bind fun y ρ1 => opO op (nthS ρ1 i) y ρ1) := by
  unfold eIxM
  cases h : nthS ρ i with
  | some u =>
    rw [nthS_some h]
    show Rs.bind _ _ = Rs.bind _ _
    congr 1
    funext y ρ1
    cases h1 : nthS ρ1 i with
    | some w => rw [nthS_some h1]; rfl
    | none => rcases nthS_none h1 with e | e <;> rw [e] <;> rfl
  | none => rcases nthS_none h with e | e <;> rw [e] <;> rfl
def putO (o : Option U) (j y : U) (i : Nat) (ρ : Sl) : Fl := match o, j with
  | some (.lst xs), .int n => if 0 ≤ n ∧ n < xs.length then .next (ρ.set i (some (.lst (xs.set n.toNat y)))) else .stuck
  | _, _ => .stuck
@[simp] theorem sPut_d (i : Nat) (k e : EF) (ρ : Sl) : sPut i k e ρ = .of (e ρ) fun y ρ1 => liv (nthS ρ1 i) (.of (k ρ1) fun j ρ2 => putO (nthS ρ2 i) j y i ρ2) := by
  unfold sPut
  congr 1
  funext y ρ1
  cases h : nthS ρ1 i with
  | some u =>
    rw [nthS_some h]
    show Fl.of _ _ = Fl.of _ _
    congr 1
    funext j ρ2
    unfold putO
    cases h1 : nthS ρ2 i with
    | some w =>
      rw [nthS_some h1]
      cases w <;> cases j <;> rfl
    | none => rcases nthS_none h1 with e | e <;> rw [e] <;> rfl
  | none => rcases nthS_none h with e | e <;> rw [e] <;> rfl
def callD (r : FR) (i : Nat) (ρ : Sl) : Rs U := match r with
  | .ok u d' => .ok u (ρ.set i (some d'))
  | .exc C d' => .exc C (ρ.set i (some d'))
  | .stuck => .stuck
@[simp] theorem callD_ok (u d : U) (i : Nat) (ρ : Sl) : callD (.ok u d) i ρ = .ok u (ρ.set i (some d)) := (rfl)
def callO (φ : List U → FR) (o : Option U) (us : List U) (i : Nat) (ρ : Sl) : Rs U := match o with
  | some d => callD (φ (d :: us)) i ρ
  | none => .stuck
@[simp] theorem callO_s (φ : List U → FR) (d : U) (us : List U) (i : Nat) (ρ : Sl) : callO φ (some d) us i ρ = callD (φ (d :: us)) i ρ := (rfl)
@[simp] theorem eCallD_d (i : Nat) (φ : List U → FR) (as : AF) (ρ : Sl) : eCallD i φ as ρ = livR (nthS ρ i) ((as ρ).bind fun xs ρ1 => callO φ (nthS ρ1 i) xs i ρ1) := by
  unfold eCallD
  cases h : nthS ρ i with
  | some u =>
    rw [nthS_some h]
    show Rs.bind _ _ = Rs.bind _ _
    congr 1
    funext us ρ1
    cases h1 : nthS ρ1 i with
    | some w => rw [nthS_some h1]; rfl
    | none => rcases nthS_none h1 with e | e <;> rw [e] <;> rfl
  | none => rcases nthS_none h with e | e <;> rw [e] <;> rfl
/-- a comprehension whose element changes the slots -/
theorem compL_inv {α : Type} {vs : List Nat} {g : TgF} {e : EF} (enc : α → U) (Pf : U → Prop) (N : Nat) (inv : Nat → Sl → Prop) : ∀ (xs : List α) (k : Nat) (ρ : Sl) (acc : List U), inv k ρ → k + xs.length ≤ N →
    (∀ x ∈ xs, ∀ k ρ, k < N → inv k ρ → ∃ ρ1, g (enc x) (wipeU ρ vs) = some ρ1 ∧ ∃ y ρ2, e ρ1 = .ok y ρ2 ∧ Pf y ∧ inv (k + 1) ρ2) →
    ∃ ys ρ', compL vs g tTrue e (xs.map enc) ρ acc = .ok (acc.reverse ++ ys) ρ' ∧ ys.length = xs.length ∧ (∀ y ∈ ys, Pf y) ∧ inv (k + xs.length) ρ'
  | [], k, ρ, acc, h0, _, _ => ⟨[], ρ, by simp [compL], rfl, fun y hy => (by cases hy), h0⟩
  | x :: xs, k, ρ, acc, h0, hk, h => by
    rw [List.length_cons] at hk
    obtain ⟨ρ1, h1, y, ρ2, h2, h3, h4⟩ := h x (.head _) k ρ (by omega) h0
    obtain ⟨ys, ρ', k1, k2, k3, k4⟩ := compL_inv enc Pf N inv xs (k + 1) ρ2 (y :: acc) h4 (by omega) fun z hz => h z (.tail _ hz)
    refine ⟨y :: ys, ρ', ?_, by rw [List.length_cons, List.length_cons, k2], fun z hz => ?_, ?_⟩
    · rw [List.map_cons, compL, h1]
      simp only [tTrue, h2]
      rw [k1, List.reverse_cons, List.append_assoc]
      rfl
    · rcases List.mem_cons.mp hz with e | hz
      · rw [e]
        exact h3
      · exact k3 z hz
    · rw [List.length_cons, show k + (xs.length + 1) = k + 1 + xs.length by omega]
      exact k4
theorem eComp_inv {α : Type} {vs : List Nat} {it : AF} {g : TgF} {e : EF} {ρ ρ1 : Sl} (xs : List α) (enc : α → U) (Pf : U → Prop) (N : Nat) (inv : Nat → Sl → Prop) (hit : it ρ = .ok (xs.map enc) ρ1) (hl : xs.length ≤ 100000) (h0 : inv 0 ρ1) (hN : xs.length ≤ N)
    (h : ∀ x ∈ xs, ∀ k ρ, k < N → inv k ρ → ∃ ρ1, g (enc x) (wipeU ρ vs) = some ρ1 ∧ ∃ y ρ2, e ρ1 = .ok y ρ2 ∧ Pf y ∧ inv (k + 1) ρ2) :
    ∃ ys ρ', eComp vs it g tTrue e ρ = .ok (.lst ys) (backU ρ1 ρ' vs) ∧ ys.length = xs.length ∧ (∀ y ∈ ys, Pf y) ∧ inv xs.length ρ' := by
  obtain ⟨ys, ρ', k1, k2, k3, k4⟩ := compL_inv enc Pf N inv xs 0 ρ1 [] h0 (by omega) h
  refine ⟨ys, ρ', ?_, k2, k3, by simpa using k4⟩
  unfold eComp
  rw [hit]
  have hl' : (xs.map enc).length ≤ 100000 := by rwa [List.length_map]
  show (if (xs.map enc).length ≤ 100000 then (compL vs g tTrue e (xs.map enc) ρ1 []).bind fun ys ρ2 => Rs.ok (U.lst ys) (backU ρ1 ρ2 vs) else Rs.stuck) = _
  rw [if_pos hl', k1]
  rfl
/-- a loop with an invariant by the turn -/
theorem forL_turns {α : Type} {g : TgF} {b : SF} (enc : α → U) (inv : Nat → Sl → Prop) : ∀ (xs : List α) (k : Nat) (ρ : Sl), inv k ρ → (∀ j x, xs[j]? = some x → ∀ ρ, inv (k + j) ρ → ∃ ρ1, g (enc x) ρ = some ρ1 ∧ ∃ ρ2, b ρ1 = .next ρ2 ∧ inv (k + j + 1) ρ2) →
    ∃ ρ', forL g b (xs.map enc) ρ = .next ρ' ∧ inv (k + xs.length) ρ'
  | [], k, ρ, h0, _ => ⟨ρ, rfl, h0⟩
  | x :: xs, k, ρ, h0, h => by
    obtain ⟨ρ1, h1, ρ2, h2, h3⟩ := h 0 x rfl ρ h0
    rw [List.map_cons, forL, h1]
    simp only [h2]
    obtain ⟨ρ', k1, k2⟩ := forL_turns enc inv xs (k + 1) ρ2 h3 fun j y hy ρ hi => by
      have := h (j + 1) y (by simpa using hy) ρ (by rw [show k + (j + 1) = k + 1 + j by omega]; exact hi)
      rw [show k + (j + 1) = k + 1 + j by omega] at this
      exact this
    refine ⟨ρ', k1, ?_⟩
    rw [List.length_cons, show k + (xs.length + 1) = k + 1 + xs.length by omega]
    exact k2
theorem rng_get : ∀ {n : Nat} {lo : Int} {i : Nat} {x : Int}, (rng lo n)[i]? = some x → x = lo + i ∧ i < n
  | 0, lo, i, x, h => by simp [rng] at h
  | n + 1, lo, 0, x, h => by
    simp [rng] at h
    omega
  | n + 1, lo, i + 1, x, h => by
    rw [rng, List.getElem?_cons_succ] at h
    have := rng_get h
    omega
theorem rng_at : ∀ (n : Nat) (lo : Int) (i : Nat), i < n → (rng lo n)[i]? = some (lo + i)
  | 0, lo, i, h => by omega
  | n + 1, lo, 0, h => by simp [rng]
  | n + 1, lo, i + 1, h => by
    rw [rng, List.getElem?_cons_succ, rng_at n (lo + 1) i (by omega)]
    congr 1
    omega
theorem ints_of_all {P : Int → Prop} : ∀ {ys : List U}, (∀ y ∈ ys, ∃ i, y = .int i ∧ P i) → ∃ ls : List Int, ys = ls.map .int ∧ ∀ l ∈ ls, P l
  | [], _ => ⟨[], rfl, fun l h => (by cases h)⟩
  | y :: ys, h => by
    obtain ⟨i, rfl, hi⟩ := h y (.head _)
    obtain ⟨ls, e, hl⟩ := ints_of_all fun z hz => h z (.tail _ hz)
    refine ⟨i :: ls, by rw [e]; rfl, fun l hm => ?_⟩
    rcases List.mem_cons.mp hm with q | hm
    · rw [q]
      exact hi
    · exact hl l hm
end Q
set_option maxHeartbeats 1000000
/-! MBow: the library's functions about pieces, wishes, bowings on well-formed values -/
namespace LB
open Q
open PySem (Str)
def upU : List Nat := [117, 112]
def dnU : List Nat := [100, 111, 119, 110]
def wd (b : Bool) : U := .str (if b then [117, 112] else [100, 111, 119, 110])
def encP (ls : List Int) (bow : Int) (jn sp : List Int) : U := .tup [.tup (ls.map .int), .int bow, .tup (jn.map .int), .tup (sp.map .int)]
def encW (ws : List (Int × Bool)) : U := .tup (ws.map fun w => .tup [.int w.1, wd w.2])
@[simp] theorem ty_i_int (i : Int) : bIsInst [.int i, .ty "int"] = some (.bl true) := by simp [bIsInst, tyOf]
@[simp] theorem ty_i_bool (i : Int) : bIsInst [.int i, .ty "bool"] = some (.bl false) := by simp [bIsInst, tyOf]
@[simp] theorem ty_t_t (xs : List U) : bIsInst [.tup xs, .ty "tuple"] = some (.bl true) := by simp [bIsInst, tyOf]
@[simp] theorem ty_s_s (x : List Nat) : bIsInst [.str x, .ty "str"] = some (.bl true) := by simp [bIsInst, tyOf]
theorem s_is_from (i l h : Int) : fn_is_from [.int i, .int l, .int h] = .ok (.bl (decide (l ≤ i) && decide (i ≤ h))) .non := by
  simp [fn_is_from, fnOf, b_is_from, startU]
def inR (n g : Int) : Bool := decide (1 ≤ g) && decide (g ≤ n - 1)
def lt2 (p : Int × Int) : Bool := decide (p.1 < p.2)
def okGaps (n : Int) (gs : List Int) : Bool := gs.all (inR n) && (gs.zip gs.tail).all lt2
@[simp] theorem cut1 {α : Type} (xs : List α) : cutU xs (some 1) none = xs.tail := by
  unfold cutU sxU
  cases xs with
  | nil => rfl
  | cons x xs => simp
theorem zip_tail {α : Type} (f : α → U) (xs : List α) : zipU (xs.map f) (xs.map f).tail = (xs.zip xs.tail).map fun p => .tup [f p.1, f p.2] := by
  rw [← List.map_tail, zipU_map]
theorem s_are_gaps (n : Int) (gs : List Int) (hl : gs.length ≤ 100000) : fn_are_gaps [.int n, .tup (gs.map .int)] = .ok (.bl (okGaps n gs)) .non := by
  simp [fn_are_gaps, fnOf, b_are_gaps, startU]
  rw [eComp_true gs U.int (fun g => .bl (inR n g)) (by simp) hl (by
    intro x hx
    refine ⟨_, rfl, ?_, ?_⟩ <;> simp [wipeU, s_is_from, inR])]
  simp only [bind_ok, bAll_map, rs_some, of_ok]
  unfold okGaps
  generalize gs.all (inR n) = A
  cases A with
  | false => simp
  | true =>
    simp
    rw [eComp_true (gs.zip gs.tail) (fun p => .tup [.int p.1, .int p.2]) (fun p => .bl (lt2 p)) (by simp [zip_tail]) (by simp; omega) (by
      intro x hx
      refine ⟨_, rfl, ?_, ?_⟩ <;> simp [wipeU, lt2])]
    simp only [bind_ok, bAll_map, rs_some, of_ok, fnEnd_ret]
    simp
/-! ### wishes -/
def hasUp0 (ws : List (Int × Bool)) : Bool := ws.any fun w => w.1 == 0 && w.2
theorem okU_wish (w : Int × Bool) : plU (U.tup [.int w.1, wd w.2]) = true ∧ depU (U.tup [.int w.1, wd w.2]) ≤ 60 := by
  unfold wd
  cases w.2 <;> simp [plU, plUs, depU, depUs]
theorem okU_W (ws : List (Int × Bool)) : okU (encW ws) = true := okU_tup _ (fun w => (okU_wish w).1) (fun w => (okU_wish w).2) ws
theorem eqv_w0 (w : Int × Bool) : eqvU (.tup [.int w.1, wd w.2]) (.tup [.int 0, .str [117, 112]]) = (w.1 == 0 && w.2) := by
  unfold wd
  cases w.2 <;> simp [eqvU, eqvUs]
theorem in_W (ws : List (Int × Bool)) : uInB (.tup [.int 0, .str [117, 112]]) (encW ws) = some (hasUp0 ws) := by
  have h1 : okU (.tup [.int 0, .str [117, 112]]) = true := by decide
  have h2 := okU_W ws
  unfold encW at h2 ⊢
  simp only [uInB, h1, h2, Bool.and_self, if_true, List.any_map, hasUp0]
  rw [show ((fun z => eqvU z (U.tup [U.int 0, U.str [117, 112]])) ∘ fun (w : Int × Bool) => U.tup [U.int w.fst, wd w.snd]) = fun w => w.1 == 0 && w.2 from funext eqv_w0]
theorem s_first (ws : List (Int × Bool)) : fn_first_direction [encW ws] = .ok (wd (hasUp0 ws)) .non := by
  simp [fn_first_direction, fnOf, b_first_direction, startU, in_W]
  unfold wd
  cases hasUp0 ws <;> simp
theorem s_turned (b : Bool) : fn_turned [wd b] = .ok (wd !b) .non := by cases b <;> rfl
def dirK (ws : List (Int × Bool)) (k : Int) : Bool := if k % 2 = 1 then hasUp0 ws else !hasUp0 ws
theorem s_direction (ws : List (Int × Bool)) (k : Int) : fn_direction_of [encW ws, .int k] = .ok (wd (dirK ws k)) .non := by
  simp [fn_direction_of, fnOf, b_direction_of, startU, s_first, s_turned, uMod_i, dirK]
  split <;> rfl
@[simp] theorem uEq_wd (a b : Bool) : uEq (wd a) (wd b) = some (.bl (a == b)) := by cases a <;> cases b <;> rfl
@[simp] theorem uNe_wd (a b : Bool) : uNe (wd a) (wd b) = some (.bl (a != b)) := by cases a <;> cases b <;> rfl
/-! ### one stroke -/
def inS (s e : Int) (g : Int) : Bool := decide (s < g) && decide (g < e)
def atS (s e : Int) (w : Int × Bool) : Bool := decide (s ≤ w.1) && decide (w.1 < e)
def strokeOK (ls : List Int) (bow : Int) (jn sp : List Int) (ws : List (Int × Bool)) (s e : Int) (b : Bool) : Bool :=
  if bow < (cutU ls (some s) (some e)).sum ∨ e ∈ jn then false else if sp.any (inS s e) = true then false else ws.all fun w => !atS s e w || w.2 == b
theorem s_stroke_right (ls : List Int) (bow : Int) (jn sp : List Int) (ws : List (Int × Bool)) (s e : Int) (b : Bool) (h1 : sp.length ≤ 100000) (h2 : ws.length ≤ 100000) :
    fn_stroke_right [encP ls bow jn sp, encW ws, .int s, .int e, wd b] = .ok (.bl (strokeOK ls bow jn sp ws s e b)) .non := by
  simp [fn_stroke_right, fnOf, b_stroke_right, startU, encP]
  unfold strokeOK
  by_cases hA : bow < (cutU ls (some s) (some e)).sum ∨ e ∈ jn
  · rw [if_pos hA, if_pos hA]
  · rw [if_neg hA, if_neg hA]
    rw [eComp_true sp U.int (fun g => .bl (inS s e g)) (by simp) h1 (by
      intro x hx
      refine ⟨_, rfl, ?_, ?_⟩ <;> simp [wipeU, inS])]
    simp only [bind_ok, bAny_map, rs_some, of_ok, fnEnd_ret]
    generalize sp.any (inS s e) = B
    cases B with
    | true => simp
    | false =>
      simp
      rw [eComp_same ws (fun w => .tup [.int w.1, wd w.2]) (atS s e) (fun w => .bl (w.2 == b)) (by simp [encW]) h2 (by
        intro x hx
        refine ⟨_, rfl, ?_, fun _ => ?_, ?_⟩ <;> simp [wipeU, atS])]
      simp only [bind_ok, bAll_map, rs_some, of_ok, fnEnd_ret]
      simp
/-! ### strokes -/
def endsL (s : Int) : List Int → Int → List (Int × Int)
  | [], n => [(s, n)]
  | g :: gs, n => (s, g) :: endsL g gs n
theorem zip_ends : ∀ (gs : List Int) (s n : Int), (s :: (gs ++ [n])).zip (gs ++ [n]) = endsL s gs n
  | [], s, n => rfl
  | g :: gs, s, n => by
    rw [List.cons_append, List.zip_cons_cons, zip_ends gs g n]
    rfl
theorem endsL_len : ∀ (gs : List Int) (s n : Int), (endsL s gs n).length = gs.length + 1
  | [], s, n => rfl
  | g :: gs, s, n => by rw [endsL, List.length_cons, endsL_len gs g n, List.length_cons]
@[simp] theorem eListZip_d (as : AF) (ρ : Sl) : eListZip as ρ = (as ρ).bind fun xs ρ1 => match xs with
  | [.tup a, .tup b] => .ok (.lst (zipU a b)) ρ1
  | _ => .stuck := rfl
def encE (p : Int × Int) : U := .tup [.int p.1, .int p.2]
theorem s_ends_of (ls : List Int) (bow : Int) (jn sp gs : List Int) (hl : gs.length ≤ 1000) : fn_ends_of [encP ls bow jn sp, .tup (gs.map .int)] = .ok (.lst ((endsL 0 gs ls.length).map encE)) .non := by
  have e1 : 1 + gs.length ≤ 100000 := by omega
  have e2 : gs.length + 1 + 1 ≤ 100000 := by omega
  simp [fn_ends_of, fnOf, b_ends_of, startU, encP, atU, e1, e2]
  rw [show (gs.map U.int ++ [U.int (ls.length : Int)]) = (gs ++ [(ls.length : Int)]).map U.int by simp, show (U.int 0 :: (gs ++ [(ls.length : Int)]).map U.int) = (0 :: (gs ++ [(ls.length : Int)])).map U.int by simp, zipU_map, zip_ends]
  rfl
/-! ### bowings -/
/-- the strokes, numbered from k -/
def goodL (ls : List Int) (bow : Int) (jn sp : List Int) (ws : List (Int × Bool)) : Int → List (Int × Int) → Bool
  | _, [] => true
  | k, p :: ps => strokeOK ls bow jn sp ws p.1 p.2 (dirK ws (k + 1)) && goodL ls bow jn sp ws (k + 1) ps
theorem goodL_all (ls : List Int) (bow : Int) (jn sp : List Int) (ws : List (Int × Bool)) : ∀ (ps : List (Int × Int)) (k : Int), ((rng k ps.length).zip ps).all (fun q => strokeOK ls bow jn sp ws q.2.1 q.2.2 (dirK ws (q.1 + 1))) = goodL ls bow jn sp ws k ps
  | [], k => rfl
  | p :: ps, k => by
    rw [List.length_cons, rng, List.zip_cons_cons, List.all_cons, goodL_all ls bow jn sp ws ps (k + 1), goodL]
def goodB (ls : List Int) (bow : Int) (jn sp : List Int) (ws : List (Int × Bool)) (gs : List Int) : Bool := okGaps ls.length gs && goodL ls bow jn sp ws 0 (endsL 0 gs ls.length)
theorem s_good_bowing (ls : List Int) (bow : Int) (jn sp : List Int) (ws : List (Int × Bool)) (gs : List Int) (h1 : sp.length ≤ 100000) (h2 : ws.length ≤ 100000) (h3 : gs.length ≤ 1000) :
    fn_good_bowing [encP ls bow jn sp, encW ws, .tup (gs.map .int)] = .ok (.bl (goodB ls bow jn sp ws gs)) .non := by
  have hg := s_are_gaps ls.length gs (by omega)
  have he := s_ends_of ls bow jn sp gs h3
  have hx : uIx (encP ls bow jn sp) (.int 0) = some (.tup (ls.map .int)) := rfl
  unfold goodB
  simp [fn_good_bowing, fnOf, b_good_bowing, startU, hg, he, hx]
  cases okGaps ls.length gs with
  | false => simp
  | true =>
    simp
    rw [enumU_map]
    obtain ⟨ρ', e1, e2⟩ := forL_check (g := gT (gsCons (gN 3) (gsCons (gT (gsCons (gN 4) (gsCons (gN 5) gsNil))) gsNil))) (b := l_good_bowing_1) (fun p : Int × (Int × Int) => U.tup [.int p.1, encE p.2])
      (fun q => strokeOK ls bow jn sp ws q.2.1 q.2.2 (dirK ws (q.1 + 1))) (fun ρ => ∃ x y z, ρ = [some (encP ls bow jn sp), some (encW ws), some (.tup (gs.map .int)), x, y, z]) (enumI (endsL 0 gs ls.length)) [some (encP ls bow jn sp), some (encW ws), some (.tup (gs.map .int)), none, none, none] ⟨_, _, _, rfl⟩ (by
        rintro ⟨k, s, e⟩ _ ρ ⟨x, y, z, rfl⟩
        refine ⟨_, rfl, ?_⟩
        have hs := s_stroke_right ls bow jn sp ws s e (dirK ws (k + 1)) h1 h2
        simp [l_good_bowing_1, s_direction, hs]
        cases strokeOK ls bow jn sp ws s e (dirK ws (k + 1)) <;> simp)
    rw [e1]
    have ha : (enumI (endsL 0 gs ls.length)).all (fun q => strokeOK ls bow jn sp ws q.2.1 q.2.2 (dirK ws (q.1 + 1))) = goodL ls bow jn sp ws 0 (endsL 0 gs ls.length) := goodL_all ls bow jn sp ws _ 0
    rw [ha]
    cases goodL ls bow jn sp ws 0 (endsL 0 gs ls.length) <;> simp
/-! ### the numbers of the strokes -/
def numsL : Int → List (Int × Int) → List Int
  | _, [] => []
  | k, p :: ps => List.replicate (p.2 - p.1).toNat (k + 1) ++ numsL (k + 1) ps
/-- from s over the gaps to n -/
def Chn (s : Int) : List Int → Int → Prop
  | [], n => s < n
  | g :: gs, n => s < g ∧ Chn g gs n
theorem Chn.lt : ∀ {gs : List Int} {s n : Int}, Chn s gs n → s < n
  | [], s, n, h => h
  | g :: gs, s, n, h => Int.lt_trans h.1 (Chn.lt h.2)
theorem numsL_len : ∀ (gs : List Int) (k s n : Int), Chn s gs n → ((numsL k (endsL s gs n)).length : Int) = n - s
  | [], k, s, n, h => by
    have h' : s < n := h
    simp [endsL, numsL]
    omega
  | g :: gs, k, s, n, h => by
    have h1 := h.1
    have ih := numsL_len gs (k + 1) g n h.2
    rw [endsL, numsL, List.length_append, List.length_replicate]
    simp only
    omega
theorem chn_of : ∀ {gs : List Int} {s n : Int}, (∀ g ∈ gs, s < g ∧ g < n) → s < n → (gs.zip gs.tail).all lt2 = true → Chn s gs n
  | [], s, n, _, h, _ => h
  | [g], s, n, h1, _, _ => ⟨(h1 g (.head _)).1, (h1 g (.head _)).2⟩
  | g :: g' :: gs, s, n, h1, h, h2 => by
    simp only [List.tail_cons, List.zip_cons_cons, List.all_cons, Bool.and_eq_true] at h2
    have hg := h1 g (.head _)
    have lt : g < g' := of_decide_eq_true h2.1
    have h3 : ∀ x ∈ g' :: gs, g < x ∧ x < n := by
      have hall : ∀ (l : List Int) (a : Int), ((a :: l).zip l).all lt2 = true → ∀ x ∈ l, a < x := by
        intro l
        induction l with
        | nil => intro a _ x hx; cases hx
        | cons b l ih =>
          intro a q x hx
          simp only [List.zip_cons_cons, List.all_cons, Bool.and_eq_true] at q
          have ab : a < b := of_decide_eq_true q.1
          rcases List.mem_cons.mp hx with e | hx
          · rw [e]
            exact ab
          · exact Int.lt_trans ab (ih b q.2 x hx)
      intro x hx
      refine ⟨?_, (h1 x (.tail _ hx)).2⟩
      rcases List.mem_cons.mp hx with e | hx
      · rw [e]
        exact lt
      · exact Int.lt_trans lt (hall gs g' h2.2 x hx)
    exact ⟨hg.1, chn_of (gs := g' :: gs) h3 hg.2 h2.2⟩
theorem chn_ok {n : Int} {gs : List Int} (h : okGaps n gs = true) (hn : 0 < n) : Chn 0 gs n := by
  unfold okGaps at h
  rw [Bool.and_eq_true] at h
  refine chn_of (fun g hg => ?_) hn h.2
  have := List.all_eq_true.mp h.1 g hg
  simp [inR] at this
  omega
theorem n_loop (P Gs : U) (n : Int) (hn : n ≤ 1000) : ∀ (gs : List Int) (s k : Int) (found : List Int) (x y z : Option U), 0 ≤ s → Chn s gs n → (found.length : Int) = s →
    ∃ x' y' z', forL (gT (gsCons (gN 3) (gsCons (gT (gsCons (gN 4) (gsCons (gN 5) gsNil))) gsNil))) l_numbers_of_1 (((rng k (endsL s gs n).length).zip (endsL s gs n)).map fun p : Int × (Int × Int) => U.tup [.int p.1, encE p.2]) [some P, some Gs, some (.lst (found.map .int)), x, y, z] =
      .next [some P, some Gs, some (.lst ((found ++ numsL k (endsL s gs n)).map .int)), x', y', z']
  | [], s, k, found, x, y, z, h0, hc, hf => by
    have hc' : s < n := hc
    have a1 : n - s ≤ 100000 := by omega
    have a2 : -100000 ≤ n - s := by omega
    have a3 : (n - s).toNat ≤ 100000 := by omega
    have a4 : found.length + (n - s).toNat ≤ 100000 := by omega
    have hs : ∀ l : List Int, (l.map U.int).all scalU = true := fun l => by simp [scalU]
    refine ⟨some (.int k), some (.int s), some (.int n), ?_⟩
    simp [endsL, rng, forL, l_numbers_of_1, encE, uRep, a1, a2, a3, a4, numsL, lo, scalU]
  | g :: gs, s, k, found, x, y, z, h0, hc, hf => by
    have hs := hc.1
    have hgn := hc.2.lt
    have a1 : g - s ≤ 100000 := by omega
    have a2 : -100000 ≤ g - s := by omega
    have a3 : (g - s).toNat ≤ 100000 := by omega
    have a4 : found.length + (g - s).toNat ≤ 100000 := by omega
    obtain ⟨x', y', z', ih⟩ := n_loop P Gs n hn gs g (k + 1) (found ++ List.replicate (g - s).toNat (k + 1)) (some (.int k)) (some (.int s)) (some (.int g)) (by omega) hc.2 (by simp; omega)
    refine ⟨x', y', z', ?_⟩
    rw [List.append_assoc] at ih
    rw [endsL, numsL, ← ih]
    simp [rng, forL, l_numbers_of_1, encE, uRep, a1, a2, a3, a4, lo, scalU]
theorem s_numbers_of (ls : List Int) (bow : Int) (jn sp gs : List Int) (hn : ls.length ≤ 1000) (hl : gs.length ≤ 1000) (hc : Chn 0 gs ls.length) : fn_numbers_of [encP ls bow jn sp, .tup (gs.map .int)] = .ok (.lst ((numsL 0 (endsL 0 gs ls.length)).map .int)) .non := by
  have he := s_ends_of ls bow jn sp gs hl
  obtain ⟨x, y, z, hx⟩ := n_loop (encP ls bow jn sp) (.tup (gs.map .int)) ls.length (by omega) gs 0 0 [] none none none (Int.le_refl _) hc rfl
  simp at hx
  simp [fn_numbers_of, fnOf, b_numbers_of, startU, he, enumU_map, enumI]
  rw [hx]
  simp
/-! ### pieces -/
def blk (jn : List Int) (s : List Int) (p : Int × Int) : List Int := if p.1 ∈ jn then s.dropLast ++ [s.getLastD 0 + p.2] else s ++ [p.2]
def blocks (ls jn : List Int) : List Int := (enumI ls).foldl (blk jn) []
theorem cut_last {α : Type} (xs : List α) : cutU xs none (some (-1)) = xs.dropLast := by
  unfold cutU sxU
  simp
  rw [List.dropLast_eq_take]
  congr 1
  omega
theorem at_last {α : Type} {xs : List α} (h : xs ≠ []) (d : α) : atU xs (-1) = some (xs.getLastD d) := by
  have hl : 0 < xs.length := List.length_pos_iff.mpr h
  unfold atU
  rw [if_neg (by omega), if_pos (by omega)]
  have e : ((-1 : Int) + (xs.length : Int)).toNat = xs.length - 1 := by omega
  rw [e, List.getLastD_eq_getLast?, List.getLast?_eq_getElem?, List.getElem?_eq_getElem (by omega)]
  rfl
theorem blk_len (jn s : List Int) (p : Int × Int) : (blk jn s p).length ≤ s.length + 1 ∧ blk jn s p ≠ [] := by
  unfold blk
  split
  · simp
    try omega
  · simp
theorem s_blocks_of (ls jn : List Int) (hn : ls.length ≤ 1000) (h0 : (0 : Int) ∉ jn) : fn_blocks_of [.tup (ls.map .int), .tup (jn.map .int)] = .ok (.lst ((blocks ls jn).map .int)) .non := by
  simp [fn_blocks_of, fnOf, b_blocks_of, startU, enumU_map]
  obtain ⟨ρ', e1, e2⟩ := forL_enumN (g := gT (gsCons (gN 3) (gsCons (gN 4) gsNil))) (b := l_blocks_of_1) U.int
    (fun k s ρ => 0 ≤ k ∧ (∃ x y, ρ = [some (.tup (ls.map .int)), some (.tup (jn.map .int)), some (.lst (s.map .int)), x, y]) ∧ (s.length : Int) ≤ k ∧ (s = [] → k = 0)) (blk jn) 1000 ls 0 [] [some (.tup (ls.map .int)), some (.tup (jn.map .int)), some (.lst []), none, none] ⟨Int.le_refl _, ⟨_, _, rfl⟩, Int.le_refl _, fun _ => rfl⟩ (by omega) (by
      rintro l hm k s ρ hk ⟨hk0, ⟨x, y, rfl⟩, hs, he⟩
      refine ⟨_, rfl, ?_⟩
      have hb := blk_len jn s (k, l)
      have a1 : s.length + 1 ≤ 100000 := by omega
      by_cases hi : k ∈ jn
      · have hne : s ≠ [] := fun z => by
          rw [he z] at hi
          exact h0 hi
        have a2 : s.length - 1 + 1 ≤ 100000 := by omega
        have e : blk jn s (k, l) = s.dropLast ++ [s.getLastD 0 + l] := if_pos hi
        refine ⟨[some (.tup (ls.map .int)), some (.tup (jn.map .int)), some (.lst ((blk jn s (k, l)).map .int)), some (.int k), some (.int l)], ?_, by omega, ⟨_, _, rfl⟩, by omega, fun z => absurd z hb.2⟩
        rw [e]
        simp [l_blocks_of_1, hi, cut_last, at_last hne 0, a2]
      · have e : blk jn s (k, l) = s ++ [l] := if_neg hi
        refine ⟨[some (.tup (ls.map .int)), some (.tup (jn.map .int)), some (.lst ((blk jn s (k, l)).map .int)), some (.int k), some (.int l)], ?_, by omega, ⟨_, _, rfl⟩, by omega, fun z => absurd z hb.2⟩
        rw [e]
        simp [l_blocks_of_1, hi, a1])
  rw [show (enumI ls).map (fun p => U.tup [U.int p.1, U.int p.2]) = ((rng 0 ls.length).zip ls).map fun p => U.tup [U.int p.1, U.int p.2] from rfl, e1]
  obtain ⟨_, ⟨x, y, rfl⟩, _⟩ := e2
  simp [blocks, enumI]
structure GoodP (ls : List Int) (bow : Int) (jn sp : List Int) : Prop where
  n1 : 1 ≤ ls.length
  n30 : ls.length ≤ 30
  l20 : ∀ l ∈ ls, 1 ≤ l ∧ l ≤ 20
  b1 : 1 ≤ bow
  b100 : bow ≤ 100
  j : okGaps ls.length jn = true
  s : okGaps ls.length sp = true
  d : ∀ g ∈ jn, g ∉ sp
  b : ∀ x ∈ blocks ls jn, x ≤ bow
  jl : jn.length ≤ 1000
  sl : sp.length ≤ 1000
theorem okGaps_mem {n g : Int} {gs : List Int} (h : okGaps n gs = true) (hg : g ∈ gs) : 1 ≤ g ∧ g ≤ n - 1 := by
  unfold okGaps at h
  rw [Bool.and_eq_true] at h
  have := List.all_eq_true.mp h.1 g hg
  simpa [inR] using this
theorem maxL_le : ∀ {xs : List Int} {m : Int}, xs ≠ [] → (∀ x ∈ xs, x ≤ m) → maxL xs ≤ m := by
  intro xs m hne h
  cases xs with
  | nil => exact absurd rfl hne
  | cons x xs =>
    unfold maxL
    have : ∀ (l : List Int) (a : Int), a ≤ m → (∀ y ∈ l, y ≤ m) → l.foldl (fun a y => if a < y then y else a) a ≤ m := by
      intro l
      induction l with
      | nil => intro a ha _; exact ha
      | cons y l ih =>
        intro a ha hl
        rw [List.foldl_cons]
        refine ih _ ?_ fun z hz => hl z (.tail _ hz)
        split
        · exact hl y (.head _)
        · exact ha
    exact this xs x (h x (.head _)) fun y hy => h y (.tail _ hy)
theorem blocks_ne {ls jn : List Int} (h : ls ≠ []) : blocks ls jn ≠ [] := by
  unfold blocks
  have key : ∀ (ps : List (Int × Int)) (s : List Int), (ps ≠ [] ∨ s ≠ []) → ps.foldl (blk jn) s ≠ [] := by
    intro ps
    induction ps with
    | nil => intro s h; rcases h with h | h; exact absurd rfl h; exact h
    | cons p ps ih => intro s _; exact ih _ (.inr (blk_len jn s p).2)
  refine key _ _ (.inl ?_)
  cases ls with
  | nil => exact absurd rfl h
  | cons l ls => simp [enumI, rng]
theorem bMax1_l {xs : List Int} (h : xs ≠ []) : bMax1 [.lst (xs.map .int)] = some (.int (maxL xs)) := by
  unfold bMax1
  simp [h]
theorem bMax1_t {xs : List Int} (h : xs ≠ []) : bMax1 [.tup (xs.map .int)] = some (.int (maxL xs)) := by
  unfold bMax1
  simp [h]
theorem s_is_piece {ls : List Int} {bow : Int} {jn sp : List Int} (P : GoodP ls bow jn sp) : fn_is_piece [encP ls bow jn sp] = .ok (.bl true) .non := by
  have h0 : (0 : Int) ∉ jn := fun m => by
    have := okGaps_mem P.j m
    omega
  have hne : ls ≠ [] := fun z => by
    have := P.n1
    rw [z] at this
    simp at this
  have hb := s_blocks_of ls jn (by have := P.n30; omega) h0
  have hj := s_are_gaps ls.length jn (by have := P.jl; omega)
  have hs := s_are_gaps ls.length sp (by have := P.sl; omega)
  rw [P.j] at hj
  rw [P.s] at hs
  have e1 : (1 : Int) ≤ (ls.length : Int) := by have := P.n1; omega
  have e2 : (ls.length : Int) ≤ 30 := by have := P.n30; omega
  simp [fn_is_piece, fnOf, b_is_piece, startU, encP, e2]
  have e3 : ¬ (ls.length = 0) := by have := P.n1; omega
  rw [if_neg (by omega)]
  rw [eComp_true ls U.int (fun l => .bl (decide (1 ≤ l) && decide (l ≤ 20))) (by simp) (by have := P.n30; omega) (by
    intro x hx
    refine ⟨_, rfl, ?_, ?_⟩ <;> simp [wipeU, s_is_from])]
  simp only [bind_ok, bAll_map, rs_some, of_ok, fnEnd_ret]
  have e4 : (ls.all fun l => decide (1 ≤ l) && decide (l ≤ 20)) = true := List.all_eq_true.mpr fun l hl => by
    have := P.l20 l hl
    simp [this]
  rw [e4]
  simp [s_is_from, P.b1, P.b100, hj, hs]
  rw [eComp_true jn U.int (fun g => .bl (sp.contains g)) (by simp) (by have := P.jl; omega) (by
    intro x hx
    refine ⟨_, rfl, ?_, ?_⟩ <;> simp [wipeU])]
  simp only [bind_ok, bAny_map, rs_some, of_ok, fnEnd_ret]
  have e5 : (jn.any fun g => sp.contains g) = false := List.any_eq_false.mpr fun g hg => by
    simpa using P.d g hg
  rw [e5]
  simp [hb, bMax1_l (blocks_ne hne), maxL_le (blocks_ne hne) P.b]
structure GoodW (n : Int) (ws : List (Int × Bool)) : Prop where
  r : ∀ w ∈ ws, 0 ≤ w.1 ∧ w.1 ≤ n - 1
  i : (ws.zip ws.tail).all (fun p => decide (p.1.1 < p.2.1)) = true
  l : ws.length ≤ 1000
def encw (w : Int × Bool) : U := .tup [.int w.1, wd w.2]
@[simp] theorem encw_0 (w : Int × Bool) : uIx (encw w) (.int 0) = some (.int w.1) := rfl
@[simp] theorem encw_1 (w : Int × Bool) : uIx (encw w) (.int 1) = some (wd w.2) := rfl
@[simp] theorem encP_0 (ls : List Int) (bow : Int) (jn sp : List Int) : uIx (encP ls bow jn sp) (.int 0) = some (.tup (ls.map .int)) := rfl
theorem s_is_direction (b : Bool) : fn_is_direction [wd b] = .ok (.bl true) .non := by cases b <;> rfl
theorem s_good_wishes {ls : List Int} {bow : Int} {jn sp : List Int} {ws : List (Int × Bool)} (W : GoodW ls.length ws) : fn_good_wishes [encP ls bow jn sp, encW ws] = .ok (.bl true) .non := by
  have hw : encW ws = .tup (ws.map encw) := rfl
  have t1 : ∀ w : Int × Bool, bIsInst [encw w, .ty "tuple"] = some (.bl true) := fun w => ty_t_t _
  have t2 : ∀ w : Int × Bool, bLen [encw w] = some (.int 2) := fun w => rfl
  rw [hw]
  simp [fn_good_wishes, fnOf, b_good_wishes, startU]
  obtain ⟨ρ', e1, e2⟩ := forL_check (g := gN 2) (b := l_good_wishes_1) encw (fun _ => true) (fun ρ => ∃ x, ρ = [some (encP ls bow jn sp), some (.tup (ws.map encw)), x, none, none]) ws [some (encP ls bow jn sp), some (.tup (ws.map encw)), none, none, none] ⟨_, rfl⟩ (by
    rintro w hm ρ ⟨x, rfl⟩
    have r := W.r w hm
    refine ⟨_, rfl, [some (encP ls bow jn sp), some (.tup (ws.map encw)), some (encw w), none, none], ?_, fun _ => ⟨_, rfl⟩⟩
    simp [l_good_wishes_1, t1, t2, s_is_from, s_is_direction, r])
  have ha : ws.all (fun _ => true) = true := List.all_eq_true.mpr fun _ _ => rfl
  rw [ha, if_pos rfl] at e1
  rw [e1]
  obtain ⟨x, rfl⟩ := e2 ha
  simp
  rw [eComp_true (ws.zip ws.tail) (fun p => .tup [encw p.1, encw p.2]) (fun p => .bl (decide (p.1.1 < p.2.1))) (by simp [zip_tail]) (by have := W.l; simp; omega) (by
    intro x hx
    refine ⟨_, rfl, ?_, ?_⟩ <;> simp [wipeU])]
  simp only [bind_ok, bAll_map, rs_some, of_ok, fnEnd_ret]
  rw [W.i]
  rfl
theorem s_need_wishes {ls : List Int} {bow : Int} {jn sp : List Int} {ws : List (Int × Bool)} (P : GoodP ls bow jn sp) (W : GoodW ls.length ws) : fn_need_wishes [encP ls bow jn sp, encW ws] = .ok .non .non := by
  simp [fn_need_wishes, fnOf, b_need_wishes, startU, s_is_piece P, s_good_wishes W]
section
variable {ls : List Int} {bow : Int} {jn sp : List Int} {ws : List (Int × Bool)} {gs : List Int}
theorem s_is_bowing (P : GoodP ls bow jn sp) (W : GoodW ls.length ws) (hg : gs.length ≤ 1000) : fn_is_bowing [encP ls bow jn sp, encW ws, .tup (gs.map .int)] = .ok (.bl (goodB ls bow jn sp ws gs)) .non := by
  have h := s_good_bowing ls bow jn sp ws gs (by have := P.sl; omega) (by have := W.l; omega) hg
  simp [fn_is_bowing, fnOf, b_is_bowing, startU, s_need_wishes P W, h]
theorem s_need_bowing (P : GoodP ls bow jn sp) (W : GoodW ls.length ws) (hg : gs.length ≤ 1000) (hb : goodB ls bow jn sp ws gs = true) : fn_need_bowing [encP ls bow jn sp, encW ws, .tup (gs.map .int)] = .ok .non .non := by
  have h := s_good_bowing ls bow jn sp ws gs (by have := P.sl; omega) (by have := W.l; omega) hg
  simp [fn_need_bowing, fnOf, b_need_bowing, startU, h, hb]
theorem goodB_chn (P : GoodP ls bow jn sp) (hb : goodB ls bow jn sp ws gs = true) : Chn 0 gs ls.length := by
  unfold goodB at hb
  rw [Bool.and_eq_true] at hb
  exact chn_ok hb.1 (by have := P.n1; omega)
theorem s_stroke_numbers (P : GoodP ls bow jn sp) (W : GoodW ls.length ws) (hg : gs.length ≤ 1000) (hb : goodB ls bow jn sp ws gs = true) : fn_stroke_numbers [encP ls bow jn sp, encW ws, .tup (gs.map .int)] = .ok (.lst ((numsL 0 (endsL 0 gs ls.length)).map .int)) .non := by
  have h := s_numbers_of ls bow jn sp gs (by have := P.n30; omega) hg (goodB_chn P hb)
  simp [fn_stroke_numbers, fnOf, b_stroke_numbers, startU, s_need_wishes P W, s_need_bowing P W hg hb, h]
theorem s_directions (P : GoodP ls bow jn sp) (W : GoodW ls.length ws) (hg : gs.length ≤ 1000) (hb : goodB ls bow jn sp ws gs = true) : fn_directions [encP ls bow jn sp, encW ws, .tup (gs.map .int)] = .ok (.lst ((numsL 0 (endsL 0 gs ls.length)).map fun k => wd (dirK ws k))) .non := by
  have hc := goodB_chn P hb
  have h := s_numbers_of ls bow jn sp gs (by have := P.n30; omega) hg hc
  have hl := numsL_len gs 0 0 ls.length hc
  simp [fn_directions, fnOf, b_directions, startU, s_need_wishes P W, s_need_bowing P W hg hb]
  rw [eComp_true (numsL 0 (endsL 0 gs ls.length)) U.int (fun k => wd (dirK ws k)) (by simp [h]) (by have := P.n30; omega) (by
    intro x hx
    refine ⟨_, rfl, ?_, ?_⟩ <;> simp [wipeU, s_direction])]
  simp
end
end LB
set_option maxHeartbeats 1000000
set_option maxRecDepth 100000
/-! MLaw: the laws' own helpers about bowings -/
namespace LB
open Q
open PySem (Str)
/-! ### numbers -/
/-- m notes from i on, the number before them num -/
def lawL (gs : List Int) (num i : Int) : Nat → List Int
  | 0 => []
  | m + 1 => (num + if i ∈ gs then 1 else 0) :: lawL gs (num + if i ∈ gs then 1 else 0) (i + 1) m
theorem lawL_len (gs : List Int) : ∀ (m : Nat) (num i : Int), (lawL gs num i m).length = m
  | 0, _, _ => rfl
  | m + 1, num, i => by rw [lawL, List.length_cons, lawL_len gs m]
theorem ln_loop (N : U) (gs : List Int) : ∀ (m : Nat) (i num : Int) (found : List Int) (x : Option U), found.length + m ≤ 100000 →
    ∃ num' x', forL (gN 4) l__law_numbers_1 ((rng i m).map U.int) [some N, some (.tup (gs.map .int)), some (.lst (found.map .int)), some (.int num), x] =
      .next [some N, some (.tup (gs.map .int)), some (.lst ((found ++ lawL gs num i m).map .int)), num', x']
  | 0, i, num, found, x, h => ⟨some (.int num), x, by simp [rng, forL, lawL]⟩
  | m + 1, i, num, found, x, h => by
    obtain ⟨num', x', ih⟩ := ln_loop N gs m (i + 1) (num + if i ∈ gs then 1 else 0) (found ++ [num + if i ∈ gs then 1 else 0]) (some (.int i)) (by simp; omega)
    refine ⟨num', x', ?_⟩
    rw [List.append_assoc] at ih
    rw [lawL, show found ++ (num + if i ∈ gs then 1 else 0) :: lawL gs (num + if i ∈ gs then 1 else 0) (i + 1) m = found ++ ([num + if i ∈ gs then 1 else 0] ++ lawL gs (num + if i ∈ gs then 1 else 0) (i + 1) m) from rfl, ← ih]
    have hf : found.length ≤ 100000 := by omega
    simp [rng, forL, l__law_numbers_1, appO, hf]
theorem s_law_numbers (n : Int) (gs : List Int) (h0 : 0 ≤ n) (h1 : n ≤ 1000) : fn__law_numbers [.int n, .tup (gs.map .int)] = .ok (.lst ((lawL gs 1 0 n.toNat).map .int)) .non := by
  obtain ⟨num', x', hx⟩ := ln_loop (.int n) gs n.toNat 0 1 [] none (by simp; omega)
  have a1 : -(2 ^ 62) ≤ n ∧ n < 2 ^ 62 := by omega
  simp at hx
  simp [fn__law_numbers, fnOf, b__law_numbers, startU, rangeU_map]
  rw [if_pos (by omega)]
  simp [hx]
theorem s_law_first (ws : List (Int × Bool)) : fn__law_first [encW ws] = .ok (wd (hasUp0 ws)) .non := by
  simp [fn__law_first, fnOf, b__law_first, startU, in_W]
  unfold wd
  cases hasUp0 ws <;> simp
theorem s_law_way (ws : List (Int × Bool)) (k : Int) : fn__law_way [encW ws, .int k] = .ok (wd (dirK ws k)) .non := by
  have e1 : ∀ b : Bool, uEq (wd b) (.str [117, 112]) = some (.bl b) := fun b => by cases b <;> rfl
  simp [fn__law_way, fnOf, b__law_way, startU, s_law_first, e1, uMod_i, dirK]
  cases hasUp0 ws with
  | true =>
    by_cases hk : k % 2 = 1
    · have h2 : (k + 1) % 2 = 0 := by omega
      simp [hk, h2, atU, wd]
    · have h2 : (k + 1) % 2 = 1 := by omega
      simp [hk, h2, atU, wd]
  | false =>
    by_cases hk : k % 2 = 1
    · simp [hk, atU, wd]
    · have h2 : k % 2 = 0 := by omega
      simp [hk, h2, atU, wd]
/-! ### law_good -/
def numPart (ls nums : List Int) (k : Int) : List Int := ((ls.zip nums).filter fun p => p.2 == k).map fun p => p.1
def numSum (ls nums : List Int) (k : Int) : Int := (numPart ls nums k).sum
def wayOff (ws : List (Int × Bool)) (nums : List Int) (w : Int × Bool) : Bool := dirK ws (nums.getD w.1.toNat 0) != w.2
def lawGood (ls : List Int) (bow : Int) (jn sp : List Int) (ws : List (Int × Bool)) (gs nums : List Int) : Bool :=
  !((gs.filter fun g => jn.contains g) != []) && (!((sp.filter fun g => !gs.contains g) != []) && ((rng 1 (nums.getLastD 0).toNat).all (fun k => !decide (bow < numSum ls nums k)) && (((ws.filter (wayOff ws nums)).map fun w => w.1) == [])))
theorem s_law_good (ls : List Int) (bow : Int) (jn sp : List Int) (ws : List (Int × Bool)) (gs : List Int) (hn : 1 ≤ ls.length) (hn2 : ls.length ≤ 1000) (hs : sp.length ≤ 1000) (hg : gs.length ≤ 1000) (hw : ws.length ≤ 1000) (hr : ∀ w ∈ ws, 0 ≤ w.1 ∧ w.1 ≤ ls.length - 1)
    (hb : ∀ k, (lawL gs 1 0 ls.length).getLast? = some k → 0 ≤ k ∧ k ≤ 2000) :
    fn__law_good [encP ls bow jn sp, encW ws, .tup (gs.map .int)] = .ok (.bl (lawGood ls bow jn sp ws gs (lawL gs 1 0 ls.length))) .non := by
  have h1 := s_law_numbers ls.length gs (by omega) (by omega)
  rw [show ((ls.length : Int)).toNat = ls.length by omega] at h1
  have hlen := lawL_len gs ls.length 1 0
  generalize lawL gs 1 0 ls.length = nums at *
  have hne : nums ≠ [] := fun z => by
    rw [z] at hlen
    simp at hlen
    omega
  obtain ⟨b0, b2⟩ := hb _ (List.getLast?_eq_some_getLast hne)
  have hl : nums.getLastD 0 = nums.getLast hne := by rw [List.getLastD_eq_getLast?, List.getLast?_eq_some_getLast hne]; rfl
  rw [← hl] at b0 b2
  unfold lawGood
  have hlast := at_last hne 0
  generalize hL : nums.getLastD 0 = last at *
  generalize hB1 : ((gs.filter fun g => jn.contains g) != []) = B1
  generalize hB2 : ((sp.filter fun g => !gs.contains g) != []) = B2
  generalize hB3 : ((rng 1 last.toNat).all (fun k => !decide (bow < numSum ls nums k))) = B3
  generalize hB4 : (((ws.filter (wayOff ws nums)).map fun w => w.1) == []) = B4
  simp [fn__law_good, fnOf, b__law_good, startU, encP, h1]
  rw [eComp_same gs U.int (fun g => jn.contains g) U.int (by simp) (by omega) (by
    intro x hx
    refine ⟨_, rfl, ?_, fun _ => ?_, ?_⟩ <;> simp [wipeU])]
  simp only [bind_ok, uNe_l0, rs_some, hB1]
  cases B1 with
  | true => simp
  | false =>
    simp
    rw [eComp_same sp U.int (fun g => !gs.contains g) U.int (by simp) (by omega) (by
      intro x hx
      refine ⟨_, rfl, ?_, fun _ => ?_, ?_⟩ <;> simp [wipeU])]
    simp only [bind_ok, uNe_l0, rs_some, hB2]
    cases B2 with
    | true => simp
    | false =>
      simp [hlast]
      rw [if_pos (by omega), rangeU_map]
      have hz : ∀ k : Int, eComp [10, 11] (iZip2 (aCons (eV 3) (aCons (eV 7) aNil))) (gT (gsCons (gN 10) (gsCons (gN 11) gsNil))) (tB (e2 uEq (eV 11) (eV 8))) (eV 10) [some (encP ls bow jn sp), some (encW ws), some (.tup (gs.map .int)), some (.tup (ls.map .int)), some (.int bow), some (.tup (jn.map .int)), some (.tup (sp.map .int)), some (.lst (nums.map .int)), some (.int k), none, none, none, none, none] =
          .ok (.lst ((numPart ls nums k).map U.int)) [some (encP ls bow jn sp), some (encW ws), some (.tup (gs.map .int)), some (.tup (ls.map .int)), some (.int bow), some (.tup (jn.map .int)), some (.tup (sp.map .int)), some (.lst (nums.map .int)), some (.int k), none, none, none, none, none] := fun k => by
        rw [eComp_same (ls.zip nums) (fun p => .tup [.int p.1, .int p.2]) (fun p => p.2 == k) (fun p => U.int p.1) (by simp [zipU_map]) (by simp; omega) (by
          intro x hx
          refine ⟨_, rfl, ?_, fun _ => ?_, ?_⟩ <;> simp [wipeU]), numPart, List.map_map]
        rfl
      obtain ⟨ρ', e1, e2⟩ := forL_check (g := gN 8) (b := l__law_good_1) U.int (fun k => !decide (bow < numSum ls nums k))
        (fun ρ => ∃ x, ρ = [some (encP ls bow jn sp), some (encW ws), some (.tup (gs.map .int)), some (.tup (ls.map .int)), some (.int bow), some (.tup (jn.map .int)), some (.tup (sp.map .int)), some (.lst (nums.map .int)), x, none, none, none, none, none]) (rng 1 last.toNat)
        [some (encP ls bow jn sp), some (encW ws), some (.tup (gs.map .int)), some (.tup (ls.map .int)), some (.int bow), some (.tup (jn.map .int)), some (.tup (sp.map .int)), some (.lst (nums.map .int)), none, none, none, none, none, none] ⟨_, rfl⟩ (by
          rintro k hk ρ ⟨x, rfl⟩
          refine ⟨_, rfl, [some (encP ls bow jn sp), some (encW ws), some (.tup (gs.map .int)), some (.tup (ls.map .int)), some (.int bow), some (.tup (jn.map .int)), some (.tup (sp.map .int)), some (.lst (nums.map .int)), some (.int k), none, none, none, none, none], ?_, fun _ => ⟨_, rfl⟩⟩
          simp [l__law_good_1, hz]
          unfold numSum
          by_cases hc : bow < (numPart ls nums k).sum
          · simp [hc]
          · simp [hc])
      rw [show ([some (U.tup [U.tup (ls.map U.int), U.int bow, U.tup (jn.map U.int), U.tup (sp.map U.int)]), some (encW ws), some (.tup (gs.map .int)), some (.tup (ls.map .int)), some (.int bow), some (.tup (jn.map .int)), some (.tup (sp.map .int)), some (.lst (nums.map .int)), none, none, none, none, none, none] : Sl) = [some (encP ls bow jn sp), some (encW ws), some (.tup (gs.map .int)), some (.tup (ls.map .int)), some (.int bow), some (.tup (jn.map .int)), some (.tup (sp.map .int)), some (.lst (nums.map .int)), none, none, none, none, none, none] from rfl, e1]
      rw [hB3] at e2 ⊢
      cases B3 with
      | false => simp
      | true =>
        obtain ⟨x, rfl⟩ := e2 rfl
        simp
        rw [eComp_same ws encw (wayOff ws nums) (fun w => U.int w.1) (by simp; rfl) (by omega) (by
          intro w hx
          refine ⟨_, rfl, ?_, fun _ => ?_, ?_⟩
          · have hh := hr w hx
            have hi : atU nums w.1 = some (nums.getD w.1.toNat 0) := by
              unfold atU
              rw [if_pos hh.1, List.getD_eq_getElem?_getD, List.getElem?_eq_getElem (by omega)]
              rfl
            simp [wipeU, encw, hi, s_law_way, wayOff]
          · simp [wipeU]
          · simp [wipeU]), show (ws.filter (wayOff ws nums)).map (fun w => U.int w.1) = ((ws.filter (wayOff ws nums)).map fun w => w.1).map U.int by simp]
        simp only [bind_ok, uEq_l0, rs_some, hB4]
        simp
end LB
set_option maxHeartbeats 1000000
set_option maxRecDepth 100000
/-! MEq: the law's reading of a bowing and the library's are one -/
namespace LB
open Q
open PySem (Str)
/-! ### the numbers -/
theorem lawL_const {gs : List Int} : ∀ (m : Nat) (num i : Int), (∀ j, i ≤ j → j < i + m → j ∉ gs) → lawL gs num i m = List.replicate m num
  | 0, _, _, _ => rfl
  | m + 1, num, i, h => by
    have h0 : i ∉ gs := h i (Int.le_refl _) (by omega)
    rw [lawL, if_neg h0, Int.add_zero, lawL_const m num (i + 1) fun j h1 h2 => h j (by omega) (by omega)]
    rfl
theorem lawL_split {gs : List Int} : ∀ (a b : Nat) (num i : Int), (∀ j, i ≤ j → j < i + a → j ∉ gs) → lawL gs num i (a + b) = List.replicate a num ++ lawL gs num (i + a) b
  | 0, b, num, i, _ => by simp
  | a + 1, b, num, i, h => by
    have h0 : i ∉ gs := h i (Int.le_refl _) (by omega)
    rw [show a + 1 + b = (a + b) + 1 by omega, lawL, if_neg h0, Int.add_zero, lawL_split a b num (i + 1) fun j h1 h2 => h j (by omega) (by omega), List.replicate_succ, List.cons_append,
      show i + 1 + (a : Int) = i + ((a + 1 : Nat) : Int) by omega]
theorem chn_mem : ∀ {gs : List Int} {s n g : Int}, Chn s gs n → g ∈ gs → s < g ∧ g < n
  | g' :: gs, s, n, g, h, hm => by
    rcases List.mem_cons.mp hm with e | hm
    · rw [e]
      exact ⟨h.1, h.2.lt⟩
    · have := chn_mem h.2 hm
      exact ⟨Int.lt_trans h.1 this.1, this.2⟩
theorem nums_from {Γ : List Int} : ∀ (gs : List Int) (s k n : Int), Chn s gs n → (∀ j, s < j → j < n → (j ∈ Γ ↔ j ∈ gs)) → numsL k (endsL s gs n) = (k + 1) :: lawL Γ (k + 1) (s + 1) (n - s - 1).toNat
  | [], s, k, n, h, hi => by
    have h' : s < n := h
    rw [lawL_const _ _ _ fun j h1 h2 m => by
      have := (hi j (by omega) (by omega)).mp m
      cases this]
    rw [endsL, numsL, numsL, List.append_nil]
    simp only
    rw [show (n - s).toNat = (n - s - 1).toNat + 1 by omega, List.replicate_succ]
  | g :: gs, s, k, n, h, hi => by
    have h1 := h.1
    have h2 := h.2.lt
    have hin : ∀ j, g < j → j < n → (j ∈ Γ ↔ j ∈ gs) := fun j a b => by
      rw [hi j (by omega) b, List.mem_cons]
      exact ⟨fun q => q.resolve_left (by omega), .inr⟩
    have hout : ∀ j, s + 1 ≤ j → j < s + 1 + ((g - s - 1).toNat : Int) → j ∉ Γ := fun j a b m => by
      have := (hi j (by omega) (by omega)).mp m
      rcases List.mem_cons.mp this with e | m'
      · omega
      · have := chn_mem h.2 m'
        omega
    have hg : g ∈ Γ := (hi g h1 h2).mpr (.head _)
    rw [endsL, numsL, nums_from gs g (k + 1) n h.2 hin]
    simp only
    rw [show (n - s - 1).toNat = (g - s - 1).toNat + ((n - g - 1).toNat + 1) by omega, lawL_split _ _ _ _ hout, lawL, show s + 1 + ((g - s - 1).toNat : Int) = g by omega, if_pos hg,
      show (g - s).toNat = (g - s - 1).toNat + 1 by omega, List.replicate_succ, List.cons_append]
theorem nums_eq {gs : List Int} {n : Int} (h : Chn 0 gs n) : lawL gs 1 0 n.toNat = numsL 0 (endsL 0 gs n) := by
  have hlt := h.lt
  rw [nums_from (Γ := gs) gs 0 0 n h fun j _ _ => Iff.rfl, show n.toNat = (n - 0 - 1).toNat + 1 by omega, lawL, if_neg (fun m => by
    have := chn_mem h m
    omega)]
  rfl
/-! ### good -/
theorem numPart_append (ls1 ls2 n1 n2 : List Int) (h : ls1.length = n1.length) (k : Int) : numPart (ls1 ++ ls2) (n1 ++ n2) k = numPart ls1 n1 k ++ numPart ls2 n2 k := by
  unfold numPart
  rw [List.zip_append h, List.filter_append, List.map_append]
theorem numPart_same : ∀ (ls : List Int) (k : Int), numPart ls (List.replicate ls.length k) k = ls
  | [], k => rfl
  | l :: ls, k => by
    have ih := numPart_same ls k
    unfold numPart at ih ⊢
    rw [List.length_cons, List.replicate_succ, List.zip_cons_cons, List.filter_cons_of_pos (by simp), List.map_cons, ih]
theorem numPart_none : ∀ (ls nums : List Int) (k : Int), (∀ x ∈ nums, x ≠ k) → numPart ls nums k = []
  | [], nums, k, _ => rfl
  | l :: ls, [], k, _ => rfl
  | l :: ls, x :: nums, k, h => by
    have ih := numPart_none ls nums k fun y hy => h y (.tail _ hy)
    unfold numPart at ih ⊢
    rw [List.zip_cons_cons, List.filter_cons_of_neg (by simpa using h x (.head _)), ih]
theorem numsL_ge : ∀ (ps : List (Int × Int)) (k x : Int), x ∈ numsL k ps → k + 1 ≤ x
  | [], k, x, h => by cases h
  | p :: ps, k, x, h => by
    rw [numsL] at h
    rcases List.mem_append.mp h with h | h
    · rw [(List.mem_replicate.mp h).2]
      exact Int.le_refl _
    · have := numsL_ge ps (k + 1) x h
      omega
theorem numsL_last : ∀ (gs : List Int) (s k n : Int), Chn s gs n → (numsL k (endsL s gs n)).getLastD 0 = k + 1 + gs.length
  | [], s, k, n, h => by
    have h' : s < n := h
    rw [endsL, numsL, numsL, List.append_nil]
    simp only
    rw [show (n - s).toNat = (n - s - 1).toNat + 1 by omega, List.replicate_succ']
    simp
  | g :: gs, s, k, n, h => by
    have ih := numsL_last gs g (k + 1) n h.2
    have hl := numsL_len gs (k + 1) g n h.2
    have hlt := h.2.lt
    rw [endsL, numsL]
    have hne : numsL (k + 1) (endsL g gs n) ≠ [] := fun z => by
      rw [z] at hl
      simp at hl
      omega
    rw [List.getLastD_eq_getLast?, List.getLast?_eq_some_getLast hne] at ih
    rw [List.getLastD_eq_getLast?, List.getLast?_append, List.getLast?_eq_some_getLast hne, List.length_cons]
    simp at ih ⊢
    omega
theorem cut_at {ls : List Int} {s e : Int} (h0 : 0 ≤ s) (h1 : s < e) (h2 : e ≤ ls.length) : cutU ls (some s) (some e) = (ls.drop s.toNat).take (e - s).toNat := by
  unfold cutU sxU
  simp only
  rw [if_neg (by omega), if_neg (by omega), show min s.toNat ls.length = s.toNat by omega, show min e.toNat ls.length = e.toNat by omega, show e.toNat - s.toNat = (e - s).toNat by omega]
theorem strokeOK_iff (ls : List Int) (bow : Int) (jn sp : List Int) (ws : List (Int × Bool)) (s e : Int) (b : Bool) : strokeOK ls bow jn sp ws s e b = true ↔
    (cutU ls (some s) (some e)).sum ≤ bow ∧ e ∉ jn ∧ (∀ p ∈ sp, ¬ (s < p ∧ p < e)) ∧ ∀ w ∈ ws, s ≤ w.1 → w.1 < e → w.2 = b := by
  unfold strokeOK
  by_cases h1 : bow < (cutU ls (some s) (some e)).sum ∨ e ∈ jn
  · rw [if_pos h1]
    constructor
    · intro h
      cases h
    · rintro ⟨a, b, _⟩
      rcases h1 with h | h
      · omega
      · exact absurd h b
  · rw [if_neg h1]
    rw [not_or] at h1
    have e1 : (cutU ls (some s) (some e)).sum ≤ bow := by omega
    by_cases h2 : sp.any (inS s e) = true
    · rw [if_pos h2]
      constructor
      · intro h
        cases h
      · rintro ⟨_, _, c, _⟩
        obtain ⟨p, hp, q⟩ := List.any_eq_true.mp h2
        simp [inS] at q
        exact absurd q (c p hp)
    · rw [if_neg h2]
      have h3 : ∀ p ∈ sp, ¬ (s < p ∧ p < e) := fun p hp q => h2 (List.any_eq_true.mpr ⟨p, hp, by simp [inS, q]⟩)
      rw [List.all_eq_true]
      constructor
      · intro h
        refine ⟨e1, h1.2, h3, fun w hw a c => ?_⟩
        have := h w hw
        simp [atS, a, c] at this
        exact this
      · rintro ⟨_, _, _, h⟩ w hw
        by_cases hat : s ≤ w.1 ∧ w.1 < e
        · simp [atS, hat, h w hw hat.1 hat.2]
        · simp [atS]
          by_cases hh : s ≤ w.1
          · left
            right
            omega
          · left
            left
            omega
theorem getD_app_l {l m : List Int} {i : Nat} (h : i < l.length) (d : Int) : (l ++ m).getD i d = l.getD i d := by
  rw [List.getD_eq_getElem?_getD, List.getD_eq_getElem?_getD, List.getElem?_append_left h]
theorem getD_app_r {l m : List Int} {i : Nat} (h : l.length ≤ i) (d : Int) : (l ++ m).getD i d = m.getD (i - l.length) d := by
  rw [List.getD_eq_getElem?_getD, List.getD_eq_getElem?_getD, List.getElem?_append_right h]
theorem getD_rep {n i : Nat} (h : i < n) (x d : Int) : (List.replicate n x).getD i d = x := by
  rw [List.getD_eq_getElem?_getD, List.getElem?_replicate, if_pos h]
  rfl
theorem goodL_iff (ls : List Int) (bow : Int) (jn sp : List Int) (ws : List (Int × Bool)) (hj : (ls.length : Int) ∉ jn) (hb : 0 ≤ bow) : ∀ (gs : List Int) (s k : Int), 0 ≤ s → Chn s gs ls.length →
    (goodL ls bow jn sp ws k (endsL s gs ls.length) = true ↔
      (∀ x, k + 1 ≤ x → x ≤ k + 1 + gs.length → (numPart (ls.drop s.toNat) (numsL k (endsL s gs ls.length)) x).sum ≤ bow) ∧ (∀ g ∈ gs, g ∉ jn) ∧ (∀ p ∈ sp, s < p → p < ls.length → p ∈ gs) ∧
      ∀ w ∈ ws, s ≤ w.1 → w.1 < ls.length → w.2 = dirK ws ((numsL k (endsL s gs ls.length)).getD (w.1 - s).toNat 0))
  | [], s, k, h0, hc => by
    have h1 : s < ls.length := hc
    have e1 : numsL k (endsL s [] ls.length) = List.replicate ((ls.length : Int) - s).toNat (k + 1) := by
      rw [endsL, numsL, numsL, List.append_nil]
    have e2 : ((ls.length : Int) - s).toNat = (ls.drop s.toNat).length := by
      rw [List.length_drop]
      omega
    rw [e1]
    have e3 : numPart (ls.drop s.toNat) (List.replicate ((ls.length : Int) - s).toNat (k + 1)) (k + 1) = ls.drop s.toNat := by
      rw [e2]
      exact numPart_same _ _
    have e4 : cutU ls (some s) (some (ls.length : Int)) = ls.drop s.toNat := by
      rw [cut_at h0 h1 (Int.le_refl _), e2, List.take_length]
    rw [endsL, goodL, goodL, Bool.and_true, strokeOK_iff]
    simp only
    rw [e4]
    constructor
    · rintro ⟨a, b, c, d⟩
      refine ⟨fun x hx1 hx2 => ?_, fun g hg => (by cases hg), fun p hp q1 q2 => absurd ⟨q1, q2⟩ (c p hp), fun w hw q1 q2 => ?_⟩
      · have hx : x = k + 1 := by
          simp at hx2
          omega
        rw [hx, e3]
        exact a
      · rw [getD_rep (by omega)]
        exact d w hw q1 q2
    · rintro ⟨a, _, c, d⟩
      refine ⟨?_, hj, fun p hp q => ?_, fun w hw q1 q2 => ?_⟩
      · have := a (k + 1) (Int.le_refl _) (by simp)
        rwa [e3] at this
      · have := c p hp q.1 q.2
        cases this
      · have := d w hw q1 q2
        rwa [getD_rep (by omega)] at this
  | g :: gs, s, k, h0, hc => by
    have h1 := hc.1
    have h2 := hc.2.lt
    have ih := goodL_iff ls bow jn sp ws hj hb gs g (k + 1) (by omega) hc.2
    have hl := numsL_len gs (k + 1) g ls.length hc.2
    have hge := numsL_ge (endsL g gs ls.length) (k + 1)
    generalize hN : numsL (k + 1) (endsL g gs ls.length) = N at *
    have e1 : numsL k (endsL s (g :: gs) ls.length) = List.replicate (g - s).toNat (k + 1) ++ N := by
      rw [endsL, numsL, hN]
    have e2 : ls.drop s.toNat = (ls.drop s.toNat).take (g - s).toNat ++ ls.drop g.toNat := by
      have := (List.take_append_drop (g - s).toNat (ls.drop s.toNat)).symm
      rw [List.drop_drop, show s.toNat + (g - s).toNat = g.toNat by omega] at this
      exact this
    have hlen : ((ls.drop s.toNat).take (g - s).toNat).length = (g - s).toNat := by
      rw [List.length_take, List.length_drop]
      omega
    have hpart : ∀ x, numPart (ls.drop s.toNat) (List.replicate (g - s).toNat (k + 1) ++ N) x = numPart ((ls.drop s.toNat).take (g - s).toNat) (List.replicate (g - s).toNat (k + 1)) x ++ numPart (ls.drop g.toNat) N x := fun x => by
      conv => lhs; rw [e2]
      exact numPart_append _ _ _ _ (by rw [hlen, List.length_replicate]) x
    have hp1 : numPart (ls.drop s.toNat) (List.replicate (g - s).toNat (k + 1) ++ N) (k + 1) = (ls.drop s.toNat).take (g - s).toNat := by
      rw [hpart, numPart_none (ls.drop g.toNat) N (k + 1) fun x hx z => by
        have := hge x hx
        omega, List.append_nil]
      have := numPart_same ((ls.drop s.toNat).take (g - s).toNat) (k + 1)
      rwa [hlen] at this
    have hp2 : ∀ x, k + 1 < x → numPart (ls.drop s.toNat) (List.replicate (g - s).toNat (k + 1) ++ N) x = numPart (ls.drop g.toNat) N x := fun x hx => by
      rw [hpart, numPart_none ((ls.drop s.toNat).take (g - s).toNat) (List.replicate (g - s).toNat (k + 1)) x fun y hy z => by
        have := (List.mem_replicate.mp hy).2
        omega, List.nil_append]
    have hd1 : ∀ i : Int, s ≤ i → i < g → (List.replicate (g - s).toNat (k + 1) ++ N).getD (i - s).toNat 0 = k + 1 := fun i a b => by
      rw [getD_app_l (by rw [List.length_replicate]; omega), getD_rep (by omega)]
    have hd2 : ∀ i : Int, g ≤ i → (List.replicate (g - s).toNat (k + 1) ++ N).getD (i - s).toNat 0 = N.getD (i - g).toNat 0 := fun i a => by
      rw [getD_app_r (by rw [List.length_replicate]; omega), List.length_replicate, show (i - s).toNat - (g - s).toNat = (i - g).toNat by omega]
    rw [e1, endsL, goodL, Bool.and_eq_true, strokeOK_iff, ih]
    simp only
    rw [cut_at h0 h1 (by omega)]
    constructor
    · rintro ⟨⟨a, b, c, d⟩, a', b', c', d'⟩
      refine ⟨fun x hx1 hx2 => ?_, fun q hq => ?_, fun p hp q1 q2 => ?_, fun w hw q1 q2 => ?_⟩
      · by_cases hx : x = k + 1
        · rw [hx, hp1]
          exact a
        · rw [hp2 x (by omega)]
          rw [List.length_cons] at hx2
          exact a' x (by omega) (by omega)
      · rcases List.mem_cons.mp hq with e | hq
        · rw [e]
          exact b
        · exact b' q hq
      · rcases Int.lt_trichotomy p g with h | h | h
        · exact absurd ⟨q1, h⟩ (c p hp)
        · rw [h]
          exact .head _
        · exact .tail _ (c' p hp h q2)
      · by_cases hw2 : w.1 < g
        · rw [hd1 w.1 q1 hw2]
          exact d w hw q1 hw2
        · rw [hd2 w.1 (by omega)]
          exact d' w hw (by omega) q2
    · rintro ⟨a, b, c, d⟩
      refine ⟨⟨?_, b g (.head _), fun p hp q => ?_, fun w hw q1 q2 => ?_⟩, fun x hx1 hx2 => ?_, fun q hq => b q (.tail _ hq), fun p hp q1 q2 => ?_, fun w hw q1 q2 => ?_⟩
      · have := a (k + 1) (Int.le_refl _) (by omega)
        rwa [hp1] at this
      · have hm := c p hp q.1 (by omega)
        rcases List.mem_cons.mp hm with e | hm
        · omega
        · have := chn_mem hc.2 hm
          omega
      · have := d w hw q1 (by omega)
        rwa [hd1 w.1 q1 q2] at this
      · have := a x (by omega) (by rw [List.length_cons]; omega)
        rwa [hp2 x (by omega)] at this
      · have hm := c p hp (by omega) q2
        rcases List.mem_cons.mp hm with e | hm
        · omega
        · exact hm
      · have := d w hw (by omega) q2
        rwa [hd2 w.1 q1] at this
section
variable {ls : List Int} {bow : Int} {jn sp : List Int} {ws : List (Int × Bool)} {gs : List Int}
theorem filter_ne_nil {α : Type} [BEq α] (p : α → Bool) (l : List α) : ((l.filter p) = []) ↔ ∀ x ∈ l, p x = false := by
  rw [List.filter_eq_nil_iff]
  exact ⟨fun h x hx => by simpa using h x hx, fun h x hx => by simp [h x hx]⟩
theorem lawGood_iff (nums : List Int) : lawGood ls bow jn sp ws gs nums = true ↔ (∀ g ∈ gs, g ∉ jn) ∧ (∀ p ∈ sp, p ∈ gs) ∧ (∀ k : Int, 1 ≤ k → k < 1 + ((nums.getLastD 0).toNat : Int) → numSum ls nums k ≤ bow) ∧ ∀ w ∈ ws, dirK ws (nums.getD w.1.toNat 0) = w.2 := by
  unfold lawGood
  rw [Bool.and_eq_true, Bool.and_eq_true, Bool.and_eq_true]
  refine and_congr ?_ (and_congr ?_ (and_congr ?_ ?_))
  · rw [Bool.not_eq_true', bne_eq_false_iff_eq, filter_ne_nil]
    exact ⟨fun h g hg => by simpa using h g hg, fun h g hg => by simpa using h g hg⟩
  · rw [Bool.not_eq_true', bne_eq_false_iff_eq, filter_ne_nil]
    exact ⟨fun h g hg => by simpa using h g hg, fun h g hg => by simpa using h g hg⟩
  · rw [List.all_eq_true]
    constructor
    · intro h k h1 h2
      have := h k (mem_rng.mpr ⟨h1, h2⟩)
      simp at this
      omega
    · intro h k hk
      have hk' := mem_rng.mp hk
      have := h k hk'.1 hk'.2
      simp
      omega
  · rw [beq_iff_eq, List.map_eq_nil_iff, filter_ne_nil]
    unfold wayOff
    exact ⟨fun h w hw => by simpa using h w hw, fun h w hw => by simpa using h w hw⟩
theorem lawGood_eq (P : GoodP ls bow jn sp) (W : GoodW ls.length ws) (hg : okGaps ls.length gs = true) : lawGood ls bow jn sp ws gs (lawL gs 1 0 ls.length) = goodB ls bow jn sp ws gs := by
  have hn := P.n1
  have hc : Chn 0 gs ls.length := chn_ok hg (by omega)
  have hq := nums_eq hc
  rw [show ((ls.length : Int)).toNat = ls.length by omega] at hq
  rw [hq]
  have hlast := numsL_last gs 0 0 ls.length hc
  have hj : (ls.length : Int) ∉ jn := fun m => by
    have := okGaps_mem P.j m
    omega
  rw [Bool.eq_iff_iff, lawGood_iff, hlast]
  unfold goodB
  rw [hg, Bool.true_and, goodL_iff ls bow jn sp ws hj (by have := P.b1; omega) gs 0 0 (Int.le_refl _) hc]
  constructor
  · rintro ⟨a, b, c, d⟩
    refine ⟨fun x h1 h2 => c x (by omega) (by omega), a, fun p hp _ _ => b p hp, fun w hw h1 h2 => ?_⟩
    rw [show w.1 - 0 = w.1 by omega]
    exact (d w hw).symm
  · rintro ⟨a, b, c, d⟩
    refine ⟨b, fun p hp => ?_, fun k h1 h2 => a k (by omega) (by omega), fun w hw => ?_⟩
    · have := okGaps_mem P.s hp
      exact c p hp (by omega) (by omega)
    · have hr := W.r w hw
      have := d w hw hr.1 (by omega)
      rw [show w.1 - 0 = w.1 by omega] at this
      exact this.symm
/-! ### same -/
/-- simple values -/
def sv : U → Bool
  | .int _ | .bl _ | .str _ => true
  | _ => false
theorem sv_eq {u : U} (h : sv u = true) : uEq u u = some (.bl true) := by
  cases u with
  | int i => simp
  | bl b => simp
  | str x => simp [uEq]
  | _ => cases h
@[simp] theorem inst_bb (b : Bool) : bIsInst [.bl b, .ty "bool"] = some (.bl true) := by simp [bIsInst, tyOf]
@[simp] theorem inst_sb (x : List Nat) : bIsInst [.str x, .ty "bool"] = some (.bl false) := by simp [bIsInst, tyOf]
@[simp] theorem inst_si (x : List Nat) : bIsInst [.str x, .ty "int"] = some (.bl false) := by simp [bIsInst, tyOf]
@[simp] theorem inst_lb (x : List U) : bIsInst [.lst x, .ty "bool"] = some (.bl false) := by simp [bIsInst, tyOf]
@[simp] theorem inst_li (x : List U) : bIsInst [.lst x, .ty "int"] = some (.bl false) := by simp [bIsInst, tyOf]
@[simp] theorem inst_ls (x : List U) : bIsInst [.lst x, .ty "str"] = some (.bl false) := by simp [bIsInst, tyOf]
@[simp] theorem inst_ll (x : List U) : bIsInst [.lst x, .ty "list"] = some (.bl true) := by simp [bIsInst, tyOf]
@[simp] theorem inst_tb (x : List U) : bIsInst [.tup x, .ty "bool"] = some (.bl false) := by simp [bIsInst, tyOf]
@[simp] theorem inst_ti (x : List U) : bIsInst [.tup x, .ty "int"] = some (.bl false) := by simp [bIsInst, tyOf]
@[simp] theorem inst_ts (x : List U) : bIsInst [.tup x, .ty "str"] = some (.bl false) := by simp [bIsInst, tyOf]
@[simp] theorem inst_tl (x : List U) : bIsInst [.tup x, .ty "list"] = some (.bl false) := by simp [bIsInst, tyOf]
theorem s_sort_i (i : Int) : fn__law_sort [.int i] = .ok (.int 2) .non := by simp [fn__law_sort, fnOf, b__law_sort, startU]
theorem s_sort_b (b : Bool) : fn__law_sort [.bl b] = .ok (.int 1) .non := by simp [fn__law_sort, fnOf, b__law_sort, startU]
theorem s_sort_s (x : List Nat) : fn__law_sort [.str x] = .ok (.int 3) .non := by simp [fn__law_sort, fnOf, b__law_sort, startU]
theorem s_sort_l (x : List U) : fn__law_sort [.lst x] = .ok (.int 4) .non := by simp [fn__law_sort, fnOf, b__law_sort, startU]
theorem s_sort_t (x : List U) : fn__law_sort [.tup x] = .ok (.int 5) .non := by simp [fn__law_sort, fnOf, b__law_sort, startU]
theorem same_sv (j : Nat) {u : U} (h : sv u = true) : fn__law_same (j + 1) [u, u] = .ok (.bl true) .non := by
  have he := sv_eq h
  cases u with
  | int i => simp [fn__law_same, fnOf, b__law_same, startU, s_sort_i]
  | bl i => simp [fn__law_same, fnOf, b__law_same, startU, s_sort_b]
  | str x =>
    simp [fn__law_same, fnOf, b__law_same, startU, s_sort_s]
    simp [he]
  | _ => cases h
theorem atU_nat {α : Type} (xs : List α) (i : Nat) : atU xs (i : Int) = xs[i]? := by
  unfold atU
  rw [if_pos (by omega)]
  rfl
theorem same_lst (j : Nat) (xs : List U) (hl : xs.length ≤ 100000) (h : ∀ x ∈ xs, fn__law_same (j + 1) [x, x] = .ok (.bl true) .non) : fn__law_same (j + 2) [.lst xs, .lst xs] = .ok (.bl true) .non := by
  rw [fn__law_same]
  simp [fnOf, b__law_same, startU, s_sort_l]
  have hx : ∀ p ∈ enumI xs, atU xs p.1 = some p.2 := fun p hp => by
    unfold enumI at hp
    obtain ⟨i, hi⟩ := List.mem_iff_getElem?.mp hp
    rw [List.getElem?_zip_eq_some] at hi
    have hlt : i < xs.length := (List.getElem?_eq_some_iff.mp hi.2).1
    have hr : ∀ (n : Nat) (lo : Int) (i : Nat), i < n → (rng lo n)[i]? = some (lo + i) := by
      intro n
      induction n with
      | zero => intro lo i h; omega
      | succ n ih =>
        intro lo i h
        cases i with
        | zero => simp [rng]
        | succ i =>
          rw [rng, List.getElem?_cons_succ, ih (lo + 1) i (by omega)]
          congr 1
          omega
    rw [hr _ _ _ hlt] at hi
    have e := Option.some.inj hi.1
    rw [← e, Int.zero_add, atU_nat]
    exact hi.2
  have hm : ∀ p ∈ enumI xs, p.2 ∈ xs := fun p hp => (List.of_mem_zip hp).2
  rw [eComp_same (enumI xs) (fun p => .tup [.int p.1, p.2]) (fun _ => false) (fun p => .int p.1) (by
      simp
      have := enumU_map id xs
      simpa using this) (by unfold enumI; simp; omega) (by
    intro p hp
    refine ⟨_, rfl, ?_, fun q => (by cases q), ?_⟩
    · simp [wipeU, hx p hp, h p.2 (hm p hp)]
    · simp [wipeU])]
  have hf : (enumI xs).filter (fun _ => false) = [] := by simp
  rw [hf]
  have := uEq_ll [] []
  simp at this
  simp [this]
end
theorem chn_len : ∀ {gs : List Int} {s n : Int}, Chn s gs n → s + gs.length < n
  | [], s, n, h => by
    have h' : s < n := h
    simp
    omega
  | g :: gs, s, n, h => by
    have ih := chn_len h.2
    have := h.1
    rw [List.length_cons]
    omega
section
variable {ls : List Int} {bow : Int} {jn sp : List Int} {ws : List (Int × Bool)} {gs : List Int}
theorem s_law_right (P : GoodP ls bow jn sp) (W : GoodW ls.length ws) (hg : okGaps ls.length gs = true) : fn__law_right [encP ls bow jn sp, encW ws, .tup (gs.map .int)] = .ok (.bl true) .non := by
  have hn := P.n1
  have hn2 := P.n30
  have hc : Chn 0 gs ls.length := chn_ok hg (by omega)
  have hgl : gs.length ≤ 1000 := by
    have := chn_len hc
    omega
  have hq := nums_eq hc
  rw [show ((ls.length : Int)).toNat = ls.length by omega] at hq
  have h1 := s_law_good ls bow jn sp ws gs hn (by omega) P.sl hgl W.l W.r (fun k hk => by
    rw [hq] at hk
    have := numsL_last gs 0 0 ls.length hc
    rw [List.getLastD_eq_getLast?, hk] at this
    simp at this
    have := chn_len hc
    omega)
  rw [lawGood_eq P W hg] at h1
  have h2 := s_is_bowing P W hgl
  have h3 := s_law_numbers ls.length gs (by omega) (by omega)
  rw [show ((ls.length : Int)).toNat = ls.length by omega, hq] at h3
  have hsame : ∀ b : Bool, fn__law_same 4 [.bl b, .bl b] = .ok (.bl true) .non := fun b => same_sv 3 rfl
  cases hB : goodB ls bow jn sp ws gs with
  | false =>
    rw [hB] at h1 h2
    simp [fn__law_right, fnOf, b__law_right, startU, h1, h2, hsame]
  | true =>
    have h4 := s_stroke_numbers P W hgl hB
    have h5 := s_directions P W hgl hB
    rw [hB] at h1 h2
    have hlen := numsL_len gs 0 0 ls.length hc
    generalize numsL 0 (endsL 0 gs ls.length) = nums at *
    have hs1 : fn__law_same 4 [.lst (nums.map .int), .lst (nums.map .int)] = .ok (.bl true) .non := same_lst 2 _ (by rw [List.length_map]; omega) fun x hx => by
      obtain ⟨i, _, rfl⟩ := List.mem_map.mp hx
      exact same_sv 2 rfl
    have hs2 : fn__law_same 4 [.lst (nums.map fun k => wd (dirK ws k)), .lst (nums.map fun k => wd (dirK ws k))] = .ok (.bl true) .non := same_lst 2 _ (by rw [List.length_map]; omega) fun x hx => by
      obtain ⟨i, _, rfl⟩ := List.mem_map.mp hx
      exact same_sv 2 rfl
    have hl : nums.length ≤ 100000 := by omega
    simp [fn__law_right, fnOf, b__law_right, startU, h1, h2, hsame, h3, h4, hs1, scalU, appO, hl, h5]
    rw [eComp_true nums U.int (fun k => wd (dirK ws k)) (by simp) hl (by
      intro x hx
      refine ⟨_, rfl, ?_, ?_⟩ <;> simp [wipeU, s_law_way])]
    simp [hs2]
end
end LB
set_option maxHeartbeats 1000000
set_option maxRecDepth 100000
/-! MDeck: the laws' random pieces, wishes, gaps -/
namespace LB
open Q
open PySem (Str)
def Dk (B : Int) (d : U) : Prop := ∃ x y z : Int, d = .lst [.int x, .int y, .int z] ∧ 0 ≤ y ∧ y < 2147483648 ∧ 0 ≤ z ∧ z ≤ B
theorem Dk.mono {B B' : Int} {d : U} (h : Dk B d) (hb : B ≤ B') : Dk B' d := by
  obtain ⟨x, y, z, e, h1, h2, h3, h4⟩ := h
  exact ⟨x, y, z, e, h1, h2, h3, by omega⟩
theorem uMul_i {i j : Int} (h : -(2 ^ 64) < i ∧ i < 2 ^ 64) : uMul (.int i) (.int j) = some (.int (i * j)) := if_pos (.inl h)
theorem uMul_j {i j : Int} (h : -(2 ^ 64) < j ∧ j < 2 ^ 64) : uMul (.int i) (.int j) = some (.int (i * j)) := if_pos (.inr h)
theorem uFdiv_i {i j : Int} (h : 0 < j ∧ j < 1073741824) : uFdiv (.int i) (.int j) = some (.int (i / j)) := if_pos h
theorem uPow_i {i : Int} {j : Int} (h : 0 ≤ j ∧ j ≤ 1000000 ∧ i.natAbs < 2 ^ 64) : uPow (.int i) (.int j) = some (.int (i ^ j.toNat)) := if_pos h
theorem at3_0 (a b c : U) : atU [a, b, c] 0 = some a := rfl
theorem at3_1 (a b c : U) : atU [a, b, c] 1 = some b := rfl
theorem at3_2 (a b c : U) : atU [a, b, c] 2 = some c := rfl
theorem s_pick {B : Int} {d : U} {lim : Int} (h : Dk B d) (hB : B ≤ 1000000000) (h1 : 1 ≤ lim) (h2 : lim < 1073741824) : ∃ r d', fn__law_pick [d, .int lim] = .ok (.int r) d' ∧ 0 ≤ r ∧ r < lim ∧ Dk (B + 1) d' := by
  obtain ⟨x, y, z, rfl, y0, y1, z0, z1⟩ := h
  have hm : ∀ v : Int, 0 ≤ v % lim ∧ v % lim < lim := fun v => ⟨Int.emod_nonneg v (by omega), Int.emod_lt_of_pos v (by omega)⟩
  have hl : (0 : Int) < lim := by omega
  by_cases hx : 1 < x
  · refine ⟨x % lim, .lst [.int (x / lim), .int y, .int z], ?_, (hm x).1, (hm x).2, _, _, _, rfl, y0, y1, z0, by omega⟩
    simp [fn__law_pick, fnOf, b__law_pick, startU, at3_0, hx, uMod_i hl, uFdiv_i ⟨hl, h2⟩, putO, slot0]
  · have p1 : (y + 15485867 * (z + 1)).natAbs < 2 ^ 64 := by omega
    obtain ⟨n1, hn1⟩ : ∃ n1 : Int, n1 = (y + 15485867 * (z + 1)) ^ 5 % 2147483647 := ⟨_, rfl⟩
    have q1 : 0 ≤ n1 ∧ n1 < 2147483647 := by
      rw [hn1]
      exact ⟨Int.emod_nonneg _ (by decide), Int.emod_lt_of_pos _ (by decide)⟩
    have p2 : (n1 + 7919 * (z + 1)).natAbs < 2 ^ 64 := by omega
    have e1 : uPow (.int (y + 15485867 * (z + 1))) (.int 5) = some (.int ((y + 15485867 * (z + 1)) ^ 5)) := uPow_i ⟨by decide, by decide, p1⟩
    have e2 : uPow (.int (n1 + 7919 * (z + 1))) (.int 3) = some (.int ((n1 + 7919 * (z + 1)) ^ 3)) := uPow_i ⟨by decide, by decide, p2⟩
    have e3 : ∀ v : Int, uMul (.int 15485867) (.int v) = some (.int (15485867 * v)) := fun v => uMul_i ⟨by decide, by decide⟩
    have e4 : ∀ v : Int, uMul (.int 7919) (.int v) = some (.int (7919 * v)) := fun v => uMul_i ⟨by decide, by decide⟩
    have e5 : ∀ v : Int, uMul (.int v) (.int 2147483563) = some (.int (v * 2147483563)) := fun v => uMul_j ⟨by decide, by decide⟩
    have e6 : ∀ v : Int, uMod (.int v) (.int 2147483647) = some (.int (v % 2147483647)) := fun v => uMod_i (by decide)
    have e7 : ∀ v : Int, uMod (.int v) (.int 2147483629) = some (.int (v % 2147483629)) := fun v => uMod_i (by decide)
    have e8 : ∀ v : Int, uFdiv (.int v) (.int 32) = some (.int (v / 32)) := fun v => uFdiv_i ⟨by decide, by decide⟩
    generalize hf : (n1 + 7919 * (z + 1)) ^ 3 % 2147483629 / 32 = f
    by_cases hbig : 1000000 < lim
    · refine ⟨(f * 2147483563 + n1) % lim, .lst [.int x, .int y, .int (z + 1)], ?_, (hm _).1, (hm _).2, _, _, _, rfl, y0, y1, by omega, by omega⟩
      simp [fn__law_pick, fnOf, b__law_pick, startU, at3_0, at3_1, at3_2, hx, putO, slot0, e1, e3, e6, ← hn1, e4, e2, e7, e8, hbig, e5, hf, uMod_i hl]
    · refine ⟨f % lim, .lst [.int x, .int y, .int (z + 1)], ?_, (hm _).1, (hm _).2, _, _, _, rfl, y0, y1, by omega, by omega⟩
      simp [fn__law_pick, fnOf, b__law_pick, startU, at3_0, at3_1, at3_2, hx, putO, slot0, e1, e3, e6, ← hn1, e4, e2, e7, e8, hbig, e5, hf, uMod_i hl]
theorem s_one {B : Int} {d : U} {xs : List U} (h : Dk B d) (hB : B ≤ 1000000000) (h1 : xs ≠ []) (h2 : xs.length < 1000) : ∃ u d', fn__law_one [d, .lst xs] = .ok u d' ∧ u ∈ xs ∧ Dk (B + 1) d' := by
  have hl : 0 < xs.length := List.length_pos_iff.mpr h1
  obtain ⟨r, d', e, r0, r1, hd⟩ := s_pick (lim := xs.length) h hB (by omega) (by omega)
  have ha : atU xs r = some (xs[r.toNat]'(by omega)) := by
    unfold atU
    rw [if_pos r0, List.getElem?_eq_getElem (by omega)]
  refine ⟨xs[r.toNat]'(by omega), d', ?_, List.getElem_mem _, hd⟩
  simp [fn__law_one, fnOf, b__law_one, startU, e, ha, slot0]
theorem s_deck (c : Int) (t : Int) (h0 : 0 ≤ t) (h1 : t ≤ 100) : ∃ d, fn__law_deck [.int c, .int t] = .ok d .non ∧ Dk 100 d := by
  have e1 : uPow (.int 10) (.int 18) = some (.int 1000000000000000000) := by rfl
  have e6 : ∀ v : Int, uMod (.int v) (.int 2147483579) = some (.int (v % 2147483579)) := fun v => uMod_i (by decide)
  have hm : 0 ≤ c % 2147483579 ∧ c % 2147483579 < 2147483648 := ⟨Int.emod_nonneg _ (by decide), by have := Int.emod_lt_of_pos c (show (0 : Int) < 2147483579 by decide); omega⟩
  by_cases hc : 1000000000000000000 ≤ c
  · refine ⟨.lst [.int (c - 1000000000000000000), .int (c % 2147483579), .int t], ?_, _, _, _, rfl, hm.1, hm.2, h0, h1⟩
    simp [fn__law_deck, fnOf, b__law_deck, startU, e1, e6, hc]
  · refine ⟨.lst [.int 0, .int (c % 2147483579), .int t], ?_, _, _, _, rfl, hm.1, hm.2, h0, h1⟩
    simp [fn__law_deck, fnOf, b__law_deck, startU, e1, e6, hc]
end LB
set_option maxHeartbeats 4000000
set_option maxRecDepth 100000
/-! Mk21: the law k21 in plain words -/
namespace K21
open Q LB
open PySem (Str)
theorem six_1 : fn__law_six_right [.int 1] = .ok (.bl true) .non := by kernel_rfl
theorem ties_1 : fn__law_ties_right [.int 1] = .ok (.bl true) .non := by kernel_rfl
theorem six_2 : fn__law_six_right [.int 2] = .ok (.bl true) .non := by kernel_rfl
theorem ties_2 : fn__law_ties_right [.int 2] = .ok (.bl true) .non := by kernel_rfl
theorem six_3 : fn__law_six_right [.int 3] = .ok (.bl true) .non := by kernel_rfl
theorem ties_3 : fn__law_ties_right [.int 3] = .ok (.bl true) .non := by kernel_rfl
theorem six_4 : fn__law_six_right [.int 4] = .ok (.bl true) .non := by kernel_rfl
theorem ties_4 : fn__law_ties_right [.int 4] = .ok (.bl true) .non := by kernel_rfl
theorem six_5 : fn__law_six_right [.int 5] = .ok (.bl true) .non := by kernel_rfl
theorem ties_5 : fn__law_ties_right [.int 5] = .ok (.bl true) .non := by kernel_rfl
theorem six_6 : fn__law_six_right [.int 6] = .ok (.bl true) .non := by kernel_rfl
theorem ties_6 : fn__law_ties_right [.int 6] = .ok (.bl true) .non := by kernel_rfl
theorem six_7 : fn__law_six_right [.int 7] = .ok (.bl true) .non := by kernel_rfl
theorem ties_7 : fn__law_ties_right [.int 7] = .ok (.bl true) .non := by kernel_rfl
theorem six_8 : fn__law_six_right [.int 8] = .ok (.bl true) .non := by kernel_rfl
theorem ties_8 : fn__law_ties_right [.int 8] = .ok (.bl true) .non := by kernel_rfl
theorem six_9 : fn__law_six_right [.int 9] = .ok (.bl true) .non := by kernel_rfl
theorem ties_9 : fn__law_ties_right [.int 9] = .ok (.bl true) .non := by kernel_rfl
theorem six_10 : fn__law_six_right [.int 10] = .ok (.bl true) .non := by kernel_rfl
theorem ties_10 : fn__law_ties_right [.int 10] = .ok (.bl true) .non := by kernel_rfl
theorem six (r : Int) (h0 : 0 ≤ r) (h1 : r < 10) : fn__law_six_right [.int (1 + r)] = .ok (.bl true) .non ∧ fn__law_ties_right [.int (1 + r)] = .ok (.bl true) .non := by
  have h : r = 0 ∨ r = 1 ∨ r = 2 ∨ r = 3 ∨ r = 4 ∨ r = 5 ∨ r = 6 ∨ r = 7 ∨ r = 8 ∨ r = 9 := by omega
  rcases h with rfl | rfl | rfl | rfl | rfl | rfl | rfl | rfl | rfl | rfl
  · exact ⟨six_1, ties_1⟩
  · exact ⟨six_2, ties_2⟩
  · exact ⟨six_3, ties_3⟩
  · exact ⟨six_4, ties_4⟩
  · exact ⟨six_5, ties_5⟩
  · exact ⟨six_6, ties_6⟩
  · exact ⟨six_7, ties_7⟩
  · exact ⟨six_8, ties_8⟩
  · exact ⟨six_9, ties_9⟩
  · exact ⟨six_10, ties_10⟩
abbrev N9 : U := .tup [.tup [.int 1, .int 1, .int 1, .int 1, .int 1, .int 1, .int 1, .int 1, .int 1], .int 9, .tup [], .tup []]
theorem c1 : fn_count_bowings [N9, .tup [.tup [.int 8, .str [100, 111, 119, 110]]]] = .ok (.int 128) .non := by kernel_rfl
theorem c2 : fn_count_with [N9, .tup [.tup [.int 8, .str [100, 111, 119, 110]]], .int 5] = .ok (.int 70) .non := by kernel_rfl
theorem c3 : fn_number_of [N9, .tup [], .tup [.int 1, .int 2, .int 3, .int 4, .int 5, .int 6, .int 7, .int 8]] = .ok (.int 8) .non := by kernel_rfl
theorem c4 : fn_bowing_at [N9, .tup [], .int 255] = .ok (.tup [.int 8]) .non := by kernel_rfl
theorem c5 (ρ : Sl) : eTry (eCall fn_stroke_range (aCons (eTup (aCons (eTup (aCons (eC (.int 1)) (aCons (eC (.int 1)) aNil))) (aCons (eC (.int 2)) (aCons (eTup (aCons (eC (.int 1)) aNil)) (aCons (eTup aNil) aNil))))) (aCons (eTup (aCons (eTup (aCons (eC (.int 1)) (aCons (eC (.str [117, 112])) aNil))) aNil)) aNil))) ρ = .ok (.str [78, 111, 116, 43]) ρ := by
  have e : fn_stroke_range [.tup [.tup [.int 1, .int 1], .int 2, .tup [.int 1], .tup []], .tup [.tup [.int 1, .str [117, 112]]]] = .exc (Str.ofString "NotPossible") .non := by kernel_rfl
  unfold eTry
  simp [e]
  rfl
theorem cell (S : U) (c : Int) (x2 x3 : Option U) : ∃ y2, l_law_1 [some S, some (.int c), x2, x3] = .next [some S, some (.int c), y2, x3] := by
  obtain ⟨d0, e0, hd0⟩ := s_deck c 21 (by decide) (by decide)
  obtain ⟨r, d1, e1, r0, r1, hd1⟩ := s_pick (lim := 10) hd0 (by decide) (by decide) (by decide)
  obtain ⟨h1, h2⟩ := six r r0 r1
  refine ⟨some (.int (1 + r)), ?_⟩
  unfold l_law_1 eCallT
  simp [e0, e1, h1, h2]
theorem keeps : ∀ ns : List Int, ns.length ≤ 63 → ∃ d, fn_law [.lst (ns.map .int)] = .ok (.bl true) d := by
  intro ns hn
  refine ⟨.non, ?_⟩
  generalize hS : U.lst (ns.map .int) = S
  obtain ⟨ρ', e1, e2⟩ := forL_check (g := gN 1) (b := l_law_1) U.int (fun _ => true) (fun ρ => ∃ x1 x2 x3, ρ = [some S, x1, x2, x3]) (cutU (0 :: ns) none (some 4)) [some S, none, none, none] ⟨_, _, _, rfl⟩ (by
    rintro c hc ρ ⟨x1, x2, x3, rfl⟩
    obtain ⟨y2, e⟩ := cell S c x2 x3
    exact ⟨_, rfl, _, e, fun _ => ⟨_, _, _, rfl⟩⟩)
  have ha : (cutU (0 :: ns) none (some 4)).all (fun _ => true) = true := List.all_eq_true.mpr fun _ _ => rfl
  obtain ⟨x1, x2, x3, rfl⟩ := e2 ha
  rw [ha, if_pos rfl] at e1
  have hl : 1 + ns.length ≤ 100000 := by omega
  have hu : uAdd (.lst [.int 0]) S = some (.lst ((0 :: ns).map .int)) := by
    rw [← hS]
    simp [hl]
  have m9 : uMulT (.tup [.int 1]) (.int 9) = some (.tup [.int 1, .int 1, .int 1, .int 1, .int 1, .int 1, .int 1, .int 1, .int 1]) := by rfl
  have q1 : uNe (.int 128) (.int 128) = some (.bl false) := by rfl
  have q2 : uNe (.int 70) (.int 70) = some (.bl false) := by rfl
  have q3 : uNe (.int 8) (.int 8) = some (.bl false) := by rfl
  have q4 : uNe (.tup [.int 8]) (.tup [.int 8]) = some (.bl false) := by rfl
  have q5 : uEq (.str [78, 111, 116, 43]) (.str [78, 111, 116, 43]) = some (.bl true) := by rfl
  generalize hL : (0 :: ns : List Int) = L at *
  simp [fn_law, fnOf, b_law, startU, hu]
  rw [e1]
  simp [m9, c1, c2, c3, c4, q1, q2, q3, q4]
  rw [c5]
  simp [q5]
end K21
set_option maxRecDepth 100000
set_option maxHeartbeats 0
/-! the walk of law k21 (printed by gen2.py) -/
namespace K21
open Q LB
open PySem PySem.Spec PyProof.Rows L2
open PySem.Challenge (pw_bowings_k21_whole_written_pieces)
abbrev topS (i : Nat) : Stmt := pw_bowings_k21_whole_written_pieces.main.body.getD i (.Pass ⟨0, 0, 0, 0⟩)
abbrev N_is_from : List Str := ["value", "low", "high"]
abbrev s_is_from : Stmt := topS 16
abbrev N_are_gaps : List Str := ["count", "value", "gap", "one", "other"]
abbrev s_are_gaps : Stmt := topS 18
abbrev N_blocks_of : List Str := ["lengths", "joined", "found", "note", "length"]
abbrev s_blocks_of : Stmt := topS 19
abbrev N_is_piece : List Str := ["value", "lengths", "bow", "joined", "split", "length", "gap"]
abbrev s_is_piece : Stmt := topS 20
abbrev N_is_direction : List Str := ["value"]
abbrev s_is_direction : Stmt := topS 17
abbrev N_good_wishes : List Str := ["piece", "value", "pair", "one", "other"]
abbrev s_good_wishes : Stmt := topS 21
abbrev N_need_wishes : List Str := ["piece", "wishes"]
abbrev s_need_wishes : Stmt := topS 22
abbrev N_first_direction : List Str := ["wishes"]
abbrev s_first_direction : Stmt := topS 23
abbrev N_turned : List Str := ["direction"]
abbrev s_turned : Stmt := topS 24
abbrev N_direction_of : List Str := ["wishes", "number", "first"]
abbrev s_direction_of : Stmt := topS 25
abbrev N_stroke_right : List Str := ["piece", "wishes", "start", "stop", "direction", "lengths", "bow", "joined", "split", "gap", "note", "wish"]
abbrev s_stroke_right : Stmt := topS 26
abbrev N_rests : List Str := ["piece", "wishes", "count", "found", "start", "odd", "number", "stop"]
abbrev s_rests : Stmt := topS 33
abbrev N_total : List Str := ["piece", "wishes"]
abbrev s_total : Stmt := topS 36
abbrev N_need_possible : List Str := ["piece", "wishes"]
abbrev s_need_possible : Stmt := topS 39
abbrev N_begins : List Str := ["piece", "wishes", "count", "found", "start", "number", "many", "stop"]
abbrev s_begins : Stmt := topS 34
abbrev N_strokes_through : List Str := ["piece", "wishes", "before", "behind", "found", "start", "number", "stop", "many"]
abbrev s_strokes_through : Stmt := topS 35
abbrev N_numbers_by_note : List Str := ["piece", "wishes", "found", "start", "stop", "number", "many", "note", "length", "numbers"]
abbrev s_numbers_by_note : Stmt := topS 40
abbrev N_stroke_range : List Str := ["piece", "wishes", "numbers"]
abbrev s_stroke_range : Stmt := topS 44
abbrev N_count_bowings : List Str := ["piece", "wishes"]
abbrev s_count_bowings : Stmt := topS 48
abbrev N_count_with : List Str := ["piece", "wishes", "strokes"]
abbrev s_count_with : Stmt := topS 49
abbrev N_stops_in_order : List Str := ["piece", "start", "count"]
abbrev s_stops_in_order : Stmt := topS 50
abbrev N_bowing_at : List Str := ["piece", "wishes", "number", "table", "found", "start", "stroke", "stop", "many"]
abbrev s_bowing_at : Stmt := topS 51
abbrev N_ends_of : List Str := ["piece", "breaks", "places"]
abbrev s_ends_of : Stmt := topS 27
abbrev N_good_bowing : List Str := ["piece", "wishes", "value", "number", "start", "stop"]
abbrev s_good_bowing : Stmt := topS 28
abbrev N_need_bowing : List Str := ["piece", "wishes", "breaks"]
abbrev s_need_bowing : Stmt := topS 29
abbrev N_number_of : List Str := ["piece", "wishes", "bowing", "table", "found", "start", "place", "end", "stop"]
abbrev s_number_of : Stmt := topS 52
abbrev N__law_deck : List Str := ["cell", "turn"]
abbrev s__law_deck : Stmt := topS 70
abbrev N__law_pick : List Str := ["deck", "limit", "found", "number"]
abbrev s__law_pick : Stmt := topS 71
abbrev N__law_name_of : List Str := ["e", "matching", "words", "found", "word", "good"]
abbrev s__law_name_of : Stmt := topS 72
abbrev N__law_try : List Str := ["door", "found", "e"]
abbrev s__law_try : Stmt := topS 73
abbrev N_breaks_of : List Str := ["numbers", "note"]
abbrev s_breaks_of : Stmt := topS 38
abbrev N_least_bowing : List Str := ["piece", "wishes", "numbers"]
abbrev s_least_bowing : Stmt := topS 42
abbrev N_greatest_bowing : List Str := ["piece", "wishes", "numbers"]
abbrev s_greatest_bowing : Stmt := topS 43
abbrev N_numbers_of : List Str := ["piece", "breaks", "found", "number", "start", "stop"]
abbrev s_numbers_of : Stmt := topS 30
abbrev N_lower : List Str := ["piece", "wishes", "one", "other", "a", "b"]
abbrev s_lower : Stmt := topS 45
abbrev N_upper : List Str := ["piece", "wishes", "one", "other", "a", "b"]
abbrev s_upper : Stmt := topS 46
abbrev N_need_gaps : List Str := ["piece", "gaps"]
abbrev s_need_gaps : Stmt := topS 54
abbrev N_cheaper : List Str := ["one", "other"]
abbrev s_cheaper : Stmt := topS 55
abbrev N_best_edit : List Str := ["piece", "wishes", "written", "count", "found", "start", "odd", "number", "breaks", "stop", "more", "row", "ends", "gap"]
abbrev s_best_edit : Stmt := topS 56
abbrev N_fewest_changes : List Str := ["piece", "wishes", "written"]
abbrev s_fewest_changes : Stmt := topS 57
abbrev N_nearest_bowing : List Str := ["piece", "wishes", "written"]
abbrev s_nearest_bowing : Stmt := topS 58
abbrev N_need_note : List Str := ["piece", "note"]
abbrev s_need_note : Stmt := topS 63
abbrev N_numbers_at : List Str := ["piece", "wishes", "note"]
abbrev s_numbers_at : Stmt := topS 64
abbrev N_counts_by_gap : List Str := ["piece", "wishes", "found", "start", "stop", "number", "many"]
abbrev s_counts_by_gap : Stmt := topS 66
abbrev N_sure_breaks : List Str := ["piece", "wishes", "many", "counts", "gap"]
abbrev s_sure_breaks : Stmt := topS 67
abbrev N__law_six_right : List Str := ["t", "piece", "wishes", "due", "near", "number", "note"]
abbrev s__law_six_right : Stmt := topS 74
abbrev N_directions : List Str := ["piece", "wishes", "bowing", "number"]
abbrev s_directions : Stmt := topS 31
abbrev N_is_possible : List Str := ["piece", "wishes"]
abbrev s_is_possible : Stmt := topS 41
abbrev N_best_retakes : List Str := ["piece", "wishes", "count", "found", "start", "direction", "number", "breaks", "retakes", "stop", "key", "again", "row", "ends"]
abbrev s_best_retakes : Stmt := topS 59
abbrev N_fewest_retakes : List Str := ["piece", "wishes", "row"]
abbrev s_fewest_retakes : Stmt := topS 60
abbrev N_with_retakes : List Str := ["piece", "wishes", "row"]
abbrev s_with_retakes : Stmt := topS 61
abbrev N_directions_at : List Str := ["piece", "wishes", "note", "number"]
abbrev s_directions_at : Stmt := topS 65
abbrev N_sure_joins : List Str := ["piece", "wishes", "counts", "gap"]
abbrev s_sure_joins : Stmt := topS 68
abbrev N__law_ties_right : List Str := ["t", "piece", "rows", "wishes", "number"]
abbrev s__law_ties_right : Stmt := topS 75
abbrev N_law : List Str := ["script", "cell", "t", "piece"]
abbrev s_law : Stmt := topS 76
structure Mod (K : PySem.W.Frag) (mg : Str → Option Value) (cd_law : Addr) : Prop where
  n_ValueError : mg "ValueError" = none
  n_all : mg "all" = none
  n_any : mg "any" = none
  n_bool : mg "bool" = none
  n_enumerate : mg "enumerate" = none
  n_int : mg "int" = none
  n_isinstance : mg "isinstance" = none
  n_len : mg "len" = none
  n_list : mg "list" = none
  n_max : mg "max" = none
  n_min : mg "min" = none
  n_range : mg "range" = none
  n_set : mg "set" = none
  n_sorted : mg "sorted" = none
  n_str : mg "str" = none
  n_sum : mg "sum" = none
  n_tuple : mg "tuple" = none
  n_zip : mg "zip" = none
  i_MOST_NOTES : ∃ t, mg "MOST_NOTES" = some (.int 30 t)
  i_LONGEST : ∃ t, mg "LONGEST" = some (.int 20 t)
  i_LONGEST_BOW : ∃ t, mg "LONGEST_BOW" = some (.int 100 t)
  x_InvalidPiece : XCls K mg "InvalidPiece"
  x_InvalidWishes : XCls K mg "InvalidWishes"
  x_InvalidBowing : XCls K mg "InvalidBowing"
  x_InvalidGaps : XCls K mg "InvalidGaps"
  x_InvalidNote : XCls K mg "InvalidNote"
  x_InvalidNumber : XCls K mg "InvalidNumber"
  x_NotPossible : XCls K mg "NotPossible"
  xfam : ExnFam K mg
  f_is_from : ∃ (f : Addr) (fd : FuncData), mg "is_from" = some (.ref f) ∧ Fun K "is_from" "is_from" s_is_from f fd
  f_are_gaps : ∃ (f : Addr) (fd : FuncData), mg "are_gaps" = some (.ref f) ∧ Fun K "are_gaps" "are_gaps" s_are_gaps f fd
  f_blocks_of : ∃ (f : Addr) (fd : FuncData), mg "blocks_of" = some (.ref f) ∧ Fun K "blocks_of" "blocks_of" s_blocks_of f fd
  f_is_piece : ∃ (f : Addr) (fd : FuncData), mg "is_piece" = some (.ref f) ∧ Fun K "is_piece" "is_piece" s_is_piece f fd
  f_is_direction : ∃ (f : Addr) (fd : FuncData), mg "is_direction" = some (.ref f) ∧ Fun K "is_direction" "is_direction" s_is_direction f fd
  f_good_wishes : ∃ (f : Addr) (fd : FuncData), mg "good_wishes" = some (.ref f) ∧ Fun K "good_wishes" "good_wishes" s_good_wishes f fd
  f_need_wishes : ∃ (f : Addr) (fd : FuncData), mg "need_wishes" = some (.ref f) ∧ Fun K "need_wishes" "need_wishes" s_need_wishes f fd
  f_first_direction : ∃ (f : Addr) (fd : FuncData), mg "first_direction" = some (.ref f) ∧ Fun K "first_direction" "first_direction" s_first_direction f fd
  f_turned : ∃ (f : Addr) (fd : FuncData), mg "turned" = some (.ref f) ∧ Fun K "turned" "turned" s_turned f fd
  f_direction_of : ∃ (f : Addr) (fd : FuncData), mg "direction_of" = some (.ref f) ∧ Fun K "direction_of" "direction_of" s_direction_of f fd
  f_stroke_right : ∃ (f : Addr) (fd : FuncData), mg "stroke_right" = some (.ref f) ∧ Fun K "stroke_right" "stroke_right" s_stroke_right f fd
  f_rests : ∃ (f : Addr) (fd : FuncData), mg "rests" = some (.ref f) ∧ Fun K "rests" "rests" s_rests f fd
  f_total : ∃ (f : Addr) (fd : FuncData), mg "total" = some (.ref f) ∧ Fun K "total" "total" s_total f fd
  f_need_possible : ∃ (f : Addr) (fd : FuncData), mg "need_possible" = some (.ref f) ∧ Fun K "need_possible" "need_possible" s_need_possible f fd
  f_begins : ∃ (f : Addr) (fd : FuncData), mg "begins" = some (.ref f) ∧ Fun K "begins" "begins" s_begins f fd
  f_strokes_through : ∃ (f : Addr) (fd : FuncData), mg "strokes_through" = some (.ref f) ∧ Fun K "strokes_through" "strokes_through" s_strokes_through f fd
  f_numbers_by_note : ∃ (f : Addr) (fd : FuncData), mg "numbers_by_note" = some (.ref f) ∧ Fun K "numbers_by_note" "numbers_by_note" s_numbers_by_note f fd
  f_stroke_range : ∃ (f : Addr) (fd : FuncData), mg "stroke_range" = some (.ref f) ∧ Fun K "stroke_range" "stroke_range" s_stroke_range f fd
  f_count_bowings : ∃ (f : Addr) (fd : FuncData), mg "count_bowings" = some (.ref f) ∧ Fun K "count_bowings" "count_bowings" s_count_bowings f fd
  f_count_with : ∃ (f : Addr) (fd : FuncData), mg "count_with" = some (.ref f) ∧ Fun K "count_with" "count_with" s_count_with f fd
  f_stops_in_order : ∃ (f : Addr) (fd : FuncData), mg "stops_in_order" = some (.ref f) ∧ Fun K "stops_in_order" "stops_in_order" s_stops_in_order f fd
  f_bowing_at : ∃ (f : Addr) (fd : FuncData), mg "bowing_at" = some (.ref f) ∧ Fun K "bowing_at" "bowing_at" s_bowing_at f fd
  f_ends_of : ∃ (f : Addr) (fd : FuncData), mg "ends_of" = some (.ref f) ∧ Fun K "ends_of" "ends_of" s_ends_of f fd
  f_good_bowing : ∃ (f : Addr) (fd : FuncData), mg "good_bowing" = some (.ref f) ∧ Fun K "good_bowing" "good_bowing" s_good_bowing f fd
  f_need_bowing : ∃ (f : Addr) (fd : FuncData), mg "need_bowing" = some (.ref f) ∧ Fun K "need_bowing" "need_bowing" s_need_bowing f fd
  f_number_of : ∃ (f : Addr) (fd : FuncData), mg "number_of" = some (.ref f) ∧ Fun K "number_of" "number_of" s_number_of f fd
  f__law_deck : ∃ (f : Addr) (fd : FuncData), mg "_law_deck" = some (.ref f) ∧ Fun K "_law_deck" "_law_deck" s__law_deck f fd
  f__law_pick : ∃ (f : Addr) (fd : FuncData), mg "_law_pick" = some (.ref f) ∧ Fun K "_law_pick" "_law_pick" s__law_pick f fd
  f__law_name_of : ∃ (f : Addr) (fd : FuncData), mg "_law_name_of" = some (.ref f) ∧ Fun K "_law_name_of" "_law_name_of" s__law_name_of f fd
  f__law_try : ∃ (f : Addr) (fd : FuncData), mg "_law_try" = some (.ref f) ∧ Fun K "_law_try" "_law_try" s__law_try f fd
  f_breaks_of : ∃ (f : Addr) (fd : FuncData), mg "breaks_of" = some (.ref f) ∧ Fun K "breaks_of" "breaks_of" s_breaks_of f fd
  f_least_bowing : ∃ (f : Addr) (fd : FuncData), mg "least_bowing" = some (.ref f) ∧ Fun K "least_bowing" "least_bowing" s_least_bowing f fd
  f_greatest_bowing : ∃ (f : Addr) (fd : FuncData), mg "greatest_bowing" = some (.ref f) ∧ Fun K "greatest_bowing" "greatest_bowing" s_greatest_bowing f fd
  f_numbers_of : ∃ (f : Addr) (fd : FuncData), mg "numbers_of" = some (.ref f) ∧ Fun K "numbers_of" "numbers_of" s_numbers_of f fd
  f_lower : ∃ (f : Addr) (fd : FuncData), mg "lower" = some (.ref f) ∧ Fun K "lower" "lower" s_lower f fd
  f_upper : ∃ (f : Addr) (fd : FuncData), mg "upper" = some (.ref f) ∧ Fun K "upper" "upper" s_upper f fd
  f_need_gaps : ∃ (f : Addr) (fd : FuncData), mg "need_gaps" = some (.ref f) ∧ Fun K "need_gaps" "need_gaps" s_need_gaps f fd
  f_cheaper : ∃ (f : Addr) (fd : FuncData), mg "cheaper" = some (.ref f) ∧ Fun K "cheaper" "cheaper" s_cheaper f fd
  f_best_edit : ∃ (f : Addr) (fd : FuncData), mg "best_edit" = some (.ref f) ∧ Fun K "best_edit" "best_edit" s_best_edit f fd
  f_fewest_changes : ∃ (f : Addr) (fd : FuncData), mg "fewest_changes" = some (.ref f) ∧ Fun K "fewest_changes" "fewest_changes" s_fewest_changes f fd
  f_nearest_bowing : ∃ (f : Addr) (fd : FuncData), mg "nearest_bowing" = some (.ref f) ∧ Fun K "nearest_bowing" "nearest_bowing" s_nearest_bowing f fd
  f_need_note : ∃ (f : Addr) (fd : FuncData), mg "need_note" = some (.ref f) ∧ Fun K "need_note" "need_note" s_need_note f fd
  f_numbers_at : ∃ (f : Addr) (fd : FuncData), mg "numbers_at" = some (.ref f) ∧ Fun K "numbers_at" "numbers_at" s_numbers_at f fd
  f_counts_by_gap : ∃ (f : Addr) (fd : FuncData), mg "counts_by_gap" = some (.ref f) ∧ Fun K "counts_by_gap" "counts_by_gap" s_counts_by_gap f fd
  f_sure_breaks : ∃ (f : Addr) (fd : FuncData), mg "sure_breaks" = some (.ref f) ∧ Fun K "sure_breaks" "sure_breaks" s_sure_breaks f fd
  f__law_six_right : ∃ (f : Addr) (fd : FuncData), mg "_law_six_right" = some (.ref f) ∧ Fun K "_law_six_right" "_law_six_right" s__law_six_right f fd
  f_directions : ∃ (f : Addr) (fd : FuncData), mg "directions" = some (.ref f) ∧ Fun K "directions" "directions" s_directions f fd
  f_is_possible : ∃ (f : Addr) (fd : FuncData), mg "is_possible" = some (.ref f) ∧ Fun K "is_possible" "is_possible" s_is_possible f fd
  f_best_retakes : ∃ (f : Addr) (fd : FuncData), mg "best_retakes" = some (.ref f) ∧ Fun K "best_retakes" "best_retakes" s_best_retakes f fd
  f_fewest_retakes : ∃ (f : Addr) (fd : FuncData), mg "fewest_retakes" = some (.ref f) ∧ Fun K "fewest_retakes" "fewest_retakes" s_fewest_retakes f fd
  f_with_retakes : ∃ (f : Addr) (fd : FuncData), mg "with_retakes" = some (.ref f) ∧ Fun K "with_retakes" "with_retakes" s_with_retakes f fd
  f_directions_at : ∃ (f : Addr) (fd : FuncData), mg "directions_at" = some (.ref f) ∧ Fun K "directions_at" "directions_at" s_directions_at f fd
  f_sure_joins : ∃ (f : Addr) (fd : FuncData), mg "sure_joins" = some (.ref f) ∧ Fun K "sure_joins" "sure_joins" s_sure_joins f fd
  f__law_ties_right : ∃ (f : Addr) (fd : FuncData), mg "_law_ties_right" = some (.ref f) ∧ Fun K "_law_ties_right" "_law_ties_right" s__law_ties_right f fd
  l_law : ∃ (f : Addr) (fd : FuncData), mg "law" = some (.ref f) ∧ LamC K "law" s_law f fd cd_law
structure Tbs (base : Heap) (mg : Str → Option Value) (tb : List (Addr × Str)) (cd_law P_law : Addr) : Prop where
  t_law : LamX.TabB base mg cd_law P_law ∧ (P_law, lamNm "law" s_law) ∈ tb ∧ ∀ p ∈ tb, p.1 = P_law → p.2 = lamNm "law" s_law
section
variable {P : Program} {w : World} {K : PySem.W.Frag} {mg : Str → Option Value} {base : Heap} {tb : List (Addr × Str)} {cd_law P_law : Addr}
theorem S_is_from : FnScope N_is_from ["value", "low", "high"] (defScope s_is_from) := ⟨rfl, rfl, rfl, by decide +kernel, rfl, by decide +kernel, by decide +kernel⟩
theorem mk_is_from (M : Mod K mg cd_law) (B : Tbs base mg tb cd_law P_law) {j : Nat} {b : SF} (hb : ∀ (f : Addr) (cdv : Value) (A : Around) (outer : List Env) (s : Shared) (H : Hp) (E : XK) (G : Hp) (a : Addr), Room j (A.deeper (envOfC "is_from" (defScope s_is_from) s.heap.objs.size f cdv)) →
      QSs (cxOf (L2N.CX P w) P w K mg base N_is_from "is_from" (defScope s_is_from) f cdv A outer s H E) ⟨[], G, H, daF false a, false, tb⟩ (fun cls d _ H => E cls d H) false (defBody s_is_from) b) : Cal tb P w K mg base (L2N.CX P w) "is_from" false false 3 (fnOf false false 3 3 b) (j + 1) := by
  obtain ⟨f, fd, h, F⟩ := M.f_is_from
  exact cal_of F h S_is_from (F.binds fun _ _ _ _ _ _ us hl => match us, hl with | [_, _, _], _ => rfl) (by decide) (hb f)
theorem q_is_from (M : Mod K mg cd_law) (B : Tbs base mg tb cd_law P_law) {f : Addr} {cdv : Value} {A : Around} {outer : List Env} {s : Shared} {H : Hp} {E : XK} {G : Hp} {a : Addr} (hr : Room 0 (A.deeper (envOfC "is_from" (defScope s_is_from) s.heap.objs.size f cdv))) :
    QSs (cxOf (L2N.CX P w) P w K mg base N_is_from "is_from" (defScope s_is_from) f cdv A outer s H E) ⟨[], G, H, daF false a, false, tb⟩ (fun cls d _ H => E cls d H) false (defBody s_is_from) b_is_from :=
  have ok := okx_of (P := P) (w := w) (K := K) (mg := mg) (base := base) (outer := outer) (H := H) (E := E) S_is_from hr
  (qs_one (qs_ret [] (qe_and (qe_B c_isInst M.n_isinstance bo_isinstance (qa_cons (qe_var 0) (qa_cons (qe_ty "int" M.n_int bo_int) qa_nil))) (qe_and (qe_not (qe_B c_isInst M.n_isinstance bo_isinstance (qa_cons (qe_var 0) (qa_cons (qe_ty "bool" M.n_bool bo_bool) qa_nil)))) (qe_one (qe_chain op_uLeI op_uLeI (qe_var 1) (qe_var 0) (qe_var 2)))))))
theorem cal_is_from (M : Mod K mg cd_law) (B : Tbs base mg tb cd_law P_law) : Cal tb P w K mg base (L2N.CX P w) "is_from" false false 3 fn_is_from 1 := mk_is_from M B (j := 0) fun f cdv A outer s H E G a hr => q_is_from M B hr
theorem S_are_gaps : FnScope N_are_gaps ["count", "value"] (defScope s_are_gaps) := ⟨rfl, rfl, rfl, by decide +kernel, rfl, by decide +kernel, by decide +kernel⟩
theorem mk_are_gaps (M : Mod K mg cd_law) (B : Tbs base mg tb cd_law P_law) {j : Nat} {b : SF} (hb : ∀ (f : Addr) (cdv : Value) (A : Around) (outer : List Env) (s : Shared) (H : Hp) (E : XK) (G : Hp) (a : Addr), Room j (A.deeper (envOfC "are_gaps" (defScope s_are_gaps) s.heap.objs.size f cdv)) →
      QSs (cxOf (L2N.CX P w) P w K mg base N_are_gaps "are_gaps" (defScope s_are_gaps) f cdv A outer s H E) ⟨[], G, H, daF false a, false, tb⟩ (fun cls d _ H => E cls d H) false (defBody s_are_gaps) b) : Cal tb P w K mg base (L2N.CX P w) "are_gaps" false false 2 (fnOf false false 5 2 b) (j + 1) := by
  obtain ⟨f, fd, h, F⟩ := M.f_are_gaps
  exact cal_of F h S_are_gaps (F.binds fun _ _ _ _ _ _ us hl => match us, hl with | [_, _], _ => rfl) (by decide) (hb f)
theorem q_are_gaps (M : Mod K mg cd_law) (B : Tbs base mg tb cd_law P_law) {f : Addr} {cdv : Value} {A : Around} {outer : List Env} {s : Shared} {H : Hp} {E : XK} {G : Hp} {a : Addr} (hr : Room 1 (A.deeper (envOfC "are_gaps" (defScope s_are_gaps) s.heap.objs.size f cdv))) :
    QSs (cxOf (L2N.CX P w) P w K mg base N_are_gaps "are_gaps" (defScope s_are_gaps) f cdv A outer s H E) ⟨[], G, H, daF false a, false, tb⟩ (fun cls d _ H => E cls d H) false (defBody s_are_gaps) b_are_gaps :=
  have ok := okx_of (P := P) (w := w) (K := K) (mg := mg) (base := base) (outer := outer) (H := H) (E := E) S_are_gaps hr
  (qs_cons (qs_if (qt_of (qw_or (qt_not (qt_val (qe_B c_isInst M.n_isinstance bo_isinstance (qa_cons (qe_var 1) (qa_cons (qe_ty "tuple" M.n_tuple bo_tuple) qa_nil))))) (qw_or1 (qt_not (qt_val (qe_B (c_all rfl) M.n_all bo_all (qa_cons (qe_of (qf_lc (own := [("gap", 2)]) (sl := [2]) (fi := (iSeq (eV 1))) (gt := (gN 2)) (ft := tTrue) (fe := (eCall fn_is_from (aCons (eV 2) (aCons (eC (.int 1)) (aCons (e2 uSub (eV 0) (eC (.int 1))) aNil))))) rfl ok.nd (qi_seq (qe_var 1)) (by rfl) (fun _ _ _ _ _ => (qg_name ok.blk.nd 2)) (fun _ _ _ _ _ => qts_nil) (fun _ _ _ _ _ => (qe_call (cal_is_from M B) ok.blk (by decide) (qa_cons (qe_var 2) (qa_cons qe_int (qa_cons (qe_bin op_uSub (qe_var 0) qe_int) qa_nil))) (al_cons (al_cons (al_cons al_nil))))))) qa_nil))))))) (qs_one (qs_ret [] qe_bl)) qs_nil)
    (qs_one (qs_ret [] (qe_B (c_all rfl) M.n_all bo_all (qa_cons (qe_of (qf_lc (own := [("one", 3), ("other", 4)]) (sl := [3, 4]) (fi := (iZip2 (aCons (eV 1) (aCons (eSl (eV 1) (oSome (eC (.int 1))) oNo) aNil)))) (gt := (gT (gsCons (gN 3) (gsCons (gN 4) gsNil)))) (ft := tTrue) (fe := (e2 uLtI (eV 3) (eV 4))) rfl ok.nd (qi_zip2 M.n_zip (qa_cons (qe_var 1) (qa_cons (qe_sl (qe_var 1) (qo_some qe_int) qo_no) qa_nil))) (by rfl) (fun _ _ _ _ _ => (qg_tup rfl (qgs_cons (qg_name ok.blk.nd 3) (qgs_cons (qg_name ok.blk.nd 4) qgs_nil)) (gl_cons (gl_cons gl_nil)))) (fun _ _ _ _ _ => qts_nil) (fun _ _ _ _ _ => (qe_cmp op_uLtI (qe_var 3) (qe_var 4))))) qa_nil)))))
theorem cal_are_gaps (M : Mod K mg cd_law) (B : Tbs base mg tb cd_law P_law) : Cal tb P w K mg base (L2N.CX P w) "are_gaps" false false 2 fn_are_gaps 2 := mk_are_gaps M B (j := 1) fun f cdv A outer s H E G a hr => q_are_gaps M B hr
theorem S_blocks_of : FnScope N_blocks_of ["lengths", "joined"] (defScope s_blocks_of) := ⟨rfl, rfl, rfl, by decide +kernel, rfl, by decide +kernel, by decide +kernel⟩
theorem mk_blocks_of (M : Mod K mg cd_law) (B : Tbs base mg tb cd_law P_law) {j : Nat} {b : SF} (hb : ∀ (f : Addr) (cdv : Value) (A : Around) (outer : List Env) (s : Shared) (H : Hp) (E : XK) (G : Hp) (a : Addr), Room j (A.deeper (envOfC "blocks_of" (defScope s_blocks_of) s.heap.objs.size f cdv)) →
      QSs (cxOf (L2N.CX P w) P w K mg base N_blocks_of "blocks_of" (defScope s_blocks_of) f cdv A outer s H E) ⟨[], G, H, daF false a, false, tb⟩ (fun cls d _ H => E cls d H) false (defBody s_blocks_of) b) : Cal tb P w K mg base (L2N.CX P w) "blocks_of" false false 2 (fnOf false false 5 2 b) (j + 1) := by
  obtain ⟨f, fd, h, F⟩ := M.f_blocks_of
  exact cal_of F h S_blocks_of (F.binds fun _ _ _ _ _ _ us hl => match us, hl with | [_, _], _ => rfl) (by decide) (hb f)
theorem q_blocks_of (M : Mod K mg cd_law) (B : Tbs base mg tb cd_law P_law) {f : Addr} {cdv : Value} {A : Around} {outer : List Env} {s : Shared} {H : Hp} {E : XK} {G : Hp} {a : Addr} (hr : Room 0 (A.deeper (envOfC "blocks_of" (defScope s_blocks_of) s.heap.objs.size f cdv))) :
    QSs (cxOf (L2N.CX P w) P w K mg base N_blocks_of "blocks_of" (defScope s_blocks_of) f cdv A outer s H E) ⟨[], G, H, daF false a, false, tb⟩ (fun cls d _ H => E cls d H) false (defBody s_blocks_of) b_blocks_of :=
  have ok := okx_of (P := P) (w := w) (K := K) (mg := mg) (base := base) (outer := outer) (H := H) (E := E) S_blocks_of hr
  (qs_cons (qs_set ok.nd 2 (qe_of (qf_lst qa_nil)))
    (qs_cons (qs_for ok.own rfl (qi_enum M.n_enumerate (qa_cons (qe_var 0) qa_nil)) (qg_tup rfl (qgs_cons (qg_name ok.nd 3) (qgs_cons (qg_name ok.nd 4) qgs_nil)) (gl_cons (gl_cons gl_nil))) (qs_one (qs_if (qt_cmp (op_uIn ok.room) (qe_var 3) (qe_var 1)) (qs_one (qs_set ok.nd 2 (qe_bin op_uAdd (qe_sl (qe_var 2) qo_no (qo_some (qe_un un_uNeg qe_int))) (qe_of (qf_lst (qa_cons (qe_bin op_uAdd (qe_ix ok.room (qe_var 2) (qe_un un_uNeg qe_int)) (qe_var 4)) qa_nil)))))) (qs_one (qs_set ok.nd 2 (qe_bin op_uAdd (qe_var 2) (qe_of (qf_lst (qa_cons (qe_var 4) qa_nil)))))))))
    (qs_one (qs_ret [] (qe_var 2)))))
theorem cal_blocks_of (M : Mod K mg cd_law) (B : Tbs base mg tb cd_law P_law) : Cal tb P w K mg base (L2N.CX P w) "blocks_of" false false 2 fn_blocks_of 1 := mk_blocks_of M B (j := 0) fun f cdv A outer s H E G a hr => q_blocks_of M B hr
theorem S_is_piece : FnScope N_is_piece ["value"] (defScope s_is_piece) := ⟨rfl, rfl, rfl, by decide +kernel, rfl, by decide +kernel, by decide +kernel⟩
theorem mk_is_piece (M : Mod K mg cd_law) (B : Tbs base mg tb cd_law P_law) {j : Nat} {b : SF} (hb : ∀ (f : Addr) (cdv : Value) (A : Around) (outer : List Env) (s : Shared) (H : Hp) (E : XK) (G : Hp) (a : Addr), Room j (A.deeper (envOfC "is_piece" (defScope s_is_piece) s.heap.objs.size f cdv)) →
      QSs (cxOf (L2N.CX P w) P w K mg base N_is_piece "is_piece" (defScope s_is_piece) f cdv A outer s H E) ⟨[], G, H, daF false a, false, tb⟩ (fun cls d _ H => E cls d H) false (defBody s_is_piece) b) : Cal tb P w K mg base (L2N.CX P w) "is_piece" false false 1 (fnOf false false 7 1 b) (j + 1) := by
  obtain ⟨f, fd, h, F⟩ := M.f_is_piece
  exact cal_of F h S_is_piece (F.binds fun _ _ _ _ _ _ us hl => match us, hl with | [_], _ => rfl) (by decide) (hb f)
theorem q_is_piece (M : Mod K mg cd_law) (B : Tbs base mg tb cd_law P_law) {f : Addr} {cdv : Value} {A : Around} {outer : List Env} {s : Shared} {H : Hp} {E : XK} {G : Hp} {a : Addr} (hr : Room 2 (A.deeper (envOfC "is_piece" (defScope s_is_piece) s.heap.objs.size f cdv))) :
    QSs (cxOf (L2N.CX P w) P w K mg base N_is_piece "is_piece" (defScope s_is_piece) f cdv A outer s H E) ⟨[], G, H, daF false a, false, tb⟩ (fun cls d _ H => E cls d H) false (defBody s_is_piece) b_is_piece :=
  have ok := okx_of (P := P) (w := w) (K := K) (mg := mg) (base := base) (outer := outer) (H := H) (E := E) S_is_piece hr
  (qs_cons (qs_if (qt_of (qw_or (qt_not (qt_val (qe_B c_isInst M.n_isinstance bo_isinstance (qa_cons (qe_var 0) (qa_cons (qe_ty "tuple" M.n_tuple bo_tuple) qa_nil))))) (qw_or1 (qt_cmp (op_uNe ok.room) (qe_B c_len M.n_len bo_len (qa_cons (qe_var 0) qa_nil)) qe_int)))) (qs_one (qs_ret [] qe_bl)) qs_nil)
    (qs_cons (qs_asg (qe_var 0) (qg_tup rfl (qgs_cons (qg_name ok.nd 1) (qgs_cons (qg_name ok.nd 2) (qgs_cons (qg_name ok.nd 3) (qgs_cons (qg_name ok.nd 4) qgs_nil)))) (gl_cons (gl_cons (gl_cons (gl_cons gl_nil))))))
    (qs_cons (qs_if (qt_of (qw_or (qt_not (qt_val (qe_B c_isInst M.n_isinstance bo_isinstance (qa_cons (qe_var 1) (qa_cons (qe_ty "tuple" M.n_tuple bo_tuple) qa_nil))))) (qw_or1 (qt_not (qt_chain op_uLeI op_uLeI qe_int (qe_B c_len M.n_len bo_len (qa_cons (qe_var 1) qa_nil)) (qe_globI 30 M.i_MOST_NOTES)))))) (qs_one (qs_ret [] qe_bl)) qs_nil)
    (qs_cons (qs_if (qt_of (qw_or (qt_not (qt_val (qe_B (c_all rfl) M.n_all bo_all (qa_cons (qe_of (qf_lc (own := [("length", 5)]) (sl := [5]) (fi := (iSeq (eV 1))) (gt := (gN 5)) (ft := tTrue) (fe := (eCall fn_is_from (aCons (eV 5) (aCons (eC (.int 1)) (aCons (eC (.int 20)) aNil))))) rfl ok.nd (qi_seq (qe_var 1)) (by rfl) (fun _ _ _ _ _ => (qg_name ok.blk.nd 5)) (fun _ _ _ _ _ => qts_nil) (fun _ _ _ _ _ => (qe_call (cal_is_from M B) ok.blk (by decide) (qa_cons (qe_var 5) (qa_cons qe_int (qa_cons (qe_globI 20 M.i_LONGEST) qa_nil))) (al_cons (al_cons (al_cons al_nil))))))) qa_nil)))) (qw_or1 (qt_not (qt_val (qe_call (cal_is_from M B) ok (by decide) (qa_cons (qe_var 2) (qa_cons qe_int (qa_cons (qe_globI 100 M.i_LONGEST_BOW) qa_nil))) (al_cons (al_cons (al_cons al_nil))))))))) (qs_one (qs_ret [] qe_bl)) qs_nil)
    (qs_cons (qs_if (qt_of (qw_or (qt_not (qt_val (qe_call (cal_are_gaps M B) ok (by decide) (qa_cons (qe_B c_len M.n_len bo_len (qa_cons (qe_var 1) qa_nil)) (qa_cons (qe_var 3) qa_nil)) (al_cons (al_cons al_nil))))) (qw_or1 (qt_not (qt_val (qe_call (cal_are_gaps M B) ok (by decide) (qa_cons (qe_B c_len M.n_len bo_len (qa_cons (qe_var 1) qa_nil)) (qa_cons (qe_var 4) qa_nil)) (al_cons (al_cons al_nil)))))))) (qs_one (qs_ret [] qe_bl)) qs_nil)
    (qs_one (qs_ret [] (qe_and (qe_not (qe_B (c_any rfl) M.n_any bo_any (qa_cons (qe_of (qf_lc (own := [("gap", 6)]) (sl := [6]) (fi := (iSeq (eV 3))) (gt := (gN 6)) (ft := tTrue) (fe := (e2 uIn (eV 6) (eV 4))) rfl ok.nd (qi_seq (qe_var 3)) (by rfl) (fun _ _ _ _ _ => (qg_name ok.blk.nd 6)) (fun _ _ _ _ _ => qts_nil) (fun _ _ _ _ _ => (qe_cmp (op_uIn ok.blk.room) (qe_var 6) (qe_var 4))))) qa_nil))) (qe_one (qe_cmp op_uLeI (qe_B (c_max rfl ok.room) M.n_max bo_max (qa_cons (qe_call (cal_blocks_of M B) ok (by decide) (qa_cons (qe_var 1) (qa_cons (qe_var 3) qa_nil)) (al_cons (al_cons al_nil))) qa_nil)) (qe_var 2)))))))))))
theorem cal_is_piece (M : Mod K mg cd_law) (B : Tbs base mg tb cd_law P_law) : Cal tb P w K mg base (L2N.CX P w) "is_piece" false false 1 fn_is_piece 3 := mk_is_piece M B (j := 2) fun f cdv A outer s H E G a hr => q_is_piece M B hr
theorem S_is_direction : FnScope N_is_direction ["value"] (defScope s_is_direction) := ⟨rfl, rfl, rfl, by decide +kernel, rfl, by decide +kernel, by decide +kernel⟩
theorem mk_is_direction (M : Mod K mg cd_law) (B : Tbs base mg tb cd_law P_law) {j : Nat} {b : SF} (hb : ∀ (f : Addr) (cdv : Value) (A : Around) (outer : List Env) (s : Shared) (H : Hp) (E : XK) (G : Hp) (a : Addr), Room j (A.deeper (envOfC "is_direction" (defScope s_is_direction) s.heap.objs.size f cdv)) →
      QSs (cxOf (L2N.CX P w) P w K mg base N_is_direction "is_direction" (defScope s_is_direction) f cdv A outer s H E) ⟨[], G, H, daF false a, false, tb⟩ (fun cls d _ H => E cls d H) false (defBody s_is_direction) b) : Cal tb P w K mg base (L2N.CX P w) "is_direction" false false 1 (fnOf false false 1 1 b) (j + 1) := by
  obtain ⟨f, fd, h, F⟩ := M.f_is_direction
  exact cal_of F h S_is_direction (F.binds fun _ _ _ _ _ _ us hl => match us, hl with | [_], _ => rfl) (by decide) (hb f)
theorem q_is_direction (M : Mod K mg cd_law) (B : Tbs base mg tb cd_law P_law) {f : Addr} {cdv : Value} {A : Around} {outer : List Env} {s : Shared} {H : Hp} {E : XK} {G : Hp} {a : Addr} (hr : Room 0 (A.deeper (envOfC "is_direction" (defScope s_is_direction) s.heap.objs.size f cdv))) :
    QSs (cxOf (L2N.CX P w) P w K mg base N_is_direction "is_direction" (defScope s_is_direction) f cdv A outer s H E) ⟨[], G, H, daF false a, false, tb⟩ (fun cls d _ H => E cls d H) false (defBody s_is_direction) b_is_direction :=
  have ok := okx_of (P := P) (w := w) (K := K) (mg := mg) (base := base) (outer := outer) (H := H) (E := E) S_is_direction hr
  (qs_one (qs_ret [] (qe_and (qe_B c_isInst M.n_isinstance bo_isinstance (qa_cons (qe_var 0) (qa_cons (qe_ty "str" M.n_str bo_str) qa_nil))) (qe_one (qe_cmp (op_uIn ok.room) (qe_var 0) (qe_tup (qa_cons (qe_str [100, 111, 119, 110]) (qa_cons (qe_str [117, 112]) qa_nil))))))))
theorem cal_is_direction (M : Mod K mg cd_law) (B : Tbs base mg tb cd_law P_law) : Cal tb P w K mg base (L2N.CX P w) "is_direction" false false 1 fn_is_direction 1 := mk_is_direction M B (j := 0) fun f cdv A outer s H E G a hr => q_is_direction M B hr
theorem S_good_wishes : FnScope N_good_wishes ["piece", "value"] (defScope s_good_wishes) := ⟨rfl, rfl, rfl, by decide +kernel, rfl, by decide +kernel, by decide +kernel⟩
theorem mk_good_wishes (M : Mod K mg cd_law) (B : Tbs base mg tb cd_law P_law) {j : Nat} {b : SF} (hb : ∀ (f : Addr) (cdv : Value) (A : Around) (outer : List Env) (s : Shared) (H : Hp) (E : XK) (G : Hp) (a : Addr), Room j (A.deeper (envOfC "good_wishes" (defScope s_good_wishes) s.heap.objs.size f cdv)) →
      QSs (cxOf (L2N.CX P w) P w K mg base N_good_wishes "good_wishes" (defScope s_good_wishes) f cdv A outer s H E) ⟨[], G, H, daF false a, false, tb⟩ (fun cls d _ H => E cls d H) false (defBody s_good_wishes) b) : Cal tb P w K mg base (L2N.CX P w) "good_wishes" false false 2 (fnOf false false 5 2 b) (j + 1) := by
  obtain ⟨f, fd, h, F⟩ := M.f_good_wishes
  exact cal_of F h S_good_wishes (F.binds fun _ _ _ _ _ _ us hl => match us, hl with | [_, _], _ => rfl) (by decide) (hb f)
theorem q_good_wishes (M : Mod K mg cd_law) (B : Tbs base mg tb cd_law P_law) {f : Addr} {cdv : Value} {A : Around} {outer : List Env} {s : Shared} {H : Hp} {E : XK} {G : Hp} {a : Addr} (hr : Room 1 (A.deeper (envOfC "good_wishes" (defScope s_good_wishes) s.heap.objs.size f cdv))) :
    QSs (cxOf (L2N.CX P w) P w K mg base N_good_wishes "good_wishes" (defScope s_good_wishes) f cdv A outer s H E) ⟨[], G, H, daF false a, false, tb⟩ (fun cls d _ H => E cls d H) false (defBody s_good_wishes) b_good_wishes :=
  have ok := okx_of (P := P) (w := w) (K := K) (mg := mg) (base := base) (outer := outer) (H := H) (E := E) S_good_wishes hr
  (qs_cons (qs_if (qt_not (qt_val (qe_B c_isInst M.n_isinstance bo_isinstance (qa_cons (qe_var 1) (qa_cons (qe_ty "tuple" M.n_tuple bo_tuple) qa_nil))))) (qs_one (qs_ret [] qe_bl)) qs_nil)
    (qs_cons (qs_for ok.own rfl (qi_seq (qe_var 1)) (qg_name ok.nd 2) (qs_cons (qs_if (qt_of (qw_or (qt_not (qt_val (qe_B c_isInst M.n_isinstance bo_isinstance (qa_cons (qe_var 2) (qa_cons (qe_ty "tuple" M.n_tuple bo_tuple) qa_nil))))) (qw_or1 (qt_cmp (op_uNe ok.room) (qe_B c_len M.n_len bo_len (qa_cons (qe_var 2) qa_nil)) qe_int)))) (qs_one (qs_ret [] qe_bl)) qs_nil)
    (qs_one (qs_if (qt_of (qw_or (qt_not (qt_val (qe_call (cal_is_from M B) ok (by decide) (qa_cons (qe_ix ok.room (qe_var 2) qe_int) (qa_cons qe_int (qa_cons (qe_bin op_uSub (qe_B c_len M.n_len bo_len (qa_cons (qe_ix ok.room (qe_var 0) qe_int) qa_nil)) qe_int) qa_nil))) (al_cons (al_cons (al_cons al_nil)))))) (qw_or1 (qt_not (qt_val (qe_call (cal_is_direction M B) ok (by decide) (qa_cons (qe_ix ok.room (qe_var 2) qe_int) qa_nil) (al_cons al_nil))))))) (qs_one (qs_ret [] qe_bl)) qs_nil))))
    (qs_one (qs_ret [] (qe_B (c_all rfl) M.n_all bo_all (qa_cons (qe_of (qf_lc (own := [("one", 3), ("other", 4)]) (sl := [3, 4]) (fi := (iZip2 (aCons (eV 1) (aCons (eSl (eV 1) (oSome (eC (.int 1))) oNo) aNil)))) (gt := (gT (gsCons (gN 3) (gsCons (gN 4) gsNil)))) (ft := tTrue) (fe := (e2 uLtI (e2 uIx (eV 3) (eC (.int 0))) (e2 uIx (eV 4) (eC (.int 0))))) rfl ok.nd (qi_zip2 M.n_zip (qa_cons (qe_var 1) (qa_cons (qe_sl (qe_var 1) (qo_some qe_int) qo_no) qa_nil))) (by rfl) (fun _ _ _ _ _ => (qg_tup rfl (qgs_cons (qg_name ok.blk.nd 3) (qgs_cons (qg_name ok.blk.nd 4) qgs_nil)) (gl_cons (gl_cons gl_nil)))) (fun _ _ _ _ _ => qts_nil) (fun _ _ _ _ _ => (qe_cmp op_uLtI (qe_ix ok.blk.room (qe_var 3) qe_int) (qe_ix ok.blk.room (qe_var 4) qe_int))))) qa_nil))))))
theorem cal_good_wishes (M : Mod K mg cd_law) (B : Tbs base mg tb cd_law P_law) : Cal tb P w K mg base (L2N.CX P w) "good_wishes" false false 2 fn_good_wishes 2 := mk_good_wishes M B (j := 1) fun f cdv A outer s H E G a hr => q_good_wishes M B hr
theorem S_need_wishes : FnScope N_need_wishes ["piece", "wishes"] (defScope s_need_wishes) := ⟨rfl, rfl, rfl, by decide +kernel, rfl, by decide +kernel, by decide +kernel⟩
theorem mk_need_wishes (M : Mod K mg cd_law) (B : Tbs base mg tb cd_law P_law) {j : Nat} {b : SF} (hb : ∀ (f : Addr) (cdv : Value) (A : Around) (outer : List Env) (s : Shared) (H : Hp) (E : XK) (G : Hp) (a : Addr), Room j (A.deeper (envOfC "need_wishes" (defScope s_need_wishes) s.heap.objs.size f cdv)) →
      QSs (cxOf (L2N.CX P w) P w K mg base N_need_wishes "need_wishes" (defScope s_need_wishes) f cdv A outer s H E) ⟨[], G, H, daF false a, false, tb⟩ (fun cls d _ H => E cls d H) false (defBody s_need_wishes) b) : Cal tb P w K mg base (L2N.CX P w) "need_wishes" false false 2 (fnOf false false 2 2 b) (j + 1) := by
  obtain ⟨f, fd, h, F⟩ := M.f_need_wishes
  exact cal_of F h S_need_wishes (F.binds fun _ _ _ _ _ _ us hl => match us, hl with | [_, _], _ => rfl) (by decide) (hb f)
theorem q_need_wishes (M : Mod K mg cd_law) (B : Tbs base mg tb cd_law P_law) {f : Addr} {cdv : Value} {A : Around} {outer : List Env} {s : Shared} {H : Hp} {E : XK} {G : Hp} {a : Addr} (hr : Room 3 (A.deeper (envOfC "need_wishes" (defScope s_need_wishes) s.heap.objs.size f cdv))) :
    QSs (cxOf (L2N.CX P w) P w K mg base N_need_wishes "need_wishes" (defScope s_need_wishes) f cdv A outer s H E) ⟨[], G, H, daF false a, false, tb⟩ (fun cls d _ H => E cls d H) false (defBody s_need_wishes) b_need_wishes :=
  have ok := okx_of (P := P) (w := w) (K := K) (mg := mg) (base := base) (outer := outer) (H := H) (E := E) S_need_wishes hr
  (qs_cons (qs_if (qt_not (qt_val (qe_call (cal_is_piece M B) ok (by decide) (qa_cons (qe_var 0) qa_nil) (al_cons al_nil)))) (qs_one (qs_raiseM ok M.x_InvalidPiece)) qs_nil)
    (qs_one (qs_if (qt_not (qt_val (qe_call (cal_good_wishes M B) ok (by decide) (qa_cons (qe_var 0) (qa_cons (qe_var 1) qa_nil)) (al_cons (al_cons al_nil))))) (qs_one (qs_raiseM ok M.x_InvalidWishes)) qs_nil)))
theorem cal_need_wishes (M : Mod K mg cd_law) (B : Tbs base mg tb cd_law P_law) : Cal tb P w K mg base (L2N.CX P w) "need_wishes" false false 2 fn_need_wishes 4 := mk_need_wishes M B (j := 3) fun f cdv A outer s H E G a hr => q_need_wishes M B hr
theorem S_first_direction : FnScope N_first_direction ["wishes"] (defScope s_first_direction) := ⟨rfl, rfl, rfl, by decide +kernel, rfl, by decide +kernel, by decide +kernel⟩
theorem mk_first_direction (M : Mod K mg cd_law) (B : Tbs base mg tb cd_law P_law) {j : Nat} {b : SF} (hb : ∀ (f : Addr) (cdv : Value) (A : Around) (outer : List Env) (s : Shared) (H : Hp) (E : XK) (G : Hp) (a : Addr), Room j (A.deeper (envOfC "first_direction" (defScope s_first_direction) s.heap.objs.size f cdv)) →
      QSs (cxOf (L2N.CX P w) P w K mg base N_first_direction "first_direction" (defScope s_first_direction) f cdv A outer s H E) ⟨[], G, H, daF false a, false, tb⟩ (fun cls d _ H => E cls d H) false (defBody s_first_direction) b) : Cal tb P w K mg base (L2N.CX P w) "first_direction" false false 1 (fnOf false false 1 1 b) (j + 1) := by
  obtain ⟨f, fd, h, F⟩ := M.f_first_direction
  exact cal_of F h S_first_direction (F.binds fun _ _ _ _ _ _ us hl => match us, hl with | [_], _ => rfl) (by decide) (hb f)
theorem q_first_direction (M : Mod K mg cd_law) (B : Tbs base mg tb cd_law P_law) {f : Addr} {cdv : Value} {A : Around} {outer : List Env} {s : Shared} {H : Hp} {E : XK} {G : Hp} {a : Addr} (hr : Room 0 (A.deeper (envOfC "first_direction" (defScope s_first_direction) s.heap.objs.size f cdv))) :
    QSs (cxOf (L2N.CX P w) P w K mg base N_first_direction "first_direction" (defScope s_first_direction) f cdv A outer s H E) ⟨[], G, H, daF false a, false, tb⟩ (fun cls d _ H => E cls d H) false (defBody s_first_direction) b_first_direction :=
  have ok := okx_of (P := P) (w := w) (K := K) (mg := mg) (base := base) (outer := outer) (H := H) (E := E) S_first_direction hr
  (qs_one (qs_ret [] (qe_if (qt_cmp (op_uIn ok.room) (qe_tup (qa_cons qe_int (qa_cons (qe_str [117, 112]) qa_nil))) (qe_var 0)) (qe_str [117, 112]) (qe_str [100, 111, 119, 110]))))
theorem cal_first_direction (M : Mod K mg cd_law) (B : Tbs base mg tb cd_law P_law) : Cal tb P w K mg base (L2N.CX P w) "first_direction" false false 1 fn_first_direction 1 := mk_first_direction M B (j := 0) fun f cdv A outer s H E G a hr => q_first_direction M B hr
theorem S_turned : FnScope N_turned ["direction"] (defScope s_turned) := ⟨rfl, rfl, rfl, by decide +kernel, rfl, by decide +kernel, by decide +kernel⟩
theorem mk_turned (M : Mod K mg cd_law) (B : Tbs base mg tb cd_law P_law) {j : Nat} {b : SF} (hb : ∀ (f : Addr) (cdv : Value) (A : Around) (outer : List Env) (s : Shared) (H : Hp) (E : XK) (G : Hp) (a : Addr), Room j (A.deeper (envOfC "turned" (defScope s_turned) s.heap.objs.size f cdv)) →
      QSs (cxOf (L2N.CX P w) P w K mg base N_turned "turned" (defScope s_turned) f cdv A outer s H E) ⟨[], G, H, daF false a, false, tb⟩ (fun cls d _ H => E cls d H) false (defBody s_turned) b) : Cal tb P w K mg base (L2N.CX P w) "turned" false false 1 (fnOf false false 1 1 b) (j + 1) := by
  obtain ⟨f, fd, h, F⟩ := M.f_turned
  exact cal_of F h S_turned (F.binds fun _ _ _ _ _ _ us hl => match us, hl with | [_], _ => rfl) (by decide) (hb f)
theorem q_turned (M : Mod K mg cd_law) (B : Tbs base mg tb cd_law P_law) {f : Addr} {cdv : Value} {A : Around} {outer : List Env} {s : Shared} {H : Hp} {E : XK} {G : Hp} {a : Addr} (hr : Room 0 (A.deeper (envOfC "turned" (defScope s_turned) s.heap.objs.size f cdv))) :
    QSs (cxOf (L2N.CX P w) P w K mg base N_turned "turned" (defScope s_turned) f cdv A outer s H E) ⟨[], G, H, daF false a, false, tb⟩ (fun cls d _ H => E cls d H) false (defBody s_turned) b_turned :=
  have ok := okx_of (P := P) (w := w) (K := K) (mg := mg) (base := base) (outer := outer) (H := H) (E := E) S_turned hr
  (qs_one (qs_ret [] (qe_if (qt_cmp (op_uEq ok.room) (qe_var 0) (qe_str [100, 111, 119, 110])) (qe_str [117, 112]) (qe_str [100, 111, 119, 110]))))
theorem cal_turned (M : Mod K mg cd_law) (B : Tbs base mg tb cd_law P_law) : Cal tb P w K mg base (L2N.CX P w) "turned" false false 1 fn_turned 1 := mk_turned M B (j := 0) fun f cdv A outer s H E G a hr => q_turned M B hr
theorem S_direction_of : FnScope N_direction_of ["wishes", "number"] (defScope s_direction_of) := ⟨rfl, rfl, rfl, by decide +kernel, rfl, by decide +kernel, by decide +kernel⟩
theorem mk_direction_of (M : Mod K mg cd_law) (B : Tbs base mg tb cd_law P_law) {j : Nat} {b : SF} (hb : ∀ (f : Addr) (cdv : Value) (A : Around) (outer : List Env) (s : Shared) (H : Hp) (E : XK) (G : Hp) (a : Addr), Room j (A.deeper (envOfC "direction_of" (defScope s_direction_of) s.heap.objs.size f cdv)) →
      QSs (cxOf (L2N.CX P w) P w K mg base N_direction_of "direction_of" (defScope s_direction_of) f cdv A outer s H E) ⟨[], G, H, daF false a, false, tb⟩ (fun cls d _ H => E cls d H) false (defBody s_direction_of) b) : Cal tb P w K mg base (L2N.CX P w) "direction_of" false false 2 (fnOf false false 3 2 b) (j + 1) := by
  obtain ⟨f, fd, h, F⟩ := M.f_direction_of
  exact cal_of F h S_direction_of (F.binds fun _ _ _ _ _ _ us hl => match us, hl with | [_, _], _ => rfl) (by decide) (hb f)
theorem q_direction_of (M : Mod K mg cd_law) (B : Tbs base mg tb cd_law P_law) {f : Addr} {cdv : Value} {A : Around} {outer : List Env} {s : Shared} {H : Hp} {E : XK} {G : Hp} {a : Addr} (hr : Room 1 (A.deeper (envOfC "direction_of" (defScope s_direction_of) s.heap.objs.size f cdv))) :
    QSs (cxOf (L2N.CX P w) P w K mg base N_direction_of "direction_of" (defScope s_direction_of) f cdv A outer s H E) ⟨[], G, H, daF false a, false, tb⟩ (fun cls d _ H => E cls d H) false (defBody s_direction_of) b_direction_of :=
  have ok := okx_of (P := P) (w := w) (K := K) (mg := mg) (base := base) (outer := outer) (H := H) (E := E) S_direction_of hr
  (qs_cons (qs_set ok.nd 2 (qe_call (cal_first_direction M B) ok (by decide) (qa_cons (qe_var 0) qa_nil) (al_cons al_nil)))
    (qs_one (qs_ret [] (qe_if (qt_cmp (op_uEq ok.room) (qe_bin op_uMod (qe_var 1) qe_int) qe_int) (qe_var 2) (qe_call (cal_turned M B) ok (by decide) (qa_cons (qe_var 2) qa_nil) (al_cons al_nil))))))
theorem cal_direction_of (M : Mod K mg cd_law) (B : Tbs base mg tb cd_law P_law) : Cal tb P w K mg base (L2N.CX P w) "direction_of" false false 2 fn_direction_of 2 := mk_direction_of M B (j := 1) fun f cdv A outer s H E G a hr => q_direction_of M B hr
theorem S_stroke_right : FnScope N_stroke_right ["piece", "wishes", "start", "stop", "direction"] (defScope s_stroke_right) := ⟨rfl, rfl, rfl, by decide +kernel, rfl, by decide +kernel, by decide +kernel⟩
theorem mk_stroke_right (M : Mod K mg cd_law) (B : Tbs base mg tb cd_law P_law) {j : Nat} {b : SF} (hb : ∀ (f : Addr) (cdv : Value) (A : Around) (outer : List Env) (s : Shared) (H : Hp) (E : XK) (G : Hp) (a : Addr), Room j (A.deeper (envOfC "stroke_right" (defScope s_stroke_right) s.heap.objs.size f cdv)) →
      QSs (cxOf (L2N.CX P w) P w K mg base N_stroke_right "stroke_right" (defScope s_stroke_right) f cdv A outer s H E) ⟨[], G, H, daF false a, false, tb⟩ (fun cls d _ H => E cls d H) false (defBody s_stroke_right) b) : Cal tb P w K mg base (L2N.CX P w) "stroke_right" false false 5 (fnOf false false 12 5 b) (j + 1) := by
  obtain ⟨f, fd, h, F⟩ := M.f_stroke_right
  exact cal_of F h S_stroke_right (F.binds fun _ _ _ _ _ _ us hl => match us, hl with | [_, _, _, _, _], _ => rfl) (by decide) (hb f)
theorem q_stroke_right (M : Mod K mg cd_law) (B : Tbs base mg tb cd_law P_law) {f : Addr} {cdv : Value} {A : Around} {outer : List Env} {s : Shared} {H : Hp} {E : XK} {G : Hp} {a : Addr} (hr : Room 0 (A.deeper (envOfC "stroke_right" (defScope s_stroke_right) s.heap.objs.size f cdv))) :
    QSs (cxOf (L2N.CX P w) P w K mg base N_stroke_right "stroke_right" (defScope s_stroke_right) f cdv A outer s H E) ⟨[], G, H, daF false a, false, tb⟩ (fun cls d _ H => E cls d H) false (defBody s_stroke_right) b_stroke_right :=
  have ok := okx_of (P := P) (w := w) (K := K) (mg := mg) (base := base) (outer := outer) (H := H) (E := E) S_stroke_right hr
  (qs_cons (qs_asg (qe_var 0) (qg_tup rfl (qgs_cons (qg_name ok.nd 5) (qgs_cons (qg_name ok.nd 6) (qgs_cons (qg_name ok.nd 7) (qgs_cons (qg_name ok.nd 8) qgs_nil)))) (gl_cons (gl_cons (gl_cons (gl_cons gl_nil))))))
    (qs_cons (qs_if (qt_of (qw_or (qt_cmp op_uGtI (qe_B (c_sum rfl) M.n_sum bo_sum (qa_cons (qe_sl (qe_var 5) (qo_some (qe_var 2)) (qo_some (qe_var 3))) qa_nil)) (qe_var 6)) (qw_or1 (qt_cmp (op_uIn ok.room) (qe_var 3) (qe_var 7))))) (qs_one (qs_ret [] qe_bl)) qs_nil)
    (qs_cons (qs_if (qt_val (qe_B (c_any rfl) M.n_any bo_any (qa_cons (qe_of (qf_lc (own := [("gap", 9)]) (sl := [9]) (fi := (iSeq (eV 8))) (gt := (gN 9)) (ft := tTrue) (fe := (eChain uLtI uLtI (eV 2) (eV 9) (eV 3))) rfl ok.nd (qi_seq (qe_var 8)) (by rfl) (fun _ _ _ _ _ => (qg_name ok.blk.nd 9)) (fun _ _ _ _ _ => qts_nil) (fun _ _ _ _ _ => (qe_chain op_uLtI op_uLtI (qe_var 2) (qe_var 9) (qe_var 3))))) qa_nil))) (qs_one (qs_ret [] qe_bl)) qs_nil)
    (qs_one (qs_ret [] (qe_B (c_all rfl) M.n_all bo_all (qa_cons (qe_of (qf_lc (own := [("note", 10), ("wish", 11)]) (sl := [10, 11]) (fi := (iSeq (eV 1))) (gt := (gT (gsCons (gN 10) (gsCons (gN 11) gsNil)))) (ft := (tB (eChain uLeI uLtI (eV 2) (eV 10) (eV 3)))) (fe := (e2 uEq (eV 11) (eV 4))) rfl ok.nd (qi_seq (qe_var 1)) (by rfl) (fun _ _ _ _ _ => (qg_tup rfl (qgs_cons (qg_name ok.blk.nd 10) (qgs_cons (qg_name ok.blk.nd 11) qgs_nil)) (gl_cons (gl_cons gl_nil)))) (fun _ _ _ _ _ => (qts_one (qt_chain op_uLeI op_uLtI (qe_var 2) (qe_var 10) (qe_var 3)))) (fun _ _ _ _ _ => (qe_cmp (op_uEq ok.blk.room) (qe_var 11) (qe_var 4))))) qa_nil)))))))
theorem cal_stroke_right (M : Mod K mg cd_law) (B : Tbs base mg tb cd_law P_law) : Cal tb P w K mg base (L2N.CX P w) "stroke_right" false false 5 fn_stroke_right 1 := mk_stroke_right M B (j := 0) fun f cdv A outer s H E G a hr => q_stroke_right M B hr
theorem S_rests : FnScope N_rests ["piece", "wishes"] (defScope s_rests) := ⟨rfl, rfl, rfl, by decide +kernel, rfl, by decide +kernel, by decide +kernel⟩
theorem mk_rests (M : Mod K mg cd_law) (B : Tbs base mg tb cd_law P_law) {j : Nat} {b : SF} (hb : ∀ (f : Addr) (cdv : Value) (A : Around) (outer : List Env) (s : Shared) (H : Hp) (E : XK) (G : Hp) (a : Addr), Room j (A.deeper (envOfC "rests" (defScope s_rests) s.heap.objs.size f cdv)) →
      QSs (cxOf (L2N.CX P w) P w K mg base N_rests "rests" (defScope s_rests) f cdv A outer s H E) ⟨[3], G, H, daF false a, false, tb⟩ (fun cls d _ H => E cls d H) false (defBody s_rests) b) : Cal tb P w K mg base (L2N.CX P w) "rests" false false 2 (fnOf false false 8 2 b) (j + 1) := by
  obtain ⟨f, fd, h, F⟩ := M.f_rests
  exact cal_of F h S_rests (F.binds fun _ _ _ _ _ _ us hl => match us, hl with | [_, _], _ => rfl) (by decide) (hb f)
theorem q_rests (M : Mod K mg cd_law) (B : Tbs base mg tb cd_law P_law) {f : Addr} {cdv : Value} {A : Around} {outer : List Env} {s : Shared} {H : Hp} {E : XK} {G : Hp} {a : Addr} (hr : Room 2 (A.deeper (envOfC "rests" (defScope s_rests) s.heap.objs.size f cdv))) :
    QSs (cxOf (L2N.CX P w) P w K mg base N_rests "rests" (defScope s_rests) f cdv A outer s H E) ⟨[3], G, H, daF false a, false, tb⟩ (fun cls d _ H => E cls d H) false (defBody s_rests) b_rests :=
  have ok := okx_of (P := P) (w := w) (K := K) (mg := mg) (base := base) (outer := outer) (H := H) (E := E) S_rests hr
  (qs_cons (qs_set ok.nd 2 (qe_B c_len M.n_len bo_len (qa_cons (qe_ix ok.room (qe_var 0) qe_int) qa_nil)))
    (qs_cons (qs_setF ok.nd 3 (qf_dct [((eTup (aCons (eV 2) (aCons (eC (.bl true)) aNil))), (eC (.int 1))), ((eTup (aCons (eV 2) (aCons (eC (.bl false)) aNil))), (eC (.int 1)))] ok.room (pps_cons (qe_tup (qa_cons (qe_var 2) (qa_cons qe_bl qa_nil))) qe_int (pps_cons (qe_tup (qa_cons (qe_var 2) (qa_cons qe_bl qa_nil))) qe_int pps_nil))))
    (qs_cons (qs_for ok.own rfl (qi_range3 M.n_range (qa_cons (qe_bin op_uSub (qe_var 2) qe_int) (qa_cons (qe_un un_uNeg qe_int) (qa_cons (qe_un un_uNeg qe_int) qa_nil)))) (qg_name ok.nd 4) (qs_one (qs_for ok.own rfl (qi_seq (qe_tup (qa_cons qe_bl (qa_cons qe_bl qa_nil)))) (qg_name ok.nd 5) (qs_cons (qs_set ok.nd 6 qe_int)
    (qs_cons (qs_for ok.own rfl (qi_range2 M.n_range (qa_cons (qe_bin op_uAdd (qe_var 4) qe_int) (qa_cons (qe_bin op_uAdd (qe_var 2) qe_int) qa_nil))) (qg_name ok.nd 7) (qs_one (qs_if (qt_val (qe_call (cal_stroke_right M B) ok (by decide) (qa_cons (qe_var 0) (qa_cons (qe_var 1) (qa_cons (qe_var 4) (qa_cons (qe_var 7) (qa_cons (qe_call (cal_direction_of M B) ok (by decide) (qa_cons (qe_var 1) (qa_cons (qe_Ty c_int M.n_int bo_int (qa_cons (qe_var 5) qa_nil)) qa_nil)) (al_cons (al_cons al_nil))) qa_nil))))) (al_cons (al_cons (al_cons (al_cons (al_cons al_nil))))))) (qs_one (qs_aug ok.nd 6 iop_uAddI (qe_ixM ok.room 3 (qe_tup (qa_cons (qe_var 7) (qa_cons (qe_not (qe_var 5)) qa_nil)))))) qs_nil)))
    (qs_one (qs_dput ok.room 3 (qe_var 6) (qe_tup (qa_cons (qe_var 4) (qa_cons (qe_var 5) qa_nil))))))))))
    (qs_one (qs_ret [] (qe_var 3))))))
theorem cal_rests (M : Mod K mg cd_law) (B : Tbs base mg tb cd_law P_law) : Cal tb P w K mg base (L2N.CX P w) "rests" false false 2 fn_rests 3 := mk_rests M B (j := 2) fun f cdv A outer s H E G a hr => q_rests M B hr
theorem S_total : FnScope N_total ["piece", "wishes"] (defScope s_total) := ⟨rfl, rfl, rfl, by decide +kernel, rfl, by decide +kernel, by decide +kernel⟩
theorem mk_total (M : Mod K mg cd_law) (B : Tbs base mg tb cd_law P_law) {j : Nat} {b : SF} (hb : ∀ (f : Addr) (cdv : Value) (A : Around) (outer : List Env) (s : Shared) (H : Hp) (E : XK) (G : Hp) (a : Addr), Room j (A.deeper (envOfC "total" (defScope s_total) s.heap.objs.size f cdv)) →
      QSs (cxOf (L2N.CX P w) P w K mg base N_total "total" (defScope s_total) f cdv A outer s H E) ⟨[], G, H, daF false a, false, tb⟩ (fun cls d _ H => E cls d H) false (defBody s_total) b) : Cal tb P w K mg base (L2N.CX P w) "total" false false 2 (fnOf false false 2 2 b) (j + 1) := by
  obtain ⟨f, fd, h, F⟩ := M.f_total
  exact cal_of F h S_total (F.binds fun _ _ _ _ _ _ us hl => match us, hl with | [_, _], _ => rfl) (by decide) (hb f)
theorem q_total (M : Mod K mg cd_law) (B : Tbs base mg tb cd_law P_law) {f : Addr} {cdv : Value} {A : Around} {outer : List Env} {s : Shared} {H : Hp} {E : XK} {G : Hp} {a : Addr} (hr : Room 3 (A.deeper (envOfC "total" (defScope s_total) s.heap.objs.size f cdv))) :
    QSs (cxOf (L2N.CX P w) P w K mg base N_total "total" (defScope s_total) f cdv A outer s H E) ⟨[], G, H, daF false a, false, tb⟩ (fun cls d _ H => E cls d H) false (defBody s_total) b_total :=
  have ok := okx_of (P := P) (w := w) (K := K) (mg := mg) (base := base) (outer := outer) (H := H) (E := E) S_total hr
  (qs_one (qs_ret [] (qe_ix ok.room (qe_call (cal_rests M B) ok (by decide) (qa_cons (qe_var 0) (qa_cons (qe_var 1) qa_nil)) (al_cons (al_cons al_nil))) (qe_tup (qa_cons qe_int (qa_cons qe_bl qa_nil))))))
theorem cal_total (M : Mod K mg cd_law) (B : Tbs base mg tb cd_law P_law) : Cal tb P w K mg base (L2N.CX P w) "total" false false 2 fn_total 4 := mk_total M B (j := 3) fun f cdv A outer s H E G a hr => q_total M B hr
theorem S_need_possible : FnScope N_need_possible ["piece", "wishes"] (defScope s_need_possible) := ⟨rfl, rfl, rfl, by decide +kernel, rfl, by decide +kernel, by decide +kernel⟩
theorem mk_need_possible (M : Mod K mg cd_law) (B : Tbs base mg tb cd_law P_law) {j : Nat} {b : SF} (hb : ∀ (f : Addr) (cdv : Value) (A : Around) (outer : List Env) (s : Shared) (H : Hp) (E : XK) (G : Hp) (a : Addr), Room j (A.deeper (envOfC "need_possible" (defScope s_need_possible) s.heap.objs.size f cdv)) →
      QSs (cxOf (L2N.CX P w) P w K mg base N_need_possible "need_possible" (defScope s_need_possible) f cdv A outer s H E) ⟨[], G, H, daF false a, false, tb⟩ (fun cls d _ H => E cls d H) false (defBody s_need_possible) b) : Cal tb P w K mg base (L2N.CX P w) "need_possible" false false 2 (fnOf false false 2 2 b) (j + 1) := by
  obtain ⟨f, fd, h, F⟩ := M.f_need_possible
  exact cal_of F h S_need_possible (F.binds fun _ _ _ _ _ _ us hl => match us, hl with | [_, _], _ => rfl) (by decide) (hb f)
theorem q_need_possible (M : Mod K mg cd_law) (B : Tbs base mg tb cd_law P_law) {f : Addr} {cdv : Value} {A : Around} {outer : List Env} {s : Shared} {H : Hp} {E : XK} {G : Hp} {a : Addr} (hr : Room 4 (A.deeper (envOfC "need_possible" (defScope s_need_possible) s.heap.objs.size f cdv))) :
    QSs (cxOf (L2N.CX P w) P w K mg base N_need_possible "need_possible" (defScope s_need_possible) f cdv A outer s H E) ⟨[], G, H, daF false a, false, tb⟩ (fun cls d _ H => E cls d H) false (defBody s_need_possible) b_need_possible :=
  have ok := okx_of (P := P) (w := w) (K := K) (mg := mg) (base := base) (outer := outer) (H := H) (E := E) S_need_possible hr
  (qs_cons (qs_expr (qe_call (cal_need_wishes M B) ok (by decide) (qa_cons (qe_var 0) (qa_cons (qe_var 1) qa_nil)) (al_cons (al_cons al_nil))))
    (qs_one (qs_if (qt_cmp (op_uEq ok.room) (qe_call (cal_total M B) ok (by decide) (qa_cons (qe_var 0) (qa_cons (qe_var 1) qa_nil)) (al_cons (al_cons al_nil))) qe_int) (qs_one (qs_raiseM ok M.x_NotPossible)) qs_nil)))
theorem cal_need_possible (M : Mod K mg cd_law) (B : Tbs base mg tb cd_law P_law) : Cal tb P w K mg base (L2N.CX P w) "need_possible" false false 2 fn_need_possible 5 := mk_need_possible M B (j := 4) fun f cdv A outer s H E G a hr => q_need_possible M B hr
theorem S_begins : FnScope N_begins ["piece", "wishes"] (defScope s_begins) := ⟨rfl, rfl, rfl, by decide +kernel, rfl, by decide +kernel, by decide +kernel⟩
theorem mk_begins (M : Mod K mg cd_law) (B : Tbs base mg tb cd_law P_law) {j : Nat} {b : SF} (hb : ∀ (f : Addr) (cdv : Value) (A : Around) (outer : List Env) (s : Shared) (H : Hp) (E : XK) (G : Hp) (a : Addr), Room j (A.deeper (envOfC "begins" (defScope s_begins) s.heap.objs.size f cdv)) →
      QSs (cxOf (L2N.CX P w) P w K mg base N_begins "begins" (defScope s_begins) f cdv A outer s H E) ⟨[3], G, H, daF false a, false, tb⟩ (fun cls d _ H => E cls d H) false (defBody s_begins) b) : Cal tb P w K mg base (L2N.CX P w) "begins" false false 2 (fnOf false false 8 2 b) (j + 1) := by
  obtain ⟨f, fd, h, F⟩ := M.f_begins
  exact cal_of F h S_begins (F.binds fun _ _ _ _ _ _ us hl => match us, hl with | [_, _], _ => rfl) (by decide) (hb f)
theorem q_begins (M : Mod K mg cd_law) (B : Tbs base mg tb cd_law P_law) {f : Addr} {cdv : Value} {A : Around} {outer : List Env} {s : Shared} {H : Hp} {E : XK} {G : Hp} {a : Addr} (hr : Room 2 (A.deeper (envOfC "begins" (defScope s_begins) s.heap.objs.size f cdv))) :
    QSs (cxOf (L2N.CX P w) P w K mg base N_begins "begins" (defScope s_begins) f cdv A outer s H E) ⟨[3], G, H, daF false a, false, tb⟩ (fun cls d _ H => E cls d H) false (defBody s_begins) b_begins :=
  have ok := okx_of (P := P) (w := w) (K := K) (mg := mg) (base := base) (outer := outer) (H := H) (E := E) S_begins hr
  (qs_cons (qs_par2 2 3 rfl ok.nd (qk_s (qe_B c_len M.n_len bo_len (qa_cons (qe_ix ok.room (qe_var 0) qe_int) qa_nil)) (qk_f (qf_dct [((eTup (aCons (eC (.int 0)) (aCons (eC (.int 1)) aNil))), (eC (.int 1)))] ok.room (pps_cons (qe_tup (qa_cons qe_int (qa_cons qe_int qa_nil))) qe_int pps_nil)) qk_nil)))
    (qs_cons (qs_for ok.own rfl (qi_range1 M.n_range (qa_cons (qe_var 2) qa_nil)) (qg_name ok.nd 4) (qs_one (qs_for ok.own rfl (qi_range2 M.n_range (qa_cons qe_int (qa_cons (qe_bin op_uAdd (qe_var 4) qe_int) qa_nil))) (qg_name ok.nd 5) (qs_cons (qs_set ok.nd 6 (qe_getM ok.room 3 (qe_tup (qa_cons (qe_var 4) (qa_cons (qe_var 5) qa_nil))) qe_int))
    (qs_one (qs_if (qt_cmp op_uGtI (qe_var 6) qe_int) (qs_one (qs_for ok.own rfl (qi_range2 M.n_range (qa_cons (qe_bin op_uAdd (qe_var 4) qe_int) (qa_cons (qe_bin op_uAdd (qe_var 2) qe_int) qa_nil))) (qg_name ok.nd 7) (qs_one (qs_if (qt_val (qe_call (cal_stroke_right M B) ok (by decide) (qa_cons (qe_var 0) (qa_cons (qe_var 1) (qa_cons (qe_var 4) (qa_cons (qe_var 7) (qa_cons (qe_call (cal_direction_of M B) ok (by decide) (qa_cons (qe_var 1) (qa_cons (qe_var 5) qa_nil)) (al_cons (al_cons al_nil))) qa_nil))))) (al_cons (al_cons (al_cons (al_cons (al_cons al_nil))))))) (qs_one (qs_dput ok.room 3 (qe_bin op_uAdd (qe_getM ok.room 3 (qe_tup (qa_cons (qe_var 7) (qa_cons (qe_bin op_uAdd (qe_var 5) qe_int) qa_nil))) qe_int) (qe_var 6)) (qe_tup (qa_cons (qe_var 7) (qa_cons (qe_bin op_uAdd (qe_var 5) qe_int) qa_nil))))) qs_nil)))) qs_nil))))))
    (qs_one (qs_ret [] (qe_var 3)))))
theorem cal_begins (M : Mod K mg cd_law) (B : Tbs base mg tb cd_law P_law) : Cal tb P w K mg base (L2N.CX P w) "begins" false false 2 fn_begins 3 := mk_begins M B (j := 2) fun f cdv A outer s H E G a hr => q_begins M B hr
theorem S_strokes_through : FnScope N_strokes_through ["piece", "wishes"] (defScope s_strokes_through) := ⟨rfl, rfl, rfl, by decide +kernel, rfl, by decide +kernel, by decide +kernel⟩
theorem mk_strokes_through (M : Mod K mg cd_law) (B : Tbs base mg tb cd_law P_law) {j : Nat} {b : SF} (hb : ∀ (f : Addr) (cdv : Value) (A : Around) (outer : List Env) (s : Shared) (H : Hp) (E : XK) (G : Hp) (a : Addr), Room j (A.deeper (envOfC "strokes_through" (defScope s_strokes_through) s.heap.objs.size f cdv)) →
      QSs (cxOf (L2N.CX P w) P w K mg base N_strokes_through "strokes_through" (defScope s_strokes_through) f cdv A outer s H E) ⟨[4], G, H, daF false a, false, tb⟩ (fun cls d _ H => E cls d H) false (defBody s_strokes_through) b) : Cal tb P w K mg base (L2N.CX P w) "strokes_through" false false 2 (fnOf false false 9 2 b) (j + 1) := by
  obtain ⟨f, fd, h, F⟩ := M.f_strokes_through
  exact cal_of F h S_strokes_through (F.binds fun _ _ _ _ _ _ us hl => match us, hl with | [_, _], _ => rfl) (by decide) (hb f)
theorem q_strokes_through (M : Mod K mg cd_law) (B : Tbs base mg tb cd_law P_law) {f : Addr} {cdv : Value} {A : Around} {outer : List Env} {s : Shared} {H : Hp} {E : XK} {G : Hp} {a : Addr} (hr : Room 3 (A.deeper (envOfC "strokes_through" (defScope s_strokes_through) s.heap.objs.size f cdv))) :
    QSs (cxOf (L2N.CX P w) P w K mg base N_strokes_through "strokes_through" (defScope s_strokes_through) f cdv A outer s H E) ⟨[4], G, H, daF false a, false, tb⟩ (fun cls d _ H => E cls d H) false (defBody s_strokes_through) b_strokes_through :=
  have ok := okx_of (P := P) (w := w) (K := K) (mg := mg) (base := base) (outer := outer) (H := H) (E := E) S_strokes_through hr
  (qs_cons (qs_par3 2 3 4 rfl ok.nd (qk_s (qe_call (cal_begins M B) ok (by decide) (qa_cons (qe_var 0) (qa_cons (qe_var 1) qa_nil)) (al_cons (al_cons al_nil))) (qk_s (qe_call (cal_rests M B) ok (by decide) (qa_cons (qe_var 0) (qa_cons (qe_var 1) qa_nil)) (al_cons (al_cons al_nil))) (qk_f (qf_lst qa_nil) qk_nil))))
    (qs_cons (qs_for ok.own rfl (qi_seq (qe_BN (c_sortedA ok.room) M.n_sorted bo_sorted (qa_cons (qe_var 2) qa_nil))) (qg_tup rfl (qgs_cons (qg_name ok.nd 5) (qgs_cons (qg_name ok.nd 6) qgs_nil)) (gl_cons (gl_cons gl_nil))) (qs_one (qs_if (qt_cmp op_uLtI (qe_var 5) (qe_B c_len M.n_len bo_len (qa_cons (qe_ix ok.room (qe_var 0) qe_int) qa_nil))) (qs_one (qs_for ok.own rfl (qi_range2 M.n_range (qa_cons (qe_bin op_uAdd (qe_var 5) qe_int) (qa_cons (qe_bin op_uAdd (qe_B c_len M.n_len bo_len (qa_cons (qe_ix ok.room (qe_var 0) qe_int) qa_nil)) qe_int) qa_nil))) (qg_name ok.nd 7) (qs_one (qs_if (qt_val (qe_call (cal_stroke_right M B) ok (by decide) (qa_cons (qe_var 0) (qa_cons (qe_var 1) (qa_cons (qe_var 5) (qa_cons (qe_var 7) (qa_cons (qe_call (cal_direction_of M B) ok (by decide) (qa_cons (qe_var 1) (qa_cons (qe_var 6) qa_nil)) (al_cons (al_cons al_nil))) qa_nil))))) (al_cons (al_cons (al_cons (al_cons (al_cons al_nil))))))) (qs_cons (qs_set ok.nd 8 (qe_bin op_uMul (qe_ix ok.room (qe_var 2) (qe_tup (qa_cons (qe_var 5) (qa_cons (qe_var 6) qa_nil)))) (qe_ix ok.room (qe_var 3) (qe_tup (qa_cons (qe_var 7) (qa_cons (qe_cmp (op_uEq ok.room) (qe_bin op_uMod (qe_var 6) qe_int) qe_int) qa_nil))))))
    (qs_one (qs_if (qt_cmp op_uGtI (qe_var 8) qe_int) (qs_one (qs_append 4 (qe_tup (qa_cons (qe_var 5) (qa_cons (qe_var 7) (qa_cons (qe_var 6) (qa_cons (qe_var 8) qa_nil))))))) qs_nil))) qs_nil)))) qs_nil)))
    (qs_one (qs_ret [] (qe_var 4)))))
theorem cal_strokes_through (M : Mod K mg cd_law) (B : Tbs base mg tb cd_law P_law) : Cal tb P w K mg base (L2N.CX P w) "strokes_through" false false 2 fn_strokes_through 4 := mk_strokes_through M B (j := 3) fun f cdv A outer s H E G a hr => q_strokes_through M B hr
theorem S_numbers_by_note : FnScope N_numbers_by_note ["piece", "wishes"] (defScope s_numbers_by_note) := ⟨rfl, rfl, rfl, by decide +kernel, rfl, by decide +kernel, by decide +kernel⟩
theorem mk_numbers_by_note (M : Mod K mg cd_law) (B : Tbs base mg tb cd_law P_law) {j : Nat} {b : SF} (hb : ∀ (f : Addr) (cdv : Value) (A : Around) (outer : List Env) (s : Shared) (H : Hp) (E : XK) (G : Hp) (a : Addr), Room j (A.deeper (envOfC "numbers_by_note" (defScope s_numbers_by_note) s.heap.objs.size f cdv)) →
      QSs (cxOf (L2N.CX P w) P w K mg base N_numbers_by_note "numbers_by_note" (defScope s_numbers_by_note) f cdv A outer s H E) ⟨[], G, H, daF false a, false, tb⟩ (fun cls d _ H => E cls d H) false (defBody s_numbers_by_note) b) : Cal tb P w K mg base (L2N.CX P w) "numbers_by_note" false false 2 (fnOf false false 10 2 b) (j + 1) := by
  obtain ⟨f, fd, h, F⟩ := M.f_numbers_by_note
  exact cal_of F h S_numbers_by_note (F.binds fun _ _ _ _ _ _ us hl => match us, hl with | [_, _], _ => rfl) (by decide) (hb f)
theorem q_numbers_by_note (M : Mod K mg cd_law) (B : Tbs base mg tb cd_law P_law) {f : Addr} {cdv : Value} {A : Around} {outer : List Env} {s : Shared} {H : Hp} {E : XK} {G : Hp} {a : Addr} (hr : Room 4 (A.deeper (envOfC "numbers_by_note" (defScope s_numbers_by_note) s.heap.objs.size f cdv))) :
    QSs (cxOf (L2N.CX P w) P w K mg base N_numbers_by_note "numbers_by_note" (defScope s_numbers_by_note) f cdv A outer s H E) ⟨[], G, H, daF false a, false, tb⟩ (fun cls d _ H => E cls d H) false (defBody s_numbers_by_note) b_numbers_by_note :=
  have ok := okx_of (P := P) (w := w) (K := K) (mg := mg) (base := base) (outer := outer) (H := H) (E := E) S_numbers_by_note hr
  (qss_nbn (f := 2) (v := 8) ok.own rfl ok.nd (qi_seq (qe_ix ok.room (qe_var 0) qe_int)) (by rfl) (fun _ _ _ _ _ => qg_name ok.blk.nd 8) (qi_seq (qe_call (cal_strokes_through M B) ok (by decide) (qa_cons (qe_var 0) (qa_cons (qe_var 1) qa_nil)) (al_cons (al_cons al_nil)))) (qg_tup rfl (qgs_cons (qg_name ok.nd 3) (qgs_cons (qg_name ok.nd 4) (qgs_cons (qg_name ok.nd 5) (qgs_cons (qg_name ok.nd 6) qgs_nil)))) (gl_cons (gl_cons (gl_cons (gl_cons gl_nil))))) (ps_ex fun D0 => nb_inner (W := W0) (f := 2) (a3 := 5) (D := D0) ok.own rfl rfl rfl (by decide) (by decide) (qi_range2 M.n_range (qa_cons (qe_var 3) (qa_cons (qe_var 4) qa_nil))) (qg_name ok.nd 7) (pss_one (nb_body (D := D0) (ts := fun _ _ _ => True) ok.room rfl (pt_cmpR (op_uNotIn ok.room) (pe_var (i := 5) rfl (by first | exact Or.inl rfl | exact Or.inr (Or.inl rfl) | exact Or.inr (Or.inr rfl))) (pe_ix ix_list (pe_var (i := 2) rfl (by first | exact Or.inl rfl | exact Or.inr (Or.inl rfl) | exact Or.inr (Or.inr rfl))) (pe_var (i := 7) rfl (by first | exact Or.inl rfl | exact Or.inr (Or.inl rfl) | exact Or.inr (Or.inr rfl))) (fun _ _ => rfl)) (by first | exact nomark _ | rfl)) (pe_bm PySem.F.plainAttrs_list PySem.F.slot_list_append PySem.F.type_list_append mt_append (pe_ix ix_list (pe_var (i := 2) rfl (by first | exact Or.inl rfl | exact Or.inr (Or.inl rfl) | exact Or.inr (Or.inr rfl))) (pe_var (i := 7) rfl (by first | exact Or.inl rfl | exact Or.inr (Or.inl rfl) | exact Or.inr (Or.inr rfl))) (fun _ _ => rfl)) (pa_cons (pe_var (i := 5) rfl (by first | exact Or.inl rfl | exact Or.inr (Or.inl rfl) | exact Or.inr (Or.inr rfl))) pa_nil)) (by rfl))) (fun _ _ _ h => h) (by intro _; rfl)) (qs_one (qs_ret [] (qe_of (qf_lc (own := [("numbers", 9)]) (sl := [9]) (fi := (iSeq (eV 2))) (gt := (gN 9)) (ft := tTrue) (fe := (eB bSorted (aCons (eV 9) aNil))) rfl ok.nd (qi_seq (qe_var 2)) (by rfl) (fun _ _ _ _ _ => (qg_name ok.blk.nd 9)) (fun _ _ _ _ _ => qts_nil) (fun _ _ _ _ _ => (qe_BN (c_sortedI ok.blk.room) M.n_sorted bo_sorted (qa_cons (qe_var 9) qa_nil))))))))
theorem cal_numbers_by_note (M : Mod K mg cd_law) (B : Tbs base mg tb cd_law P_law) : Cal tb P w K mg base (L2N.CX P w) "numbers_by_note" false false 2 fn_numbers_by_note 5 := mk_numbers_by_note M B (j := 4) fun f cdv A outer s H E G a hr => q_numbers_by_note M B hr
theorem S_stroke_range : FnScope N_stroke_range ["piece", "wishes"] (defScope s_stroke_range) := ⟨rfl, rfl, rfl, by decide +kernel, rfl, by decide +kernel, by decide +kernel⟩
theorem mk_stroke_range (M : Mod K mg cd_law) (B : Tbs base mg tb cd_law P_law) {j : Nat} {b : SF} (hb : ∀ (f : Addr) (cdv : Value) (A : Around) (outer : List Env) (s : Shared) (H : Hp) (E : XK) (G : Hp) (a : Addr), Room j (A.deeper (envOfC "stroke_range" (defScope s_stroke_range) s.heap.objs.size f cdv)) →
      QSs (cxOf (L2N.CX P w) P w K mg base N_stroke_range "stroke_range" (defScope s_stroke_range) f cdv A outer s H E) ⟨[], G, H, daF false a, false, tb⟩ (fun cls d _ H => E cls d H) false (defBody s_stroke_range) b) : Cal tb P w K mg base (L2N.CX P w) "stroke_range" false false 2 (fnOf false false 3 2 b) (j + 1) := by
  obtain ⟨f, fd, h, F⟩ := M.f_stroke_range
  exact cal_of F h S_stroke_range (F.binds fun _ _ _ _ _ _ us hl => match us, hl with | [_, _], _ => rfl) (by decide) (hb f)
theorem q_stroke_range (M : Mod K mg cd_law) (B : Tbs base mg tb cd_law P_law) {f : Addr} {cdv : Value} {A : Around} {outer : List Env} {s : Shared} {H : Hp} {E : XK} {G : Hp} {a : Addr} (hr : Room 5 (A.deeper (envOfC "stroke_range" (defScope s_stroke_range) s.heap.objs.size f cdv))) :
    QSs (cxOf (L2N.CX P w) P w K mg base N_stroke_range "stroke_range" (defScope s_stroke_range) f cdv A outer s H E) ⟨[], G, H, daF false a, false, tb⟩ (fun cls d _ H => E cls d H) false (defBody s_stroke_range) b_stroke_range :=
  have ok := okx_of (P := P) (w := w) (K := K) (mg := mg) (base := base) (outer := outer) (H := H) (E := E) S_stroke_range hr
  (qs_cons (qs_expr (qe_call (cal_need_possible M B) ok (by decide) (qa_cons (qe_var 0) (qa_cons (qe_var 1) qa_nil)) (al_cons (al_cons al_nil))))
    (qs_cons (qs_set ok.nd 2 (qe_ix ok.room (qe_call (cal_numbers_by_note M B) ok (by decide) (qa_cons (qe_var 0) (qa_cons (qe_var 1) qa_nil)) (al_cons (al_cons al_nil))) (qe_un un_uNeg qe_int)))
    (qs_one (qs_ret [] (qe_tup (qa_cons (qe_ix ok.room (qe_var 2) qe_int) (qa_cons (qe_ix ok.room (qe_var 2) (qe_un un_uNeg qe_int)) qa_nil)))))))
theorem cal_stroke_range (M : Mod K mg cd_law) (B : Tbs base mg tb cd_law P_law) : Cal tb P w K mg base (L2N.CX P w) "stroke_range" false false 2 fn_stroke_range 6 := mk_stroke_range M B (j := 5) fun f cdv A outer s H E G a hr => q_stroke_range M B hr
theorem S_count_bowings : FnScope N_count_bowings ["piece", "wishes"] (defScope s_count_bowings) := ⟨rfl, rfl, rfl, by decide +kernel, rfl, by decide +kernel, by decide +kernel⟩
theorem mk_count_bowings (M : Mod K mg cd_law) (B : Tbs base mg tb cd_law P_law) {j : Nat} {b : SF} (hb : ∀ (f : Addr) (cdv : Value) (A : Around) (outer : List Env) (s : Shared) (H : Hp) (E : XK) (G : Hp) (a : Addr), Room j (A.deeper (envOfC "count_bowings" (defScope s_count_bowings) s.heap.objs.size f cdv)) →
      QSs (cxOf (L2N.CX P w) P w K mg base N_count_bowings "count_bowings" (defScope s_count_bowings) f cdv A outer s H E) ⟨[], G, H, daF false a, false, tb⟩ (fun cls d _ H => E cls d H) false (defBody s_count_bowings) b) : Cal tb P w K mg base (L2N.CX P w) "count_bowings" false false 2 (fnOf false false 2 2 b) (j + 1) := by
  obtain ⟨f, fd, h, F⟩ := M.f_count_bowings
  exact cal_of F h S_count_bowings (F.binds fun _ _ _ _ _ _ us hl => match us, hl with | [_, _], _ => rfl) (by decide) (hb f)
theorem q_count_bowings (M : Mod K mg cd_law) (B : Tbs base mg tb cd_law P_law) {f : Addr} {cdv : Value} {A : Around} {outer : List Env} {s : Shared} {H : Hp} {E : XK} {G : Hp} {a : Addr} (hr : Room 4 (A.deeper (envOfC "count_bowings" (defScope s_count_bowings) s.heap.objs.size f cdv))) :
    QSs (cxOf (L2N.CX P w) P w K mg base N_count_bowings "count_bowings" (defScope s_count_bowings) f cdv A outer s H E) ⟨[], G, H, daF false a, false, tb⟩ (fun cls d _ H => E cls d H) false (defBody s_count_bowings) b_count_bowings :=
  have ok := okx_of (P := P) (w := w) (K := K) (mg := mg) (base := base) (outer := outer) (H := H) (E := E) S_count_bowings hr
  (qs_cons (qs_expr (qe_call (cal_need_wishes M B) ok (by decide) (qa_cons (qe_var 0) (qa_cons (qe_var 1) qa_nil)) (al_cons (al_cons al_nil))))
    (qs_one (qs_ret [] (qe_call (cal_total M B) ok (by decide) (qa_cons (qe_var 0) (qa_cons (qe_var 1) qa_nil)) (al_cons (al_cons al_nil))))))
theorem cal_count_bowings (M : Mod K mg cd_law) (B : Tbs base mg tb cd_law P_law) : Cal tb P w K mg base (L2N.CX P w) "count_bowings" false false 2 fn_count_bowings 5 := mk_count_bowings M B (j := 4) fun f cdv A outer s H E G a hr => q_count_bowings M B hr
theorem S_count_with : FnScope N_count_with ["piece", "wishes", "strokes"] (defScope s_count_with) := ⟨rfl, rfl, rfl, by decide +kernel, rfl, by decide +kernel, by decide +kernel⟩
theorem mk_count_with (M : Mod K mg cd_law) (B : Tbs base mg tb cd_law P_law) {j : Nat} {b : SF} (hb : ∀ (f : Addr) (cdv : Value) (A : Around) (outer : List Env) (s : Shared) (H : Hp) (E : XK) (G : Hp) (a : Addr), Room j (A.deeper (envOfC "count_with" (defScope s_count_with) s.heap.objs.size f cdv)) →
      QSs (cxOf (L2N.CX P w) P w K mg base N_count_with "count_with" (defScope s_count_with) f cdv A outer s H E) ⟨[], G, H, daF false a, false, tb⟩ (fun cls d _ H => E cls d H) false (defBody s_count_with) b) : Cal tb P w K mg base (L2N.CX P w) "count_with" false false 3 (fnOf false false 3 3 b) (j + 1) := by
  obtain ⟨f, fd, h, F⟩ := M.f_count_with
  exact cal_of F h S_count_with (F.binds fun _ _ _ _ _ _ us hl => match us, hl with | [_, _, _], _ => rfl) (by decide) (hb f)
theorem q_count_with (M : Mod K mg cd_law) (B : Tbs base mg tb cd_law P_law) {f : Addr} {cdv : Value} {A : Around} {outer : List Env} {s : Shared} {H : Hp} {E : XK} {G : Hp} {a : Addr} (hr : Room 4 (A.deeper (envOfC "count_with" (defScope s_count_with) s.heap.objs.size f cdv))) :
    QSs (cxOf (L2N.CX P w) P w K mg base N_count_with "count_with" (defScope s_count_with) f cdv A outer s H E) ⟨[], G, H, daF false a, false, tb⟩ (fun cls d _ H => E cls d H) false (defBody s_count_with) b_count_with :=
  have ok := okx_of (P := P) (w := w) (K := K) (mg := mg) (base := base) (outer := outer) (H := H) (E := E) S_count_with hr
  (qs_cons (qs_expr (qe_call (cal_need_wishes M B) ok (by decide) (qa_cons (qe_var 0) (qa_cons (qe_var 1) qa_nil)) (al_cons (al_cons al_nil))))
    (qs_cons (qs_if (qt_not (qt_val (qe_call (cal_is_from M B) ok (by decide) (qa_cons (qe_var 2) (qa_cons qe_int (qa_cons (qe_globI 30 M.i_MOST_NOTES) qa_nil))) (al_cons (al_cons (al_cons al_nil)))))) (qs_one (qs_raiseM ok M.x_InvalidNumber)) qs_nil)
    (qs_one (qs_ret [] (qe_get ok.room (qe_call (cal_begins M B) ok (by decide) (qa_cons (qe_var 0) (qa_cons (qe_var 1) qa_nil)) (al_cons (al_cons al_nil))) (qe_tup (qa_cons (qe_B c_len M.n_len bo_len (qa_cons (qe_ix ok.room (qe_var 0) qe_int) qa_nil)) (qa_cons (qe_bin op_uAdd (qe_var 2) qe_int) qa_nil))) qe_int)))))
theorem cal_count_with (M : Mod K mg cd_law) (B : Tbs base mg tb cd_law P_law) : Cal tb P w K mg base (L2N.CX P w) "count_with" false false 3 fn_count_with 5 := mk_count_with M B (j := 4) fun f cdv A outer s H E G a hr => q_count_with M B hr
theorem S_stops_in_order : FnScope N_stops_in_order ["piece", "start"] (defScope s_stops_in_order) := ⟨rfl, rfl, rfl, by decide +kernel, rfl, by decide +kernel, by decide +kernel⟩
theorem mk_stops_in_order (M : Mod K mg cd_law) (B : Tbs base mg tb cd_law P_law) {j : Nat} {b : SF} (hb : ∀ (f : Addr) (cdv : Value) (A : Around) (outer : List Env) (s : Shared) (H : Hp) (E : XK) (G : Hp) (a : Addr), Room j (A.deeper (envOfC "stops_in_order" (defScope s_stops_in_order) s.heap.objs.size f cdv)) →
      QSs (cxOf (L2N.CX P w) P w K mg base N_stops_in_order "stops_in_order" (defScope s_stops_in_order) f cdv A outer s H E) ⟨[], G, H, daF false a, false, tb⟩ (fun cls d _ H => E cls d H) false (defBody s_stops_in_order) b) : Cal tb P w K mg base (L2N.CX P w) "stops_in_order" false false 2 (fnOf false false 3 2 b) (j + 1) := by
  obtain ⟨f, fd, h, F⟩ := M.f_stops_in_order
  exact cal_of F h S_stops_in_order (F.binds fun _ _ _ _ _ _ us hl => match us, hl with | [_, _], _ => rfl) (by decide) (hb f)
theorem q_stops_in_order (M : Mod K mg cd_law) (B : Tbs base mg tb cd_law P_law) {f : Addr} {cdv : Value} {A : Around} {outer : List Env} {s : Shared} {H : Hp} {E : XK} {G : Hp} {a : Addr} (hr : Room 0 (A.deeper (envOfC "stops_in_order" (defScope s_stops_in_order) s.heap.objs.size f cdv))) :
    QSs (cxOf (L2N.CX P w) P w K mg base N_stops_in_order "stops_in_order" (defScope s_stops_in_order) f cdv A outer s H E) ⟨[], G, H, daF false a, false, tb⟩ (fun cls d _ H => E cls d H) false (defBody s_stops_in_order) b_stops_in_order :=
  have ok := okx_of (P := P) (w := w) (K := K) (mg := mg) (base := base) (outer := outer) (H := H) (E := E) S_stops_in_order hr
  (qs_cons (qs_set ok.nd 2 (qe_B c_len M.n_len bo_len (qa_cons (qe_ix ok.room (qe_var 0) qe_int) qa_nil)))
    (qs_one (qs_ret [] (qe_bin op_uAdd (qe_of (qf_lst (qa_cons (qe_var 2) qa_nil))) (qe_of (qf_listRg rfl (qa_cons (qe_bin op_uAdd (qe_var 1) qe_int) (qa_cons (qe_var 2) qa_nil)) M.n_list M.n_range))))))
theorem cal_stops_in_order (M : Mod K mg cd_law) (B : Tbs base mg tb cd_law P_law) : Cal tb P w K mg base (L2N.CX P w) "stops_in_order" false false 2 fn_stops_in_order 1 := mk_stops_in_order M B (j := 0) fun f cdv A outer s H E G a hr => q_stops_in_order M B hr
theorem S_bowing_at : FnScope N_bowing_at ["piece", "wishes", "number"] (defScope s_bowing_at) := ⟨rfl, rfl, rfl, by decide +kernel, rfl, by decide +kernel, by decide +kernel⟩
theorem mk_bowing_at (M : Mod K mg cd_law) (B : Tbs base mg tb cd_law P_law) {j : Nat} {b : SF} (hb : ∀ (f : Addr) (cdv : Value) (A : Around) (outer : List Env) (s : Shared) (H : Hp) (E : XK) (G : Hp) (a : Addr), Room j (A.deeper (envOfC "bowing_at" (defScope s_bowing_at) s.heap.objs.size f cdv)) →
      QSs (cxOf (L2N.CX P w) P w K mg base N_bowing_at "bowing_at" (defScope s_bowing_at) f cdv A outer s H E) ⟨[4], G, H, daF false a, false, tb⟩ (fun cls d _ H => E cls d H) false (defBody s_bowing_at) b) : Cal tb P w K mg base (L2N.CX P w) "bowing_at" false false 3 (fnOf false false 9 3 b) (j + 1) := by
  obtain ⟨f, fd, h, F⟩ := M.f_bowing_at
  exact cal_of F h S_bowing_at (F.binds fun _ _ _ _ _ _ us hl => match us, hl with | [_, _, _], _ => rfl) (by decide) (hb f)
theorem q_bowing_at (M : Mod K mg cd_law) (B : Tbs base mg tb cd_law P_law) {f : Addr} {cdv : Value} {A : Around} {outer : List Env} {s : Shared} {H : Hp} {E : XK} {G : Hp} {a : Addr} (hr : Room 5 (A.deeper (envOfC "bowing_at" (defScope s_bowing_at) s.heap.objs.size f cdv))) :
    QSs (cxOf (L2N.CX P w) P w K mg base N_bowing_at "bowing_at" (defScope s_bowing_at) f cdv A outer s H E) ⟨[4], G, H, daF false a, false, tb⟩ (fun cls d _ H => E cls d H) false (defBody s_bowing_at) b_bowing_at :=
  have ok := okx_of (P := P) (w := w) (K := K) (mg := mg) (base := base) (outer := outer) (H := H) (E := E) S_bowing_at hr
  (qs_cons (qs_expr (qe_call (cal_need_possible M B) ok (by decide) (qa_cons (qe_var 0) (qa_cons (qe_var 1) qa_nil)) (al_cons (al_cons al_nil))))
    (qs_cons (qs_if (qt_not (qt_val (qe_call (cal_is_from M B) ok (by decide) (qa_cons (qe_var 2) (qa_cons qe_int (qa_cons (qe_bin op_uSub (qe_call (cal_total M B) ok (by decide) (qa_cons (qe_var 0) (qa_cons (qe_var 1) qa_nil)) (al_cons (al_cons al_nil))) qe_int) qa_nil))) (al_cons (al_cons (al_cons al_nil)))))) (qs_one (qs_raiseM ok M.x_InvalidNumber)) qs_nil)
    (qs_cons (qs_parN [3, 4, 5, 6] rfl (pgs_cons (pg_name (i := 3) ok.nd rfl (by first | exact .inl rfl | exact .inr rfl) (by first | exact .inl rfl | exact .inr rfl)) (pgs_cons (pg_name (i := 4) ok.nd rfl (by first | exact .inl rfl | exact .inr rfl) (by first | exact .inl rfl | exact .inr rfl)) (pgs_cons (pg_name (i := 5) ok.nd rfl (by first | exact .inl rfl | exact .inr rfl) (by first | exact .inl rfl | exact .inr rfl)) (pgs_cons (pg_name (i := 6) ok.nd rfl (by first | exact .inl rfl | exact .inr rfl) (by first | exact .inl rfl | exact .inr rfl)) pgs_nil)))) (qk_s (qe_call (cal_rests M B) ok (by decide) (qa_cons (qe_var 0) (qa_cons (qe_var 1) qa_nil)) (al_cons (al_cons al_nil))) (qk_f (qf_lst qa_nil) (qk_s qe_int (qk_s qe_int qk_nil)))))
    (qs_cons (qs_while 1000 ok.own (qt_cmp op_uLtI (qe_var 5) (qe_B c_len M.n_len bo_len (qa_cons (qe_ix ok.room (qe_var 0) qe_int) qa_nil))) (qs_cons (qs_for ok.own rfl (qi_seq (qe_call (cal_stops_in_order M B) ok (by decide) (qa_cons (qe_var 0) (qa_cons (qe_var 5) qa_nil)) (al_cons (al_cons al_nil)))) (qg_name ok.nd 7) (qs_cons (qs_set ok.nd 8 (qe_ix ok.room (qe_var 3) (qe_tup (qa_cons (qe_var 7) (qa_cons (qe_cmp (op_uEq ok.room) (qe_bin op_uMod (qe_var 6) qe_int) qe_int) qa_nil)))))
    (qs_one (qs_if (qt_val (qe_call (cal_stroke_right M B) ok (by decide) (qa_cons (qe_var 0) (qa_cons (qe_var 1) (qa_cons (qe_var 5) (qa_cons (qe_var 7) (qa_cons (qe_call (cal_direction_of M B) ok (by decide) (qa_cons (qe_var 1) (qa_cons (qe_var 6) qa_nil)) (al_cons (al_cons al_nil))) qa_nil))))) (al_cons (al_cons (al_cons (al_cons (al_cons al_nil))))))) (qs_cons (qs_if (qt_cmp op_uLtI (qe_var 2) (qe_var 8)) (qs_cons (qs_append 4 (qe_var 7))
    (qs_one qs_break)) qs_nil)
    (qs_one (qs_aug ok.nd 2 iop_uSub (qe_var 8)))) qs_nil))))
    (qs_one (qs_par2 5 6 rfl ok.nd (qk_s (qe_ixM ok.room 4 (qe_un un_uNeg qe_int)) (qk_s (qe_bin op_uAdd (qe_var 6) qe_int) qk_nil))))))
    (qs_one (qs_ret [] (qe_Ty c_tuple M.n_tuple bo_tuple (qa_cons (qe_sl (qe_var 4) qo_no (qo_some (qe_un un_uNeg qe_int))) qa_nil))))))))
theorem cal_bowing_at (M : Mod K mg cd_law) (B : Tbs base mg tb cd_law P_law) : Cal tb P w K mg base (L2N.CX P w) "bowing_at" false false 3 fn_bowing_at 6 := mk_bowing_at M B (j := 5) fun f cdv A outer s H E G a hr => q_bowing_at M B hr
theorem S_ends_of : FnScope N_ends_of ["piece", "breaks"] (defScope s_ends_of) := ⟨rfl, rfl, rfl, by decide +kernel, rfl, by decide +kernel, by decide +kernel⟩
theorem mk_ends_of (M : Mod K mg cd_law) (B : Tbs base mg tb cd_law P_law) {j : Nat} {b : SF} (hb : ∀ (f : Addr) (cdv : Value) (A : Around) (outer : List Env) (s : Shared) (H : Hp) (E : XK) (G : Hp) (a : Addr), Room j (A.deeper (envOfC "ends_of" (defScope s_ends_of) s.heap.objs.size f cdv)) →
      QSs (cxOf (L2N.CX P w) P w K mg base N_ends_of "ends_of" (defScope s_ends_of) f cdv A outer s H E) ⟨[], G, H, daF false a, false, tb⟩ (fun cls d _ H => E cls d H) false (defBody s_ends_of) b) : Cal tb P w K mg base (L2N.CX P w) "ends_of" false false 2 (fnOf false false 3 2 b) (j + 1) := by
  obtain ⟨f, fd, h, F⟩ := M.f_ends_of
  exact cal_of F h S_ends_of (F.binds fun _ _ _ _ _ _ us hl => match us, hl with | [_, _], _ => rfl) (by decide) (hb f)
theorem q_ends_of (M : Mod K mg cd_law) (B : Tbs base mg tb cd_law P_law) {f : Addr} {cdv : Value} {A : Around} {outer : List Env} {s : Shared} {H : Hp} {E : XK} {G : Hp} {a : Addr} (hr : Room 0 (A.deeper (envOfC "ends_of" (defScope s_ends_of) s.heap.objs.size f cdv))) :
    QSs (cxOf (L2N.CX P w) P w K mg base N_ends_of "ends_of" (defScope s_ends_of) f cdv A outer s H E) ⟨[], G, H, daF false a, false, tb⟩ (fun cls d _ H => E cls d H) false (defBody s_ends_of) b_ends_of :=
  have ok := okx_of (P := P) (w := w) (K := K) (mg := mg) (base := base) (outer := outer) (H := H) (E := E) S_ends_of hr
  (qs_cons (qs_set ok.nd 2 (qe_bin op_uAdd (qe_bin op_uAdd (qe_tup (qa_cons qe_int qa_nil)) (qe_var 1)) (qe_tup (qa_cons (qe_B c_len M.n_len bo_len (qa_cons (qe_ix ok.room (qe_var 0) qe_int) qa_nil)) qa_nil))))
    (qs_one (qs_ret [] (qe_of (qf_listZip rfl (qa_cons (qe_var 2) (qa_cons (qe_sl (qe_var 2) (qo_some qe_int) qo_no) qa_nil)) M.n_list M.n_zip)))))
theorem cal_ends_of (M : Mod K mg cd_law) (B : Tbs base mg tb cd_law P_law) : Cal tb P w K mg base (L2N.CX P w) "ends_of" false false 2 fn_ends_of 1 := mk_ends_of M B (j := 0) fun f cdv A outer s H E G a hr => q_ends_of M B hr
theorem S_good_bowing : FnScope N_good_bowing ["piece", "wishes", "value"] (defScope s_good_bowing) := ⟨rfl, rfl, rfl, by decide +kernel, rfl, by decide +kernel, by decide +kernel⟩
theorem mk_good_bowing (M : Mod K mg cd_law) (B : Tbs base mg tb cd_law P_law) {j : Nat} {b : SF} (hb : ∀ (f : Addr) (cdv : Value) (A : Around) (outer : List Env) (s : Shared) (H : Hp) (E : XK) (G : Hp) (a : Addr), Room j (A.deeper (envOfC "good_bowing" (defScope s_good_bowing) s.heap.objs.size f cdv)) →
      QSs (cxOf (L2N.CX P w) P w K mg base N_good_bowing "good_bowing" (defScope s_good_bowing) f cdv A outer s H E) ⟨[], G, H, daF false a, false, tb⟩ (fun cls d _ H => E cls d H) false (defBody s_good_bowing) b) : Cal tb P w K mg base (L2N.CX P w) "good_bowing" false false 3 (fnOf false false 6 3 b) (j + 1) := by
  obtain ⟨f, fd, h, F⟩ := M.f_good_bowing
  exact cal_of F h S_good_bowing (F.binds fun _ _ _ _ _ _ us hl => match us, hl with | [_, _, _], _ => rfl) (by decide) (hb f)
theorem q_good_bowing (M : Mod K mg cd_law) (B : Tbs base mg tb cd_law P_law) {f : Addr} {cdv : Value} {A : Around} {outer : List Env} {s : Shared} {H : Hp} {E : XK} {G : Hp} {a : Addr} (hr : Room 2 (A.deeper (envOfC "good_bowing" (defScope s_good_bowing) s.heap.objs.size f cdv))) :
    QSs (cxOf (L2N.CX P w) P w K mg base N_good_bowing "good_bowing" (defScope s_good_bowing) f cdv A outer s H E) ⟨[], G, H, daF false a, false, tb⟩ (fun cls d _ H => E cls d H) false (defBody s_good_bowing) b_good_bowing :=
  have ok := okx_of (P := P) (w := w) (K := K) (mg := mg) (base := base) (outer := outer) (H := H) (E := E) S_good_bowing hr
  (qs_cons (qs_if (qt_not (qt_val (qe_call (cal_are_gaps M B) ok (by decide) (qa_cons (qe_B c_len M.n_len bo_len (qa_cons (qe_ix ok.room (qe_var 0) qe_int) qa_nil)) (qa_cons (qe_var 2) qa_nil)) (al_cons (al_cons al_nil))))) (qs_one (qs_ret [] qe_bl)) qs_nil)
    (qs_cons (qs_for ok.own rfl (qi_enum M.n_enumerate (qa_cons (qe_call (cal_ends_of M B) ok (by decide) (qa_cons (qe_var 0) (qa_cons (qe_var 2) qa_nil)) (al_cons (al_cons al_nil))) qa_nil)) (qg_tup rfl (qgs_cons (qg_name ok.nd 3) (qgs_cons (qg_tup rfl (qgs_cons (qg_name ok.nd 4) (qgs_cons (qg_name ok.nd 5) qgs_nil)) (gl_cons (gl_cons gl_nil))) qgs_nil)) (gl_cons (gl_cons gl_nil))) (qs_one (qs_if (qt_not (qt_val (qe_call (cal_stroke_right M B) ok (by decide) (qa_cons (qe_var 0) (qa_cons (qe_var 1) (qa_cons (qe_var 4) (qa_cons (qe_var 5) (qa_cons (qe_call (cal_direction_of M B) ok (by decide) (qa_cons (qe_var 1) (qa_cons (qe_bin op_uAdd (qe_var 3) qe_int) qa_nil)) (al_cons (al_cons al_nil))) qa_nil))))) (al_cons (al_cons (al_cons (al_cons (al_cons al_nil)))))))) (qs_one (qs_ret [] qe_bl)) qs_nil)))
    (qs_one (qs_ret [] qe_bl))))
theorem cal_good_bowing (M : Mod K mg cd_law) (B : Tbs base mg tb cd_law P_law) : Cal tb P w K mg base (L2N.CX P w) "good_bowing" false false 3 fn_good_bowing 3 := mk_good_bowing M B (j := 2) fun f cdv A outer s H E G a hr => q_good_bowing M B hr
theorem S_need_bowing : FnScope N_need_bowing ["piece", "wishes", "breaks"] (defScope s_need_bowing) := ⟨rfl, rfl, rfl, by decide +kernel, rfl, by decide +kernel, by decide +kernel⟩
theorem mk_need_bowing (M : Mod K mg cd_law) (B : Tbs base mg tb cd_law P_law) {j : Nat} {b : SF} (hb : ∀ (f : Addr) (cdv : Value) (A : Around) (outer : List Env) (s : Shared) (H : Hp) (E : XK) (G : Hp) (a : Addr), Room j (A.deeper (envOfC "need_bowing" (defScope s_need_bowing) s.heap.objs.size f cdv)) →
      QSs (cxOf (L2N.CX P w) P w K mg base N_need_bowing "need_bowing" (defScope s_need_bowing) f cdv A outer s H E) ⟨[], G, H, daF false a, false, tb⟩ (fun cls d _ H => E cls d H) false (defBody s_need_bowing) b) : Cal tb P w K mg base (L2N.CX P w) "need_bowing" false false 3 (fnOf false false 3 3 b) (j + 1) := by
  obtain ⟨f, fd, h, F⟩ := M.f_need_bowing
  exact cal_of F h S_need_bowing (F.binds fun _ _ _ _ _ _ us hl => match us, hl with | [_, _, _], _ => rfl) (by decide) (hb f)
theorem q_need_bowing (M : Mod K mg cd_law) (B : Tbs base mg tb cd_law P_law) {f : Addr} {cdv : Value} {A : Around} {outer : List Env} {s : Shared} {H : Hp} {E : XK} {G : Hp} {a : Addr} (hr : Room 3 (A.deeper (envOfC "need_bowing" (defScope s_need_bowing) s.heap.objs.size f cdv))) :
    QSs (cxOf (L2N.CX P w) P w K mg base N_need_bowing "need_bowing" (defScope s_need_bowing) f cdv A outer s H E) ⟨[], G, H, daF false a, false, tb⟩ (fun cls d _ H => E cls d H) false (defBody s_need_bowing) b_need_bowing :=
  have ok := okx_of (P := P) (w := w) (K := K) (mg := mg) (base := base) (outer := outer) (H := H) (E := E) S_need_bowing hr
  (qs_one (qs_if (qt_not (qt_val (qe_call (cal_good_bowing M B) ok (by decide) (qa_cons (qe_var 0) (qa_cons (qe_var 1) (qa_cons (qe_var 2) qa_nil))) (al_cons (al_cons (al_cons al_nil)))))) (qs_one (qs_raiseM ok M.x_InvalidBowing)) qs_nil))
theorem cal_need_bowing (M : Mod K mg cd_law) (B : Tbs base mg tb cd_law P_law) : Cal tb P w K mg base (L2N.CX P w) "need_bowing" false false 3 fn_need_bowing 4 := mk_need_bowing M B (j := 3) fun f cdv A outer s H E G a hr => q_need_bowing M B hr
theorem S_number_of : FnScope N_number_of ["piece", "wishes", "bowing"] (defScope s_number_of) := ⟨rfl, rfl, rfl, by decide +kernel, rfl, by decide +kernel, by decide +kernel⟩
theorem mk_number_of (M : Mod K mg cd_law) (B : Tbs base mg tb cd_law P_law) {j : Nat} {b : SF} (hb : ∀ (f : Addr) (cdv : Value) (A : Around) (outer : List Env) (s : Shared) (H : Hp) (E : XK) (G : Hp) (a : Addr), Room j (A.deeper (envOfC "number_of" (defScope s_number_of) s.heap.objs.size f cdv)) →
      QSs (cxOf (L2N.CX P w) P w K mg base N_number_of "number_of" (defScope s_number_of) f cdv A outer s H E) ⟨[], G, H, daF false a, false, tb⟩ (fun cls d _ H => E cls d H) false (defBody s_number_of) b) : Cal tb P w K mg base (L2N.CX P w) "number_of" false false 3 (fnOf false false 9 3 b) (j + 1) := by
  obtain ⟨f, fd, h, F⟩ := M.f_number_of
  exact cal_of F h S_number_of (F.binds fun _ _ _ _ _ _ us hl => match us, hl with | [_, _, _], _ => rfl) (by decide) (hb f)
theorem q_number_of (M : Mod K mg cd_law) (B : Tbs base mg tb cd_law P_law) {f : Addr} {cdv : Value} {A : Around} {outer : List Env} {s : Shared} {H : Hp} {E : XK} {G : Hp} {a : Addr} (hr : Room 4 (A.deeper (envOfC "number_of" (defScope s_number_of) s.heap.objs.size f cdv))) :
    QSs (cxOf (L2N.CX P w) P w K mg base N_number_of "number_of" (defScope s_number_of) f cdv A outer s H E) ⟨[], G, H, daF false a, false, tb⟩ (fun cls d _ H => E cls d H) false (defBody s_number_of) b_number_of :=
  have ok := okx_of (P := P) (w := w) (K := K) (mg := mg) (base := base) (outer := outer) (H := H) (E := E) S_number_of hr
  (qs_cons (qs_expr (qe_call (cal_need_wishes M B) ok (by decide) (qa_cons (qe_var 0) (qa_cons (qe_var 1) qa_nil)) (al_cons (al_cons al_nil))))
    (qs_cons (qs_expr (qe_call (cal_need_bowing M B) ok (by decide) (qa_cons (qe_var 0) (qa_cons (qe_var 1) (qa_cons (qe_var 2) qa_nil))) (al_cons (al_cons (al_cons al_nil)))))
    (qs_cons (qs_par3 3 4 5 rfl ok.nd (qk_s (qe_call (cal_rests M B) ok (by decide) (qa_cons (qe_var 0) (qa_cons (qe_var 1) qa_nil)) (al_cons (al_cons al_nil))) (qk_s qe_int (qk_s qe_int qk_nil))))
    (qs_cons (qs_for ok.own rfl (qi_enum M.n_enumerate (qa_cons (qe_bin op_uAdd (qe_var 2) (qe_tup (qa_cons (qe_B c_len M.n_len bo_len (qa_cons (qe_ix ok.room (qe_var 0) qe_int) qa_nil)) qa_nil))) qa_nil)) (qg_tup rfl (qgs_cons (qg_name ok.nd 6) (qgs_cons (qg_name ok.nd 7) qgs_nil)) (gl_cons (gl_cons gl_nil))) (qs_cons (qs_for ok.own rfl (qi_seq (qe_call (cal_stops_in_order M B) ok (by decide) (qa_cons (qe_var 0) (qa_cons (qe_var 5) qa_nil)) (al_cons (al_cons al_nil)))) (qg_name ok.nd 8) (qs_cons (qs_if (qt_cmp (op_uEq ok.room) (qe_var 8) (qe_var 7)) (qs_one qs_break) qs_nil)
    (qs_one (qs_if (qt_val (qe_call (cal_stroke_right M B) ok (by decide) (qa_cons (qe_var 0) (qa_cons (qe_var 1) (qa_cons (qe_var 5) (qa_cons (qe_var 8) (qa_cons (qe_call (cal_direction_of M B) ok (by decide) (qa_cons (qe_var 1) (qa_cons (qe_bin op_uAdd (qe_var 6) qe_int) qa_nil)) (al_cons (al_cons al_nil))) qa_nil))))) (al_cons (al_cons (al_cons (al_cons (al_cons al_nil))))))) (qs_one (qs_aug ok.nd 4 iop_uAddI (qe_ix ok.room (qe_var 3) (qe_tup (qa_cons (qe_var 8) (qa_cons (qe_cmp (op_uEq ok.room) (qe_bin op_uMod (qe_var 6) qe_int) qe_int) qa_nil)))))) qs_nil))))
    (qs_one (qs_set ok.nd 5 (qe_var 7)))))
    (qs_one (qs_ret [] (qe_var 4)))))))
theorem cal_number_of (M : Mod K mg cd_law) (B : Tbs base mg tb cd_law P_law) : Cal tb P w K mg base (L2N.CX P w) "number_of" false false 3 fn_number_of 5 := mk_number_of M B (j := 4) fun f cdv A outer s H E G a hr => q_number_of M B hr
theorem S__law_deck : FnScope N__law_deck ["cell", "turn"] (defScope s__law_deck) := ⟨rfl, rfl, rfl, by decide +kernel, rfl, by decide +kernel, by decide +kernel⟩
theorem mk__law_deck (M : Mod K mg cd_law) (B : Tbs base mg tb cd_law P_law) {j : Nat} {b : SF} (hb : ∀ (f : Addr) (cdv : Value) (A : Around) (outer : List Env) (s : Shared) (H : Hp) (E : XK) (G : Hp) (a : Addr), Room j (A.deeper (envOfC "_law_deck" (defScope s__law_deck) s.heap.objs.size f cdv)) →
      QSs (cxOf (L2N.CX P w) P w K mg base N__law_deck "_law_deck" (defScope s__law_deck) f cdv A outer s H E) ⟨[], G, H, daF false a, false, tb⟩ (fun cls d _ H => E cls d H) true (defBody s__law_deck) b) : Cal tb P w K mg base (L2N.CX P w) "_law_deck" false true 2 (fnOf false true 2 2 b) (j + 1) := by
  obtain ⟨f, fd, h, F⟩ := M.f__law_deck
  exact cal_of F h S__law_deck (F.binds fun _ _ _ _ _ _ us hl => match us, hl with | [_, _], _ => rfl) (by decide) (hb f)
theorem q__law_deck (M : Mod K mg cd_law) (B : Tbs base mg tb cd_law P_law) {f : Addr} {cdv : Value} {A : Around} {outer : List Env} {s : Shared} {H : Hp} {E : XK} {G : Hp} {a : Addr} (hr : Room 0 (A.deeper (envOfC "_law_deck" (defScope s__law_deck) s.heap.objs.size f cdv))) :
    QSs (cxOf (L2N.CX P w) P w K mg base N__law_deck "_law_deck" (defScope s__law_deck) f cdv A outer s H E) ⟨[], G, H, daF false a, false, tb⟩ (fun cls d _ H => E cls d H) true (defBody s__law_deck) b__law_deck :=
  have ok := okx_of (P := P) (w := w) (K := K) (mg := mg) (base := base) (outer := outer) (H := H) (E := E) S__law_deck hr
  (qs_cons (qs_if (qt_cmp op_uGeI (qe_var 0) (qe_bin op_uPow qe_int qe_int)) (qs_one (qs_retF (qf_lst (qa_cons (qe_bin op_uSub (qe_var 0) (qe_bin op_uPow qe_int qe_int)) (qa_cons (qe_bin op_uMod (qe_var 0) qe_int) (qa_cons (qe_var 1) qa_nil)))))) qs_nil)
    (qs_one (qs_retF (qf_lst (qa_cons qe_int (qa_cons (qe_bin op_uMod (qe_var 0) qe_int) (qa_cons (qe_var 1) qa_nil)))))))
theorem cal__law_deck (M : Mod K mg cd_law) (B : Tbs base mg tb cd_law P_law) : Cal tb P w K mg base (L2N.CX P w) "_law_deck" false true 2 fn__law_deck 1 := mk__law_deck M B (j := 0) fun f cdv A outer s H E G a hr => q__law_deck M B hr
theorem S__law_pick : FnScope N__law_pick ["deck", "limit"] (defScope s__law_pick) := ⟨rfl, rfl, rfl, by decide +kernel, rfl, by decide +kernel, by decide +kernel⟩
theorem mk__law_pick (M : Mod K mg cd_law) (B : Tbs base mg tb cd_law P_law) {j : Nat} {b : SF} (hb : ∀ (f : Addr) (cdv : Value) (A : Around) (outer : List Env) (s : Shared) (H : Hp) (E : XK) (G : Hp) (a : Addr), Room j (A.deeper (envOfC "_law_pick" (defScope s__law_pick) s.heap.objs.size f cdv)) →
      QSs (cxOf (L2N.CX P w) P w K mg base N__law_pick "_law_pick" (defScope s__law_pick) f cdv A outer s H E) ⟨[0], G, H, daF true a, false, tb⟩ (fun cls d _ H => E cls d H) false (defBody s__law_pick) b) : Cal tb P w K mg base (L2N.CX P w) "_law_pick" true false 2 (fnOf true false 4 2 b) (j + 1) := by
  obtain ⟨f, fd, h, F⟩ := M.f__law_pick
  exact cal_of F h S__law_pick (F.binds fun _ _ _ _ _ _ us hl => match us, hl with | [_, _], _ => rfl) (by decide) (hb f)
theorem q__law_pick (M : Mod K mg cd_law) (B : Tbs base mg tb cd_law P_law) {f : Addr} {cdv : Value} {A : Around} {outer : List Env} {s : Shared} {H : Hp} {E : XK} {G : Hp} {a : Addr} (hr : Room 0 (A.deeper (envOfC "_law_pick" (defScope s__law_pick) s.heap.objs.size f cdv))) :
    QSs (cxOf (L2N.CX P w) P w K mg base N__law_pick "_law_pick" (defScope s__law_pick) f cdv A outer s H E) ⟨[0], G, H, daF true a, false, tb⟩ (fun cls d _ H => E cls d H) false (defBody s__law_pick) b__law_pick :=
  have ok := okx_of (P := P) (w := w) (K := K) (mg := mg) (base := base) (outer := outer) (H := H) (E := E) S__law_pick hr
  (qs_cons (qs_if (qt_cmp op_uGtI (qe_ixM ok.room 0 qe_int) qe_int) (qs_cons (qs_set ok.nd 2 (qe_bin op_uMod (qe_ixM ok.room 0 qe_int) (qe_var 1)))
    (qs_cons (qs_put 0 (qe_bin op_uFdiv (qe_ixM ok.room 0 qe_int) (qe_var 1)) qe_int)
    (qs_one (qs_ret [0] (qe_var 2))))) qs_nil)
    (qs_cons (qs_put 0 (qe_bin op_uAdd (qe_ixM ok.room 0 qe_int) qe_int) qe_int)
    (qs_cons (qs_set ok.nd 3 (qe_bin op_uMod (qe_bin op_uPow (qe_bin op_uAdd (qe_ixM ok.room 0 qe_int) (qe_bin op_uMul qe_int (qe_ixM ok.room 0 qe_int))) qe_int) qe_int))
    (qs_cons (qs_set ok.nd 2 (qe_bin op_uFdiv (qe_bin op_uMod (qe_bin op_uPow (qe_bin op_uAdd (qe_var 3) (qe_bin op_uMul qe_int (qe_ixM ok.room 0 qe_int))) qe_int) qe_int) qe_int))
    (qs_cons (qs_if (qt_cmp op_uGtI (qe_var 1) qe_int) (qs_one (qs_ret [0] (qe_bin op_uMod (qe_bin op_uAdd (qe_bin op_uMul (qe_var 2) qe_int) (qe_var 3)) (qe_var 1)))) qs_nil)
    (qs_one (qs_ret [0] (qe_bin op_uMod (qe_var 2) (qe_var 1)))))))))
theorem cal__law_pick (M : Mod K mg cd_law) (B : Tbs base mg tb cd_law P_law) : Cal tb P w K mg base (L2N.CX P w) "_law_pick" true false 2 fn__law_pick 1 := mk__law_pick M B (j := 0) fun f cdv A outer s H E G a hr => q__law_pick M B hr
theorem S__law_name_of : FnScope N__law_name_of ["e"] (defScope s__law_name_of) := ⟨rfl, rfl, rfl, by decide +kernel, rfl, by decide +kernel, by decide +kernel⟩
theorem cal__law_name_of (M : Mod K mg cd_law) (B : Tbs base mg tb cd_law P_law) : CalH tb P w K mg base "_law_name_of" (fun a C => fnOf false false 6 1 (b_nameOf a C)) 1 := by
  obtain ⟨f, fd, h, F⟩ := M.f__law_name_of
  refine calH_of (N := N__law_name_of) (k := 0) (mu := [1]) (b := b_nameOf) F h S__law_name_of (F.binds fun _ _ _ _ _ _ us hl => match us, hl with | [_], _ => rfl) (by decide) fun cdv A outer s H E G a oe C hand => ?_
  exact (qs_cons (qs_setF S__law_name_of.nd 1 (qf_lst (qa_cons (qe_B (c_isX M.xfam hand) M.n_isinstance bo_isinstance (qa_cons (qe_var 0) (qa_cons (qe_fn (M.xfam.fn (C := "InvalidPiece"))) qa_nil))) (qa_cons (qe_B (c_isX M.xfam hand) M.n_isinstance bo_isinstance (qa_cons (qe_var 0) (qa_cons (qe_fn (M.xfam.fn (C := "InvalidWishes"))) qa_nil))) (qa_cons (qe_B (c_isX M.xfam hand) M.n_isinstance bo_isinstance (qa_cons (qe_var 0) (qa_cons (qe_fn (M.xfam.fn (C := "InvalidBowing"))) qa_nil))) qa_nil)))))
    (qs_cons (qs_setF S__law_name_of.nd 1 (qf_borrow rfl (qf_bin op_uAdd (qe_var 1) (qe_of (qf_lst (qa_cons (qe_B (c_isX M.xfam hand) M.n_isinstance bo_isinstance (qa_cons (qe_var 0) (qa_cons (qe_fn (M.xfam.fn (C := "InvalidGaps"))) qa_nil))) (qa_cons (qe_B (c_isX M.xfam hand) M.n_isinstance bo_isinstance (qa_cons (qe_var 0) (qa_cons (qe_fn (M.xfam.fn (C := "InvalidNote"))) qa_nil))) (qa_cons (qe_B (c_isX M.xfam hand) M.n_isinstance bo_isinstance (qa_cons (qe_var 0) (qa_cons (qe_fn (M.xfam.fn (C := "InvalidNumber"))) qa_nil))) qa_nil))))))))
    (qs_cons (qs_setF S__law_name_of.nd 1 (qf_borrow rfl (qf_bin op_uAdd (qe_var 1) (qe_of (qf_lst (qa_cons (qe_B (c_isX M.xfam hand) M.n_isinstance bo_isinstance (qa_cons (qe_var 0) (qa_cons (qe_fn (M.xfam.fn (C := "InvalidLength"))) qa_nil))) (qa_cons (qe_B (c_isX M.xfam hand) M.n_isinstance bo_isinstance (qa_cons (qe_var 0) (qa_cons (qe_fn (M.xfam.fn (C := "InvalidStrokes"))) qa_nil))) (qa_cons (qe_B (c_isX M.xfam hand) M.n_isinstance bo_isinstance (qa_cons (qe_var 0) (qa_cons (qe_fn (M.xfam.fn (C := "NotPossible"))) qa_nil))) qa_nil))))))))
    (qs_cons (qs_append 1 (qe_B (c_isX M.xfam hand) M.n_isinstance bo_isinstance (qa_cons (qe_var 0) (qa_cons (qe_fn (M.xfam.fn (C := "NothingToUndo"))) qa_nil))))
    (qs_cons (qs_set S__law_name_of.nd 2 (qe_of (qf_lst (qa_cons (qe_str [80, 105, 101, 99, 101]) (qa_cons (qe_str [87, 105, 115, 104, 101, 115]) (qa_cons (qe_str [66, 111, 119, 105, 110, 103]) (qa_cons (qe_str [71, 97, 112, 115]) (qa_cons (qe_str [78, 111, 116, 101]) (qa_cons (qe_str [78, 117, 109, 98, 101, 114]) (qa_cons (qe_str [76, 101, 110, 103, 116, 104]) (qa_cons (qe_str [83, 116, 114, 111, 107, 101, 115]) (qa_cons (qe_str [78, 111, 116]) (qa_cons (qe_str [85, 110, 100, 111]) qa_nil)))))))))))))
    (qss_end [] (qs_cons (qs_setLcH (own := [("word", 4), ("good", 5)]) (sl := [4, 5]) (gt := (gT (gsCons (gN 4) (gsCons (gN 5) gsNil)))) (ft := (tB (eV 5))) (fe := (eV 4)) hand.hot hand.pin rfl S__law_name_of.nd M.n_zip (qa_cons (qe_var 2) (qa_cons (qe_var 1) qa_nil)) (by rfl) (fun _ _ _ _ _ kp => qg_tupH hand.hot kp (qgs_cons (qg_name S__law_name_of.nd 4) (qgs_cons (qg_name S__law_name_of.nd 5) qgs_nil)) (gl_cons (gl_cons gl_nil))) (fun _ _ _ _ _ => (qts_one (qt_val (qe_var 5)))) (fun _ _ _ _ _ => (qe_var 4))) (qs_one (qs_ret [] (qe_bin op_uAdd (qe_join [] (qe_var 3)) (qe_if (qt_val (qe_B (c_isX M.xfam hand) M.n_isinstance bo_isinstance (qa_cons (qe_var 0) (qa_cons (qe_ty "ValueError" M.n_ValueError bo_ValueError) qa_nil)))) (qe_str [43]) (qe_str []))))))))))))
theorem S__law_try : FnScope N__law_try ["door"] (defScope s__law_try) := ⟨rfl, rfl, rfl, by decide +kernel, rfl, by decide +kernel, by decide +kernel⟩
theorem S_breaks_of : FnScope N_breaks_of ["numbers"] (defScope s_breaks_of) := ⟨rfl, rfl, rfl, by decide +kernel, rfl, by decide +kernel, by decide +kernel⟩
theorem mk_breaks_of (M : Mod K mg cd_law) (B : Tbs base mg tb cd_law P_law) {j : Nat} {b : SF} (hb : ∀ (f : Addr) (cdv : Value) (A : Around) (outer : List Env) (s : Shared) (H : Hp) (E : XK) (G : Hp) (a : Addr), Room j (A.deeper (envOfC "breaks_of" (defScope s_breaks_of) s.heap.objs.size f cdv)) →
      QSs (cxOf (L2N.CX P w) P w K mg base N_breaks_of "breaks_of" (defScope s_breaks_of) f cdv A outer s H E) ⟨[], G, H, daF false a, false, tb⟩ (fun cls d _ H => E cls d H) false (defBody s_breaks_of) b) : Cal tb P w K mg base (L2N.CX P w) "breaks_of" false false 1 (fnOf false false 2 1 b) (j + 1) := by
  obtain ⟨f, fd, h, F⟩ := M.f_breaks_of
  exact cal_of F h S_breaks_of (F.binds fun _ _ _ _ _ _ us hl => match us, hl with | [_], _ => rfl) (by decide) (hb f)
theorem q_breaks_of (M : Mod K mg cd_law) (B : Tbs base mg tb cd_law P_law) {f : Addr} {cdv : Value} {A : Around} {outer : List Env} {s : Shared} {H : Hp} {E : XK} {G : Hp} {a : Addr} (hr : Room 0 (A.deeper (envOfC "breaks_of" (defScope s_breaks_of) s.heap.objs.size f cdv))) :
    QSs (cxOf (L2N.CX P w) P w K mg base N_breaks_of "breaks_of" (defScope s_breaks_of) f cdv A outer s H E) ⟨[], G, H, daF false a, false, tb⟩ (fun cls d _ H => E cls d H) false (defBody s_breaks_of) b_breaks_of :=
  have ok := okx_of (P := P) (w := w) (K := K) (mg := mg) (base := base) (outer := outer) (H := H) (E := E) S_breaks_of hr
  (qs_one (qs_ret [] (qe_Ty c_tuple M.n_tuple bo_tuple (qa_cons (qe_of (qf_lc (own := [("note", 1)]) (sl := [1]) (fi := (iRange2 (aCons (eC (.int 1)) (aCons (eB bLen (aCons (eV 0) aNil)) aNil)))) (gt := (gN 1)) (ft := (tB (e2 uGtI (e2 uIx (eV 0) (eV 1)) (e2 uIx (eV 0) (e2 uSub (eV 1) (eC (.int 1))))))) (fe := (eV 1)) rfl ok.nd (qi_range2 M.n_range (qa_cons qe_int (qa_cons (qe_B c_len M.n_len bo_len (qa_cons (qe_var 0) qa_nil)) qa_nil))) (by rfl) (fun _ _ _ _ _ => (qg_name ok.blk.nd 1)) (fun _ _ _ _ _ => (qts_one (qt_cmp op_uGtI (qe_ix ok.blk.room (qe_var 0) (qe_var 1)) (qe_ix ok.blk.room (qe_var 0) (qe_bin op_uSub (qe_var 1) qe_int))))) (fun _ _ _ _ _ => (qe_var 1)))) qa_nil))))
theorem cal_breaks_of (M : Mod K mg cd_law) (B : Tbs base mg tb cd_law P_law) : Cal tb P w K mg base (L2N.CX P w) "breaks_of" false false 1 fn_breaks_of 1 := mk_breaks_of M B (j := 0) fun f cdv A outer s H E G a hr => q_breaks_of M B hr
theorem S_least_bowing : FnScope N_least_bowing ["piece", "wishes"] (defScope s_least_bowing) := ⟨rfl, rfl, rfl, by decide +kernel, rfl, by decide +kernel, by decide +kernel⟩
theorem mk_least_bowing (M : Mod K mg cd_law) (B : Tbs base mg tb cd_law P_law) {j : Nat} {b : SF} (hb : ∀ (f : Addr) (cdv : Value) (A : Around) (outer : List Env) (s : Shared) (H : Hp) (E : XK) (G : Hp) (a : Addr), Room j (A.deeper (envOfC "least_bowing" (defScope s_least_bowing) s.heap.objs.size f cdv)) →
      QSs (cxOf (L2N.CX P w) P w K mg base N_least_bowing "least_bowing" (defScope s_least_bowing) f cdv A outer s H E) ⟨[], G, H, daF false a, false, tb⟩ (fun cls d _ H => E cls d H) false (defBody s_least_bowing) b) : Cal tb P w K mg base (L2N.CX P w) "least_bowing" false false 2 (fnOf false false 3 2 b) (j + 1) := by
  obtain ⟨f, fd, h, F⟩ := M.f_least_bowing
  exact cal_of F h S_least_bowing (F.binds fun _ _ _ _ _ _ us hl => match us, hl with | [_, _], _ => rfl) (by decide) (hb f)
theorem q_least_bowing (M : Mod K mg cd_law) (B : Tbs base mg tb cd_law P_law) {f : Addr} {cdv : Value} {A : Around} {outer : List Env} {s : Shared} {H : Hp} {E : XK} {G : Hp} {a : Addr} (hr : Room 5 (A.deeper (envOfC "least_bowing" (defScope s_least_bowing) s.heap.objs.size f cdv))) :
    QSs (cxOf (L2N.CX P w) P w K mg base N_least_bowing "least_bowing" (defScope s_least_bowing) f cdv A outer s H E) ⟨[], G, H, daF false a, false, tb⟩ (fun cls d _ H => E cls d H) false (defBody s_least_bowing) b_least_bowing :=
  have ok := okx_of (P := P) (w := w) (K := K) (mg := mg) (base := base) (outer := outer) (H := H) (E := E) S_least_bowing hr
  (qs_cons (qs_expr (qe_call (cal_need_possible M B) ok (by decide) (qa_cons (qe_var 0) (qa_cons (qe_var 1) qa_nil)) (al_cons (al_cons al_nil))))
    (qs_one (qs_ret [] (qe_call (cal_breaks_of M B) ok (by decide) (qa_cons (qe_of (qf_lc (own := [("numbers", 2)]) (sl := [2]) (fi := (iSeq (eCall fn_numbers_by_note (aCons (eV 0) (aCons (eV 1) aNil))))) (gt := (gN 2)) (ft := tTrue) (fe := (e2 uIx (eV 2) (eC (.int 0)))) rfl ok.nd (qi_seq (qe_call (cal_numbers_by_note M B) ok (by decide) (qa_cons (qe_var 0) (qa_cons (qe_var 1) qa_nil)) (al_cons (al_cons al_nil)))) (by rfl) (fun _ _ _ _ _ => (qg_name ok.blk.nd 2)) (fun _ _ _ _ _ => qts_nil) (fun _ _ _ _ _ => (qe_ix ok.blk.room (qe_var 2) qe_int)))) qa_nil) (al_cons al_nil)))))
theorem cal_least_bowing (M : Mod K mg cd_law) (B : Tbs base mg tb cd_law P_law) : Cal tb P w K mg base (L2N.CX P w) "least_bowing" false false 2 fn_least_bowing 6 := mk_least_bowing M B (j := 5) fun f cdv A outer s H E G a hr => q_least_bowing M B hr
theorem S_greatest_bowing : FnScope N_greatest_bowing ["piece", "wishes"] (defScope s_greatest_bowing) := ⟨rfl, rfl, rfl, by decide +kernel, rfl, by decide +kernel, by decide +kernel⟩
theorem mk_greatest_bowing (M : Mod K mg cd_law) (B : Tbs base mg tb cd_law P_law) {j : Nat} {b : SF} (hb : ∀ (f : Addr) (cdv : Value) (A : Around) (outer : List Env) (s : Shared) (H : Hp) (E : XK) (G : Hp) (a : Addr), Room j (A.deeper (envOfC "greatest_bowing" (defScope s_greatest_bowing) s.heap.objs.size f cdv)) →
      QSs (cxOf (L2N.CX P w) P w K mg base N_greatest_bowing "greatest_bowing" (defScope s_greatest_bowing) f cdv A outer s H E) ⟨[], G, H, daF false a, false, tb⟩ (fun cls d _ H => E cls d H) false (defBody s_greatest_bowing) b) : Cal tb P w K mg base (L2N.CX P w) "greatest_bowing" false false 2 (fnOf false false 3 2 b) (j + 1) := by
  obtain ⟨f, fd, h, F⟩ := M.f_greatest_bowing
  exact cal_of F h S_greatest_bowing (F.binds fun _ _ _ _ _ _ us hl => match us, hl with | [_, _], _ => rfl) (by decide) (hb f)
theorem q_greatest_bowing (M : Mod K mg cd_law) (B : Tbs base mg tb cd_law P_law) {f : Addr} {cdv : Value} {A : Around} {outer : List Env} {s : Shared} {H : Hp} {E : XK} {G : Hp} {a : Addr} (hr : Room 5 (A.deeper (envOfC "greatest_bowing" (defScope s_greatest_bowing) s.heap.objs.size f cdv))) :
    QSs (cxOf (L2N.CX P w) P w K mg base N_greatest_bowing "greatest_bowing" (defScope s_greatest_bowing) f cdv A outer s H E) ⟨[], G, H, daF false a, false, tb⟩ (fun cls d _ H => E cls d H) false (defBody s_greatest_bowing) b_greatest_bowing :=
  have ok := okx_of (P := P) (w := w) (K := K) (mg := mg) (base := base) (outer := outer) (H := H) (E := E) S_greatest_bowing hr
  (qs_cons (qs_expr (qe_call (cal_need_possible M B) ok (by decide) (qa_cons (qe_var 0) (qa_cons (qe_var 1) qa_nil)) (al_cons (al_cons al_nil))))
    (qs_one (qs_ret [] (qe_call (cal_breaks_of M B) ok (by decide) (qa_cons (qe_of (qf_lc (own := [("numbers", 2)]) (sl := [2]) (fi := (iSeq (eCall fn_numbers_by_note (aCons (eV 0) (aCons (eV 1) aNil))))) (gt := (gN 2)) (ft := tTrue) (fe := (e2 uIx (eV 2) (e1 uNeg (eC (.int 1))))) rfl ok.nd (qi_seq (qe_call (cal_numbers_by_note M B) ok (by decide) (qa_cons (qe_var 0) (qa_cons (qe_var 1) qa_nil)) (al_cons (al_cons al_nil)))) (by rfl) (fun _ _ _ _ _ => (qg_name ok.blk.nd 2)) (fun _ _ _ _ _ => qts_nil) (fun _ _ _ _ _ => (qe_ix ok.blk.room (qe_var 2) (qe_un un_uNeg qe_int))))) qa_nil) (al_cons al_nil)))))
theorem cal_greatest_bowing (M : Mod K mg cd_law) (B : Tbs base mg tb cd_law P_law) : Cal tb P w K mg base (L2N.CX P w) "greatest_bowing" false false 2 fn_greatest_bowing 6 := mk_greatest_bowing M B (j := 5) fun f cdv A outer s H E G a hr => q_greatest_bowing M B hr
theorem S_numbers_of : FnScope N_numbers_of ["piece", "breaks"] (defScope s_numbers_of) := ⟨rfl, rfl, rfl, by decide +kernel, rfl, by decide +kernel, by decide +kernel⟩
theorem mk_numbers_of (M : Mod K mg cd_law) (B : Tbs base mg tb cd_law P_law) {j : Nat} {b : SF} (hb : ∀ (f : Addr) (cdv : Value) (A : Around) (outer : List Env) (s : Shared) (H : Hp) (E : XK) (G : Hp) (a : Addr), Room j (A.deeper (envOfC "numbers_of" (defScope s_numbers_of) s.heap.objs.size f cdv)) →
      QSs (cxOf (L2N.CX P w) P w K mg base N_numbers_of "numbers_of" (defScope s_numbers_of) f cdv A outer s H E) ⟨[2], G, H, daF false a, false, tb⟩ (fun cls d _ H => E cls d H) true (defBody s_numbers_of) b) : Cal tb P w K mg base (L2N.CX P w) "numbers_of" false true 2 (fnOf false true 6 2 b) (j + 1) := by
  obtain ⟨f, fd, h, F⟩ := M.f_numbers_of
  exact cal_of F h S_numbers_of (F.binds fun _ _ _ _ _ _ us hl => match us, hl with | [_, _], _ => rfl) (by decide) (hb f)
theorem q_numbers_of (M : Mod K mg cd_law) (B : Tbs base mg tb cd_law P_law) {f : Addr} {cdv : Value} {A : Around} {outer : List Env} {s : Shared} {H : Hp} {E : XK} {G : Hp} {a : Addr} (hr : Room 1 (A.deeper (envOfC "numbers_of" (defScope s_numbers_of) s.heap.objs.size f cdv))) :
    QSs (cxOf (L2N.CX P w) P w K mg base N_numbers_of "numbers_of" (defScope s_numbers_of) f cdv A outer s H E) ⟨[2], G, H, daF false a, false, tb⟩ (fun cls d _ H => E cls d H) true (defBody s_numbers_of) b_numbers_of :=
  have ok := okx_of (P := P) (w := w) (K := K) (mg := mg) (base := base) (outer := outer) (H := H) (E := E) S_numbers_of hr
  (qs_cons (qs_setF ok.nd 2 (qf_lst qa_nil))
    (qs_cons (qs_for ok.own rfl (qi_enum M.n_enumerate (qa_cons (qe_call (cal_ends_of M B) ok (by decide) (qa_cons (qe_var 0) (qa_cons (qe_var 1) qa_nil)) (al_cons (al_cons al_nil))) qa_nil)) (qg_tup rfl (qgs_cons (qg_name ok.nd 3) (qgs_cons (qg_tup rfl (qgs_cons (qg_name ok.nd 4) (qgs_cons (qg_name ok.nd 5) qgs_nil)) (gl_cons (gl_cons gl_nil))) qgs_nil)) (gl_cons (gl_cons gl_nil))) (qs_one (qs_setF ok.nd 2 (qf_borrow rfl (qf_bin op_uAdd (qe_var 2) (qe_of (qf_rep (qf_lst (qa_cons (qe_bin op_uAdd (qe_var 3) qe_int) qa_nil)) (qe_bin op_uSub (qe_var 5) (qe_var 4)))))))))
    (qs_one (qs_retM 2))))
theorem cal_numbers_of (M : Mod K mg cd_law) (B : Tbs base mg tb cd_law P_law) : Cal tb P w K mg base (L2N.CX P w) "numbers_of" false true 2 fn_numbers_of 2 := mk_numbers_of M B (j := 1) fun f cdv A outer s H E G a hr => q_numbers_of M B hr
theorem S_lower : FnScope N_lower ["piece", "wishes", "one", "other"] (defScope s_lower) := ⟨rfl, rfl, rfl, by decide +kernel, rfl, by decide +kernel, by decide +kernel⟩
theorem mk_lower (M : Mod K mg cd_law) (B : Tbs base mg tb cd_law P_law) {j : Nat} {b : SF} (hb : ∀ (f : Addr) (cdv : Value) (A : Around) (outer : List Env) (s : Shared) (H : Hp) (E : XK) (G : Hp) (a : Addr), Room j (A.deeper (envOfC "lower" (defScope s_lower) s.heap.objs.size f cdv)) →
      QSs (cxOf (L2N.CX P w) P w K mg base N_lower "lower" (defScope s_lower) f cdv A outer s H E) ⟨[], G, H, daF false a, false, tb⟩ (fun cls d _ H => E cls d H) false (defBody s_lower) b) : Cal tb P w K mg base (L2N.CX P w) "lower" false false 4 (fnOf false false 6 4 b) (j + 1) := by
  obtain ⟨f, fd, h, F⟩ := M.f_lower
  exact cal_of F h S_lower (F.binds fun _ _ _ _ _ _ us hl => match us, hl with | [_, _, _, _], _ => rfl) (by decide) (hb f)
theorem q_lower (M : Mod K mg cd_law) (B : Tbs base mg tb cd_law P_law) {f : Addr} {cdv : Value} {A : Around} {outer : List Env} {s : Shared} {H : Hp} {E : XK} {G : Hp} {a : Addr} (hr : Room 4 (A.deeper (envOfC "lower" (defScope s_lower) s.heap.objs.size f cdv))) :
    QSs (cxOf (L2N.CX P w) P w K mg base N_lower "lower" (defScope s_lower) f cdv A outer s H E) ⟨[], G, H, daF false a, false, tb⟩ (fun cls d _ H => E cls d H) false (defBody s_lower) b_lower :=
  have ok := okx_of (P := P) (w := w) (K := K) (mg := mg) (base := base) (outer := outer) (H := H) (E := E) S_lower hr
  (qs_cons (qs_expr (qe_call (cal_need_wishes M B) ok (by decide) (qa_cons (qe_var 0) (qa_cons (qe_var 1) qa_nil)) (al_cons (al_cons al_nil))))
    (qs_cons (qs_expr (qe_call (cal_need_bowing M B) ok (by decide) (qa_cons (qe_var 0) (qa_cons (qe_var 1) (qa_cons (qe_var 2) qa_nil))) (al_cons (al_cons (al_cons al_nil)))))
    (qs_cons (qs_expr (qe_call (cal_need_bowing M B) ok (by decide) (qa_cons (qe_var 0) (qa_cons (qe_var 1) (qa_cons (qe_var 3) qa_nil))) (al_cons (al_cons (al_cons al_nil)))))
    (qs_one (qs_ret [] (qe_call (cal_breaks_of M B) ok (by decide) (qa_cons (qe_of (qf_lc (own := [("a", 4), ("b", 5)]) (sl := [4, 5]) (fi := (iZip2 (aCons (eCall fn_numbers_of (aCons (eV 0) (aCons (eV 2) aNil))) (aCons (eCall fn_numbers_of (aCons (eV 0) (aCons (eV 3) aNil))) aNil)))) (gt := (gT (gsCons (gN 4) (gsCons (gN 5) gsNil)))) (ft := tTrue) (fe := (eB bMin2 (aCons (eV 4) (aCons (eV 5) aNil)))) rfl ok.nd (qi_zip2 M.n_zip (qa_cons (qe_call (cal_numbers_of M B) ok (by decide) (qa_cons (qe_var 0) (qa_cons (qe_var 2) qa_nil)) (al_cons (al_cons al_nil))) (qa_cons (qe_call (cal_numbers_of M B) ok (by decide) (qa_cons (qe_var 0) (qa_cons (qe_var 3) qa_nil)) (al_cons (al_cons al_nil))) qa_nil))) (by rfl) (fun _ _ _ _ _ => (qg_tup rfl (qgs_cons (qg_name ok.blk.nd 4) (qgs_cons (qg_name ok.blk.nd 5) qgs_nil)) (gl_cons (gl_cons gl_nil)))) (fun _ _ _ _ _ => qts_nil) (fun _ _ _ _ _ => (qe_B (c_min2 rfl) M.n_min bo_min (qa_cons (qe_var 4) (qa_cons (qe_var 5) qa_nil)))))) qa_nil) (al_cons al_nil)))))))
theorem cal_lower (M : Mod K mg cd_law) (B : Tbs base mg tb cd_law P_law) : Cal tb P w K mg base (L2N.CX P w) "lower" false false 4 fn_lower 5 := mk_lower M B (j := 4) fun f cdv A outer s H E G a hr => q_lower M B hr
theorem S_upper : FnScope N_upper ["piece", "wishes", "one", "other"] (defScope s_upper) := ⟨rfl, rfl, rfl, by decide +kernel, rfl, by decide +kernel, by decide +kernel⟩
theorem mk_upper (M : Mod K mg cd_law) (B : Tbs base mg tb cd_law P_law) {j : Nat} {b : SF} (hb : ∀ (f : Addr) (cdv : Value) (A : Around) (outer : List Env) (s : Shared) (H : Hp) (E : XK) (G : Hp) (a : Addr), Room j (A.deeper (envOfC "upper" (defScope s_upper) s.heap.objs.size f cdv)) →
      QSs (cxOf (L2N.CX P w) P w K mg base N_upper "upper" (defScope s_upper) f cdv A outer s H E) ⟨[], G, H, daF false a, false, tb⟩ (fun cls d _ H => E cls d H) false (defBody s_upper) b) : Cal tb P w K mg base (L2N.CX P w) "upper" false false 4 (fnOf false false 6 4 b) (j + 1) := by
  obtain ⟨f, fd, h, F⟩ := M.f_upper
  exact cal_of F h S_upper (F.binds fun _ _ _ _ _ _ us hl => match us, hl with | [_, _, _, _], _ => rfl) (by decide) (hb f)
theorem q_upper (M : Mod K mg cd_law) (B : Tbs base mg tb cd_law P_law) {f : Addr} {cdv : Value} {A : Around} {outer : List Env} {s : Shared} {H : Hp} {E : XK} {G : Hp} {a : Addr} (hr : Room 4 (A.deeper (envOfC "upper" (defScope s_upper) s.heap.objs.size f cdv))) :
    QSs (cxOf (L2N.CX P w) P w K mg base N_upper "upper" (defScope s_upper) f cdv A outer s H E) ⟨[], G, H, daF false a, false, tb⟩ (fun cls d _ H => E cls d H) false (defBody s_upper) b_upper :=
  have ok := okx_of (P := P) (w := w) (K := K) (mg := mg) (base := base) (outer := outer) (H := H) (E := E) S_upper hr
  (qs_cons (qs_expr (qe_call (cal_need_wishes M B) ok (by decide) (qa_cons (qe_var 0) (qa_cons (qe_var 1) qa_nil)) (al_cons (al_cons al_nil))))
    (qs_cons (qs_expr (qe_call (cal_need_bowing M B) ok (by decide) (qa_cons (qe_var 0) (qa_cons (qe_var 1) (qa_cons (qe_var 2) qa_nil))) (al_cons (al_cons (al_cons al_nil)))))
    (qs_cons (qs_expr (qe_call (cal_need_bowing M B) ok (by decide) (qa_cons (qe_var 0) (qa_cons (qe_var 1) (qa_cons (qe_var 3) qa_nil))) (al_cons (al_cons (al_cons al_nil)))))
    (qs_one (qs_ret [] (qe_call (cal_breaks_of M B) ok (by decide) (qa_cons (qe_of (qf_lc (own := [("a", 4), ("b", 5)]) (sl := [4, 5]) (fi := (iZip2 (aCons (eCall fn_numbers_of (aCons (eV 0) (aCons (eV 2) aNil))) (aCons (eCall fn_numbers_of (aCons (eV 0) (aCons (eV 3) aNil))) aNil)))) (gt := (gT (gsCons (gN 4) (gsCons (gN 5) gsNil)))) (ft := tTrue) (fe := (eB bMax2 (aCons (eV 4) (aCons (eV 5) aNil)))) rfl ok.nd (qi_zip2 M.n_zip (qa_cons (qe_call (cal_numbers_of M B) ok (by decide) (qa_cons (qe_var 0) (qa_cons (qe_var 2) qa_nil)) (al_cons (al_cons al_nil))) (qa_cons (qe_call (cal_numbers_of M B) ok (by decide) (qa_cons (qe_var 0) (qa_cons (qe_var 3) qa_nil)) (al_cons (al_cons al_nil))) qa_nil))) (by rfl) (fun _ _ _ _ _ => (qg_tup rfl (qgs_cons (qg_name ok.blk.nd 4) (qgs_cons (qg_name ok.blk.nd 5) qgs_nil)) (gl_cons (gl_cons gl_nil)))) (fun _ _ _ _ _ => qts_nil) (fun _ _ _ _ _ => (qe_B (c_max2 rfl) M.n_max bo_max (qa_cons (qe_var 4) (qa_cons (qe_var 5) qa_nil)))))) qa_nil) (al_cons al_nil)))))))
theorem cal_upper (M : Mod K mg cd_law) (B : Tbs base mg tb cd_law P_law) : Cal tb P w K mg base (L2N.CX P w) "upper" false false 4 fn_upper 5 := mk_upper M B (j := 4) fun f cdv A outer s H E G a hr => q_upper M B hr
theorem S_need_gaps : FnScope N_need_gaps ["piece", "gaps"] (defScope s_need_gaps) := ⟨rfl, rfl, rfl, by decide +kernel, rfl, by decide +kernel, by decide +kernel⟩
theorem mk_need_gaps (M : Mod K mg cd_law) (B : Tbs base mg tb cd_law P_law) {j : Nat} {b : SF} (hb : ∀ (f : Addr) (cdv : Value) (A : Around) (outer : List Env) (s : Shared) (H : Hp) (E : XK) (G : Hp) (a : Addr), Room j (A.deeper (envOfC "need_gaps" (defScope s_need_gaps) s.heap.objs.size f cdv)) →
      QSs (cxOf (L2N.CX P w) P w K mg base N_need_gaps "need_gaps" (defScope s_need_gaps) f cdv A outer s H E) ⟨[], G, H, daF false a, false, tb⟩ (fun cls d _ H => E cls d H) false (defBody s_need_gaps) b) : Cal tb P w K mg base (L2N.CX P w) "need_gaps" false false 2 (fnOf false false 2 2 b) (j + 1) := by
  obtain ⟨f, fd, h, F⟩ := M.f_need_gaps
  exact cal_of F h S_need_gaps (F.binds fun _ _ _ _ _ _ us hl => match us, hl with | [_, _], _ => rfl) (by decide) (hb f)
theorem q_need_gaps (M : Mod K mg cd_law) (B : Tbs base mg tb cd_law P_law) {f : Addr} {cdv : Value} {A : Around} {outer : List Env} {s : Shared} {H : Hp} {E : XK} {G : Hp} {a : Addr} (hr : Room 2 (A.deeper (envOfC "need_gaps" (defScope s_need_gaps) s.heap.objs.size f cdv))) :
    QSs (cxOf (L2N.CX P w) P w K mg base N_need_gaps "need_gaps" (defScope s_need_gaps) f cdv A outer s H E) ⟨[], G, H, daF false a, false, tb⟩ (fun cls d _ H => E cls d H) false (defBody s_need_gaps) b_need_gaps :=
  have ok := okx_of (P := P) (w := w) (K := K) (mg := mg) (base := base) (outer := outer) (H := H) (E := E) S_need_gaps hr
  (qs_one (qs_if (qt_not (qt_val (qe_call (cal_are_gaps M B) ok (by decide) (qa_cons (qe_B c_len M.n_len bo_len (qa_cons (qe_ix ok.room (qe_var 0) qe_int) qa_nil)) (qa_cons (qe_var 1) qa_nil)) (al_cons (al_cons al_nil))))) (qs_one (qs_raiseM ok M.x_InvalidGaps)) qs_nil))
theorem cal_need_gaps (M : Mod K mg cd_law) (B : Tbs base mg tb cd_law P_law) : Cal tb P w K mg base (L2N.CX P w) "need_gaps" false false 2 fn_need_gaps 3 := mk_need_gaps M B (j := 2) fun f cdv A outer s H E G a hr => q_need_gaps M B hr
theorem S_cheaper : FnScope N_cheaper ["one", "other"] (defScope s_cheaper) := ⟨rfl, rfl, rfl, by decide +kernel, rfl, by decide +kernel, by decide +kernel⟩
theorem mk_cheaper (M : Mod K mg cd_law) (B : Tbs base mg tb cd_law P_law) {j : Nat} {b : SF} (hb : ∀ (f : Addr) (cdv : Value) (A : Around) (outer : List Env) (s : Shared) (H : Hp) (E : XK) (G : Hp) (a : Addr), Room j (A.deeper (envOfC "cheaper" (defScope s_cheaper) s.heap.objs.size f cdv)) →
      QSs (cxOf (L2N.CX P w) P w K mg base N_cheaper "cheaper" (defScope s_cheaper) f cdv A outer s H E) ⟨[], G, H, daF false a, false, tb⟩ (fun cls d _ H => E cls d H) false (defBody s_cheaper) b) : Cal tb P w K mg base (L2N.CX P w) "cheaper" false false 2 (fnOf false false 2 2 b) (j + 1) := by
  obtain ⟨f, fd, h, F⟩ := M.f_cheaper
  exact cal_of F h S_cheaper (F.binds fun _ _ _ _ _ _ us hl => match us, hl with | [_, _], _ => rfl) (by decide) (hb f)
theorem q_cheaper (M : Mod K mg cd_law) (B : Tbs base mg tb cd_law P_law) {f : Addr} {cdv : Value} {A : Around} {outer : List Env} {s : Shared} {H : Hp} {E : XK} {G : Hp} {a : Addr} (hr : Room 0 (A.deeper (envOfC "cheaper" (defScope s_cheaper) s.heap.objs.size f cdv))) :
    QSs (cxOf (L2N.CX P w) P w K mg base N_cheaper "cheaper" (defScope s_cheaper) f cdv A outer s H E) ⟨[], G, H, daF false a, false, tb⟩ (fun cls d _ H => E cls d H) false (defBody s_cheaper) b_cheaper :=
  have ok := okx_of (P := P) (w := w) (K := K) (mg := mg) (base := base) (outer := outer) (H := H) (E := E) S_cheaper hr
  (qs_one (qs_ret [] (qe_if (qt_of (qw_or (qt_cmp op_uIsN (qe_var 0) qe_non) (qw_or1 (qt_cmp (op_uLt ok.room) (qe_var 1) (qe_var 0))))) (qe_var 1) (qe_var 0))))
theorem cal_cheaper (M : Mod K mg cd_law) (B : Tbs base mg tb cd_law P_law) : Cal tb P w K mg base (L2N.CX P w) "cheaper" false false 2 fn_cheaper 1 := mk_cheaper M B (j := 0) fun f cdv A outer s H E G a hr => q_cheaper M B hr
theorem S_best_edit : FnScope N_best_edit ["piece", "wishes", "written"] (defScope s_best_edit) := ⟨rfl, rfl, rfl, by decide +kernel, rfl, by decide +kernel, by decide +kernel⟩
theorem mk_best_edit (M : Mod K mg cd_law) (B : Tbs base mg tb cd_law P_law) {j : Nat} {b : SF} (hb : ∀ (f : Addr) (cdv : Value) (A : Around) (outer : List Env) (s : Shared) (H : Hp) (E : XK) (G : Hp) (a : Addr), Room j (A.deeper (envOfC "best_edit" (defScope s_best_edit) s.heap.objs.size f cdv)) →
      QSs (cxOf (L2N.CX P w) P w K mg base N_best_edit "best_edit" (defScope s_best_edit) f cdv A outer s H E) ⟨[4], G, H, daF false a, false, tb⟩ (fun cls d _ H => E cls d H) false (defBody s_best_edit) b) : Cal tb P w K mg base (L2N.CX P w) "best_edit" false false 3 (fnOf false false 14 3 b) (j + 1) := by
  obtain ⟨f, fd, h, F⟩ := M.f_best_edit
  exact cal_of F h S_best_edit (F.binds fun _ _ _ _ _ _ us hl => match us, hl with | [_, _, _], _ => rfl) (by decide) (hb f)
theorem q_best_edit (M : Mod K mg cd_law) (B : Tbs base mg tb cd_law P_law) {f : Addr} {cdv : Value} {A : Around} {outer : List Env} {s : Shared} {H : Hp} {E : XK} {G : Hp} {a : Addr} (hr : Room 2 (A.deeper (envOfC "best_edit" (defScope s_best_edit) s.heap.objs.size f cdv))) :
    QSs (cxOf (L2N.CX P w) P w K mg base N_best_edit "best_edit" (defScope s_best_edit) f cdv A outer s H E) ⟨[4], G, H, daF false a, false, tb⟩ (fun cls d _ H => E cls d H) false (defBody s_best_edit) b_best_edit :=
  have ok := okx_of (P := P) (w := w) (K := K) (mg := mg) (base := base) (outer := outer) (H := H) (E := E) S_best_edit hr
  (qs_cons (qs_set ok.nd 3 (qe_B c_len M.n_len bo_len (qa_cons (qe_ix ok.room (qe_var 0) qe_int) qa_nil)))
    (qs_cons (qs_setF ok.nd 4 (qf_dct [((eTup (aCons (eC (.int 0)) (aCons (eC (.bl true)) aNil))), (eTup (aCons (eC (.int 0)) (aCons (eTup aNil) aNil))))] ok.room (pps_cons (qe_tup (qa_cons qe_int (qa_cons qe_bl qa_nil))) (qe_tup (qa_cons qe_int (qa_cons (qe_tup qa_nil) qa_nil))) pps_nil)))
    (qs_cons (qs_for ok.own rfl (qi_range1 M.n_range (qa_cons (qe_var 3) qa_nil)) (qg_name ok.nd 5) (qs_one (qs_for ok.own rfl (qi_seq (qe_tup (qa_cons qe_bl (qa_cons qe_bl qa_nil)))) (qg_name ok.nd 6) (qs_one (qs_if (qt_borrow rfl (qt_cmp (op_uIn ok.room) (qe_tup (qa_cons (qe_var 5) (qa_cons (qe_var 6) qa_nil))) (qe_var 4))) (qs_cons (qs_asg (qe_ixM ok.room 4 (qe_tup (qa_cons (qe_var 5) (qa_cons (qe_var 6) qa_nil)))) (qg_tup rfl (qgs_cons (qg_name ok.nd 7) (qgs_cons (qg_name ok.nd 8) qgs_nil)) (gl_cons (gl_cons gl_nil))))
    (qs_one (qs_for ok.own rfl (qi_range2 M.n_range (qa_cons (qe_bin op_uAdd (qe_var 5) qe_int) (qa_cons (qe_bin op_uAdd (qe_var 3) qe_int) qa_nil))) (qg_name ok.nd 9) (qs_one (qs_if (qt_val (qe_call (cal_stroke_right M B) ok (by decide) (qa_cons (qe_var 0) (qa_cons (qe_var 1) (qa_cons (qe_var 5) (qa_cons (qe_var 9) (qa_cons (qe_call (cal_direction_of M B) ok (by decide) (qa_cons (qe_var 1) (qa_cons (qe_Ty c_int M.n_int bo_int (qa_cons (qe_var 6) qa_nil)) qa_nil)) (al_cons (al_cons al_nil))) qa_nil))))) (al_cons (al_cons (al_cons (al_cons (al_cons al_nil))))))) (qs_cons (qs_set ok.nd 10 (qe_B c_len M.n_len bo_len (qa_cons (qe_of (qf_lc (own := [("gap", 13)]) (sl := [13]) (fi := (iSeq (eV 2))) (gt := (gN 13)) (ft := (tB (eChain uLtI uLtI (eV 5) (eV 13) (eV 9)))) (fe := (eV 13)) rfl ok.nd (qi_seq (qe_var 2)) (by rfl) (fun _ _ _ _ _ => (qg_name ok.blk.nd 13)) (fun _ _ _ _ _ => (qts_one (qt_chain op_uLtI op_uLtI (qe_var 5) (qe_var 13) (qe_var 9)))) (fun _ _ _ _ _ => (qe_var 13)))) qa_nil)))
    (qs_cons (qs_aug ok.nd 10 iop_uAddI (qe_Ty c_int M.n_int bo_int (qa_cons (qe_and (qe_cmp op_uLtI (qe_var 9) (qe_var 3)) (qe_one (qe_cmp (op_uNotIn ok.room) (qe_var 9) (qe_var 2)))) qa_nil)))
    (qs_cons (qs_set ok.nd 11 (qe_tup (qa_cons (qe_bin op_uAdd (qe_var 7) (qe_var 10)) (qa_cons (qe_bin op_uAdd (qe_var 8) (qe_tup (qa_cons (qe_var 9) qa_nil))) qa_nil))))
    (qs_one (qs_dput ok.room 4 (qe_call (cal_cheaper M B) ok (by decide) (qa_cons (qe_getM ok.room 4 (qe_tup (qa_cons (qe_var 9) (qa_cons (qe_not (qe_var 6)) qa_nil))) qe_non) (qa_cons (qe_var 11) qa_nil)) (al_cons (al_cons al_nil))) (qe_tup (qa_cons (qe_var 9) (qa_cons (qe_not (qe_var 6)) qa_nil)))))))) qs_nil))))) qs_nil)))))
    (qs_cons (qs_setLc (own := [("odd", 6)]) (sl := [6]) (fi := (iSeq (eTup (aCons (eC (.bl true)) (aCons (eC (.bl false)) aNil))))) (gt := (gN 6)) (ft := (tBorrow (tB (e2 uIn (eTup (aCons (eV 3) (aCons (eV 6) aNil))) (eV 4))))) (fe := (eIxM 4 uIx (eTup (aCons (eV 3) (aCons (eV 6) aNil))))) (st := .Pass ⟨0, 0, 0, 0⟩) rfl ok.nd (qi_seq (qe_tup (qa_cons qe_bl (qa_cons qe_bl qa_nil)))) (by rfl) (fun _ _ _ _ _ => (qg_name ok.blk.nd 6)) (fun _ _ _ _ _ => (qts_one (qt_borrow rfl (qt_cmp (op_uIn ok.blk.room) (qe_tup (qa_cons (qe_var 3) (qa_cons (qe_var 6) qa_nil))) (qe_var 4))))) (fun _ _ _ _ _ => (qe_ixM ok.blk.room 4 (qe_tup (qa_cons (qe_var 3) (qa_cons (qe_var 6) qa_nil))))))
    (qs_one (qs_ret [] (qe_tup (qa_cons (qe_ix ok.room (qe_B (c_minA rfl ok.room) M.n_min bo_min (qa_cons (qe_var 12) qa_nil)) qe_int) (qa_cons (qe_sl (qe_ix ok.room (qe_B (c_minA rfl ok.room) M.n_min bo_min (qa_cons (qe_var 12) qa_nil)) qe_int) qo_no (qo_some (qe_un un_uNeg qe_int))) qa_nil)))))))))
theorem cal_best_edit (M : Mod K mg cd_law) (B : Tbs base mg tb cd_law P_law) : Cal tb P w K mg base (L2N.CX P w) "best_edit" false false 3 fn_best_edit 3 := mk_best_edit M B (j := 2) fun f cdv A outer s H E G a hr => q_best_edit M B hr
theorem S_fewest_changes : FnScope N_fewest_changes ["piece", "wishes", "written"] (defScope s_fewest_changes) := ⟨rfl, rfl, rfl, by decide +kernel, rfl, by decide +kernel, by decide +kernel⟩
theorem mk_fewest_changes (M : Mod K mg cd_law) (B : Tbs base mg tb cd_law P_law) {j : Nat} {b : SF} (hb : ∀ (f : Addr) (cdv : Value) (A : Around) (outer : List Env) (s : Shared) (H : Hp) (E : XK) (G : Hp) (a : Addr), Room j (A.deeper (envOfC "fewest_changes" (defScope s_fewest_changes) s.heap.objs.size f cdv)) →
      QSs (cxOf (L2N.CX P w) P w K mg base N_fewest_changes "fewest_changes" (defScope s_fewest_changes) f cdv A outer s H E) ⟨[], G, H, daF false a, false, tb⟩ (fun cls d _ H => E cls d H) false (defBody s_fewest_changes) b) : Cal tb P w K mg base (L2N.CX P w) "fewest_changes" false false 3 (fnOf false false 3 3 b) (j + 1) := by
  obtain ⟨f, fd, h, F⟩ := M.f_fewest_changes
  exact cal_of F h S_fewest_changes (F.binds fun _ _ _ _ _ _ us hl => match us, hl with | [_, _, _], _ => rfl) (by decide) (hb f)
theorem q_fewest_changes (M : Mod K mg cd_law) (B : Tbs base mg tb cd_law P_law) {f : Addr} {cdv : Value} {A : Around} {outer : List Env} {s : Shared} {H : Hp} {E : XK} {G : Hp} {a : Addr} (hr : Room 5 (A.deeper (envOfC "fewest_changes" (defScope s_fewest_changes) s.heap.objs.size f cdv))) :
    QSs (cxOf (L2N.CX P w) P w K mg base N_fewest_changes "fewest_changes" (defScope s_fewest_changes) f cdv A outer s H E) ⟨[], G, H, daF false a, false, tb⟩ (fun cls d _ H => E cls d H) false (defBody s_fewest_changes) b_fewest_changes :=
  have ok := okx_of (P := P) (w := w) (K := K) (mg := mg) (base := base) (outer := outer) (H := H) (E := E) S_fewest_changes hr
  (qs_cons (qs_expr (qe_call (cal_need_possible M B) ok (by decide) (qa_cons (qe_var 0) (qa_cons (qe_var 1) qa_nil)) (al_cons (al_cons al_nil))))
    (qs_cons (qs_expr (qe_call (cal_need_gaps M B) ok (by decide) (qa_cons (qe_var 0) (qa_cons (qe_var 2) qa_nil)) (al_cons (al_cons al_nil))))
    (qs_one (qs_ret [] (qe_ix ok.room (qe_call (cal_best_edit M B) ok (by decide) (qa_cons (qe_var 0) (qa_cons (qe_var 1) (qa_cons (qe_var 2) qa_nil))) (al_cons (al_cons (al_cons al_nil)))) qe_int)))))
theorem cal_fewest_changes (M : Mod K mg cd_law) (B : Tbs base mg tb cd_law P_law) : Cal tb P w K mg base (L2N.CX P w) "fewest_changes" false false 3 fn_fewest_changes 6 := mk_fewest_changes M B (j := 5) fun f cdv A outer s H E G a hr => q_fewest_changes M B hr
theorem S_nearest_bowing : FnScope N_nearest_bowing ["piece", "wishes", "written"] (defScope s_nearest_bowing) := ⟨rfl, rfl, rfl, by decide +kernel, rfl, by decide +kernel, by decide +kernel⟩
theorem mk_nearest_bowing (M : Mod K mg cd_law) (B : Tbs base mg tb cd_law P_law) {j : Nat} {b : SF} (hb : ∀ (f : Addr) (cdv : Value) (A : Around) (outer : List Env) (s : Shared) (H : Hp) (E : XK) (G : Hp) (a : Addr), Room j (A.deeper (envOfC "nearest_bowing" (defScope s_nearest_bowing) s.heap.objs.size f cdv)) →
      QSs (cxOf (L2N.CX P w) P w K mg base N_nearest_bowing "nearest_bowing" (defScope s_nearest_bowing) f cdv A outer s H E) ⟨[], G, H, daF false a, false, tb⟩ (fun cls d _ H => E cls d H) false (defBody s_nearest_bowing) b) : Cal tb P w K mg base (L2N.CX P w) "nearest_bowing" false false 3 (fnOf false false 3 3 b) (j + 1) := by
  obtain ⟨f, fd, h, F⟩ := M.f_nearest_bowing
  exact cal_of F h S_nearest_bowing (F.binds fun _ _ _ _ _ _ us hl => match us, hl with | [_, _, _], _ => rfl) (by decide) (hb f)
theorem q_nearest_bowing (M : Mod K mg cd_law) (B : Tbs base mg tb cd_law P_law) {f : Addr} {cdv : Value} {A : Around} {outer : List Env} {s : Shared} {H : Hp} {E : XK} {G : Hp} {a : Addr} (hr : Room 5 (A.deeper (envOfC "nearest_bowing" (defScope s_nearest_bowing) s.heap.objs.size f cdv))) :
    QSs (cxOf (L2N.CX P w) P w K mg base N_nearest_bowing "nearest_bowing" (defScope s_nearest_bowing) f cdv A outer s H E) ⟨[], G, H, daF false a, false, tb⟩ (fun cls d _ H => E cls d H) false (defBody s_nearest_bowing) b_nearest_bowing :=
  have ok := okx_of (P := P) (w := w) (K := K) (mg := mg) (base := base) (outer := outer) (H := H) (E := E) S_nearest_bowing hr
  (qs_cons (qs_expr (qe_call (cal_need_possible M B) ok (by decide) (qa_cons (qe_var 0) (qa_cons (qe_var 1) qa_nil)) (al_cons (al_cons al_nil))))
    (qs_cons (qs_expr (qe_call (cal_need_gaps M B) ok (by decide) (qa_cons (qe_var 0) (qa_cons (qe_var 2) qa_nil)) (al_cons (al_cons al_nil))))
    (qs_one (qs_ret [] (qe_ix ok.room (qe_call (cal_best_edit M B) ok (by decide) (qa_cons (qe_var 0) (qa_cons (qe_var 1) (qa_cons (qe_var 2) qa_nil))) (al_cons (al_cons (al_cons al_nil)))) qe_int)))))
theorem cal_nearest_bowing (M : Mod K mg cd_law) (B : Tbs base mg tb cd_law P_law) : Cal tb P w K mg base (L2N.CX P w) "nearest_bowing" false false 3 fn_nearest_bowing 6 := mk_nearest_bowing M B (j := 5) fun f cdv A outer s H E G a hr => q_nearest_bowing M B hr
theorem S_need_note : FnScope N_need_note ["piece", "note"] (defScope s_need_note) := ⟨rfl, rfl, rfl, by decide +kernel, rfl, by decide +kernel, by decide +kernel⟩
theorem mk_need_note (M : Mod K mg cd_law) (B : Tbs base mg tb cd_law P_law) {j : Nat} {b : SF} (hb : ∀ (f : Addr) (cdv : Value) (A : Around) (outer : List Env) (s : Shared) (H : Hp) (E : XK) (G : Hp) (a : Addr), Room j (A.deeper (envOfC "need_note" (defScope s_need_note) s.heap.objs.size f cdv)) →
      QSs (cxOf (L2N.CX P w) P w K mg base N_need_note "need_note" (defScope s_need_note) f cdv A outer s H E) ⟨[], G, H, daF false a, false, tb⟩ (fun cls d _ H => E cls d H) false (defBody s_need_note) b) : Cal tb P w K mg base (L2N.CX P w) "need_note" false false 2 (fnOf false false 2 2 b) (j + 1) := by
  obtain ⟨f, fd, h, F⟩ := M.f_need_note
  exact cal_of F h S_need_note (F.binds fun _ _ _ _ _ _ us hl => match us, hl with | [_, _], _ => rfl) (by decide) (hb f)
theorem q_need_note (M : Mod K mg cd_law) (B : Tbs base mg tb cd_law P_law) {f : Addr} {cdv : Value} {A : Around} {outer : List Env} {s : Shared} {H : Hp} {E : XK} {G : Hp} {a : Addr} (hr : Room 1 (A.deeper (envOfC "need_note" (defScope s_need_note) s.heap.objs.size f cdv))) :
    QSs (cxOf (L2N.CX P w) P w K mg base N_need_note "need_note" (defScope s_need_note) f cdv A outer s H E) ⟨[], G, H, daF false a, false, tb⟩ (fun cls d _ H => E cls d H) false (defBody s_need_note) b_need_note :=
  have ok := okx_of (P := P) (w := w) (K := K) (mg := mg) (base := base) (outer := outer) (H := H) (E := E) S_need_note hr
  (qs_one (qs_if (qt_not (qt_val (qe_call (cal_is_from M B) ok (by decide) (qa_cons (qe_var 1) (qa_cons qe_int (qa_cons (qe_bin op_uSub (qe_B c_len M.n_len bo_len (qa_cons (qe_ix ok.room (qe_var 0) qe_int) qa_nil)) qe_int) qa_nil))) (al_cons (al_cons (al_cons al_nil)))))) (qs_one (qs_raiseM ok M.x_InvalidNote)) qs_nil))
theorem cal_need_note (M : Mod K mg cd_law) (B : Tbs base mg tb cd_law P_law) : Cal tb P w K mg base (L2N.CX P w) "need_note" false false 2 fn_need_note 2 := mk_need_note M B (j := 1) fun f cdv A outer s H E G a hr => q_need_note M B hr
theorem S_numbers_at : FnScope N_numbers_at ["piece", "wishes", "note"] (defScope s_numbers_at) := ⟨rfl, rfl, rfl, by decide +kernel, rfl, by decide +kernel, by decide +kernel⟩
theorem mk_numbers_at (M : Mod K mg cd_law) (B : Tbs base mg tb cd_law P_law) {j : Nat} {b : SF} (hb : ∀ (f : Addr) (cdv : Value) (A : Around) (outer : List Env) (s : Shared) (H : Hp) (E : XK) (G : Hp) (a : Addr), Room j (A.deeper (envOfC "numbers_at" (defScope s_numbers_at) s.heap.objs.size f cdv)) →
      QSs (cxOf (L2N.CX P w) P w K mg base N_numbers_at "numbers_at" (defScope s_numbers_at) f cdv A outer s H E) ⟨[], G, H, daF false a, false, tb⟩ (fun cls d _ H => E cls d H) false (defBody s_numbers_at) b) : Cal tb P w K mg base (L2N.CX P w) "numbers_at" false false 3 (fnOf false false 3 3 b) (j + 1) := by
  obtain ⟨f, fd, h, F⟩ := M.f_numbers_at
  exact cal_of F h S_numbers_at (F.binds fun _ _ _ _ _ _ us hl => match us, hl with | [_, _, _], _ => rfl) (by decide) (hb f)
theorem q_numbers_at (M : Mod K mg cd_law) (B : Tbs base mg tb cd_law P_law) {f : Addr} {cdv : Value} {A : Around} {outer : List Env} {s : Shared} {H : Hp} {E : XK} {G : Hp} {a : Addr} (hr : Room 5 (A.deeper (envOfC "numbers_at" (defScope s_numbers_at) s.heap.objs.size f cdv))) :
    QSs (cxOf (L2N.CX P w) P w K mg base N_numbers_at "numbers_at" (defScope s_numbers_at) f cdv A outer s H E) ⟨[], G, H, daF false a, false, tb⟩ (fun cls d _ H => E cls d H) false (defBody s_numbers_at) b_numbers_at :=
  have ok := okx_of (P := P) (w := w) (K := K) (mg := mg) (base := base) (outer := outer) (H := H) (E := E) S_numbers_at hr
  (qs_cons (qs_expr (qe_call (cal_need_possible M B) ok (by decide) (qa_cons (qe_var 0) (qa_cons (qe_var 1) qa_nil)) (al_cons (al_cons al_nil))))
    (qs_cons (qs_expr (qe_call (cal_need_note M B) ok (by decide) (qa_cons (qe_var 0) (qa_cons (qe_var 2) qa_nil)) (al_cons (al_cons al_nil))))
    (qs_one (qs_ret [] (qe_ix ok.room (qe_call (cal_numbers_by_note M B) ok (by decide) (qa_cons (qe_var 0) (qa_cons (qe_var 1) qa_nil)) (al_cons (al_cons al_nil))) (qe_var 2))))))
theorem cal_numbers_at (M : Mod K mg cd_law) (B : Tbs base mg tb cd_law P_law) : Cal tb P w K mg base (L2N.CX P w) "numbers_at" false false 3 fn_numbers_at 6 := mk_numbers_at M B (j := 5) fun f cdv A outer s H E G a hr => q_numbers_at M B hr
theorem S_counts_by_gap : FnScope N_counts_by_gap ["piece", "wishes"] (defScope s_counts_by_gap) := ⟨rfl, rfl, rfl, by decide +kernel, rfl, by decide +kernel, by decide +kernel⟩
theorem mk_counts_by_gap (M : Mod K mg cd_law) (B : Tbs base mg tb cd_law P_law) {j : Nat} {b : SF} (hb : ∀ (f : Addr) (cdv : Value) (A : Around) (outer : List Env) (s : Shared) (H : Hp) (E : XK) (G : Hp) (a : Addr), Room j (A.deeper (envOfC "counts_by_gap" (defScope s_counts_by_gap) s.heap.objs.size f cdv)) →
      QSs (cxOf (L2N.CX P w) P w K mg base N_counts_by_gap "counts_by_gap" (defScope s_counts_by_gap) f cdv A outer s H E) ⟨[2], G, H, daF false a, false, tb⟩ (fun cls d _ H => E cls d H) false (defBody s_counts_by_gap) b) : Cal tb P w K mg base (L2N.CX P w) "counts_by_gap" false false 2 (fnOf false false 7 2 b) (j + 1) := by
  obtain ⟨f, fd, h, F⟩ := M.f_counts_by_gap
  exact cal_of F h S_counts_by_gap (F.binds fun _ _ _ _ _ _ us hl => match us, hl with | [_, _], _ => rfl) (by decide) (hb f)
theorem q_counts_by_gap (M : Mod K mg cd_law) (B : Tbs base mg tb cd_law P_law) {f : Addr} {cdv : Value} {A : Around} {outer : List Env} {s : Shared} {H : Hp} {E : XK} {G : Hp} {a : Addr} (hr : Room 4 (A.deeper (envOfC "counts_by_gap" (defScope s_counts_by_gap) s.heap.objs.size f cdv))) :
    QSs (cxOf (L2N.CX P w) P w K mg base N_counts_by_gap "counts_by_gap" (defScope s_counts_by_gap) f cdv A outer s H E) ⟨[2], G, H, daF false a, false, tb⟩ (fun cls d _ H => E cls d H) false (defBody s_counts_by_gap) b_counts_by_gap :=
  have ok := okx_of (P := P) (w := w) (K := K) (mg := mg) (base := base) (outer := outer) (H := H) (E := E) S_counts_by_gap hr
  (qs_cons (qs_setF ok.nd 2 (qf_rep (qf_lst (qa_cons qe_int qa_nil)) (qe_B c_len M.n_len bo_len (qa_cons (qe_ix ok.room (qe_var 0) qe_int) qa_nil))))
    (qs_cons (qs_for ok.own rfl (qi_seq (qe_call (cal_strokes_through M B) ok (by decide) (qa_cons (qe_var 0) (qa_cons (qe_var 1) qa_nil)) (al_cons (al_cons al_nil)))) (qg_tup rfl (qgs_cons (qg_name ok.nd 3) (qgs_cons (qg_name ok.nd 4) (qgs_cons (qg_name ok.nd 5) (qgs_cons (qg_name ok.nd 6) qgs_nil)))) (gl_cons (gl_cons (gl_cons (gl_cons gl_nil))))) (qs_one (qs_augIx 2 (qe_var 3) (qe_var 6))))
    (qs_one (qs_ret [] (qe_var 2)))))
theorem cal_counts_by_gap (M : Mod K mg cd_law) (B : Tbs base mg tb cd_law P_law) : Cal tb P w K mg base (L2N.CX P w) "counts_by_gap" false false 2 fn_counts_by_gap 5 := mk_counts_by_gap M B (j := 4) fun f cdv A outer s H E G a hr => q_counts_by_gap M B hr
theorem S_sure_breaks : FnScope N_sure_breaks ["piece", "wishes"] (defScope s_sure_breaks) := ⟨rfl, rfl, rfl, by decide +kernel, rfl, by decide +kernel, by decide +kernel⟩
theorem mk_sure_breaks (M : Mod K mg cd_law) (B : Tbs base mg tb cd_law P_law) {j : Nat} {b : SF} (hb : ∀ (f : Addr) (cdv : Value) (A : Around) (outer : List Env) (s : Shared) (H : Hp) (E : XK) (G : Hp) (a : Addr), Room j (A.deeper (envOfC "sure_breaks" (defScope s_sure_breaks) s.heap.objs.size f cdv)) →
      QSs (cxOf (L2N.CX P w) P w K mg base N_sure_breaks "sure_breaks" (defScope s_sure_breaks) f cdv A outer s H E) ⟨[], G, H, daF false a, false, tb⟩ (fun cls d _ H => E cls d H) true (defBody s_sure_breaks) b) : Cal tb P w K mg base (L2N.CX P w) "sure_breaks" false true 2 (fnOf false true 5 2 b) (j + 1) := by
  obtain ⟨f, fd, h, F⟩ := M.f_sure_breaks
  exact cal_of F h S_sure_breaks (F.binds fun _ _ _ _ _ _ us hl => match us, hl with | [_, _], _ => rfl) (by decide) (hb f)
theorem q_sure_breaks (M : Mod K mg cd_law) (B : Tbs base mg tb cd_law P_law) {f : Addr} {cdv : Value} {A : Around} {outer : List Env} {s : Shared} {H : Hp} {E : XK} {G : Hp} {a : Addr} (hr : Room 5 (A.deeper (envOfC "sure_breaks" (defScope s_sure_breaks) s.heap.objs.size f cdv))) :
    QSs (cxOf (L2N.CX P w) P w K mg base N_sure_breaks "sure_breaks" (defScope s_sure_breaks) f cdv A outer s H E) ⟨[], G, H, daF false a, false, tb⟩ (fun cls d _ H => E cls d H) true (defBody s_sure_breaks) b_sure_breaks :=
  have ok := okx_of (P := P) (w := w) (K := K) (mg := mg) (base := base) (outer := outer) (H := H) (E := E) S_sure_breaks hr
  (qs_cons (qs_expr (qe_call (cal_need_possible M B) ok (by decide) (qa_cons (qe_var 0) (qa_cons (qe_var 1) qa_nil)) (al_cons (al_cons al_nil))))
    (qs_cons (qs_asg (qe_tup (qa_cons (qe_call (cal_total M B) ok (by decide) (qa_cons (qe_var 0) (qa_cons (qe_var 1) qa_nil)) (al_cons (al_cons al_nil))) (qa_cons (qe_call (cal_counts_by_gap M B) ok (by decide) (qa_cons (qe_var 0) (qa_cons (qe_var 1) qa_nil)) (al_cons (al_cons al_nil))) qa_nil))) (qg_tup rfl (qgs_cons (qg_name ok.nd 2) (qgs_cons (qg_name ok.nd 3) qgs_nil)) (gl_cons (gl_cons gl_nil))))
    (qs_one (qs_retF (qf_lc (own := [("gap", 4)]) (sl := [4]) (fi := (iRange2 (aCons (eC (.int 1)) (aCons (eB bLen (aCons (eV 3) aNil)) aNil)))) (gt := (gN 4)) (ft := (tB (e2 uEq (e2 uIx (eV 3) (eV 4)) (eV 2)))) (fe := (eV 4)) rfl ok.nd (qi_range2 M.n_range (qa_cons qe_int (qa_cons (qe_B c_len M.n_len bo_len (qa_cons (qe_var 3) qa_nil)) qa_nil))) (by rfl) (fun _ _ _ _ _ => (qg_name ok.blk.nd 4)) (fun _ _ _ _ _ => (qts_one (qt_cmp (op_uEq ok.blk.room) (qe_ix ok.blk.room (qe_var 3) (qe_var 4)) (qe_var 2)))) (fun _ _ _ _ _ => (qe_var 4)))))))
theorem cal_sure_breaks (M : Mod K mg cd_law) (B : Tbs base mg tb cd_law P_law) : Cal tb P w K mg base (L2N.CX P w) "sure_breaks" false true 2 fn_sure_breaks 6 := mk_sure_breaks M B (j := 5) fun f cdv A outer s H E G a hr => q_sure_breaks M B hr
theorem S__law_six_right : FnScope N__law_six_right ["t"] (defScope s__law_six_right) := ⟨rfl, rfl, rfl, by decide +kernel, rfl, by decide +kernel, by decide +kernel⟩
theorem mk__law_six_right (M : Mod K mg cd_law) (B : Tbs base mg tb cd_law P_law) {j : Nat} {b : SF} (hb : ∀ (f : Addr) (cdv : Value) (A : Around) (outer : List Env) (s : Shared) (H : Hp) (E : XK) (G : Hp) (a : Addr), Room j (A.deeper (envOfC "_law_six_right" (defScope s__law_six_right) s.heap.objs.size f cdv)) →
      QSs (cxOf (L2N.CX P w) P w K mg base N__law_six_right "_law_six_right" (defScope s__law_six_right) f cdv A outer s H E) ⟨[], G, H, daF false a, false, tb⟩ (fun cls d _ H => E cls d H) false (defBody s__law_six_right) b) : Cal tb P w K mg base (L2N.CX P w) "_law_six_right" false false 1 (fnOf false false 7 1 b) (j + 1) := by
  obtain ⟨f, fd, h, F⟩ := M.f__law_six_right
  exact cal_of F h S__law_six_right (F.binds fun _ _ _ _ _ _ us hl => match us, hl with | [_], _ => rfl) (by decide) (hb f)
theorem q__law_six_right (M : Mod K mg cd_law) (B : Tbs base mg tb cd_law P_law) {f : Addr} {cdv : Value} {A : Around} {outer : List Env} {s : Shared} {H : Hp} {E : XK} {G : Hp} {a : Addr} (hr : Room 6 (A.deeper (envOfC "_law_six_right" (defScope s__law_six_right) s.heap.objs.size f cdv))) :
    QSs (cxOf (L2N.CX P w) P w K mg base N__law_six_right "_law_six_right" (defScope s__law_six_right) f cdv A outer s H E) ⟨[], G, H, daF false a, false, tb⟩ (fun cls d _ H => E cls d H) false (defBody s__law_six_right) b__law_six_right :=
  have ok := okx_of (P := P) (w := w) (K := K) (mg := mg) (base := base) (outer := outer) (H := H) (E := E) S__law_six_right hr
  (qs_cons (qs_asg (qe_tup (qa_cons (qe_tup (qa_cons (qe_bin op_uMulT (qe_tup (qa_cons (qe_var 0) qa_nil)) qe_int) (qa_cons (qe_bin op_uMul qe_int (qe_var 0)) (qa_cons (qe_tup qa_nil) (qa_cons (qe_tup qa_nil) qa_nil))))) (qa_cons (qe_tup (qa_cons (qe_tup (qa_cons qe_int (qa_cons (qe_str [100, 111, 119, 110]) qa_nil))) (qa_cons (qe_tup (qa_cons qe_int (qa_cons (qe_str [100, 111, 119, 110]) qa_nil))) qa_nil))) qa_nil))) (qg_tup rfl (qgs_cons (qg_name ok.nd 1) (qgs_cons (qg_name ok.nd 2) qgs_nil)) (gl_cons (gl_cons gl_nil))))
    (qs_cons (qs_set ok.nd 3 (qe_of (qf_lst (qa_cons (qe_tup (qa_cons qe_int (qa_cons qe_int (qa_cons qe_int (qa_cons qe_int qa_nil))))) (qa_cons (qe_tup (qa_cons qe_int (qa_cons qe_int qa_nil))) (qa_cons (qe_tup (qa_cons qe_int (qa_cons qe_int (qa_cons qe_int (qa_cons qe_int qa_nil))))) (qa_cons (qe_tup (qa_cons qe_int (qa_cons qe_int qa_nil))) (qa_cons (qe_tup (qa_cons qe_int (qa_cons qe_int (qa_cons qe_int (qa_cons qe_int qa_nil))))) qa_nil))))))))
    (qs_cons (qs_if (qt_cmp (op_uNe ok.room) (qe_of (qf_lc (own := [("number", 5)]) (sl := [5]) (fi := (iRange1 (aCons (eCall fn_count_bowings (aCons (eV 1) (aCons (eV 2) aNil))) aNil))) (gt := (gN 5)) (ft := tTrue) (fe := (eCall fn_bowing_at (aCons (eV 1) (aCons (eV 2) (aCons (eV 5) aNil))))) rfl ok.nd (qi_range1 M.n_range (qa_cons (qe_call (cal_count_bowings M B) ok (by decide) (qa_cons (qe_var 1) (qa_cons (qe_var 2) qa_nil)) (al_cons (al_cons al_nil))) qa_nil)) (by rfl) (fun _ _ _ _ _ => (qg_name ok.blk.nd 5)) (fun _ _ _ _ _ => qts_nil) (fun _ _ _ _ _ => (qe_call (cal_bowing_at M B) ok.blk (by decide) (qa_cons (qe_var 1) (qa_cons (qe_var 2) (qa_cons (qe_var 5) qa_nil))) (al_cons (al_cons (al_cons al_nil))))))) (qe_var 3)) (qs_one (qs_ret [] qe_bl)) qs_nil)
    (qs_cons (qs_if (qt_of (qw_or (qt_cmp (op_uNe ok.room) (qe_call (cal_least_bowing M B) ok (by decide) (qa_cons (qe_var 1) (qa_cons (qe_var 2) qa_nil)) (al_cons (al_cons al_nil))) (qe_tup (qa_cons qe_int (qa_cons qe_int qa_nil)))) (qw_or1 (qt_cmp (op_uNe ok.room) (qe_call (cal_greatest_bowing M B) ok (by decide) (qa_cons (qe_var 1) (qa_cons (qe_var 2) qa_nil)) (al_cons (al_cons al_nil))) (qe_tup (qa_cons qe_int (qa_cons qe_int (qa_cons qe_int (qa_cons qe_int qa_nil))))))))) (qs_one (qs_ret [] qe_bl)) qs_nil)
    (qs_cons (qs_if (qt_cmp (op_uNe ok.room) (qe_of (qf_lc (own := [("note", 6)]) (sl := [6]) (fi := (iRange1 (aCons (eC (.int 6)) aNil))) (gt := (gN 6)) (ft := tTrue) (fe := (eCall fn_numbers_at (aCons (eV 1) (aCons (eV 2) (aCons (eV 6) aNil))))) rfl ok.nd (qi_range1 M.n_range (qa_cons qe_int qa_nil)) (by rfl) (fun _ _ _ _ _ => (qg_name ok.blk.nd 6)) (fun _ _ _ _ _ => qts_nil) (fun _ _ _ _ _ => (qe_call (cal_numbers_at M B) ok.blk (by decide) (qa_cons (qe_var 1) (qa_cons (qe_var 2) (qa_cons (qe_var 6) qa_nil))) (al_cons (al_cons (al_cons al_nil))))))) (qe_of (qf_lst (qa_cons (qe_of (qf_lst (qa_cons qe_int qa_nil))) (qa_cons (qe_of (qf_lst (qa_cons qe_int (qa_cons qe_int qa_nil)))) (qa_cons (qe_of (qf_lst (qa_cons qe_int (qa_cons qe_int qa_nil)))) (qa_cons (qe_of (qf_lst (qa_cons qe_int qa_nil))) (qa_cons (qe_of (qf_lst (qa_cons qe_int (qa_cons qe_int qa_nil)))) (qa_cons (qe_of (qf_lst (qa_cons qe_int (qa_cons qe_int qa_nil)))) qa_nil))))))))) (qs_one (qs_ret [] qe_bl)) qs_nil)
    (qs_cons (qs_if (qt_of (qw_or (qt_cmp (op_uNe ok.room) (qe_call (cal_sure_breaks M B) ok (by decide) (qa_cons (qe_var 1) (qa_cons (qe_var 2) qa_nil)) (al_cons (al_cons al_nil))) (qe_of (qf_lst qa_nil))) (qw_or1 (qt_cmp (op_uNe ok.room) (qe_call (cal_sure_breaks M B) ok (by decide) (qa_cons (qe_var 1) (qa_cons (qe_bin op_uAdd (qe_tup (qa_cons (qe_tup (qa_cons qe_int (qa_cons (qe_str [117, 112]) qa_nil))) qa_nil)) (qe_var 2)) qa_nil)) (al_cons (al_cons al_nil))) (qe_of (qf_lst (qa_cons qe_int qa_nil))))))) (qs_one (qs_ret [] qe_bl)) qs_nil)
    (qs_cons (qs_if (qt_of (qw_or (qt_cmp (op_uNe ok.room) (qe_call (cal_lower M B) ok (by decide) (qa_cons (qe_var 1) (qa_cons (qe_var 2) (qa_cons (qe_tup (qa_cons qe_int (qa_cons qe_int qa_nil))) (qa_cons (qe_tup (qa_cons qe_int (qa_cons qe_int qa_nil))) qa_nil)))) (al_cons (al_cons (al_cons (al_cons al_nil))))) (qe_tup (qa_cons qe_int (qa_cons qe_int qa_nil)))) (qw_or1 (qt_cmp (op_uNe ok.room) (qe_call (cal_upper M B) ok (by decide) (qa_cons (qe_var 1) (qa_cons (qe_var 2) (qa_cons (qe_tup (qa_cons qe_int (qa_cons qe_int qa_nil))) (qa_cons (qe_tup (qa_cons qe_int (qa_cons qe_int qa_nil))) qa_nil)))) (al_cons (al_cons (al_cons (al_cons al_nil))))) (qe_tup (qa_cons qe_int (qa_cons qe_int qa_nil))))))) (qs_one (qs_ret [] qe_bl)) qs_nil)
    (qs_cons (qs_if (qt_of (qw_or (qt_cmp (op_uNe ok.room) (qe_call (cal_fewest_changes M B) ok (by decide) (qa_cons (qe_var 1) (qa_cons (qe_var 2) (qa_cons (qe_tup qa_nil) qa_nil))) (al_cons (al_cons (al_cons al_nil)))) qe_int) (qw_or1 (qt_cmp (op_uNe ok.room) (qe_call (cal_fewest_changes M B) ok (by decide) (qa_cons (qe_var 1) (qa_cons (qe_var 2) (qa_cons (qe_tup (qa_cons qe_int (qa_cons qe_int (qa_cons qe_int (qa_cons qe_int (qa_cons qe_int qa_nil)))))) qa_nil))) (al_cons (al_cons (al_cons al_nil)))) qe_int)))) (qs_one (qs_ret [] qe_bl)) qs_nil)
    (qs_cons (qs_set ok.nd 4 (qe_call (cal_nearest_bowing M B) ok (by decide) (qa_cons (qe_var 1) (qa_cons (qe_var 2) (qa_cons (qe_tup (qa_cons qe_int (qa_cons qe_int (qa_cons qe_int qa_nil)))) qa_nil))) (al_cons (al_cons (al_cons al_nil)))))
    (qs_one (qs_ret [] (qe_or (qe_cmp (op_uEq ok.room) (qe_var 4) (qe_tup (qa_cons qe_int (qa_cons qe_int qa_nil)))) (qe_one (qe_cmp (op_uEq ok.room) (qe_var 4) (qe_tup (qa_cons qe_int (qa_cons qe_int (qa_cons qe_int (qa_cons qe_int qa_nil)))))))))))))))))))
theorem cal__law_six_right (M : Mod K mg cd_law) (B : Tbs base mg tb cd_law P_law) : Cal tb P w K mg base (L2N.CX P w) "_law_six_right" false false 1 fn__law_six_right 7 := mk__law_six_right M B (j := 6) fun f cdv A outer s H E G a hr => q__law_six_right M B hr
theorem S_directions : FnScope N_directions ["piece", "wishes", "bowing"] (defScope s_directions) := ⟨rfl, rfl, rfl, by decide +kernel, rfl, by decide +kernel, by decide +kernel⟩
theorem mk_directions (M : Mod K mg cd_law) (B : Tbs base mg tb cd_law P_law) {j : Nat} {b : SF} (hb : ∀ (f : Addr) (cdv : Value) (A : Around) (outer : List Env) (s : Shared) (H : Hp) (E : XK) (G : Hp) (a : Addr), Room j (A.deeper (envOfC "directions" (defScope s_directions) s.heap.objs.size f cdv)) →
      QSs (cxOf (L2N.CX P w) P w K mg base N_directions "directions" (defScope s_directions) f cdv A outer s H E) ⟨[], G, H, daF false a, false, tb⟩ (fun cls d _ H => E cls d H) false (defBody s_directions) b) : Cal tb P w K mg base (L2N.CX P w) "directions" false false 3 (fnOf false false 4 3 b) (j + 1) := by
  obtain ⟨f, fd, h, F⟩ := M.f_directions
  exact cal_of F h S_directions (F.binds fun _ _ _ _ _ _ us hl => match us, hl with | [_, _, _], _ => rfl) (by decide) (hb f)
theorem q_directions (M : Mod K mg cd_law) (B : Tbs base mg tb cd_law P_law) {f : Addr} {cdv : Value} {A : Around} {outer : List Env} {s : Shared} {H : Hp} {E : XK} {G : Hp} {a : Addr} (hr : Room 4 (A.deeper (envOfC "directions" (defScope s_directions) s.heap.objs.size f cdv))) :
    QSs (cxOf (L2N.CX P w) P w K mg base N_directions "directions" (defScope s_directions) f cdv A outer s H E) ⟨[], G, H, daF false a, false, tb⟩ (fun cls d _ H => E cls d H) false (defBody s_directions) b_directions :=
  have ok := okx_of (P := P) (w := w) (K := K) (mg := mg) (base := base) (outer := outer) (H := H) (E := E) S_directions hr
  (qs_cons (qs_expr (qe_call (cal_need_wishes M B) ok (by decide) (qa_cons (qe_var 0) (qa_cons (qe_var 1) qa_nil)) (al_cons (al_cons al_nil))))
    (qs_cons (qs_expr (qe_call (cal_need_bowing M B) ok (by decide) (qa_cons (qe_var 0) (qa_cons (qe_var 1) (qa_cons (qe_var 2) qa_nil))) (al_cons (al_cons (al_cons al_nil)))))
    (qs_one (qs_ret [] (qe_of (qf_lc (own := [("number", 3)]) (sl := [3]) (fi := (iSeq (eCall fn_numbers_of (aCons (eV 0) (aCons (eV 2) aNil))))) (gt := (gN 3)) (ft := tTrue) (fe := (eCall fn_direction_of (aCons (eV 1) (aCons (eV 3) aNil)))) rfl ok.nd (qi_seq (qe_call (cal_numbers_of M B) ok (by decide) (qa_cons (qe_var 0) (qa_cons (qe_var 2) qa_nil)) (al_cons (al_cons al_nil)))) (by rfl) (fun _ _ _ _ _ => (qg_name ok.blk.nd 3)) (fun _ _ _ _ _ => qts_nil) (fun _ _ _ _ _ => (qe_call (cal_direction_of M B) ok.blk (by decide) (qa_cons (qe_var 1) (qa_cons (qe_var 3) qa_nil)) (al_cons (al_cons al_nil))))))))))
theorem cal_directions (M : Mod K mg cd_law) (B : Tbs base mg tb cd_law P_law) : Cal tb P w K mg base (L2N.CX P w) "directions" false false 3 fn_directions 5 := mk_directions M B (j := 4) fun f cdv A outer s H E G a hr => q_directions M B hr
theorem S_is_possible : FnScope N_is_possible ["piece", "wishes"] (defScope s_is_possible) := ⟨rfl, rfl, rfl, by decide +kernel, rfl, by decide +kernel, by decide +kernel⟩
theorem mk_is_possible (M : Mod K mg cd_law) (B : Tbs base mg tb cd_law P_law) {j : Nat} {b : SF} (hb : ∀ (f : Addr) (cdv : Value) (A : Around) (outer : List Env) (s : Shared) (H : Hp) (E : XK) (G : Hp) (a : Addr), Room j (A.deeper (envOfC "is_possible" (defScope s_is_possible) s.heap.objs.size f cdv)) →
      QSs (cxOf (L2N.CX P w) P w K mg base N_is_possible "is_possible" (defScope s_is_possible) f cdv A outer s H E) ⟨[], G, H, daF false a, false, tb⟩ (fun cls d _ H => E cls d H) false (defBody s_is_possible) b) : Cal tb P w K mg base (L2N.CX P w) "is_possible" false false 2 (fnOf false false 2 2 b) (j + 1) := by
  obtain ⟨f, fd, h, F⟩ := M.f_is_possible
  exact cal_of F h S_is_possible (F.binds fun _ _ _ _ _ _ us hl => match us, hl with | [_, _], _ => rfl) (by decide) (hb f)
theorem q_is_possible (M : Mod K mg cd_law) (B : Tbs base mg tb cd_law P_law) {f : Addr} {cdv : Value} {A : Around} {outer : List Env} {s : Shared} {H : Hp} {E : XK} {G : Hp} {a : Addr} (hr : Room 4 (A.deeper (envOfC "is_possible" (defScope s_is_possible) s.heap.objs.size f cdv))) :
    QSs (cxOf (L2N.CX P w) P w K mg base N_is_possible "is_possible" (defScope s_is_possible) f cdv A outer s H E) ⟨[], G, H, daF false a, false, tb⟩ (fun cls d _ H => E cls d H) false (defBody s_is_possible) b_is_possible :=
  have ok := okx_of (P := P) (w := w) (K := K) (mg := mg) (base := base) (outer := outer) (H := H) (E := E) S_is_possible hr
  (qs_cons (qs_expr (qe_call (cal_need_wishes M B) ok (by decide) (qa_cons (qe_var 0) (qa_cons (qe_var 1) qa_nil)) (al_cons (al_cons al_nil))))
    (qs_one (qs_ret [] (qe_cmp op_uGtI (qe_call (cal_total M B) ok (by decide) (qa_cons (qe_var 0) (qa_cons (qe_var 1) qa_nil)) (al_cons (al_cons al_nil))) qe_int))))
theorem cal_is_possible (M : Mod K mg cd_law) (B : Tbs base mg tb cd_law P_law) : Cal tb P w K mg base (L2N.CX P w) "is_possible" false false 2 fn_is_possible 5 := mk_is_possible M B (j := 4) fun f cdv A outer s H E G a hr => q_is_possible M B hr
theorem S_best_retakes : FnScope N_best_retakes ["piece", "wishes"] (defScope s_best_retakes) := ⟨rfl, rfl, rfl, by decide +kernel, rfl, by decide +kernel, by decide +kernel⟩
theorem mk_best_retakes (M : Mod K mg cd_law) (B : Tbs base mg tb cd_law P_law) {j : Nat} {b : SF} (hb : ∀ (f : Addr) (cdv : Value) (A : Around) (outer : List Env) (s : Shared) (H : Hp) (E : XK) (G : Hp) (a : Addr), Room j (A.deeper (envOfC "best_retakes" (defScope s_best_retakes) s.heap.objs.size f cdv)) →
      QSs (cxOf (L2N.CX P w) P w K mg base N_best_retakes "best_retakes" (defScope s_best_retakes) f cdv A outer s H E) ⟨[3], G, H, daF false a, false, tb⟩ (fun cls d _ H => E cls d H) false (defBody s_best_retakes) b) : Cal tb P w K mg base (L2N.CX P w) "best_retakes" false false 2 (fnOf false false 14 2 b) (j + 1) := by
  obtain ⟨f, fd, h, F⟩ := M.f_best_retakes
  exact cal_of F h S_best_retakes (F.binds fun _ _ _ _ _ _ us hl => match us, hl with | [_, _], _ => rfl) (by decide) (hb f)
theorem q_best_retakes (M : Mod K mg cd_law) (B : Tbs base mg tb cd_law P_law) {f : Addr} {cdv : Value} {A : Around} {outer : List Env} {s : Shared} {H : Hp} {E : XK} {G : Hp} {a : Addr} (hr : Room 1 (A.deeper (envOfC "best_retakes" (defScope s_best_retakes) s.heap.objs.size f cdv))) :
    QSs (cxOf (L2N.CX P w) P w K mg base N_best_retakes "best_retakes" (defScope s_best_retakes) f cdv A outer s H E) ⟨[3], G, H, daF false a, false, tb⟩ (fun cls d _ H => E cls d H) false (defBody s_best_retakes) b_best_retakes :=
  have ok := okx_of (P := P) (w := w) (K := K) (mg := mg) (base := base) (outer := outer) (H := H) (E := E) S_best_retakes hr
  (qs_cons (qs_set ok.nd 2 (qe_B c_len M.n_len bo_len (qa_cons (qe_ix ok.room (qe_var 0) qe_int) qa_nil)))
    (qs_cons (qs_setF ok.nd 3 (qf_dct [((eTup (aCons (eC (.int 0)) (aCons (eCall fn_first_direction (aCons (eV 1) aNil)) aNil))), (eTup (aCons (eC (.int 0)) (aCons (eTup aNil) (aCons (eTup aNil) aNil)))))] ok.room (pps_cons (qe_tup (qa_cons qe_int (qa_cons (qe_call (cal_first_direction M B) ok (by decide) (qa_cons (qe_var 1) qa_nil) (al_cons al_nil)) qa_nil))) (qe_tup (qa_cons qe_int (qa_cons (qe_tup qa_nil) (qa_cons (qe_tup qa_nil) qa_nil)))) pps_nil)))
    (qs_cons (qs_for ok.own rfl (qi_range1 M.n_range (qa_cons (qe_var 2) qa_nil)) (qg_name ok.nd 4) (qs_one (qs_for ok.own rfl (qi_seq (qe_tup (qa_cons (qe_str [100, 111, 119, 110]) (qa_cons (qe_str [117, 112]) qa_nil)))) (qg_name ok.nd 5) (qs_one (qs_if (qt_borrow rfl (qt_cmp (op_uIn ok.room) (qe_tup (qa_cons (qe_var 4) (qa_cons (qe_var 5) qa_nil))) (qe_var 3))) (qs_cons (qs_asg (qe_ixM ok.room 3 (qe_tup (qa_cons (qe_var 4) (qa_cons (qe_var 5) qa_nil)))) (qg_tup rfl (qgs_cons (qg_name ok.nd 6) (qgs_cons (qg_name ok.nd 7) (qgs_cons (qg_name ok.nd 8) qgs_nil))) (gl_cons (gl_cons (gl_cons gl_nil)))))
    (qs_one (qs_for ok.own rfl (qi_range2 M.n_range (qa_cons (qe_bin op_uAdd (qe_var 4) qe_int) (qa_cons (qe_bin op_uAdd (qe_var 2) qe_int) qa_nil))) (qg_name ok.nd 9) (qs_one (qs_if (qt_val (qe_call (cal_stroke_right M B) ok (by decide) (qa_cons (qe_var 0) (qa_cons (qe_var 1) (qa_cons (qe_var 4) (qa_cons (qe_var 9) (qa_cons (qe_var 5) qa_nil))))) (al_cons (al_cons (al_cons (al_cons (al_cons al_nil))))))) (qs_cons (qs_par2 10 11 rfl ok.nd (qk_s (qe_tup (qa_cons (qe_var 9) (qa_cons (qe_call (cal_turned M B) ok (by decide) (qa_cons (qe_var 5) qa_nil) (al_cons al_nil)) qa_nil))) (qk_s (qe_tup (qa_cons (qe_var 9) (qa_cons (qe_var 5) qa_nil))) qk_nil)))
    (qs_cons (qs_dput ok.room 3 (qe_call (cal_cheaper M B) ok (by decide) (qa_cons (qe_getM ok.room 3 (qe_var 10) qe_non) (qa_cons (qe_tup (qa_cons (qe_var 6) (qa_cons (qe_bin op_uAdd (qe_var 7) (qe_tup (qa_cons (qe_var 9) qa_nil))) (qa_cons (qe_var 8) qa_nil)))) qa_nil)) (al_cons (al_cons al_nil))) (qe_var 10))
    (qs_one (qs_if (qt_cmp op_uLtI (qe_var 9) (qe_var 2)) (qs_cons (qs_set ok.nd 12 (qe_tup (qa_cons (qe_bin op_uAdd (qe_var 6) qe_int) (qa_cons (qe_bin op_uAdd (qe_var 7) (qe_tup (qa_cons (qe_var 9) qa_nil))) (qa_cons (qe_bin op_uAdd (qe_var 8) (qe_tup (qa_cons (qe_var 9) qa_nil))) qa_nil)))))
    (qs_one (qs_dput ok.room 3 (qe_call (cal_cheaper M B) ok (by decide) (qa_cons (qe_getM ok.room 3 (qe_var 11) qe_non) (qa_cons (qe_var 12) qa_nil)) (al_cons (al_cons al_nil))) (qe_var 11)))) qs_nil)))) qs_nil))))) qs_nil)))))
    (qs_cons (qs_setLc (own := [("direction", 5)]) (sl := [5]) (fi := (iSeq (eTup (aCons (eC (.str [100, 111, 119, 110])) (aCons (eC (.str [117, 112])) aNil))))) (gt := (gN 5)) (ft := (tBorrow (tB (e2 uIn (eTup (aCons (eV 2) (aCons (eV 5) aNil))) (eV 3))))) (fe := (eIxM 3 uIx (eTup (aCons (eV 2) (aCons (eV 5) aNil))))) (st := .Pass ⟨0, 0, 0, 0⟩) rfl ok.nd (qi_seq (qe_tup (qa_cons (qe_str [100, 111, 119, 110]) (qa_cons (qe_str [117, 112]) qa_nil)))) (by rfl) (fun _ _ _ _ _ => (qg_name ok.blk.nd 5)) (fun _ _ _ _ _ => (qts_one (qt_borrow rfl (qt_cmp (op_uIn ok.blk.room) (qe_tup (qa_cons (qe_var 2) (qa_cons (qe_var 5) qa_nil))) (qe_var 3))))) (fun _ _ _ _ _ => (qe_ixM ok.blk.room 3 (qe_tup (qa_cons (qe_var 2) (qa_cons (qe_var 5) qa_nil))))))
    (qs_one (qs_ret [] (qe_if (qt_cmp (op_uNe ok.room) (qe_var 13) (qe_of (qf_lst qa_nil))) (qe_B (c_minA rfl ok.room) M.n_min bo_min (qa_cons (qe_var 13) qa_nil)) qe_non)))))))
theorem cal_best_retakes (M : Mod K mg cd_law) (B : Tbs base mg tb cd_law P_law) : Cal tb P w K mg base (L2N.CX P w) "best_retakes" false false 2 fn_best_retakes 2 := mk_best_retakes M B (j := 1) fun f cdv A outer s H E G a hr => q_best_retakes M B hr
theorem S_fewest_retakes : FnScope N_fewest_retakes ["piece", "wishes"] (defScope s_fewest_retakes) := ⟨rfl, rfl, rfl, by decide +kernel, rfl, by decide +kernel, by decide +kernel⟩
theorem mk_fewest_retakes (M : Mod K mg cd_law) (B : Tbs base mg tb cd_law P_law) {j : Nat} {b : SF} (hb : ∀ (f : Addr) (cdv : Value) (A : Around) (outer : List Env) (s : Shared) (H : Hp) (E : XK) (G : Hp) (a : Addr), Room j (A.deeper (envOfC "fewest_retakes" (defScope s_fewest_retakes) s.heap.objs.size f cdv)) →
      QSs (cxOf (L2N.CX P w) P w K mg base N_fewest_retakes "fewest_retakes" (defScope s_fewest_retakes) f cdv A outer s H E) ⟨[], G, H, daF false a, false, tb⟩ (fun cls d _ H => E cls d H) false (defBody s_fewest_retakes) b) : Cal tb P w K mg base (L2N.CX P w) "fewest_retakes" false false 2 (fnOf false false 3 2 b) (j + 1) := by
  obtain ⟨f, fd, h, F⟩ := M.f_fewest_retakes
  exact cal_of F h S_fewest_retakes (F.binds fun _ _ _ _ _ _ us hl => match us, hl with | [_, _], _ => rfl) (by decide) (hb f)
theorem q_fewest_retakes (M : Mod K mg cd_law) (B : Tbs base mg tb cd_law P_law) {f : Addr} {cdv : Value} {A : Around} {outer : List Env} {s : Shared} {H : Hp} {E : XK} {G : Hp} {a : Addr} (hr : Room 4 (A.deeper (envOfC "fewest_retakes" (defScope s_fewest_retakes) s.heap.objs.size f cdv))) :
    QSs (cxOf (L2N.CX P w) P w K mg base N_fewest_retakes "fewest_retakes" (defScope s_fewest_retakes) f cdv A outer s H E) ⟨[], G, H, daF false a, false, tb⟩ (fun cls d _ H => E cls d H) false (defBody s_fewest_retakes) b_fewest_retakes :=
  have ok := okx_of (P := P) (w := w) (K := K) (mg := mg) (base := base) (outer := outer) (H := H) (E := E) S_fewest_retakes hr
  (qs_cons (qs_expr (qe_call (cal_need_wishes M B) ok (by decide) (qa_cons (qe_var 0) (qa_cons (qe_var 1) qa_nil)) (al_cons (al_cons al_nil))))
    (qs_cons (qs_set ok.nd 2 (qe_call (cal_best_retakes M B) ok (by decide) (qa_cons (qe_var 0) (qa_cons (qe_var 1) qa_nil)) (al_cons (al_cons al_nil))))
    (qs_one (qs_ret [] (qe_if (qt_cmp op_uIsN (qe_var 2) qe_non) qe_non (qe_ix ok.room (qe_var 2) qe_int))))))
theorem cal_fewest_retakes (M : Mod K mg cd_law) (B : Tbs base mg tb cd_law P_law) : Cal tb P w K mg base (L2N.CX P w) "fewest_retakes" false false 2 fn_fewest_retakes 5 := mk_fewest_retakes M B (j := 4) fun f cdv A outer s H E G a hr => q_fewest_retakes M B hr
theorem S_with_retakes : FnScope N_with_retakes ["piece", "wishes"] (defScope s_with_retakes) := ⟨rfl, rfl, rfl, by decide +kernel, rfl, by decide +kernel, by decide +kernel⟩
theorem mk_with_retakes (M : Mod K mg cd_law) (B : Tbs base mg tb cd_law P_law) {j : Nat} {b : SF} (hb : ∀ (f : Addr) (cdv : Value) (A : Around) (outer : List Env) (s : Shared) (H : Hp) (E : XK) (G : Hp) (a : Addr), Room j (A.deeper (envOfC "with_retakes" (defScope s_with_retakes) s.heap.objs.size f cdv)) →
      QSs (cxOf (L2N.CX P w) P w K mg base N_with_retakes "with_retakes" (defScope s_with_retakes) f cdv A outer s H E) ⟨[], G, H, daF false a, false, tb⟩ (fun cls d _ H => E cls d H) false (defBody s_with_retakes) b) : Cal tb P w K mg base (L2N.CX P w) "with_retakes" false false 2 (fnOf false false 3 2 b) (j + 1) := by
  obtain ⟨f, fd, h, F⟩ := M.f_with_retakes
  exact cal_of F h S_with_retakes (F.binds fun _ _ _ _ _ _ us hl => match us, hl with | [_, _], _ => rfl) (by decide) (hb f)
theorem q_with_retakes (M : Mod K mg cd_law) (B : Tbs base mg tb cd_law P_law) {f : Addr} {cdv : Value} {A : Around} {outer : List Env} {s : Shared} {H : Hp} {E : XK} {G : Hp} {a : Addr} (hr : Room 4 (A.deeper (envOfC "with_retakes" (defScope s_with_retakes) s.heap.objs.size f cdv))) :
    QSs (cxOf (L2N.CX P w) P w K mg base N_with_retakes "with_retakes" (defScope s_with_retakes) f cdv A outer s H E) ⟨[], G, H, daF false a, false, tb⟩ (fun cls d _ H => E cls d H) false (defBody s_with_retakes) b_with_retakes :=
  have ok := okx_of (P := P) (w := w) (K := K) (mg := mg) (base := base) (outer := outer) (H := H) (E := E) S_with_retakes hr
  (qs_cons (qs_expr (qe_call (cal_need_wishes M B) ok (by decide) (qa_cons (qe_var 0) (qa_cons (qe_var 1) qa_nil)) (al_cons (al_cons al_nil))))
    (qs_cons (qs_set ok.nd 2 (qe_call (cal_best_retakes M B) ok (by decide) (qa_cons (qe_var 0) (qa_cons (qe_var 1) qa_nil)) (al_cons (al_cons al_nil))))
    (qs_one (qs_ret [] (qe_if (qt_cmp op_uIsN (qe_var 2) qe_non) qe_non (qe_tup (qa_cons (qe_sl (qe_ix ok.room (qe_var 2) qe_int) qo_no (qo_some (qe_un un_uNeg qe_int))) (qa_cons (qe_ix ok.room (qe_var 2) qe_int) qa_nil))))))))
theorem cal_with_retakes (M : Mod K mg cd_law) (B : Tbs base mg tb cd_law P_law) : Cal tb P w K mg base (L2N.CX P w) "with_retakes" false false 2 fn_with_retakes 5 := mk_with_retakes M B (j := 4) fun f cdv A outer s H E G a hr => q_with_retakes M B hr
theorem S_directions_at : FnScope N_directions_at ["piece", "wishes", "note"] (defScope s_directions_at) := ⟨rfl, rfl, rfl, by decide +kernel, rfl, by decide +kernel, by decide +kernel⟩
theorem mk_directions_at (M : Mod K mg cd_law) (B : Tbs base mg tb cd_law P_law) {j : Nat} {b : SF} (hb : ∀ (f : Addr) (cdv : Value) (A : Around) (outer : List Env) (s : Shared) (H : Hp) (E : XK) (G : Hp) (a : Addr), Room j (A.deeper (envOfC "directions_at" (defScope s_directions_at) s.heap.objs.size f cdv)) →
      QSs (cxOf (L2N.CX P w) P w K mg base N_directions_at "directions_at" (defScope s_directions_at) f cdv A outer s H E) ⟨[], G, H, daF false a, false, tb⟩ (fun cls d _ H => E cls d H) false (defBody s_directions_at) b) : Cal tb P w K mg base (L2N.CX P w) "directions_at" false false 3 (fnOf false false 4 3 b) (j + 1) := by
  obtain ⟨f, fd, h, F⟩ := M.f_directions_at
  exact cal_of F h S_directions_at (F.binds fun _ _ _ _ _ _ us hl => match us, hl with | [_, _, _], _ => rfl) (by decide) (hb f)
theorem q_directions_at (M : Mod K mg cd_law) (B : Tbs base mg tb cd_law P_law) {f : Addr} {cdv : Value} {A : Around} {outer : List Env} {s : Shared} {H : Hp} {E : XK} {G : Hp} {a : Addr} (hr : Room 5 (A.deeper (envOfC "directions_at" (defScope s_directions_at) s.heap.objs.size f cdv))) :
    QSs (cxOf (L2N.CX P w) P w K mg base N_directions_at "directions_at" (defScope s_directions_at) f cdv A outer s H E) ⟨[], G, H, daF false a, false, tb⟩ (fun cls d _ H => E cls d H) false (defBody s_directions_at) b_directions_at :=
  have ok := okx_of (P := P) (w := w) (K := K) (mg := mg) (base := base) (outer := outer) (H := H) (E := E) S_directions_at hr
  (qs_cons (qs_expr (qe_call (cal_need_possible M B) ok (by decide) (qa_cons (qe_var 0) (qa_cons (qe_var 1) qa_nil)) (al_cons (al_cons al_nil))))
    (qs_cons (qs_expr (qe_call (cal_need_note M B) ok (by decide) (qa_cons (qe_var 0) (qa_cons (qe_var 2) qa_nil)) (al_cons (al_cons al_nil))))
    (qs_one (qs_ret [] (qe_sortedSet ok.calm ok.room M.n_sorted M.n_set (qe_of (qf_lc (own := [("number", 3)]) (sl := [3]) (fi := (iSeq (e2 uIx (eCall fn_numbers_by_note (aCons (eV 0) (aCons (eV 1) aNil))) (eV 2)))) (gt := (gN 3)) (ft := tTrue) (fe := (eCall fn_direction_of (aCons (eV 1) (aCons (eV 3) aNil)))) rfl ok.nd (qi_seq (qe_ix ok.room (qe_call (cal_numbers_by_note M B) ok (by decide) (qa_cons (qe_var 0) (qa_cons (qe_var 1) qa_nil)) (al_cons (al_cons al_nil))) (qe_var 2))) (by rfl) (fun _ _ _ _ _ => (qg_name ok.blk.nd 3)) (fun _ _ _ _ _ => qts_nil) (fun _ _ _ _ _ => (qe_call (cal_direction_of M B) ok.blk (by decide) (qa_cons (qe_var 1) (qa_cons (qe_var 3) qa_nil)) (al_cons (al_cons al_nil)))))))))))
theorem cal_directions_at (M : Mod K mg cd_law) (B : Tbs base mg tb cd_law P_law) : Cal tb P w K mg base (L2N.CX P w) "directions_at" false false 3 fn_directions_at 6 := mk_directions_at M B (j := 5) fun f cdv A outer s H E G a hr => q_directions_at M B hr
theorem S_sure_joins : FnScope N_sure_joins ["piece", "wishes"] (defScope s_sure_joins) := ⟨rfl, rfl, rfl, by decide +kernel, rfl, by decide +kernel, by decide +kernel⟩
theorem mk_sure_joins (M : Mod K mg cd_law) (B : Tbs base mg tb cd_law P_law) {j : Nat} {b : SF} (hb : ∀ (f : Addr) (cdv : Value) (A : Around) (outer : List Env) (s : Shared) (H : Hp) (E : XK) (G : Hp) (a : Addr), Room j (A.deeper (envOfC "sure_joins" (defScope s_sure_joins) s.heap.objs.size f cdv)) →
      QSs (cxOf (L2N.CX P w) P w K mg base N_sure_joins "sure_joins" (defScope s_sure_joins) f cdv A outer s H E) ⟨[], G, H, daF false a, false, tb⟩ (fun cls d _ H => E cls d H) true (defBody s_sure_joins) b) : Cal tb P w K mg base (L2N.CX P w) "sure_joins" false true 2 (fnOf false true 4 2 b) (j + 1) := by
  obtain ⟨f, fd, h, F⟩ := M.f_sure_joins
  exact cal_of F h S_sure_joins (F.binds fun _ _ _ _ _ _ us hl => match us, hl with | [_, _], _ => rfl) (by decide) (hb f)
theorem q_sure_joins (M : Mod K mg cd_law) (B : Tbs base mg tb cd_law P_law) {f : Addr} {cdv : Value} {A : Around} {outer : List Env} {s : Shared} {H : Hp} {E : XK} {G : Hp} {a : Addr} (hr : Room 5 (A.deeper (envOfC "sure_joins" (defScope s_sure_joins) s.heap.objs.size f cdv))) :
    QSs (cxOf (L2N.CX P w) P w K mg base N_sure_joins "sure_joins" (defScope s_sure_joins) f cdv A outer s H E) ⟨[], G, H, daF false a, false, tb⟩ (fun cls d _ H => E cls d H) true (defBody s_sure_joins) b_sure_joins :=
  have ok := okx_of (P := P) (w := w) (K := K) (mg := mg) (base := base) (outer := outer) (H := H) (E := E) S_sure_joins hr
  (qs_cons (qs_expr (qe_call (cal_need_possible M B) ok (by decide) (qa_cons (qe_var 0) (qa_cons (qe_var 1) qa_nil)) (al_cons (al_cons al_nil))))
    (qs_cons (qs_set ok.nd 2 (qe_call (cal_counts_by_gap M B) ok (by decide) (qa_cons (qe_var 0) (qa_cons (qe_var 1) qa_nil)) (al_cons (al_cons al_nil))))
    (qs_one (qs_retF (qf_lc (own := [("gap", 3)]) (sl := [3]) (fi := (iRange2 (aCons (eC (.int 1)) (aCons (eB bLen (aCons (eV 2) aNil)) aNil)))) (gt := (gN 3)) (ft := (tB (e2 uEq (e2 uIx (eV 2) (eV 3)) (eC (.int 0))))) (fe := (eV 3)) rfl ok.nd (qi_range2 M.n_range (qa_cons qe_int (qa_cons (qe_B c_len M.n_len bo_len (qa_cons (qe_var 2) qa_nil)) qa_nil))) (by rfl) (fun _ _ _ _ _ => (qg_name ok.blk.nd 3)) (fun _ _ _ _ _ => (qts_one (qt_cmp (op_uEq ok.blk.room) (qe_ix ok.blk.room (qe_var 2) (qe_var 3)) qe_int))) (fun _ _ _ _ _ => (qe_var 3)))))))
theorem cal_sure_joins (M : Mod K mg cd_law) (B : Tbs base mg tb cd_law P_law) : Cal tb P w K mg base (L2N.CX P w) "sure_joins" false true 2 fn_sure_joins 6 := mk_sure_joins M B (j := 5) fun f cdv A outer s H E G a hr => q_sure_joins M B hr
theorem S__law_ties_right : FnScope N__law_ties_right ["t"] (defScope s__law_ties_right) := ⟨rfl, rfl, rfl, by decide +kernel, rfl, by decide +kernel, by decide +kernel⟩
theorem mk__law_ties_right (M : Mod K mg cd_law) (B : Tbs base mg tb cd_law P_law) {j : Nat} {b : SF} (hb : ∀ (f : Addr) (cdv : Value) (A : Around) (outer : List Env) (s : Shared) (H : Hp) (E : XK) (G : Hp) (a : Addr), Room j (A.deeper (envOfC "_law_ties_right" (defScope s__law_ties_right) s.heap.objs.size f cdv)) →
      QSs (cxOf (L2N.CX P w) P w K mg base N__law_ties_right "_law_ties_right" (defScope s__law_ties_right) f cdv A outer s H E) ⟨[], G, H, daF false a, false, tb⟩ (fun cls d _ H => E cls d H) false (defBody s__law_ties_right) b) : Cal tb P w K mg base (L2N.CX P w) "_law_ties_right" false false 1 (fnOf false false 5 1 b) (j + 1) := by
  obtain ⟨f, fd, h, F⟩ := M.f__law_ties_right
  exact cal_of F h S__law_ties_right (F.binds fun _ _ _ _ _ _ us hl => match us, hl with | [_], _ => rfl) (by decide) (hb f)
theorem q__law_ties_right (M : Mod K mg cd_law) (B : Tbs base mg tb cd_law P_law) {f : Addr} {cdv : Value} {A : Around} {outer : List Env} {s : Shared} {H : Hp} {E : XK} {G : Hp} {a : Addr} (hr : Room 6 (A.deeper (envOfC "_law_ties_right" (defScope s__law_ties_right) s.heap.objs.size f cdv))) :
    QSs (cxOf (L2N.CX P w) P w K mg base N__law_ties_right "_law_ties_right" (defScope s__law_ties_right) f cdv A outer s H E) ⟨[], G, H, daF false a, false, tb⟩ (fun cls d _ H => E cls d H) false (defBody s__law_ties_right) b__law_ties_right :=
  have ok := okx_of (P := P) (w := w) (K := K) (mg := mg) (base := base) (outer := outer) (H := H) (E := E) S__law_ties_right hr
  (qs_cons (qs_set ok.nd 1 (qe_tup (qa_cons (qe_tup (qa_cons (qe_var 0) (qa_cons (qe_var 0) (qa_cons (qe_bin op_uMul qe_int (qe_var 0)) (qa_cons (qe_var 0) (qa_cons (qe_var 0) qa_nil)))))) (qa_cons (qe_bin op_uMul qe_int (qe_var 0)) (qa_cons (qe_tup (qa_cons qe_int qa_nil)) (qa_cons (qe_tup (qa_cons qe_int qa_nil)) qa_nil))))))
    (qs_cons (qs_setLc (own := [("number", 4)]) (sl := [4]) (fi := (iRange1 (aCons (eCall fn_count_bowings (aCons (eV 1) (aCons (eTup aNil) aNil))) aNil))) (gt := (gN 4)) (ft := tTrue) (fe := (eCall fn_bowing_at (aCons (eV 1) (aCons (eTup aNil) (aCons (eV 4) aNil))))) (st := .Pass ⟨0, 0, 0, 0⟩) rfl ok.nd (qi_range1 M.n_range (qa_cons (qe_call (cal_count_bowings M B) ok (by decide) (qa_cons (qe_var 1) (qa_cons (qe_tup qa_nil) qa_nil)) (al_cons (al_cons al_nil))) qa_nil)) (by rfl) (fun _ _ _ _ _ => (qg_name ok.blk.nd 4)) (fun _ _ _ _ _ => qts_nil) (fun _ _ _ _ _ => (qe_call (cal_bowing_at M B) ok.blk (by decide) (qa_cons (qe_var 1) (qa_cons (qe_tup qa_nil) (qa_cons (qe_var 4) qa_nil))) (al_cons (al_cons (al_cons al_nil))))))
    (qs_cons (qs_if (qt_cmp (op_uNe ok.room) (qe_var 2) (qe_of (qf_lst (qa_cons (qe_tup (qa_cons qe_int (qa_cons qe_int (qa_cons qe_int qa_nil)))) (qa_cons (qe_tup (qa_cons qe_int (qa_cons qe_int qa_nil))) (qa_cons (qe_tup (qa_cons qe_int (qa_cons qe_int qa_nil))) qa_nil)))))) (qs_one (qs_ret [] qe_bl)) qs_nil)
    (qs_cons (qs_if (qt_of (qw_or (qt_cmp (op_uNe ok.room) (qe_call (cal_directions M B) ok (by decide) (qa_cons (qe_var 1) (qa_cons (qe_tup qa_nil) (qa_cons (qe_tup (qa_cons qe_int (qa_cons qe_int qa_nil))) qa_nil))) (al_cons (al_cons (al_cons al_nil)))) (qe_of (qf_lst (qa_cons (qe_str [100, 111, 119, 110]) (qa_cons (qe_str [117, 112]) (qa_cons (qe_str [117, 112]) (qa_cons (qe_str [117, 112]) (qa_cons (qe_str [100, 111, 119, 110]) qa_nil)))))))) (qw_or1 (qt_cmp (op_uNe ok.room) (qe_call (cal_stroke_range M B) ok (by decide) (qa_cons (qe_var 1) (qa_cons (qe_tup qa_nil) qa_nil)) (al_cons (al_cons al_nil))) (qe_tup (qa_cons qe_int (qa_cons qe_int qa_nil))))))) (qs_one (qs_ret [] qe_bl)) qs_nil)
    (qs_cons (qs_if (qt_of (qw_or (qt_cmp (op_uNe ok.room) (qe_call (cal_sure_breaks M B) ok (by decide) (qa_cons (qe_var 1) (qa_cons (qe_tup qa_nil) qa_nil)) (al_cons (al_cons al_nil))) (qe_of (qf_lst (qa_cons qe_int qa_nil)))) (qw_or (qt_cmp (op_uNe ok.room) (qe_call (cal_sure_joins M B) ok (by decide) (qa_cons (qe_var 1) (qa_cons (qe_tup qa_nil) qa_nil)) (al_cons (al_cons al_nil))) (qe_of (qf_lst (qa_cons qe_int qa_nil)))) (qw_or1 (qt_cmp (op_uNe ok.room) (qe_call (cal_least_bowing M B) ok (by decide) (qa_cons (qe_var 1) (qa_cons (qe_tup qa_nil) qa_nil)) (al_cons (al_cons al_nil))) (qe_tup (qa_cons qe_int (qa_cons qe_int qa_nil)))))))) (qs_one (qs_ret [] qe_bl)) qs_nil)
    (qs_cons (qs_set ok.nd 3 (qe_tup (qa_cons (qe_tup (qa_cons qe_int (qa_cons (qe_str [100, 111, 119, 110]) qa_nil))) (qa_cons (qe_tup (qa_cons qe_int (qa_cons (qe_str [117, 112]) qa_nil))) qa_nil))))
    (qs_cons (qs_if (qt_of (qw_or (qt_cmp op_uNotB (qe_call (cal_is_possible M B) ok (by decide) (qa_cons (qe_var 1) (qa_cons (qe_var 3) qa_nil)) (al_cons (al_cons al_nil))) qe_bl) (qw_or1 (qt_cmp (op_uNe ok.room) (qe_call (cal_fewest_retakes M B) ok (by decide) (qa_cons (qe_var 1) (qa_cons (qe_var 3) qa_nil)) (al_cons (al_cons al_nil))) qe_int)))) (qs_one (qs_ret [] qe_bl)) qs_nil)
    (qs_cons (qs_set ok.nd 3 (qe_tup (qa_cons (qe_tup (qa_cons qe_int (qa_cons (qe_str [117, 112]) qa_nil))) (qa_cons (qe_tup (qa_cons qe_int (qa_cons (qe_str [100, 111, 119, 110]) qa_nil))) qa_nil))))
    (qs_cons (qs_if (qt_of (qw_or (qt_cmp op_uNotN (qe_call (cal_fewest_retakes M B) ok (by decide) (qa_cons (qe_var 1) (qa_cons (qe_var 3) qa_nil)) (al_cons (al_cons al_nil))) qe_non) (qw_or1 (qt_cmp op_uNotN (qe_call (cal_with_retakes M B) ok (by decide) (qa_cons (qe_var 1) (qa_cons (qe_var 3) qa_nil)) (al_cons (al_cons al_nil))) qe_non)))) (qs_one (qs_ret [] qe_bl)) qs_nil)
    (qs_one (qs_ret [] (qe_and (qe_cmp (op_uEq ok.room) (qe_call (cal_directions_at M B) ok (by decide) (qa_cons (qe_var 1) (qa_cons (qe_tup (qa_cons (qe_tup (qa_cons qe_int (qa_cons (qe_str [117, 112]) qa_nil))) qa_nil)) (qa_cons qe_int qa_nil))) (al_cons (al_cons (al_cons al_nil)))) (qe_of (qf_lst (qa_cons (qe_str [100, 111, 119, 110]) qa_nil)))) (qe_one (qe_cmp (op_uEq ok.room) (qe_call (cal_count_with M B) ok (by decide) (qa_cons (qe_var 1) (qa_cons (qe_tup (qa_cons (qe_tup (qa_cons qe_int (qa_cons (qe_str [117, 112]) qa_nil))) qa_nil)) (qa_cons qe_int qa_nil))) (al_cons (al_cons (al_cons al_nil)))) qe_int))))))))))))))
theorem cal__law_ties_right (M : Mod K mg cd_law) (B : Tbs base mg tb cd_law P_law) : Cal tb P w K mg base (L2N.CX P w) "_law_ties_right" false false 1 fn__law_ties_right 7 := mk__law_ties_right M B (j := 6) fun f cdv A outer s H E G a hr => q__law_ties_right M B hr
theorem S_law : FnScope N_law ["script"] (defScope s_law) := ⟨rfl, rfl, rfl, by decide +kernel, rfl, by decide +kernel, by decide +kernel⟩
theorem mk_law (M : Mod K mg cd_law) (B : Tbs base mg tb cd_law P_law) {j : Nat} {b : SF} (hb : ∀ (f : Addr) (A : Around) (outer : List Env) (s : Shared) (H : Hp) (E : XK) (G : Hp) (a : Addr), Room j (A.deeper (envOfC "law" (defScope s_law) s.heap.objs.size f (.ref cd_law))) →
      QSs (cxOf (L2N.CX P w) P w K mg base N_law "law" (defScope s_law) f (.ref cd_law) A outer s H E) ⟨[], G, H, daF false a, false, tb⟩ (fun cls d _ H => E cls d H) false (defBody s_law) b) : Cal tb P w K mg base (L2N.CX P w) "law" false false 1 (fnOf false false 4 1 b) (j + 1) := by
  obtain ⟨f, fd, h, L⟩ := M.l_law
  have D := L.to B.t_law
  exact calL_of D h S_law (D.fn.binds fun _ _ _ _ _ _ us hl => match us, hl with | [_], _ => rfl) (by decide) (hb f)
theorem q_law (M : Mod K mg cd_law) (B : Tbs base mg tb cd_law P_law) {f : Addr} {A : Around} {outer : List Env} {s : Shared} {H : Hp} {E : XK} {G : Hp} {a : Addr} (hr : Room 8 (A.deeper (envOfC "law" (defScope s_law) s.heap.objs.size f (.ref cd_law)))) :
    QSs (cxOf (L2N.CX P w) P w K mg base N_law "law" (defScope s_law) f (.ref cd_law) A outer s H E) ⟨[], G, H, daF false a, false, tb⟩ (fun cls d _ H => E cls d H) false (defBody s_law) b_law :=
  have ok := okx_of (P := P) (w := w) (K := K) (mg := mg) (base := base) (outer := outer) (H := H) (E := E) S_law hr
  (qs_cons (qs_for ok.own rfl (qi_seq (qe_sl (qe_bin op_uAdd (qe_of (qf_lst (qa_cons qe_int qa_nil))) (qe_var 0)) qo_no (qo_some qe_int))) (qg_name ok.nd 1) (qs_cons (qs_set ok.nd 2 (qe_bin op_uAdd qe_int (qe_callT (cal__law_pick M B) ok (by decide) (qf_call (cal__law_deck M B) ok (by decide) (qa_cons (qe_var 1) (qa_cons qe_int qa_nil)) (al_cons (al_cons al_nil))) (qa_cons qe_int qa_nil) (al_cons al_nil))))
    (qs_one (qs_if (qt_of (qw_or (qt_not (qt_val (qe_call (cal__law_six_right M B) ok (by decide) (qa_cons (qe_var 2) qa_nil) (al_cons al_nil)))) (qw_or1 (qt_not (qt_val (qe_call (cal__law_ties_right M B) ok (by decide) (qa_cons (qe_var 2) qa_nil) (al_cons al_nil))))))) (qs_one (qs_ret [] qe_bl)) qs_nil))))
    (qs_cons (qs_set ok.nd 3 (qe_tup (qa_cons (qe_bin op_uMulT (qe_tup (qa_cons qe_int qa_nil)) qe_int) (qa_cons qe_int (qa_cons (qe_tup qa_nil) (qa_cons (qe_tup qa_nil) qa_nil))))))
    (qs_cons (qs_if (qt_of (qw_or (qt_cmp (op_uNe ok.room) (qe_call (cal_count_bowings M B) ok (by decide) (qa_cons (qe_var 3) (qa_cons (qe_tup (qa_cons (qe_tup (qa_cons qe_int (qa_cons (qe_str [100, 111, 119, 110]) qa_nil))) qa_nil)) qa_nil)) (al_cons (al_cons al_nil))) qe_int) (qw_or1 (qt_cmp (op_uNe ok.room) (qe_call (cal_count_with M B) ok (by decide) (qa_cons (qe_var 3) (qa_cons (qe_tup (qa_cons (qe_tup (qa_cons qe_int (qa_cons (qe_str [100, 111, 119, 110]) qa_nil))) qa_nil)) (qa_cons qe_int qa_nil))) (al_cons (al_cons (al_cons al_nil)))) qe_int)))) (qs_one (qs_ret [] qe_bl)) qs_nil)
    (qs_cons (qs_if (qt_of (qw_or (qt_cmp (op_uNe ok.room) (qe_call (cal_number_of M B) ok (by decide) (qa_cons (qe_var 3) (qa_cons (qe_tup qa_nil) (qa_cons (qe_tup (qa_cons qe_int (qa_cons qe_int (qa_cons qe_int (qa_cons qe_int (qa_cons qe_int (qa_cons qe_int (qa_cons qe_int (qa_cons qe_int qa_nil))))))))) qa_nil))) (al_cons (al_cons (al_cons al_nil)))) qe_int) (qw_or1 (qt_cmp (op_uNe ok.room) (qe_call (cal_bowing_at M B) ok (by decide) (qa_cons (qe_var 3) (qa_cons (qe_tup qa_nil) (qa_cons qe_int qa_nil))) (al_cons (al_cons (al_cons al_nil)))) (qe_tup (qa_cons qe_int qa_nil)))))) (qs_one (qs_ret [] qe_bl)) qs_nil)
    (qs_one (qs_ret [] (qe_cmp (op_uEq ok.room) (qe_try M.xfam (cal__law_name_of M B) M.f__law_try S__law_try rfl B.t_law.1 (by exact B.t_law.2.1) (by exact B.t_law.2.2) (j := 6) (ok.room.mono (by decide)) (fun A1 o1 s1 H1 E1 f1 c1 hr1 => have ok1 := okx_lam (k := 6) ok.nd hr1
    (qe_call (cal_stroke_range M B) ok1 (by decide) (qa_cons (qe_tup (qa_cons (qe_tup (qa_cons qe_int (qa_cons qe_int qa_nil))) (qa_cons qe_int (qa_cons (qe_tup (qa_cons qe_int qa_nil)) (qa_cons (qe_tup qa_nil) qa_nil))))) (qa_cons (qe_tup (qa_cons (qe_tup (qa_cons qe_int (qa_cons (qe_str [117, 112]) qa_nil))) qa_nil)) qa_nil)) (al_cons (al_cons al_nil)))) (fun _ _ _ _ _ _ us hl => match us, hl with | [_], _ => rfl)) (qe_str [78, 111, 116, 43]))))))))
theorem cal_law (M : Mod K mg cd_law) (B : Tbs base mg tb cd_law P_law) : Cal tb P w K mg base (L2N.CX P w) "law" false false 1 fn_law 9 := mk_law M B (j := 8) fun f A outer s H E G a hr => q_law M B hr
end
end K21
set_option maxRecDepth 100000
set_option maxHeartbeats 0
namespace K21
open Q LB
open PySem PySem.Spec PyProof.Rows L2
theorem law_all {w : World} {K : PySem.W.Frag} {mg : Str → Option Value} {fa : Addr} {cd_law P_law : Addr} (hfa : mg "law" = some (.ref fa)) (M : Mod K mg cd_law) :
    ∃ fd : FuncData, (∀ (s : Shared) (u : Value), BindsTo s fd ⟨[u], []⟩ [("script", u)]) ∧ ∀ base : Heap, K.In base → base.Ns mainGlobals mg → (∀ p ∈ ([(cd_law, P_law, lamNm "law" s_law)] : List (Addr × Addr × Str)), LamX.TabB base mg p.1 p.2.1) →
      FnOk PySem.Challenge.rw_bowings_k21_whole_written_pieces.prog w K mg base (L2N.CX PySem.Challenge.rw_bowings_k21_whole_written_pieces.prog w) 9 fa fd ["script"] (spLaw (([(cd_law, P_law, lamNm "law" s_law)] : List (Addr × Addr × Str)).map fun p => p.2) K) := by
  obtain ⟨f, fd, h, F⟩ := M.l_law
  rw [hfa] at h
  cases h
  obtain ⟨oc, od, kV, doc, pm, an, ct, osl, e, look, good⟩ := F.ex
  refine ⟨fd, fun s u => ?_, fun base K1 N1 T => ?_⟩
  · subst e
    exact .of_eq rfl
  have B : Tbs base mg (([(cd_law, P_law, lamNm "law" s_law)] : List (Addr × Addr × Str)).map fun p => p.2) cd_law P_law := ⟨⟨T (cd_law, P_law, lamNm "law" s_law) (.head _), .head _, by intro p hp _; cases hp with | head => rfl | tail _ h => cases h⟩⟩
  exact law_FL (F.to B.t_law) S_law (by decide) keeps fun A outer s H E G a hr => q_law M B hr
end K21
open PySem PySem.W PyProof.Rows
theorem PySem.Challenge.cw_bowings_k21_whole_written_pieces_holds : PySem.Challenge.rw_bowings_k21_whole_written_pieces.Holds := by
  w_on; o_law; k_head; (case hw => w_witness2)
  k_fill
  refine Q.law_walkT (l := PySem.Challenge.rw_bowings_k21_whole_written_pieces) (k := 9) (fun _ => [(493, 489, Q.lamNm "law" K21.s_law)]) rfl rfl ⟨rfl, by decide, by decide⟩ (fun w h Y => km_in_of Y) ?HC ?F
  case HC =>
    intro w h Y p hp
    simp only [List.mem_cons, List.not_mem_nil, or_false] at hp
    rcases hp with rfl
    · exact ⟨km_tabs_of Y 489 (by k_mem), by kernel_rfl, codeHd_of_K (km_in_of Y) (by kernel_rfl)⟩
  case F =>
    intro w mg fa h KX G hmg
    refine K21.law_all (cd_law := 493) (P_law := 489) hmg ⟨?n_ValueError, ?n_all, ?n_any, ?n_bool, ?n_enumerate, ?n_int, ?n_isinstance, ?n_len, ?n_list, ?n_max, ?n_min, ?n_range, ?n_set, ?n_sorted, ?n_str, ?n_sum, ?n_tuple, ?n_zip, ?i_MOST_NOTES, ?i_LONGEST, ?i_LONGEST_BOW, ?x_InvalidPiece, ?x_InvalidWishes, ?x_InvalidBowing, ?x_InvalidGaps, ?x_InvalidNote, ?x_InvalidNumber, ?x_NotPossible, ?xfam, ?f_is_from, ?f_are_gaps, ?f_blocks_of, ?f_is_piece, ?f_is_direction, ?f_good_wishes, ?f_need_wishes, ?f_first_direction, ?f_turned, ?f_direction_of, ?f_stroke_right, ?f_rests, ?f_total, ?f_need_possible, ?f_begins, ?f_strokes_through, ?f_numbers_by_note, ?f_stroke_range, ?f_count_bowings, ?f_count_with, ?f_stops_in_order, ?f_bowing_at, ?f_ends_of, ?f_good_bowing, ?f_need_bowing, ?f_number_of, ?f__law_deck, ?f__law_pick, ?f__law_name_of, ?f__law_try, ?f_breaks_of, ?f_least_bowing, ?f_greatest_bowing, ?f_numbers_of, ?f_lower, ?f_upper, ?f_need_gaps, ?f_cheaper, ?f_best_edit, ?f_fewest_changes, ?f_nearest_bowing, ?f_need_note, ?f_numbers_at, ?f_counts_by_gap, ?f_sure_breaks, ?f__law_six_right, ?f_directions, ?f_is_possible, ?f_best_retakes, ?f_fewest_retakes, ?f_with_retakes, ?f_directions_at, ?f_sure_joins, ?f__law_ties_right, ?l_law⟩
    (case n_ValueError => refine' Q.mod_n KX G ?a; (case a => k_is))
    (case n_all => refine' Q.mod_n KX G ?a; (case a => k_is))
    (case n_any => refine' Q.mod_n KX G ?a; (case a => k_is))
    (case n_bool => refine' Q.mod_n KX G ?a; (case a => k_is))
    (case n_enumerate => refine' Q.mod_n KX G ?a; (case a => k_is))
    (case n_int => refine' Q.mod_n KX G ?a; (case a => k_is))
    (case n_isinstance => refine' Q.mod_n KX G ?a; (case a => k_is))
    (case n_len => refine' Q.mod_n KX G ?a; (case a => k_is))
    (case n_list => refine' Q.mod_n KX G ?a; (case a => k_is))
    (case n_max => refine' Q.mod_n KX G ?a; (case a => k_is))
    (case n_min => refine' Q.mod_n KX G ?a; (case a => k_is))
    (case n_range => refine' Q.mod_n KX G ?a; (case a => k_is))
    (case n_set => refine' Q.mod_n KX G ?a; (case a => k_is))
    (case n_sorted => refine' Q.mod_n KX G ?a; (case a => k_is))
    (case n_str => refine' Q.mod_n KX G ?a; (case a => k_is))
    (case n_sum => refine' Q.mod_n KX G ?a; (case a => k_is))
    (case n_tuple => refine' Q.mod_n KX G ?a; (case a => k_is))
    (case n_zip => refine' Q.mod_n KX G ?a; (case a => k_is))
    (case i_MOST_NOTES => refine' Q.mod_i KX G ?a; (case a => k_is))
    (case i_LONGEST => refine' Q.mod_i KX G ?a; (case a => k_is))
    (case i_LONGEST_BOW => refine' Q.mod_i KX G ?a; (case a => k_is))
    (case x_InvalidPiece => refine' Q.mod_x KX G ?ca ?ck ?cq ?cs ?ct; (case ca => k_is); (case ck => k_is); (case cq => k_exc); (case cs => k_is); (case ct => k_is))
    (case x_InvalidWishes => refine' Q.mod_x KX G ?ca ?ck ?cq ?cs ?ct; (case ca => k_is); (case ck => k_is); (case cq => k_exc); (case cs => k_is); (case ct => k_is))
    (case x_InvalidBowing => refine' Q.mod_x KX G ?ca ?ck ?cq ?cs ?ct; (case ca => k_is); (case ck => k_is); (case cq => k_exc); (case cs => k_is); (case ct => k_is))
    (case x_InvalidGaps => refine' Q.mod_x KX G ?ca ?ck ?cq ?cs ?ct; (case ca => k_is); (case ck => k_is); (case cq => k_exc); (case cs => k_is); (case ct => k_is))
    (case x_InvalidNote => refine' Q.mod_x KX G ?ca ?ck ?cq ?cs ?ct; (case ca => k_is); (case ck => k_is); (case cq => k_exc); (case cs => k_is); (case ct => k_is))
    (case x_InvalidNumber => refine' Q.mod_x KX G ?ca ?ck ?cq ?cs ?ct; (case ca => k_is); (case ck => k_is); (case cq => k_exc); (case cs => k_is); (case ct => k_is))
    (case x_NotPossible => refine' Q.mod_x KX G ?ca ?ck ?cq ?cs ?ct; (case ca => k_is); (case ck => k_is); (case cq => k_exc); (case cs => k_is); (case ct => k_is))
    (case xfam => exact Q.fam_of (l := [("InvalidPiece", 37), ("InvalidWishes", 49), ("InvalidBowing", 61), ("InvalidGaps", 73), ("InvalidNote", 85), ("InvalidNumber", 97), ("InvalidLength", 109), ("InvalidStrokes", 121), ("NotPossible", 133), ("NothingToUndo", 145)]) (B := 24) KX G (by kernel_rfl))
    (case f_is_from => refine' Q.mod_f KX G ?a ?l ?c ?k; (case a => k_is); (case l => k_is); (case c => k_is); (case k => k_is))
    (case f_are_gaps => refine' Q.mod_f KX G ?a ?l ?c ?k; (case a => k_is); (case l => k_is); (case c => k_is); (case k => k_is))
    (case f_blocks_of => refine' Q.mod_f KX G ?a ?l ?c ?k; (case a => k_is); (case l => k_is); (case c => k_is); (case k => k_is))
    (case f_is_piece => refine' Q.mod_f KX G ?a ?l ?c ?k; (case a => k_is); (case l => k_is); (case c => k_is); (case k => k_is))
    (case f_is_direction => refine' Q.mod_f KX G ?a ?l ?c ?k; (case a => k_is); (case l => k_is); (case c => k_is); (case k => k_is))
    (case f_good_wishes => refine' Q.mod_f KX G ?a ?l ?c ?k; (case a => k_is); (case l => k_is); (case c => k_is); (case k => k_is))
    (case f_need_wishes => refine' Q.mod_f KX G ?a ?l ?c ?k; (case a => k_is); (case l => k_is); (case c => k_is); (case k => k_is))
    (case f_first_direction => refine' Q.mod_f KX G ?a ?l ?c ?k; (case a => k_is); (case l => k_is); (case c => k_is); (case k => k_is))
    (case f_turned => refine' Q.mod_f KX G ?a ?l ?c ?k; (case a => k_is); (case l => k_is); (case c => k_is); (case k => k_is))
    (case f_direction_of => refine' Q.mod_f KX G ?a ?l ?c ?k; (case a => k_is); (case l => k_is); (case c => k_is); (case k => k_is))
    (case f_stroke_right => refine' Q.mod_f KX G ?a ?l ?c ?k; (case a => k_is); (case l => k_is); (case c => k_is); (case k => k_is))
    (case f_rests => refine' Q.mod_f KX G ?a ?l ?c ?k; (case a => k_is); (case l => k_is); (case c => k_is); (case k => k_is))
    (case f_total => refine' Q.mod_f KX G ?a ?l ?c ?k; (case a => k_is); (case l => k_is); (case c => k_is); (case k => k_is))
    (case f_need_possible => refine' Q.mod_f KX G ?a ?l ?c ?k; (case a => k_is); (case l => k_is); (case c => k_is); (case k => k_is))
    (case f_begins => refine' Q.mod_f KX G ?a ?l ?c ?k; (case a => k_is); (case l => k_is); (case c => k_is); (case k => k_is))
    (case f_strokes_through => refine' Q.mod_f KX G ?a ?l ?c ?k; (case a => k_is); (case l => k_is); (case c => k_is); (case k => k_is))
    (case f_numbers_by_note => refine' Q.mod_f KX G ?a ?l ?c ?k; (case a => k_is); (case l => k_is); (case c => k_is); (case k => k_is))
    (case f_stroke_range => refine' Q.mod_f KX G ?a ?l ?c ?k; (case a => k_is); (case l => k_is); (case c => k_is); (case k => k_is))
    (case f_count_bowings => refine' Q.mod_f KX G ?a ?l ?c ?k; (case a => k_is); (case l => k_is); (case c => k_is); (case k => k_is))
    (case f_count_with => refine' Q.mod_f KX G ?a ?l ?c ?k; (case a => k_is); (case l => k_is); (case c => k_is); (case k => k_is))
    (case f_stops_in_order => refine' Q.mod_f KX G ?a ?l ?c ?k; (case a => k_is); (case l => k_is); (case c => k_is); (case k => k_is))
    (case f_bowing_at => refine' Q.mod_f KX G ?a ?l ?c ?k; (case a => k_is); (case l => k_is); (case c => k_is); (case k => k_is))
    (case f_ends_of => refine' Q.mod_f KX G ?a ?l ?c ?k; (case a => k_is); (case l => k_is); (case c => k_is); (case k => k_is))
    (case f_good_bowing => refine' Q.mod_f KX G ?a ?l ?c ?k; (case a => k_is); (case l => k_is); (case c => k_is); (case k => k_is))
    (case f_need_bowing => refine' Q.mod_f KX G ?a ?l ?c ?k; (case a => k_is); (case l => k_is); (case c => k_is); (case k => k_is))
    (case f_number_of => refine' Q.mod_f KX G ?a ?l ?c ?k; (case a => k_is); (case l => k_is); (case c => k_is); (case k => k_is))
    (case f__law_deck => refine' Q.mod_f KX G ?a ?l ?c ?k; (case a => k_is); (case l => k_is); (case c => k_is); (case k => k_is))
    (case f__law_pick => refine' Q.mod_f KX G ?a ?l ?c ?k; (case a => k_is); (case l => k_is); (case c => k_is); (case k => k_is))
    (case f__law_name_of => refine' Q.mod_f KX G ?a ?l ?c ?k; (case a => k_is); (case l => k_is); (case c => k_is); (case k => k_is))
    (case f__law_try => refine' Q.mod_f KX G ?a ?l ?c ?k; (case a => k_is); (case l => k_is); (case c => k_is); (case k => k_is))
    (case f_breaks_of => refine' Q.mod_f KX G ?a ?l ?c ?k; (case a => k_is); (case l => k_is); (case c => k_is); (case k => k_is))
    (case f_least_bowing => refine' Q.mod_f KX G ?a ?l ?c ?k; (case a => k_is); (case l => k_is); (case c => k_is); (case k => k_is))
    (case f_greatest_bowing => refine' Q.mod_f KX G ?a ?l ?c ?k; (case a => k_is); (case l => k_is); (case c => k_is); (case k => k_is))
    (case f_numbers_of => refine' Q.mod_f KX G ?a ?l ?c ?k; (case a => k_is); (case l => k_is); (case c => k_is); (case k => k_is))
    (case f_lower => refine' Q.mod_f KX G ?a ?l ?c ?k; (case a => k_is); (case l => k_is); (case c => k_is); (case k => k_is))
    (case f_upper => refine' Q.mod_f KX G ?a ?l ?c ?k; (case a => k_is); (case l => k_is); (case c => k_is); (case k => k_is))
    (case f_need_gaps => refine' Q.mod_f KX G ?a ?l ?c ?k; (case a => k_is); (case l => k_is); (case c => k_is); (case k => k_is))
    (case f_cheaper => refine' Q.mod_f KX G ?a ?l ?c ?k; (case a => k_is); (case l => k_is); (case c => k_is); (case k => k_is))
    (case f_best_edit => refine' Q.mod_f KX G ?a ?l ?c ?k; (case a => k_is); (case l => k_is); (case c => k_is); (case k => k_is))
    (case f_fewest_changes => refine' Q.mod_f KX G ?a ?l ?c ?k; (case a => k_is); (case l => k_is); (case c => k_is); (case k => k_is))
    (case f_nearest_bowing => refine' Q.mod_f KX G ?a ?l ?c ?k; (case a => k_is); (case l => k_is); (case c => k_is); (case k => k_is))
    (case f_need_note => refine' Q.mod_f KX G ?a ?l ?c ?k; (case a => k_is); (case l => k_is); (case c => k_is); (case k => k_is))
    (case f_numbers_at => refine' Q.mod_f KX G ?a ?l ?c ?k; (case a => k_is); (case l => k_is); (case c => k_is); (case k => k_is))
    (case f_counts_by_gap => refine' Q.mod_f KX G ?a ?l ?c ?k; (case a => k_is); (case l => k_is); (case c => k_is); (case k => k_is))
    (case f_sure_breaks => refine' Q.mod_f KX G ?a ?l ?c ?k; (case a => k_is); (case l => k_is); (case c => k_is); (case k => k_is))
    (case f__law_six_right => refine' Q.mod_f KX G ?a ?l ?c ?k; (case a => k_is); (case l => k_is); (case c => k_is); (case k => k_is))
    (case f_directions => refine' Q.mod_f KX G ?a ?l ?c ?k; (case a => k_is); (case l => k_is); (case c => k_is); (case k => k_is))
    (case f_is_possible => refine' Q.mod_f KX G ?a ?l ?c ?k; (case a => k_is); (case l => k_is); (case c => k_is); (case k => k_is))
    (case f_best_retakes => refine' Q.mod_f KX G ?a ?l ?c ?k; (case a => k_is); (case l => k_is); (case c => k_is); (case k => k_is))
    (case f_fewest_retakes => refine' Q.mod_f KX G ?a ?l ?c ?k; (case a => k_is); (case l => k_is); (case c => k_is); (case k => k_is))
    (case f_with_retakes => refine' Q.mod_f KX G ?a ?l ?c ?k; (case a => k_is); (case l => k_is); (case c => k_is); (case k => k_is))
    (case f_directions_at => refine' Q.mod_f KX G ?a ?l ?c ?k; (case a => k_is); (case l => k_is); (case c => k_is); (case k => k_is))
    (case f_sure_joins => refine' Q.mod_f KX G ?a ?l ?c ?k; (case a => k_is); (case l => k_is); (case c => k_is); (case k => k_is))
    (case f__law_ties_right => refine' Q.mod_f KX G ?a ?l ?c ?k; (case a => k_is); (case l => k_is); (case c => k_is); (case k => k_is))
    (case l_law => refine' Q.mod_l KX G ?a ?l ?c ?k; (case a => k_is); (case l => k_is); (case c => k_is); (case k => k_is))
