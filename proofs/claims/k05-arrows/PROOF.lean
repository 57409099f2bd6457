import PyProof.Rows.All
import Wide.All
import OpenK.AllK
import Wide.FinOn
import HandS.ForMost
import HandS.Wide
import KE.SortData
import HandS.TupAny
import HandS.IsInst
import HandS.Deep
import HandS.Style
import HandS.Conv
import HandS.SortInts
import HandS.ExcOwn
import HandS.ExcValue
import HandS.ForExc
import HandS.Flow
import KE.GoesEnum
import HandS.Iter
import HandS.Zip
import HandS.Comp
import HandS.TryMany
import HandS.Defaults
import KE.KStateDown
import Lean
import HandS.Ends
import HandS.Head0
import HandS.Head1
import HandS.Head2
import HandS.HeadEnd
import HandS.HeadHook1
import HandS.HeadHook2
import PySem.Challenge.RW_mapkinds_k05_arrows_of_kinds
set_option Elab.async false
set_option linter.all false
/-! PF1: the pure fragment: values, environments, the evaluator (no machine in sight). -/
namespace PF
open PySem PySem.Spec PyProof.Rows

inductive D where
  | non | bl (b : Bool) | int (i : Int) | str (s : Str) | lst (xs : List D) | tup (xs : List D) | scr (xs : List D)
  | exc (c : Nat) (a : D)
  deriving Inhabited

structure Exn where
  c : Nat
  a : D

inductive Cell where
  | no | v (d : D) | o (xs : List D)
abbrev En := List Cell

inductive Rs (α : Type) where
  | ok (a : α) (ρ : En) | exc (x : Exn) (ρ : En) | bad
inductive Fr where
  | ok (d : D) (m : List D) | exc (x : Exn) | bad
inductive Fl where
  | nx | ct | rt (d : D)

def Rs.bind {α β : Type} (r : Rs α) (f : α → En → Rs β) : Rs β := match r with
  | .ok a ρ => f a ρ
  | .exc x ρ => .exc x ρ
  | .bad => .bad
@[simp] theorem bind_ok {α β : Type} (a : α) (ρ : En) (f : α → En → Rs β) : (Rs.ok a ρ).bind f = f a ρ := rfl
@[simp] theorem bind_exc {α β : Type} (x : Exn) (ρ : En) (f : α → En → Rs β) : (Rs.exc x ρ : Rs α).bind f = .exc x ρ := rfl
@[simp] theorem bind_bad {α β : Type} (f : α → En → Rs β) : (Rs.bad : Rs α).bind f = .bad := rfl

/-! ### operations on values -/
inductive Ty where
  | int | bool | str | tuple | list | exc (h : Nat) | verr
  deriving DecidableEq, Repr
inductive Op where
  | add | sub | mul | fdiv | mod | pow | shl | shr | band | bor | bxor | neg
  | eq | ne | lt | le | gt | ge | isN | notN | inn | nin
  | ix | slice (lo hi : Bool) | rev | tup | lst
  | len | abs | int | bool | str | sum | max | min | max2 | min2 | sorted | all | any | tuple | list
  | isinst (t : Ty) | index | partition | split | join | attr (h : Nat)
  deriving DecidableEq, Repr

mutual
def deq : D → D → Bool
  | .non, .non => true
  | .bl a, .bl b => a == b
  | .bl a, .int b => (if a then 1 else 0) == b
  | .int a, .bl b => a == (if b then 1 else 0)
  | .int a, .int b => a == b
  | .str a, .str b => a == b
  | .lst xs, .lst ys => deqs xs ys
  | .tup xs, .tup ys => deqs xs ys
  | _, _ => false
def deqs : List D → List D → Bool
  | [], [] => true
  | x :: xs, y :: ys => deq x y && deqs xs ys
  | _, _ => false
end
/-- plain data, at most so deep -/
def shal : Nat → D → Bool
  | 0, .lst _ | 0, .tup _ => false
  | n + 1, .lst xs | n + 1, .tup xs => xs.all (shal n)
  | _, .scr _ | _, .exc _ _ => false
  | _, .str s => s.cps.all fun c => decide (c < 0x110000)
  | _, _ => true
/-- no list within, at most so deep -/
def nol : Nat → D → Bool
  | n + 1, .tup xs => xs.all (nol n)
  | 0, .tup _ => false
  | _, .lst _ | _, .scr _ | _, .exc _ _ => false
  | _, _ => true
/-- no caught exception within, at most so deep -/
def nexc : Nat → D → Bool
  | n + 1, .tup xs | n + 1, .lst xs | n + 1, .scr xs => xs.all (nexc n)
  | 0, .tup _ | 0, .lst _ | 0, .scr _ => false
  | _, .exc _ _ => false
  | _, _ => true
def truth : D → Option Bool
  | .non => some false
  | .bl b => some b
  | .int i => some (i != 0)
  | .str s => if s.length ≤ sizeLine then some ((s.length : Int) != 0) else none
  | .lst xs | .tup xs => some (!xs.isEmpty)
  | _ => none
def intL : List D → Option (List Int)
  | [] => some []
  | .int i :: r => (intL r).map (i :: ·)
  | _ :: _ => none
def boolL : List D → Option (List Bool)
  | [] => some []
  | .bl i :: r => (boolL r).map (i :: ·)
  | _ :: _ => none
def strL : List D → Option (List Str)
  | [] => some []
  | .str i :: r => (strL r).map (i :: ·)
  | _ :: _ => none
def cutD (xs : List D) (lo hi : Option Int) : List D := (xs.drop (HT.sIx xs.length 0 lo)).take (HT.sIx xs.length xs.length hi - HT.sIx xs.length 0 lo)
def sliceD (x : D) (lo hi : Option Int) : Option D := match x with
  | .lst xs => some (.lst (cutD xs lo hi))
  | .tup xs => some (.tup (cutD xs lo hi))
  | .str s => if s.length ≤ sizeLine then some (.str (L2.cutS s lo hi)) else none
  | _ => none
def findIx (x : D) : List D → Nat → Option Nat
  | [], _ => none
  | y :: ys, k => if deq y x then some k else findIx x ys (k + 1)
def isTy : Ty → D → Option Bool
  | .int, .int _ | .int, .bl _ | .bool, .bl _ | .str, .str _ | .tuple, .tup _ | .list, .lst _ => some true
  | .exc h, .exc c _ => some (h == 3 || h == c)
  | .verr, .exc _ _ => some true
  | _, .exc _ _ | _, .scr _ => none
  | .exc _, _ => none
  | .verr, _ => none
  | _, _ => some false
def b2i (b : Bool) : Int := if b then 1 else 0
def cpow (i j : Int) : Bool := decide (0 ≤ j) && decide (j ≤ 1000000) && decide (i.natAbs < 2 ^ 64)
def pAdd : List D → Option D
  | [.int a, .int b] => some (.int (a + b))
  | [.str a, .str b] => if a.length + b.length ≤ sizeLine then some (.str (a ++ b)) else none
  | [.lst a, .lst b] => if a.length + b.length ≤ sizeLine then some (.lst (a ++ b)) else none
  | [.tup a, .tup b] => if a.length + b.length ≤ sizeLine then some (.tup (a ++ b)) else none
  | _ => none
def pSub : List D → Option D
  | [.int a, .int b] => some (.int (a - b))
  | _ => none
def mulOk (a b : Int) : Bool := decide (a.natAbs.log2 + b.natAbs.log2 < 1000000)
def repOk (n : Nat) (k : Int) : Bool := decide (-(2 ^ 63) ≤ k) && decide (k < 2 ^ 63) && decide (n * k.toNat ≤ sizeLine)
def pMul : List D → Option D
  | [.int a, .int b] => if mulOk a b then some (.int (a * b)) else none
  | [.lst a, .int k] => if repOk a.length k then some (.lst (List.replicate k.toNat a).flatten) else none
  | _ => none
def divOk (b : Int) : Bool := decide (0 < b) && decide (b.natAbs.log2 < 9000)
def divOkN (b : Int) : Bool := decide (b ≠ 0) && decide (b.natAbs < 1073741824)
def pDiv : List D → Option D
  | [.int a, .int b] => if divOk b then some (.int (a / b)) else if divOkN b then some (.int (a.fdiv b)) else none
  | _ => none
def pMod : List D → Option D
  | [.int a, .int b] => if 0 < b then some (.int (a % b)) else if b ≠ 0 then some (.int (a.fmod b)) else none
  | _ => none
def pPow : List D → Option D
  | [.int a, .int b] => if cpow a b then some (.int (a ^ b.toNat)) else none
  | _ => none
def pShl : List D → Option D
  | [.int a, .int b] => if cpow a b then some (.int (a * 2 ^ b.toNat)) else none
  | _ => none
def pShr : List D → Option D
  | [.int a, .int b] => if 0 ≤ b then some (.int (a / 2 ^ b.toNat)) else none
  | _ => none
def pBits (f : Int → Int → Int) : List D → Option D
  | [.int a, .int b] => some (.int (f a b))
  | _ => none
def pNeg : List D → Option D
  | [.int a] => some (.int (-a))
  | _ => none
def pEq (neg : Bool) : List D → Option D
  | [a, b] => if shal 60 a && shal 60 b then some (.bl (if neg then !deq a b else deq a b)) else none
  | _ => none
def pCmp (f : Int → Int → Bool) : List D → Option D
  | [.int a, .int b] => some (.bl (f a b))
  | _ => none
def pIs (neg : Bool) : List D → Option D
  | [.non, .non] => some (.bl (!neg))
  | [_, .non] => some (.bl neg)
  | _ => none
def pIn (neg : Bool) : List D → Option D
  | [x, .lst xs] => if shal 60 x && xs.all (shal 58) then some (.bl (if neg then !xs.any fun y => deq y x else xs.any fun y => deq y x)) else none
  | [x, .tup xs] => if shal 60 x && xs.all (shal 58) then some (.bl (if neg then !xs.any fun y => deq y x else xs.any fun y => deq y x)) else none
  | [.str x, .str y] => some (.bl (if neg then !(!(Builtin.Str.occurrences y x 0 y.length 1).isEmpty) else !(Builtin.Str.occurrences y x 0 y.length 1).isEmpty))
  | _ => none
def pIx : List D → Option D
  | [.lst xs, .int i] => L2.atI xs i
  | [.tup xs, .int i] => L2.atI xs i
  | [.scr xs, .int i] => L2.atI xs i
  | [.str s, .int i] => if s.length ≤ sizeLine then (L2.atI s.cps.toList i).map fun c => .str ⟨#[c]⟩ else none
  | _ => none
def pSlice (lo hi : Bool) : List D → Option D
  | [x] => (match lo, hi with | false, false => sliceD x none none | _, _ => none)
  | [x, .int a] => (match lo, hi with | true, false => sliceD x (some a) none | false, true => sliceD x none (some a) | _, _ => none)
  | [x, .int a, .int b] => (match lo, hi with | true, true => sliceD x (some a) (some b) | _, _ => none)
  | _ => none
def pRev : List D → Option D
  | [.lst xs] => some (.lst xs.reverse)
  | _ => none
def pTup (xs : List D) : Option D := if xs.length ≤ sizeLine then some (.tup xs) else none
def pLst (xs : List D) : Option D := if xs.length ≤ sizeLine then some (.lst xs) else none
def pLen : List D → Option D
  | [.lst xs] => some (.int xs.length)
  | [.tup xs] => some (.int xs.length)
  | [.scr xs] => some (.int xs.length)
  | [.str s] => if s.length ≤ sizeLine then some (.int s.length) else none
  | _ => none
def pAbs : List D → Option D
  | [.int i] => some (.int (if i < 0 then -i else i))
  | _ => none
def pInt : List D → Option D
  | [.int i] => some (.int i)
  | [.bl b] => some (.int (if b then 1 else 0))
  | [.str s] => if s.length ≤ 640 then (PySem.intText? s).map .int else none
  | _ => none
def pBool : List D → Option D
  | [.bl b] => some (.bl b)
  | [.int i] => some (.bl (i != 0))
  | _ => none
def pStr : List D → Option D
  | [.int i] => if i.natAbs.log2 < 1920 then some (.str (toString i)) else none
  | _ => none
def pSum : List D → Option D
  | [.lst xs] => (intL xs).map fun is => .int is.sum
  | _ => none
def maxI : List Int → Option Int
  | [] => none
  | i :: r => some (r.foldl (fun a b => if a < b then b else a) i)
def minI : List Int → Option Int
  | [] => none
  | i :: r => some (r.foldl (fun a b => if b < a then b else a) i)
def pMax : List D → Option D
  | [.lst xs] => ((intL xs).bind maxI).map .int
  | _ => none
def pMin : List D → Option D
  | [.lst xs] => ((intL xs).bind minI).map .int
  | _ => none
def pMax2 : List D → Option D
  | [.int i, .int j] => some (.int (if j > i then j else i))
  | _ => none
def pMin2 : List D → Option D
  | [.int i, .int j] => some (.int (if j < i then j else i))
  | _ => none
mutual
def toPy : D → PyData
  | .non => .none
  | .bl b => .bool b
  | .int i => .int i
  | .str s => .str s
  | .lst xs => .list (toPys xs)
  | .tup xs => .tuple (toPys xs)
  | .scr xs => .list (toPys xs)
  | .exc _ _ => .none
def toPys : List D → List PyData
  | [] => []
  | x :: xs => toPy x :: toPys xs
end
/-- the order of data of one shape -/
def leD (x y : D) : Bool := PySem.W.dataLe false toPy x y
def tupNe : D → Bool
  | .tup (_ :: _) => true
  | _ => false
def flatNe : D → Bool
  | .int _ | .bl _ | .str _ | .lst _ => true
  | _ => false
def srtD (xs : List D) : Option D :=
  if xs.all (shal 40) && (xs.all tupNe || xs.all flatNe) && (xs.all fun x => xs.all fun y => PySem.W.alike (toPy x) (toPy y)) then some (.lst (xs.mergeSort leD)) else none
def pSorted : List D → Option D
  | [.lst xs] => srtD xs
  | [.tup xs] => srtD xs
  | _ => none
def pAll : List D → Option D
  | [.lst xs] => (boolL xs).map fun bs => .bl (bs.all id)
  | _ => none
def pAny : List D → Option D
  | [.lst xs] => (boolL xs).map fun bs => .bl (bs.any id)
  | _ => none
def pTuple : List D → Option D
  | [.lst xs] => some (.tup xs)
  | [.tup xs] => some (.tup xs)
  | _ => none
def pList : List D → Option D
  | [.lst xs] => some (.lst xs)
  | [.tup xs] => some (.lst xs)
  | _ => none
def pIsinst (t : Ty) : List D → Option D
  | [x] => (isTy t x).map .bl
  | _ => none
def pIndex : List D → Option D
  | [.lst xs, x] => if shal 60 x && xs.all (shal 58) then (findIx x xs 0).map fun k : Nat => D.int (k : Int) else none
  | _ => none
def pPartition : List D → Option D
  | [.str a, .str b] => if b.length == 0 || decide (sizeLine < a.length) then none else some (.tup [.str (Txt.partition a b).1, .str (Txt.partition a b).2.1, .str (Txt.partition a b).2.2])
  | _ => none
def pSplit : List D → Option D
  | [.str a, .str b] => if b.length == 0 || decide (sizeLine < a.length + 2) then none else some (.lst ((Txt.split a b).map .str))
  | _ => none
def joinOk (a : Str) (ys : List Str) : Bool := decide ((ys.map (·.length)).sum + ys.length * a.length ≤ 16777216)
def pJoin : List D → Option D
  | [.str a, .lst xs] => (strL xs).bind fun ys => if joinOk a ys then some (.str (Txt.join a ys)) else none
  | [.str a, .tup xs] => (strL xs).bind fun ys => if joinOk a ys then some (.str (Txt.join a ys)) else none
  | _ => none
def pAttr (h : Nat) : List D → Option D
  | [.exc c a] => if h == c then some a else none
  | _ => none
def prim : Op → List D → Option D
  | .add, ds => pAdd ds
  | .sub, ds => pSub ds
  | .mul, ds => pMul ds
  | .fdiv, ds => pDiv ds
  | .mod, ds => pMod ds
  | .pow, ds => pPow ds
  | .shl, ds => pShl ds
  | .shr, ds => pShr ds
  | .band, ds => pBits Builtin.bitAnd ds
  | .bor, ds => pBits Builtin.bitOr ds
  | .bxor, ds => pBits Builtin.bitXor ds
  | .neg, ds => pNeg ds
  | .eq, ds => pEq false ds
  | .ne, ds => pEq true ds
  | .lt, ds => pCmp (fun a b => decide (a < b)) ds
  | .le, ds => pCmp (fun a b => decide (a ≤ b)) ds
  | .gt, ds => pCmp (fun a b => decide (b < a)) ds
  | .ge, ds => pCmp (fun a b => decide (b ≤ a)) ds
  | .isN, ds => pIs false ds
  | .notN, ds => pIs true ds
  | .inn, ds => pIn false ds
  | .nin, ds => pIn true ds
  | .ix, ds => pIx ds
  | .slice lo hi, ds => pSlice lo hi ds
  | .rev, ds => pRev ds
  | .tup, ds => pTup ds
  | .lst, ds => pLst ds
  | .len, ds => pLen ds
  | .abs, ds => pAbs ds
  | .int, ds => pInt ds
  | .bool, ds => pBool ds
  | .str, ds => pStr ds
  | .sum, ds => pSum ds
  | .max, ds => pMax ds
  | .min, ds => pMin ds
  | .max2, ds => pMax2 ds
  | .min2, ds => pMin2 ds
  | .sorted, ds => pSorted ds
  | .all, ds => pAll ds
  | .any, ds => pAny ds
  | .tuple, ds => pTuple ds
  | .list, ds => pList ds
  | .isinst t, ds => pIsinst t ds
  | .index, ds => pIndex ds
  | .partition, ds => pPartition ds
  | .split, ds => pSplit ds
  | .join, ds => pJoin ds
  | .attr h, ds => pAttr h ds

/-! ### the fragment -/
mutual
inductive Ex where
  | cst (d : D)
  | var (i : Nat)
  | rd (i : Nat)
  | vr (i : Nat)
  | prim (o : Op) (es : Exs)
  | chain (o1 o2 : Op) (a b c : Ex)
  | tst (t : Tx)
  | sl2 (a l u : Ex)
  | meth (o : Op) (a b : Ex)
  | orV (a b : Ex) | andV (a b : Ex)
  | ite (t : Tx) (a b : Ex)
  | call (f : Nat) (es : Exs)
  | callB (f : Nat) (es : Exs)
  | callM (f i : Nat) (es : Exs)
  | pop (i : Nat)
  | popAt (i : Nat) (e : Ex)
  | lc (elt : Ex) (tg : List Nat) (one : Bool) (it : It) (c : Tx) (vs : List Nat)
  | lc2 (elt : Ex) (tg : List Nat) (one : Bool) (it : It) (c : Tx) (tg2 : List Nat) (one2 : Bool) (it2 : It) (c2 : Tx) (vs vs2 : List Nat)
inductive Exs where
  | nil | cons (e : Ex) (es : Exs)
inductive Tx where
  | yes
  | val (e : Ex)
  | not (t : Tx) | and (a b : Tx) | or (a b : Tx)
inductive It where
  | seq (e : Ex) | rng1 (a : Ex) | rng2 (a b : Ex) | enum (e : Ex) | zip (a b : Ex)
end
mutual
inductive Sm where
  | asg (i : Nat) (own : Bool) (e : Ex)
  | unp (is : List Nat) (e : Ex)
  | par (is : List (Nat × Bool)) (es : Exs)
  | setIx (i : Nat) (k e : Ex)
  | app (i : Nat) (e : Ex)
  | ext (i : Nat) (e : Ex)
  | aug (i : Nat) (o : Op) (e : Ex)
  | expr (e : Ex)
  | ret (e : Ex) | retF (e : Ex) | retO (i : Nat) | retN
  | ite (t : Tx) (a b : Sms)
  | whl (t : Tx) (b : Sms)
  | for_ (tg : List Nat) (one : Bool) (it : It) (b : Sms)
  | raise (c : Nat) (e : Ex)
  | try_ (b : Sms) (hs : Hds)
  | pass | cont | bad
inductive Sms where
  | nil | cons (s : Sm) (r : Sms)
inductive Hds where
  | nil | cons (h : Nat) (i : Option Nat) (b : Sms) (r : Hds)
end

/-! ### environments -/
def Cell.get : Cell → Option D
  | .no => none
  | .v d => some d
  | .o xs => some (.lst xs)
def getC (ρ : En) (i : Nat) : Cell := ρ.getD i .no
def setC (ρ : En) (i : Nat) (c : Cell) : En := ρ.set i c
/-- names that were not bound at a loop's start are forgotten behind a turn -/
def mask : En → En → En
  | .no :: r, _ :: s => .no :: mask r s
  | _ :: r, c :: s => c :: mask r s
  | _, _ => []
def wipeC (ρ : En) : List Nat → En
  | [] => ρ
  | v :: vs => (wipeC ρ vs).set v .no
/-- the block's own names, put back -/
def backC (ρ ρ' : En) : List Nat → En
  | [] => ρ'
  | v :: vs => (backC ρ ρ' vs).set v (match getC ρ v with | .v d => .v d | _ => .no)
def setAll : List Nat → List D → En → Option En
  | [], [], ρ => some ρ
  | i :: is, d :: ds, ρ => setAll is ds (setC ρ i (.v d))
  | _, _, _ => none
/-- a target (a name; names in a row) -/
def bindTg (tg : List Nat) (one : Bool) (d : D) (ρ : En) : Option En := match one with
  | true => (match tg with | [i] => some (setC ρ i (.v d)) | _ => none)
  | false => (match d with | .tup xs => setAll tg xs ρ | _ => none)
def ownC (own : Bool) (d : D) : Cell := match own, d with
  | true, .lst xs => .o xs
  | _, _ => .v d
def setPar : List (Nat × Bool) → List D → En → Option En
  | [], [], ρ => some ρ
  | (i, o) :: is, d :: ds, ρ => setPar is ds (setC ρ i (ownC o d))
  | _, _, _ => none

structure Mo where
  fn : Nat → List D → Fr
  wh : (En → Rs Bool) → (En → Rs Fl) → En → Rs Fl

def whileF (t : En → Rs Bool) (b : En → Rs Fl) : Nat → En → Option (Rs Fl)
  | 0, _ => none
  | n + 1, ρ => match t ρ with
    | .ok false ρ1 => some (.ok .nx ρ1)
    | .ok true ρ1 => (match b ρ1 with
      | .ok .nx ρ2 => whileF t b n (mask ρ ρ2)
      | .ok .ct ρ2 => whileF t b n (mask ρ ρ2)
      | .ok (.rt d) ρ2 => some (.ok (.rt d) ρ2)
      | .exc x ρ2 => some (.exc x ρ2)
      | .bad => some .bad)
    | .exc x ρ1 => some (.exc x ρ1)
    | .bad => some .bad
open Classical in
noncomputable def whileS (t : En → Rs Bool) (b : En → Rs Fl) (ρ : En) : Rs Fl :=
  if h : ∃ (n : Nat) (r : Rs Fl), whileF t b n ρ = some r then h.choose_spec.choose else .bad
def whileN (N : Nat) (t : En → Rs Bool) (b : En → Rs Fl) (ρ : En) : Rs Fl := (whileF t b N ρ).getD .bad

/-- what is raised within a block is out of this fragment -/
def Rs.nox {α : Type} : Rs α → Rs α
  | .ok a ρ => .ok a ρ
  | _ => .bad
@[simp] theorem nox_ok {α : Type} (a : α) (ρ : En) : (Rs.ok a ρ).nox = .ok a ρ := rfl
/-- items, one after another, into a new list -/
def lcS (vs tg : List Nat) (one : Bool) (c : En → Rs Bool) (e : En → Rs D) : List D → List D → En → Rs (List D)
  | [], acc, ρ => .ok acc ρ
  | x :: xs, acc, ρ => match bindTg tg one x (wipeC ρ vs) with
    | none => .bad
    | some ρ1 => (c ρ1).nox.bind fun b ρ2 => match b with
      | false => lcS vs tg one c e xs acc ρ2
      | true => (e ρ2).nox.bind fun d ρ3 => if acc.length < sizeLine then lcS vs tg one c e xs (acc ++ [d]) ρ3 else .bad
def lc2S (vs tg : List Nat) (one : Bool) (c : En → Rs Bool) (vs2 tg2 : List Nat) (one2 : Bool) (it2 : En → Rs (List D)) (c2 : En → Rs Bool) (e : En → Rs D) : List D → List D → En → Rs (List D)
  | [], acc, ρ => .ok acc ρ
  | x :: xs, acc, ρ => match bindTg tg one x (wipeC ρ vs) with
    | none => .bad
    | some ρ1 => (c ρ1).nox.bind fun b ρ2 => match b with
      | false => lc2S vs tg one c vs2 tg2 one2 it2 c2 e xs acc ρ2
      | true => (it2 ρ2).nox.bind fun ys ρ3 => (lcS vs2 tg2 one2 c2 e ys acc ρ3).bind fun acc2 ρ4 => lc2S vs tg one c vs2 tg2 one2 it2 c2 e xs acc2 ρ4
def forS (tg : List Nat) (one : Bool) (b : En → Rs Fl) : List D → En → Rs Fl
  | [], ρ => .ok .nx ρ
  | x :: xs, ρ => match bindTg tg one x ρ with
    | none => .bad
    | some ρ1 => (match b ρ1 with
      | .ok .nx ρ2 => forS tg one b xs (mask ρ ρ2)
      | .ok .ct ρ2 => forS tg one b xs (mask ρ ρ2)
      | .ok (.rt d) ρ2 => .ok (.rt d) ρ2
      | .exc x ρ2 => .exc x ρ2
      | .bad => .bad)
def rngD (a b : Int) : List D := (List.range (b - a).toNat).map fun k : Nat => D.int (a + (k : Int))
def enumD : Nat → List D → List D
  | _, [] => []
  | k, x :: xs => .tup [.int k, x] :: enumD (k + 1) xs
def zipD : List D → List D → List D
  | x :: xs, y :: ys => .tup [x, y] :: zipD xs ys
  | _, _ => []
def itemsD : D → Option (List D)
  | .lst xs | .tup xs | .scr xs => some xs
  | .str s => some (s.cps.toList.map fun c => .str ⟨#[c]⟩)
  | _ => none
def rOf {α : Type} (o : Option α) (ρ : En) : Rs α := match o with
  | some a => .ok a ρ
  | none => .bad
@[simp] theorem rOf_some {α : Type} (a : α) (ρ : En) : rOf (some a) ρ = .ok a ρ := rfl
@[simp] theorem rOf_none {α : Type} (ρ : En) : (rOf none ρ : Rs α) = .bad := rfl
def okRng (a b : Int) : Bool := decide (-(2 ^ 62) ≤ a) && decide (a < 2 ^ 62) && decide (-(2 ^ 62) ≤ b) && decide (b < 2 ^ 62)
def frV (r : Fr) (ρ : En) : Rs D := match r with
  | .ok d _ => .ok d ρ
  | .exc x => .exc x ρ
  | .bad => .bad

/-- the receiver's type -/
def mtTy : Op → D → Bool
  | .index, .lst _ => true
  | .index, _ => false
  | _, .str _ => true
  | _, _ => false
mutual
def ev (S : Mo) : Ex → En → Rs D
  | .cst d, ρ => .ok d ρ
  | .var i, ρ => (match getC ρ i with
    | .no => .bad
    | .v d => .ok d ρ
    | .o xs => .ok (.lst xs) (setC ρ i (.v (.lst xs))))
  | .rd i, ρ => (match getC ρ i with
    | .no => .bad
    | .v d => .ok d ρ
    | .o xs => .ok (.lst xs) ρ)
  | .vr i, ρ => (match getC ρ i with
    | .v d => .ok d ρ
    | _ => .bad)
  | .prim o es, ρ => (evs S es ρ).bind fun ds ρ => rOf (prim o ds) ρ
  | .chain o1 o2 a b c, ρ => (ev S a ρ).bind fun x ρ => (ev S b ρ).bind fun y ρ => match prim o1 [x, y] with
    | some (.bl true) => (ev S c ρ).bind fun z ρ => rOf (prim o2 [y, z]) ρ
    | some (.bl false) => .ok (.bl false) ρ
    | _ => .bad
  | .sl2 a l u, ρ => (ev S a ρ).bind fun x ρ => (ev S l ρ).bind fun y ρ => match y with
    | .int i => (ev S u ρ).bind fun z ρ => (match z with
      | .int j => rOf (sliceD x (some i) (some j)) ρ
      | _ => .bad)
    | _ => .bad
  | .meth o a b, ρ => (ev S a ρ).bind fun x ρ => match mtTy o x with
    | true => (ev S b ρ).bind fun y ρ => rOf (prim o [x, y]) ρ
    | false => .bad
  | .tst t, ρ => (evT S t ρ).bind fun b ρ => .ok (.bl b) ρ
  | .orV a b, ρ => (ev S a ρ).bind fun x ρ => match truth x with
    | some true => .ok x ρ
    | some false => ev S b ρ
    | none => .bad
  | .andV a b, ρ => (ev S a ρ).bind fun x ρ => match truth x with
    | some true => ev S b ρ
    | some false => .ok x ρ
    | none => .bad
  | .ite t a b, ρ => (evT S t ρ).bind fun c ρ => match c with
    | true => ev S a ρ
    | false => ev S b ρ
  | .call f es, ρ => (evs S es ρ).bind fun ds ρ => frV (S.fn f ds) ρ
  | .callB f es, ρ => (evs S es ρ).bind fun ds ρ => match S.fn f ds with
    | .ok d _ => if nol 9 d then .ok d ρ else .bad
    | .exc x => .exc x ρ
    | .bad => .bad
  | .callM f i es, ρ => (match getC ρ i with
    | .o _ => (evs S es ρ).bind fun ds ρ => (match getC ρ i with
      | .o xs => (match S.fn f (.lst xs :: ds) with
        | .ok d m => .ok d (setC ρ i (.o m))
        | _ => .bad)
      | _ => .bad)
    | _ => .bad)
  | .pop i, ρ => (match getC ρ i with
    | .o xs => (match xs[xs.length - 1]? with
      | some d => .ok d (setC ρ i (.o xs.dropLast))
      | none => .bad)
    | _ => .bad)
  | .popAt i e, ρ => (match getC ρ i with
    | .o _ => (ev S e ρ).bind fun k ρ => (match getC ρ i, k with
      | .o xs, .int k => if (decide (-(2 ^ 63) ≤ k) && decide (k < 2 ^ 63)) then (match seqIndex? k xs.length with
        | some j => (match xs[j]? with
          | some d => .ok d (setC ρ i (.o (xs.eraseIdx j)))
          | none => .bad)
        | none => .bad) else .bad
      | _, _ => .bad)
    | _ => .bad)
  | .lc e tg one it c vs, ρ => (evI S it ρ).bind fun xs ρ =>
      (lcS vs tg one (evT S c) (ev S e) xs [] ρ).bind fun ds ρ' => .ok (.lst ds) (backC ρ ρ' vs)
  | .lc2 e tg one it c tg2 one2 it2 c2 vs vs2, ρ => (evI S it ρ).bind fun xs ρ =>
      (lc2S vs tg one (evT S c) vs2 tg2 one2 (evI S it2) (evT S c2) (ev S e) xs [] ρ).bind fun ds ρ' => .ok (.lst ds) (backC ρ ρ' vs)
def evs (S : Mo) : Exs → En → Rs (List D)
  | .nil, ρ => .ok [] ρ
  | .cons e es, ρ => (ev S e ρ).bind fun d ρ => (evs S es ρ).bind fun ds ρ => .ok (d :: ds) ρ
def evT (S : Mo) : Tx → En → Rs Bool
  | .yes, ρ => .ok true ρ
  | .val e, ρ => (ev S e ρ).bind fun d ρ => rOf (truth d) ρ
  | .not t, ρ => (evT S t ρ).bind fun b ρ => .ok (!b) ρ
  | .and a b, ρ => (evT S a ρ).bind fun c ρ => match c with
    | true => evT S b ρ
    | false => .ok false ρ
  | .or a b, ρ => (evT S a ρ).bind fun c ρ => match c with
    | true => .ok true ρ
    | false => evT S b ρ
def evI (S : Mo) : It → En → Rs (List D)
  | .seq e, ρ => (ev S e ρ).bind fun d ρ => rOf (itemsD d) ρ
  | .rng1 a, ρ => (ev S a ρ).bind fun x ρ => match x with
    | .int n => if okRng 0 n then .ok (rngD 0 n) ρ else .bad
    | _ => .bad
  | .rng2 a b, ρ => (ev S a ρ).bind fun x ρ => (ev S b ρ).bind fun y ρ => match x, y with
    | .int m, .int n => if okRng m n then .ok (rngD m n) ρ else .bad
    | _, _ => .bad
  | .enum e, ρ => (ev S e ρ).bind fun d ρ => match d with
    | .lst xs | .tup xs => .ok (enumD 0 xs) ρ
    | _ => .bad
  | .zip a b, ρ => (ev S a ρ).bind fun x ρ => (ev S b ρ).bind fun y ρ => match x, y with
    | .lst xs, .lst ys | .tup xs, .tup ys => .ok (zipD xs ys) ρ
    | _, _ => .bad
end

/-- op= on ints -/
def augI : Op → Int → Int → Option D
  | .add, a, b => some (.int (a + b))
  | .sub, a, b => some (.int (a - b))
  | _, _, _ => none
def augD (o : Op) (x d : D) : Option D := match x, d with
  | .int a, .int b => augI o a b
  | _, _ => none
def hits (h c : Nat) : Bool := h == 3 || h == c
mutual
def exec (S : Mo) : Sm → En → Rs Fl
  | .asg i own e, ρ => (ev S e ρ).bind fun d ρ => .ok .nx (setC ρ i (ownC own d))
  | .unp is e, ρ => (ev S e ρ).bind fun d ρ => (match d with
    | .tup xs => (match setAll is xs ρ with
      | some ρ' => .ok .nx ρ'
      | none => .bad)
    | _ => .bad)
  | .par is es, ρ => (evs S es ρ).bind fun ds ρ => (match setPar is ds ρ with
    | some ρ' => .ok .nx ρ'
    | none => .bad)
  | .setIx i k e, ρ => (ev S e ρ).bind fun d ρ => (match getC ρ i with
    | .o _ => (ev S k ρ).bind fun j ρ => (match getC ρ i, j with
      | .o xs, .int j => (match L2.ixN xs.length j with
        | some m => .ok .nx (setC ρ i (.o (xs.set m d)))
        | none => .bad)
      | _, _ => .bad)
    | _ => .bad)
  | .app i e, ρ => (match getC ρ i with
    | .o _ => (ev S e ρ).bind fun d ρ => (match getC ρ i with
      | .o xs => if xs.length < sizeLine then .ok .nx (setC ρ i (.o (xs ++ [d]))) else .bad
      | _ => .bad)
    | _ => .bad)
  | .ext i e, ρ => (match getC ρ i with
    | .o _ => (ev S e ρ).bind fun d ρ => (match getC ρ i, d with
      | .o xs, .lst ys => if xs.length + ys.length ≤ sizeLine then .ok .nx (setC ρ i (.o (xs ++ ys))) else .bad
      | _, _ => .bad)
    | _ => .bad)
  | .aug i o e, ρ => (match getC ρ i with
    | .v x => (ev S e ρ).bind fun d ρ => (match augD o x d with
      | some r => .ok .nx (setC ρ i (.v r))
      | none => .bad)
    | _ => .bad)
  | .expr e, ρ => (ev S e ρ).bind fun _ ρ => .ok .nx ρ
  | .ret e, ρ => (ev S e ρ).bind fun d ρ => .ok (.rt d) ρ
  | .retF e, ρ => (ev S e ρ).bind fun d ρ => (match d with
    | .lst xs => .ok (.rt (.lst xs)) ρ
    | _ => .bad)
  | .retO i, ρ => (match getC ρ i with
    | .o xs => .ok (.rt (.lst xs)) ρ
    | _ => .bad)
  | .retN, ρ => .ok (.rt .non) ρ
  | .ite t a b, ρ => (evT S t ρ).bind fun c ρ => (match c with
    | true => execs S a ρ
    | false => execs S b ρ)
  | .whl t b, ρ => S.wh (evT S t) (execs S b) ρ
  | .for_ tg one it b, ρ => (evI S it ρ).bind fun xs ρ => forS tg one (execs S b) xs ρ
  | .raise c e, ρ => (ev S e ρ).bind fun d ρ => .exc ⟨c, d⟩ ρ
  | .try_ b hs, ρ => (match execs S b ρ with
    | .exc x ρ' => handle S hs x ρ'
    | r => r)
  | .pass, ρ => .ok .nx ρ
  | .cont, ρ => .ok .ct ρ
  | .bad, _ => .bad
def execs (S : Mo) : Sms → En → Rs Fl
  | .nil, ρ => .ok .nx ρ
  | .cons s r, ρ => (match exec S s ρ with
    | .ok .nx ρ => execs S r ρ
    | x => x)
def handle (S : Mo) : Hds → Exn → En → Rs Fl
  | .nil, x, ρ => .exc x ρ
  | .cons h i b r, x, ρ => (match hits h x.c with
    | true => (match i with
      | none => (match execs S b ρ with
        | .exc _ _ => .bad
        | r => r)
      | some i => (match execs S b (setC ρ i (.v (.exc x.c x.a))) with
        | .ok (.rt d) ρ' => if nexc 9 d then .ok (.rt d) (ρ'.map fun _ => .no) else .bad
        | _ => .bad))
    | false => handle S r x ρ)
end
def argCells : List D → En
  | [] => []
  | d :: ds => .v d :: argCells ds
/-- a def: m slots, io: its first parameter is a list that it may change -/
def runFn (S : Mo) (m : Nat) (io fr : Bool) (b : Sms) (args : List D) : Fr :=
  match io with
  | false => (match execs S b (argCells args ++ List.replicate (m - args.length) .no) with
    | .ok (.rt d) _ => .ok d []
    | .ok .nx _ => if fr then .bad else .ok .non []
    | .exc x _ => .exc x
    | _ => .bad)
  | true => (match args with
    | .lst xs :: ds => (match execs S b (.o xs :: (argCells ds ++ List.replicate (m - args.length) .no)) with
      | .ok (.rt d) ρ => (match getC ρ 0 with | .o ys => .ok d ys | _ => .bad)
      | .ok .nx ρ => (match getC ρ 0 with | .o ys => .ok .non ys | _ => .bad)
      | _ => .bad)
    | _ => .bad)
end PF

set_option Elab.async false
set_option linter.all false
/-! PF2: from the text's trees to the fragment. -/
namespace PF
open PySem PySem.Spec PyProof.Rows

structure SC where
  N : List Str
  sc : Scope
  fns : List (Str × Nat × Bool)
  ar : List (Nat × Nat)
  cst : List (Str × D)
  exs : List (Str × Nat)
  free : List Str
  mu : List Nat
  fresh : List Nat
  io : Bool
  wc : List Str
  hot : Bool := false

def okName (x : Str) : Bool := !(x == ("__debug__" : Str)) && !(x == ("__classdict__" : Str)) && !(x == ("__name__" : Str))
def slotOf (S : SC) (x : Str) : Option Nat := match S.sc.names.lookup x with
  | some .local | some .cell | some .free => if okName x then S.N.findIdx? (· == x) else none
  | _ => none
/-- a slot that may be stored to -/
def slotW (S : SC) (x : Str) : Option Nat := match S.sc.names.lookup x with
  | some .local => (S.N.findIdx? (· == x)).bind fun i => if S.io && i == 0 then none else some i
  | some .cell => if S.wc.contains x then (S.N.findIdx? (· == x)).bind fun i => if S.io && i == 0 then none else some i else none
  | _ => none
def cellsOf (sc : Scope) : List Str := sc.names.filterMap fun y => match y.2 with | .cell => some y.1 | _ => none
def isGl (S : SC) (x : Str) : Bool := match S.sc.names.lookup x with
  | some .globalImplicit => okName x
  | _ => false
def isBlt (S : SC) (x : Str) : Bool := isGl S x && S.free.contains x
def relT (scope sc : Scope) : Scope :=
  { scope with names := scope.names.map fun (n, k) => if (k == .free && sc.kind == .function && sc.names.lookup n == some .cell) then (n, .cell) else (n, k) }
def SC.blk (S : SC) (scope : Scope) : SC := { S with sc := relT scope S.sc, wc := cellsOf scope }
def ownNames (S : SC) (scope : Scope) : List Str := scope.names.filterMap fun y => match y.2 with
  | .local | .cell => some y.1
  | _ => none
def ownSlots (S : SC) (scope : Scope) : List (Str × Nat) := (ownNames S scope).filterMap fun x => (S.N.findIdx? (· == x)).map fun i => (x, i)

def within (is : List Nat) (own : List (Str × Nat)) : Bool := is.all fun i => (own.map (·.2)).contains i
def blkOk (S : SC) (scope : Scope) : Bool := L2.blkC S.N S.sc scope (ownSlots S scope) && (ownSlots S scope).all fun p => !(S.io && p.2 == 0)
mutual
def quiet : Ex → Bool
  | .cst _ | .rd _ | .vr _ => true
  | .var _ => false
  | .prim _ es => quiets es
  | .chain _ _ a b c => quiet a && quiet b && quiet c
  | .sl2 a b c => quiet a && quiet b && quiet c
  | .meth _ a b => quiet a && quiet b
  | .tst t => quietT t
  | .orV a b | .andV a b => quiet a && quiet b
  | .ite t a b => quietT t && quiet a && quiet b
  | .call _ es | .callB _ es => quiets es
  | .callM _ _ _ | .pop _ | .popAt _ _ => false
  | .lc e _ _ it c _ => quiet e && quietI it && quietT c
  | .lc2 e _ _ it c _ _ it2 c2 _ _ => quiet e && quietI it && quietT c && quietI it2 && quietT c2
def quiets : Exs → Bool
  | .nil => true
  | .cons e es => quiet e && quiets es
def quietT : Tx → Bool
  | .yes => true
  | .val e => quiet e
  | .not t => quietT t
  | .and a b | .or a b => quietT a && quietT b
def quietI : It → Bool
  | .seq e => quiet e
  | .rng1 a => quiet a
  | .rng2 a b | .zip a b => quiet a && quiet b
  | .enum e => quiet e
end

def binOp : Operator → Option Op
  | .Add => some .add | .Sub => some .sub | .Mult => some .mul | .FloorDiv => some .fdiv | .Mod => some .mod | .Pow => some .pow
  | .LShift => some .shl | .RShift => some .shr | .BitAnd => some .band | .BitOr => some .bor | .BitXor => some .bxor
  | _ => none
def cmpOp : CmpOp → Option Op
  | .Eq => some .eq | .NotEq => some .ne | .Lt => some .lt | .LtE => some .le | .Gt => some .gt | .GtE => some .ge
  | .Is => some .isN | .IsNot => some .notN | .In => some .inn | .NotIn => some .nin
def cL (f : Bool → Expr → Option Ex) (rd : Bool) : List Expr → Option Exs
  | [] => some .nil
  | e :: es => (f rd e).bind fun c => (cL f rd es).map fun r => .cons c r
/-- arguments of an operation: read, where nothing among them stirs -/
def cArgs (f : Bool → Expr → Option Ex) (es : List Expr) : Option Exs :=
  match cL f true es with
  | some r => if quiets r then some r else cL f false es
  | none => none
def bltHot : List (Str × Op) := [("len", .len), ("str", .str)]
def blt1 : List (Str × Op) := [("len", .len), ("abs", .abs), ("int", .int), ("bool", .bool), ("str", .str), ("sum", .sum), ("max", .max), ("min", .min), ("all", .all), ("any", .any), ("tuple", .tuple), ("list", .list), ("sorted", .sorted)]
def blt2 : List (Str × Op) := [("max", .max2), ("min", .min2)]
def bltOp (S : SC) (x : Str) (n : Nat) : Option Op := match S.hot, n with
  | true, 1 => bltHot.lookup x
  | false, 1 => blt1.lookup x
  | false, 2 => blt2.lookup x
  | _, _ => none
def tyTab : List (Str × Ty) := [("int", .int), ("bool", .bool), ("str", .str), ("tuple", .tuple), ("list", .list), ("ValueError", .verr)]
def mtTab : List (Str × Op) := [("index", .index), ("partition", .partition), ("split", .split), ("join", .join)]
def tyOf (S : SC) (x : Str) : Option Ty :=
  if isBlt S x then tyTab.lookup x
  else if isGl S x then (S.exs.lookup x).map .exc else none
def mtOp (m : Str) : Option Op := mtTab.lookup m
def cNames (S : SC) : List Expr → Option (List Nat)
  | [] => some []
  | .Name x _ :: r => (slotW S x).bind fun i => (cNames S r).map fun is => i :: is
  | _ => none
def cTg (S : SC) : Expr → Option (List Nat × Bool)
  | .Name x _ => (slotW S x).map fun i => ([i], true)
  | .Tuple es _ _ => (cNames S es).map fun is => (is, false)
  | _ => none
/-- a list that this def changes is among the arguments -/
def isMu (S : SC) : List Expr → Bool
  | [] => false
  | .Name x _ :: r => (match slotOf S x with | some i => S.mu.contains i | none => false) || isMu S r
  | _ :: r => isMu S r
def cMeth (o : Op) : Exs → Option Ex
  | .cons a (.cons b .nil) => some (.meth o a b)
  | _ => none
/-- no call of super() as a method's object -/
def notSuper : Expr → Bool
  | .Call (.Name x _) [] [] _ => !(x == ("super" : Str))
  | _ => true
def cConst : Const → Option D
  | .none => some .non
  | .bool b => some (.bl b)
  | .int i => some (.int i)
  | .str x => some (.str x)
  | _ => none
def vOp : BoolOp → Ex → Ex → Ex
  | .And, a, b => .andV a b
  | .Or, a, b => .orV a b
def tOpx : BoolOp → Tx → Tx → Tx
  | .And, a, b => .and a b
  | .Or, a, b => .or a b
def cAnds (f : Expr → Option Tx) (op : BoolOp) : List Expr → Option Tx
  | [] => none
  | [e] => f e
  | e :: r => (f e).bind fun a => (cAnds f op r).map fun b => tOpx op a b
def cVals (f : Expr → Option Ex) (op : BoolOp) : List Expr → Option Ex
  | [] => none
  | [e] => f e
  | e :: r => (f e).bind fun a => (cVals f op r).map fun b => vOp op a b
def cTest (g : SC → Bool → Expr → Option Ex) : Nat → SC → Expr → Option Tx
  | 0, _, _ => none
  | n + 1, S, e => match e with
    | .UnaryOp .Not x _ => (cTest g n S x).map .not
    | .BoolOp op vs _ => cAnds (cTest g n S) op vs
    | .IfExp .. => none
    | e => (g S true e).map .val
def isComp : Expr → Bool
  | .ListComp .. => true
  | _ => false
def isTup : Expr → Bool
  | .Tuple .. => true
  | _ => false
def it2 (f : Ex → Ex → It) (rd : Bool) : Exs → Option It
  | .cons c (.cons d .nil) => if !rd || (quiet c && quiet d) then some (f c d) else none
  | _ => none
/-- tp: the target is a row of names -/
def cIter (g : SC → Bool → Expr → Option Ex) (S : SC) (rd tp : Bool) (e : Expr) : Option It := match e with
  | .Call (.Name x p) [a] [] q =>
    if x = "range" then (if isBlt S x then (g S true a).map .rng1 else none)
    else if x = "enumerate" then (if isBlt S x && tp then (g S rd a).map .enum else none)
    else (g S rd e).map .seq
  | .Call (.Name x p) [a, b] [] q =>
    if x = "range" then (if isBlt S x then (cL (g S) true [a, b]).bind fun r => it2 .rng2 true r else none)
    else if x = "zip" then (if isBlt S x && tp then (cL (g S) rd [a, b]).bind fun r => it2 .zip rd r else none)
    else (g S rd e).map .seq
  | e => (g S rd e).map .seq
def cIf (g : SC → Bool → Expr → Option Ex) (n : Nat) (S : SC) : List Expr → Option Tx
  | [] => some .yes
  | [t] => cTest g n S t
  | _ => none

def cE : Nat → SC → Bool → Expr → Option Ex
  | 0, _, _, _ => none
  | n + 1, S, rd, e => match e with
    | .Constant c _ _ => (cConst c).map .cst
    | .Name x _ => (match slotOf S x with
      | some i => if S.mu.contains i then (if rd then some (.rd i) else if S.io && i == 0 then none else some (.var i)) else some (.vr i)
      | none => if isGl S x then (S.cst.lookup x).map .cst else none)
    | .BinOp a op b _ => (binOp op).bind fun o => (cArgs (cE n S) [a, b]).map fun es => .prim o es
    | .UnaryOp .USub a _ => (cArgs (cE n S) [a]).map fun es => .prim .neg es
    | .UnaryOp .Not a _ => (cE n S true a).map fun c => .tst (.not (.val c))
    | .BoolOp op vs _ => cVals (cE n S false) op vs
    | .Compare a [op] [b] _ => (cmpOp op).bind fun o => (cArgs (cE n S) [a, b]).map fun es => .prim o es
    | .Compare a [op, op'] [b, c] _ => (cmpOp op).bind fun o => (cmpOp op').bind fun o' => (cE n S true a).bind fun x => (cE n S true b).bind fun y => (cE n S true c).bind fun z =>
        if quiet x && quiet y && quiet z then some (.chain o o' x y z) else none
    | .IfExp t a b _ => (cTest (cE n) n S t).bind fun t => (cE n S false a).bind fun x => (cE n S false b).map fun y => .ite t x y
    | .Tuple es _ _ => (cL (cE n S) false es).map fun r => .prim .tup r
    | .List es _ => (cL (cE n S) false es).map fun r => .prim .lst r
    | .Subscript a (.Slice none none (some (.UnaryOp .USub (.Constant (.int 1) _ _) _)) _) _ => (cArgs (cE n S) [a]).map fun r => .prim .rev r
    | .Subscript a (.Slice (some l) (some u) none _) _ => (cE n S true a).bind fun x => (cE n S true l).bind fun y => (cE n S true u).bind fun z => if quiet x && quiet y && quiet z then some (.sl2 x y z) else none
    | .Subscript a (.Slice lo hi none _) _ => (cArgs (cE n S) (a :: (lo.toList ++ hi.toList))).map fun r => .prim (.slice lo.isSome hi.isSome) r
    | .Subscript a b _ => (cArgs (cE n S) [a, b]).map fun r => .prim .ix r
    | .Call (.Name x _) es [] _ =>
      if isBlt S x then
        (if x = "isinstance" then if S.hot then none else (match es with
          | [a, .Name t _] => (tyOf S t).bind fun t => (cArgs (cE n S) [a]).map fun r => .prim (.isinst t) r
          | _ => none)
        else (bltOp S x es.length).bind fun o => (cArgs (cE n S) es).map fun r => .prim o r)
      else if isGl S x && !S.hot then (match S.fns.lookup x with
        | some (f, false) => if S.ar.lookup f = some es.length then (if isMu S es then (cL (cE n S) true es).bind fun r => if quiets r then some (.callB f r) else none
          else (cL (cE n S) false es).map fun r => .call f r) else none
        | some (f, true) => if S.ar.lookup f = some es.length then (match es with
          | .Name y _ :: es' => (slotOf S y).bind fun i => (cL (cE n S) false es').map fun r => .callM f i r
          | _ => none) else none
        | none => none)
      else none
    | .Call (.Attribute a m apos) es [] cpos =>
      if apos.endLine == cpos.line && notSuper a then
        (if m = "pop" then (match a with
          | .Name x _ => (slotOf S x).bind fun i => (match es with
            | [] => some (.pop i)
            | [k] => (cE n S true k).map fun c => .popAt i c
            | _ => none)
          | _ => none)
        else (match es with
          | [e] => (mtOp m).bind fun o => (cArgs (cE n S) [a, e]).bind fun r => cMeth o r
          | _ => none))
      else none
    | .ListComp elt [⟨tg, iter, ifs, 0⟩] scope _ => if S.hot || !blkOk S scope then none else (cTg (S.blk scope) tg).bind fun t => (cE n (S.blk scope) false elt).bind fun c =>
        (cIf (cE n) n (S.blk scope) ifs).bind fun k => (cIter (cE n) S (quiet c && quietT k) (isTup tg) iter).bind fun it => if within t.1 (ownSlots S scope) then some (.lc c t.1 t.2 it k ((ownSlots S scope).map (·.2))) else none
    | .ListComp elt [⟨tg, iter, ifs, 0⟩, ⟨tg2, iter2, ifs2, 0⟩] scope _ => if S.hot || !blkOk S scope then none else (cTg (S.blk scope) tg).bind fun t => (cTg (S.blk scope) tg2).bind fun t2 =>
        (cE n (S.blk scope) false elt).bind fun c => (cIf (cE n) n (S.blk scope) ifs).bind fun k => (cIf (cE n) n (S.blk scope) ifs2).bind fun k2 =>
        (cIter (cE n) (S.blk scope) false (isTup tg2) iter2).bind fun it2 => (cIter (cE n) S (quiet c && quietT k && quietT k2 && quietI it2) (isTup tg) iter).bind fun it =>
          if within t.1 (ownSlots S scope) && within t2.1 (ownSlots S scope) then some (.lc2 c t.1 t.2 it k t2.1 t2.2 it2 k2 ((ownSlots S scope).map (·.2)) t2.1) else none
    | _ => none

/-- an expression that makes a list of its own -/
def maker (S : SC) : Nat → Expr → Bool
  | _, .List .. | _, .ListComp .. => true
  | _, .BinOp _ .Add _ _ | _, .BinOp _ .Mult _ _ => true
  | _, .Subscript _ (.Slice ..) _ => true
  | _, .Call (.Name x _) es _ _ => (isBlt S x && (x = "list" || x = "sorted")) || (!isBlt S x && !isMu S es && (match S.fns.lookup x with | some (f, false) => S.fresh.contains f | _ => false))
  | n + 1, .IfExp _ a b _ => maker S n a && maker S n b
  | _, _ => false
def ownOf (S : SC) (i : Nat) (e : Expr) : Bool := S.mu.contains i && maker S 3 e
def cPar (S : SC) : List Expr → List Expr → Option (List (Nat × Bool))
  | [], [] => some []
  | .Name x _ :: ts, e :: es => (slotW S x).bind fun i => (cPar S ts es).map fun r => (i, ownOf S i e) :: r
  | _, _ => none
/-- plain local names on one line -/
def loc1 (S : SC) (l : Nat) : Expr → Option Str
  | .Name x p => if S.sc.names.lookup x == some .local && p.line == l then some x else none
  | _ => none
/-- how a row is stored: all constants, or many; or two or three names that are swapped -/
def rowOk (S : SC) (ts es : List Expr) : Bool := decide (es.length ≤ 100) && (es.all (foldedForSure 8) || decide (3 < ts.length) || ((match S.sc.kind with | .function => true | _ => false) && !es.all (foldedForSure 8) && !es.all (constantsAlone 8) && (match ts with
  | [a, b] => (match loc1 S a.pos.line a, loc1 S a.pos.line b with
    | some x, some y => !(x == y)
    | _, _ => false)
  | [a, b, c] => (match loc1 S a.pos.line a, loc1 S a.pos.line b, loc1 S a.pos.line c with
    | some x, some y, some z => !(x == y) && !(x == z) && !(y == z)
    | _, _, _ => false)
  | _ => false)))
def excOf (S : SC) (x : Str) : Option Nat := if isGl S x then S.exs.lookup x else none

mutual
def cS : Nat → SC → Bool → Stmt → Option Sm
  | 0, _, _, _ => none
  | n + 1, S, fr, st => match st with
    | .Assign [.Name x _] e _ => (slotW S x).bind fun i => (cE n S false e).map fun c => .asg i (ownOf S i e) c
    | .Assign [.Tuple ts _ _] (.Tuple es _ _) _ => if S.hot || !rowOk S ts es then none else (cPar S ts es).bind fun is => (cL (cE n S) false es).map fun r => .par is r
    | .Assign [.Tuple ts a b] e _ => if S.hot || isComp e then none else (cTg S (.Tuple ts a b)).bind fun t => (cE n S false e).map fun c => .unp t.1 c
    | .Assign [.Subscript (.Name x _) k _] e _ => (slotOf S x).bind fun i => (cE n S false e).bind fun c => (cE n S true k).map fun j => .setIx i j c
    | .AugAssign (.Name x _) op e _ => (slotW S x).bind fun i => (binOp op).bind fun o => (cE n S true e).map fun c => .aug i o c
    | .Expr (.Call (.Attribute (.Name x _) m apos) [e] [] cpos) _ =>
      if !(apos.endLine == cpos.line) then none
      else if m = "append" then (slotOf S x).bind fun i => (cE n S false e).map fun c => .app i c
      else if m = "extend" then (slotOf S x).bind fun i => (cE n S false e).map fun c => .ext i c
      else none
    | .Expr e _ => if isComp e then none else (cE n S true e).map .expr
    | .Return none _ => if fr then none else some .retN
    | .Return (some e) _ => if fr then (match e with
      | .Name x _ => if S.io then none else (slotOf S x).map .retO
      | e => if maker S 3 e then (cE n S false e).map .retF else none) else (cE n S false e).map .ret
    | .If t a b _ => (cTest (cE n) n S t).bind fun c => (cSs n S fr a).bind fun x => (cSs n S fr b).map fun y => .ite c x y
    | .While t b [] _ => (cTest (cE n) n S t).bind fun c => (cSs n S fr b).map fun x => .whl c x
    | .For tg it b [] _ => if S.hot then none else (cTg S tg).bind fun t => (cIter (cE n) S false (isTup tg) it).bind fun i => (cSs n S fr b).map fun x => .for_ t.1 t.2 i x
    | .Raise (some (.Call (.Name x _) [e] [] _)) none _ => if S.hot then none else (excOf S x).bind fun c => match c, e with
      | 0, .Constant (.str _) _ _ => some (.raise 0 (.cst .non))
      | _, _ => none
    | .Try b (h :: hs) [] [] _ => if S.hot then none else (cSs n S fr b).bind fun x => (cHs n S fr (h :: hs)).map fun y => .try_ x y
    | .Pass _ => some .pass
    | .Continue _ => some .cont
    | _ => none
def cSs : Nat → SC → Bool → List Stmt → Option Sms
  | 0, _, _, _ => none
  | _ + 1, _, _, [] => some .nil
  | n + 1, S, fr, s :: r => (cS n S fr s).bind fun c => (cSs n S fr r).map fun d => .cons c d
def cHs : Nat → SC → Bool → List ExceptHandler → Option Hds
  | 0, _, _, _ => none
  | _ + 1, _, _, [] => some .nil
  | n + 1, S, fr, .ExceptHandler (some (.Name x _)) nm b _ :: r => if b.isEmpty then none else (excOf S x).bind fun c => (match nm with
      | none => some (none, (cSs n { S with hot := true } fr b).getD (.cons .bad .nil))
      | some y => (if S.sc.names.lookup y == some NameKind.local then S.N.findIdx? (· == y) else none).map fun i => (some i, .cons .bad .nil)).bind fun k => (cHs n S fr r).map fun d => .cons c k.1 k.2 d
  | _, _, _, _ => none
end
end PF

set_option Elab.async false
set_option linter.all false
set_option maxRecDepth 100000
/-! PF3: values of the fragment in the abstract heap: what is frozen, what is owned. -/
namespace PF
open PySem PySem.Spec PyProof.Rows L2

/-- what is fixed: the written part, exceptions that are handled, the error classes -/
structure Cn where
  K : PySem.W.Frag
  px : Addr → Value → Option Addr → Prop
  ea : Nat → Addr
  ex : Nat → Bool
/-- a list of the written part -/
def KL (K : PySem.W.Frag) (a : Addr) (xs : List V) : Prop :=
  ∃ (o : Obj) (its : Array Value) (n : Nat), K.lookup a = some o ∧ o.cls = .type "list" ∧ o.dict = none ∧ o.data = .seq its n ∧ its.size ≤ sizeLine ∧ Vals xs its.toList
def fldOf (c : Nat) : Str := if c = 1 then "reason" else "at"
def scV : V → D → Prop
  | .int i, .int j => i = j
  | .str x, .str y => x = y
  | _, _ => False
def exv (C : Cn) (H : Hp) (cls : Value) (dd : Option Addr) (c : Nat) (x : D) : Prop :=
  cls = .ref (C.ea c) ∧ C.ex c = true ∧ ((c = 0 ∧ dd = none) ∨ ∃ d v, dd = some d ∧ (c = 1 ∨ c = 2) ∧ H d = some (.xd [(fldOf c, v)]) ∧ scV v x)
mutual
inductive Fz (C : Cn) (H : Hp) (Z : Addr → Prop) : V → D → Prop
  | non : Fz C H Z .non .non
  | bl (b : Bool) : Fz C H Z (.bl b) (.bl b)
  | int (i : Int) : Fz C H Z (.int i) (.int i)
  | str (x : Str) : Fz C H Z (.str x) (.str x)
  | lst {a : Addr} {xs : List V} {ds : List D} : H a = some (.lst xs) → Z a → FzAll C H Z xs ds → Fz C H Z (.ref a) (.lst ds)
  | tup {a : Addr} {xs : List V} {ds : List D} : SqT C.K H a xs → FzAll C H Z xs ds → Fz C H Z (.ref a) (.tup ds)
  | scrF {a : Addr} {o : Obj} {xs : List V} {ds : List D} : H a = some (.frz o (.lst xs)) → FzAll C H Z xs ds → Fz C H Z (.ref a) (.scr ds)
  | scrK {a : Addr} {xs : List V} {ds : List D} : KL C.K a xs → FzAll C H Z xs ds → Fz C H Z (.ref a) (.scr ds)
  | exc {a : Addr} {cls : Value} {dd : Option Addr} {c : Nat} {x : D} : C.px a cls dd → exv C H cls dd c x → Fz C H Z (.ref a) (.exc c x)
inductive FzAll (C : Cn) (H : Hp) (Z : Addr → Prop) : List V → List D → Prop
  | nil : FzAll C H Z [] []
  | cons {v : V} {vs : List V} {d : D} {ds : List D} : Fz C H Z v d → FzAll C H Z vs ds → FzAll C H Z (v :: vs) (d :: ds)
end
/-- all that does not change by itself, and what is frozen, is as it was -/
def Keep (Z : Addr → Prop) (H H' : Hp) : Prop := ∀ a o, H a = some o → (Mut (some o) → Z a) → H' a = some o
theorem Keep.refl (Z : Addr → Prop) (H : Hp) : Keep Z H H := fun _ _ h _ => h
theorem Keep.of_same {Z : Addr → Prop} {H H' : Hp} (h : Same H H') : Keep Z H H' := fun a o e _ => h a o e
theorem Keep.trans {Z Z' : Addr → Prop} {H H1 H2 : Hp} (h : Keep Z H H1) (z : ∀ a, Z a → Z' a) (h2 : Keep Z' H1 H2) : Keep Z H H2 :=
  fun a o e m => h2 a o (h a o e m) fun q => z a (m q)
theorem SqT.keep {K : PySem.W.Frag} {Z : Addr → Prop} {H H' : Hp} {a : Addr} {xs : List V} (k : Keep Z H H') (h : SqT K H a xs) : SqT K H' a xs := by
  rcases h with (h | ⟨o, h⟩) | h
  · exact .inl (.inl (k _ _ h fun q => q.elim))
  · exact .inl (.inr ⟨o, k _ _ h fun q => q.elim⟩)
  · exact .inr h
theorem exv.keep {C : Cn} {Z : Addr → Prop} {H H' : Hp} {cls : Value} {dd : Option Addr} {c : Nat} {x : D} (k : Keep Z H H') (h : exv C H cls dd c x) : exv C H' cls dd c x := by
  obtain ⟨e, e', h⟩ := h
  refine ⟨e, e', ?_⟩
  rcases h with h | ⟨d, v, e1, e2, e3, e4⟩
  · exact .inl h
  · exact .inr ⟨d, v, e1, e2, k _ _ e3 fun q => q.elim, e4⟩
mutual
theorem Fz.keep {C : Cn} {H H' : Hp} {Z Z' : Addr → Prop} (k : Keep Z H H') (z : ∀ a, Z a → Z' a) : ∀ {v : V} {d : D}, Fz C H Z v d → Fz C H' Z' v d
  | _, _, .non => .non
  | _, _, .bl b => .bl b
  | _, _, .int i => .int i
  | _, _, .str x => .str x
  | _, _, .lst h hz r => .lst (k _ _ h fun _ => hz) (z _ hz) (FzAll.keep k z r)
  | _, _, .tup h r => .tup (SqT.keep k h) (FzAll.keep k z r)
  | _, _, .scrF h r => .scrF (k _ _ h fun q => q.elim) (FzAll.keep k z r)
  | _, _, .scrK h r => .scrK h (FzAll.keep k z r)
  | _, _, .exc p h => .exc p (exv.keep k h)
theorem FzAll.keep {C : Cn} {H H' : Hp} {Z Z' : Addr → Prop} (k : Keep Z H H') (z : ∀ a, Z a → Z' a) : ∀ {vs : List V} {ds : List D}, FzAll C H Z vs ds → FzAll C H' Z' vs ds
  | _, _, .nil => .nil
  | _, _, .cons h t => .cons (Fz.keep k z h) (FzAll.keep k z t)
end

theorem FzAll.length {C : Cn} {H : Hp} {Z : Addr → Prop} : ∀ {vs : List V} {ds : List D}, FzAll C H Z vs ds → vs.length = ds.length
  | _, _, .nil => rfl
  | _, _, .cons _ t => congrArg Nat.succ (FzAll.length t)
theorem FzAll.get {C : Cn} {H : Hp} {Z : Addr → Prop} : ∀ {vs : List V} {ds : List D} {i : Nat} {d : D}, FzAll C H Z vs ds → ds[i]? = some d → ∃ v, vs[i]? = some v ∧ Fz C H Z v d
  | _, _, _, _, .nil, e => by cases e
  | _, _, 0, _, .cons h _, e => by cases e; exact ⟨_, rfl, h⟩
  | _, _, i + 1, _, .cons _ t, e => by
    obtain ⟨v, h1, h2⟩ := FzAll.get (i := i) t (by simpa using e)
    exact ⟨v, by simpa using h1, h2⟩
theorem FzAll.append {C : Cn} {H : Hp} {Z : Addr → Prop} : ∀ {vs ws : List V} {ds es : List D}, FzAll C H Z vs ds → FzAll C H Z ws es → FzAll C H Z (vs ++ ws) (ds ++ es)
  | _, _, _, _, .nil, h => h
  | _, _, _, _, .cons h t, h2 => .cons h (FzAll.append t h2)
theorem FzAll.one {C : Cn} {H : Hp} {Z : Addr → Prop} {v : V} {d : D} (h : Fz C H Z v d) : FzAll C H Z [v] [d] := .cons h .nil
theorem FzAll.take {C : Cn} {H : Hp} {Z : Addr → Prop} : ∀ (n : Nat) {vs : List V} {ds : List D}, FzAll C H Z vs ds → FzAll C H Z (vs.take n) (ds.take n)
  | 0, _, _, _ => .nil
  | _ + 1, _, _, .nil => .nil
  | n + 1, _, _, .cons h t => .cons h (FzAll.take n t)
theorem FzAll.drop {C : Cn} {H : Hp} {Z : Addr → Prop} : ∀ (n : Nat) {vs : List V} {ds : List D}, FzAll C H Z vs ds → FzAll C H Z (vs.drop n) (ds.drop n)
  | 0, _, _, h => h
  | _ + 1, _, _, .nil => .nil
  | n + 1, _, _, .cons _ t => FzAll.drop n t
theorem FzAll.set {C : Cn} {H : Hp} {Z : Addr → Prop} {v : V} {d : D} (q : Fz C H Z v d) : ∀ (n : Nat) {vs : List V} {ds : List D}, FzAll C H Z vs ds → FzAll C H Z (vs.set n v) (ds.set n d)
  | _, _, _, .nil => .nil
  | 0, _, _, .cons _ t => .cons q t
  | n + 1, _, _, .cons h t => .cons h (FzAll.set q n t)
theorem FzAll.erase {C : Cn} {H : Hp} {Z : Addr → Prop} : ∀ (n : Nat) {vs : List V} {ds : List D}, FzAll C H Z vs ds → FzAll C H Z (vs.eraseIdx n) (ds.eraseIdx n)
  | _, _, _, .nil => .nil
  | 0, _, _, .cons _ t => t
  | n + 1, _, _, .cons h t => .cons h (FzAll.erase n t)
theorem FzAll.rev {C : Cn} {H : Hp} {Z : Addr → Prop} : ∀ {vs : List V} {ds : List D}, FzAll C H Z vs ds → FzAll C H Z vs.reverse ds.reverse
  | _, _, .nil => .nil
  | _, _, .cons h t => by
    rw [List.reverse_cons, List.reverse_cons]
    exact FzAll.append (FzAll.rev t) (.one h)
theorem FzAll.dropLast {C : Cn} {H : Hp} {Z : Addr → Prop} {vs : List V} {ds : List D} (h : FzAll C H Z vs ds) : FzAll C H Z vs.dropLast ds.dropLast := by
  rw [List.dropLast_eq_take, List.dropLast_eq_take, h.length]
  exact h.take _
theorem FzAll.rep {C : Cn} {H : Hp} {Z : Addr → Prop} {vs : List V} {ds : List D} (h : FzAll C H Z vs ds) : ∀ k : Nat, FzAll C H Z (List.replicate k vs).flatten (List.replicate k ds).flatten
  | 0 => .nil
  | k + 1 => by
    rw [List.replicate_succ, List.replicate_succ, List.flatten_cons, List.flatten_cons]
    exact FzAll.append h (FzAll.rep h k)
theorem FzAll.get' {C : Cn} {H : Hp} {Z : Addr → Prop} : ∀ {vs : List V} {ds : List D} {i : Nat} {v : V}, FzAll C H Z vs ds → vs[i]? = some v → ∃ d, ds[i]? = some d ∧ Fz C H Z v d
  | _, _, _, _, .nil, e => by cases e
  | _, _, 0, _, .cons h _, e => by cases e; exact ⟨_, rfl, h⟩
  | _, _, i + 1, _, .cons _ t, e => by
    obtain ⟨v, h1, h2⟩ := FzAll.get' (i := i) t (by simpa using e)
    exact ⟨v, by simpa using h1, h2⟩
/-- as it is read: frozen, or a list of one's own -/
def Rv (C : Cn) (H : Hp) (Z : Addr → Prop) (v : V) (d : D) : Prop :=
  Fz C H Z v d ∨ ∃ a xs ds, v = .ref a ∧ d = .lst ds ∧ H a = some (.lst xs) ∧ FzAll C H Z xs ds
theorem Rv.lst {C : Cn} {H : Hp} {Z : Addr → Prop} {v : V} {ds : List D} (h : Rv C H Z v (.lst ds)) : ∃ a xs, v = .ref a ∧ H a = some (.lst xs) ∧ FzAll C H Z xs ds := by
  rcases h with h | ⟨a, xs, es, rfl, e, h1, h2⟩
  · cases h with
    | lst h1 _ h2 => exact ⟨_, _, rfl, h1, h2⟩
  · cases e; exact ⟨a, xs, rfl, h1, h2⟩
theorem Rv.fz {C : Cn} {H : Hp} {Z : Addr → Prop} {v : V} {d : D} (h : Rv C H Z v d) (n : ∀ ds, d ≠ .lst ds) : Fz C H Z v d := by
  rcases h with h | ⟨a, xs, es, rfl, e, h1, h2⟩
  · exact h
  · exact absurd e (n _)
theorem Rv.int {C : Cn} {H : Hp} {Z : Addr → Prop} {v : V} {i : Int} (h : Rv C H Z v (.int i)) : v = .int i := by
  cases h.fz (fun _ e => nomatch e); rfl
theorem Rv.bl {C : Cn} {H : Hp} {Z : Addr → Prop} {v : V} {i : Bool} (h : Rv C H Z v (.bl i)) : v = .bl i := by
  cases h.fz (fun _ e => nomatch e); rfl
theorem Rv.str {C : Cn} {H : Hp} {Z : Addr → Prop} {v : V} {i : Str} (h : Rv C H Z v (.str i)) : v = .str i := by
  cases h.fz (fun _ e => nomatch e); rfl
theorem Rv.non {C : Cn} {H : Hp} {Z : Addr → Prop} {v : V} (h : Rv C H Z v .non) : v = .non := by
  cases h.fz (fun _ e => nomatch e); rfl
theorem Rv.tup {C : Cn} {H : Hp} {Z : Addr → Prop} {v : V} {ds : List D} (h : Rv C H Z v (.tup ds)) : ∃ a xs, v = .ref a ∧ SqT C.K H a xs ∧ FzAll C H Z xs ds := by
  cases h.fz (fun _ e => nomatch e) with
  | tup h1 h2 => exact ⟨_, _, rfl, h1, h2⟩
theorem Rv.scr {C : Cn} {H : Hp} {Z : Addr → Prop} {v : V} {ds : List D} (h : Rv C H Z v (.scr ds)) : ∃ a xs, v = .ref a ∧ SqL C.K H a xs ∧ FzAll C H Z xs ds := by
  cases h.fz (fun _ e => nomatch e) with
  | scrF h1 h2 => exact ⟨_, _, rfl, .inl (.inr ⟨_, h1⟩), h2⟩
  | scrK h1 h2 => exact ⟨_, _, rfl, .inr h1, h2⟩
theorem Rv.same {C : Cn} {H H' : Hp} {Z Z' : Addr → Prop} {v : V} {d : D} (s : Same H H') (z : ∀ a, Z a → Z' a) (h : Rv C H Z v d) : Rv C H' Z' v d := by
  rcases h with h | ⟨a, xs, es, e1, e2, h1, h2⟩
  · exact .inl (h.keep (Keep.of_same s) z)
  · exact .inr ⟨a, xs, es, e1, e2, s _ _ h1, h2.keep (Keep.of_same s) z⟩
def Rm (m : Bool) (C : Cn) (H : Hp) (Z : Addr → Prop) (v : V) (d : D) : Prop := match m with
  | true => Rv C H Z v d
  | false => Fz C H Z v d
theorem Rm.rv {m : Bool} {C : Cn} {H : Hp} {Z : Addr → Prop} {v : V} {d : D} (h : Rm m C H Z v d) : Rv C H Z v d := by
  cases m with
  | true => exact h
  | false => exact .inl h
inductive RmAll (m : Bool) (C : Cn) (H : Hp) (Z : Addr → Prop) : List V → List D → Prop
  | nil : RmAll m C H Z [] []
  | cons {v : V} {vs : List V} {d : D} {ds : List D} : Rm m C H Z v d → RmAll m C H Z vs ds → RmAll m C H Z (v :: vs) (d :: ds)
theorem RmAll.fz {C : Cn} {H : Hp} {Z : Addr → Prop} {vs : List V} {ds : List D} (h : RmAll false C H Z vs ds) : FzAll C H Z vs ds := by
  induction h with
  | nil => exact .nil
  | cons h _ ih => exact .cons h ih
theorem RmAll.rv {m : Bool} {C : Cn} {H : Hp} {Z : Addr → Prop} {vs : List V} {ds : List D} (h : RmAll m C H Z vs ds) : RmAll true C H Z vs ds := by
  induction h with
  | nil => exact .nil
  | cons h _ ih => exact .cons h.rv ih

/-! ### environments -/
structure Bs where
  H0 : Hp
  Z0 : Addr → Prop
  io : Option Addr
  z0 : ∀ a, Z0 a → ∃ o, H0 a = some o
structure Rel (C : Cn) (B : Bs) (Z : Addr → Prop) (H : Hp) (σ : L2.St) (ρ : En) : Prop where
  len : σ.length = ρ.length
  val : ∀ i d, getC ρ i = .v d → ∃ v, σ[i]? = some (some v) ∧ Fz C H Z v d
  own : ∀ i ds, getC ρ i = .o ds → ∃ a xs, σ[i]? = some (some (.ref a)) ∧ H a = some (.lst xs) ∧ FzAll C H Z xs ds ∧ ¬ Z a ∧ (B.H0 a = none ∨ B.io = some a)
  dis : ∀ i j a ds es, i ≠ j → getC ρ i = .o ds → getC ρ j = .o es → σ[i]? = some (some (.ref a)) → σ[j]? = some (some (.ref a)) → False
  frm : ∀ a o, B.H0 a = some o → B.io ≠ some a → H a = some o
  zin : ∀ a, Z a → B.Z0 a ∨ B.H0 a = none
  ztr : ∀ a, Z a → ∃ o, H a = some o
  io0 : ∀ a, B.io = some a → σ[0]? = some (some (.ref a)) ∧ ∃ ds, getC ρ 0 = .o ds
theorem getC_set {ρ : En} {i j : Nat} {c : Cell} : getC (setC ρ i c) j = if i = j then (if i < ρ.length then c else .no) else getC ρ j := by
  unfold getC setC
  rw [List.getD_eq_getElem?_getD, List.getD_eq_getElem?_getD, List.getElem?_set]
  split
  · split <;> rfl
  · rfl
theorem getC_lt {ρ : En} {i : Nat} {c : Cell} (h : getC ρ i = c) (n : c ≠ .no) : i < ρ.length := by
  apply Classical.byContradiction
  intro q
  unfold getC at h
  rw [List.getD_eq_getElem?_getD, List.getElem?_eq_none (Nat.le_of_not_lt q)] at h
  exact n h.symm
theorem getC_set_self {ρ : En} {i : Nat} {c : Cell} (h : i < ρ.length) : getC (setC ρ i c) i = c := by rw [getC_set, if_pos rfl, if_pos h]
theorem getC_set_ne {ρ : En} {i j : Nat} {c : Cell} (h : i ≠ j) : getC (setC ρ i c) j = getC ρ j := by rw [getC_set, if_neg h]
theorem set_get {α : Type} {σ : List α} {i j : Nat} {v : α} : (σ.set i v)[j]? = if i = j then (if i < σ.length then some v else none) else σ[j]? := by
  rw [List.getElem?_set]
section
variable {C : Cn} {B : Bs} {Z Z' : Addr → Prop} {H H' : Hp} {σ σ' : L2.St} {ρ ρ' : En}
/-- the heap grows -/
theorem Rel.grow (R : Rel C B Z H σ ρ) (s : Same H H') : Rel C B Z H' σ ρ where
  len := R.len
  val := fun i d e => let ⟨v, h1, h2⟩ := R.val i d e; ⟨v, h1, h2.keep (Keep.of_same s) fun _ h => h⟩
  own := fun i ds e => let ⟨a, xs, h1, h2, h3, h4, h5⟩ := R.own i ds e; ⟨a, xs, h1, s _ _ h2, h3.keep (Keep.of_same s) (fun _ h => h), h4, h5⟩
  dis := R.dis
  frm := fun a o e n => s _ _ (R.frm a o e n)
  zin := R.zin
  ztr := fun a h => let ⟨o, e⟩ := R.ztr a h; ⟨o, s _ _ e⟩
  io0 := R.io0
/-- a list of no slot is frozen -/
theorem Rel.freeze (R : Rel C B Z H σ ρ) {p : Addr} {xs : List V} (hp : H p = some (.lst xs)) (h0 : B.H0 p = none) (hn : ∀ i ds, getC ρ i = .o ds → σ[i]? ≠ some (some (.ref p))) : Rel C B (fun a => Z a ∨ a = p) H σ ρ where
  len := R.len
  val := fun i d e => let ⟨v, h1, h2⟩ := R.val i d e; ⟨v, h1, h2.keep (Keep.refl _ _) fun _ h => .inl h⟩
  own := fun i ds e => let ⟨a, xs, h1, h2, h3, h4, h5⟩ := R.own i ds e; ⟨a, xs, h1, h2, h3.keep (Keep.refl _ _) (fun _ h => .inl h), fun z => z.elim h4 fun q => hn i ds e (q ▸ h1), h5⟩
  dis := R.dis
  frm := R.frm
  zin := fun a h => h.elim (R.zin a) fun q => .inr (q ▸ h0)
  ztr := fun a h => h.elim (R.ztr a) fun q => ⟨_, q ▸ hp⟩
  io0 := R.io0
/-- fewer is known of the slots -/
theorem Rel.sub (R : Rel C B Z H σ ρ) (hl : ρ'.length = ρ.length) (h : ∀ i, getC ρ' i = .no ∨ getC ρ' i = getC ρ i) (h0 : B.io ≠ none → getC ρ' 0 = getC ρ 0) : Rel C B Z H σ ρ' where
  len := R.len.trans hl.symm
  val := fun i d e => R.val i d (by rcases h i with q | q <;> rw [q] at e <;> first | exact e | cases e)
  own := fun i ds e => R.own i ds (by rcases h i with q | q <;> rw [q] at e <;> first | exact e | cases e)
  dis := fun i j a ds es hij e1 e2 => R.dis i j a ds es hij (by rcases h i with q | q <;> rw [q] at e1 <;> first | exact e1 | cases e1) (by rcases h j with q | q <;> rw [q] at e2 <;> first | exact e2 | cases e2)
  frm := R.frm
  zin := R.zin
  ztr := R.ztr
  io0 := fun a e => by
    obtain ⟨h1, ds, h2⟩ := R.io0 a e
    exact ⟨h1, ds, (h0 (by rw [e]; exact fun z => nomatch z)).trans h2⟩
/-- a slot's own list is frozen -/
theorem Rel.freezeAt (R : Rel C B Z H σ ρ) {i : Nat} {ds : List D} (e : getC ρ i = .o ds) (hi : B.io ≠ none → i ≠ 0) :
    ∃ a xs, σ[i]? = some (some (.ref a)) ∧ H a = some (.lst xs) ∧ FzAll C H Z xs ds ∧ Rel C B (fun b => Z b ∨ b = a) H σ (setC ρ i (.v (.lst ds))) := by
  obtain ⟨a, xs, h1, h2, h3, h4, h5⟩ := R.own i ds e
  have lt := getC_lt e (fun z => nomatch z)
  have ha : B.H0 a = none := by
    rcases h5 with h | h
    · exact h
    · obtain ⟨q1, es, q2⟩ := R.io0 a h
      exact (R.dis i 0 a ds es (hi (by rw [h]; exact fun z => nomatch z)) e q2 h1 q1).elim
  have hnd : ∀ j es, getC (setC ρ i .no) j = .o es → σ[j]? ≠ some (some (.ref a)) := fun j es q z => by
    by_cases hij : i = j
    · subst hij; rw [getC_set_self lt] at q; cases q
    · rw [getC_set_ne hij] at q
      exact R.dis i j a ds es hij e q h1 z
  have R1 : Rel C B Z H σ (setC ρ i .no) := R.sub (by simp [setC]) (fun j => by
    by_cases hij : i = j
    · subst hij; exact .inl (getC_set_self lt)
    · exact .inr (getC_set_ne hij)) fun q => getC_set_ne (hi q)
  have R2 := R1.freeze h2 ha hnd
  refine ⟨a, xs, h1, h2, h3, ⟨by simpa [setC] using R.len, fun j d q => ?_, fun j es q => ?_, fun j k b es fs hjk q1 q2 => ?_, R2.frm, R2.zin, R2.ztr, fun b q => ?_⟩⟩
  · by_cases hij : i = j
    · subst hij
      rw [getC_set_self lt] at q; cases q
      exact ⟨_, h1, .lst h2 (.inr rfl) (h3.keep (Keep.refl _ _) fun _ h => .inl h)⟩
    · rw [getC_set_ne hij] at q
      exact R2.val j d (by rw [getC_set_ne hij]; exact q)
  · by_cases hij : i = j
    · subst hij; rw [getC_set_self lt] at q; cases q
    · rw [getC_set_ne hij] at q
      exact R2.own j es (by rw [getC_set_ne hij]; exact q)
  · have n1 : i ≠ j := fun z => by subst z; rw [getC_set_self lt] at q1; cases q1
    have n2 : i ≠ k := fun z => by subst z; rw [getC_set_self lt] at q2; cases q2
    rw [getC_set_ne n1] at q1
    rw [getC_set_ne n2] at q2
    exact R.dis j k b es fs hjk q1 q2
  · obtain ⟨q1, es, q2⟩ := R.io0 b q
    exact ⟨q1, es, by rw [getC_set_ne (hi (by rw [q]; exact fun z => nomatch z))]; exact q2⟩
/-- a value is stored -/
theorem Rel.setV (R : Rel C B Z H σ ρ) {i : Nat} {v : V} {d : D} (h : Fz C H Z v d) (hi : B.io ≠ none → i ≠ 0) : Rel C B Z H (σ.set i (some v)) (setC ρ i (.v d)) where
  len := by simpa [setC] using R.len
  val := fun j e q => by
    by_cases hij : i = j
    · subst hij
      have lt : i < ρ.length := by have := getC_lt q (fun z => nomatch z); simpa [setC] using this
      rw [getC_set_self lt] at q; cases q
      exact ⟨v, by rw [set_get, if_pos rfl, if_pos (by rw [R.len]; exact lt)], h⟩
    · rw [getC_set_ne hij] at q
      rw [set_get, if_neg hij]
      exact R.val j e q
  own := fun j e q => by
    by_cases hij : i = j
    · subst hij
      have lt : i < ρ.length := by have := getC_lt q (fun z => nomatch z); simpa [setC] using this
      rw [getC_set_self lt] at q; cases q
    · rw [getC_set_ne hij] at q
      rw [set_get, if_neg hij]
      exact R.own j e q
  dis := fun j k a es fs hjk q1 q2 r1 r2 => by
    have lt1 := getC_lt q1 (fun z => nomatch z)
    have lt2 := getC_lt q2 (fun z => nomatch z)
    have n1 : i ≠ j := fun z => by subst z; rw [getC_set_self (by simpa [setC] using lt1)] at q1; cases q1
    have n2 : i ≠ k := fun z => by subst z; rw [getC_set_self (by simpa [setC] using lt2)] at q2; cases q2
    rw [getC_set_ne n1] at q1
    rw [getC_set_ne n2] at q2
    rw [set_get, if_neg n1] at r1
    rw [set_get, if_neg n2] at r2
    exact R.dis j k a es fs hjk q1 q2 r1 r2
  frm := R.frm
  zin := R.zin
  ztr := R.ztr
  io0 := fun b q => by
    obtain ⟨q1, es, q2⟩ := R.io0 b q
    have n := hi (by rw [q]; exact fun z => nomatch z)
    exact ⟨by rw [set_get, if_neg n]; exact q1, es, by rw [getC_set_ne n]; exact q2⟩
/-- a list of no slot is stored as one's own -/
theorem Rel.setO (R : Rel C B Z H σ ρ) {i : Nat} {a : Addr} {xs : List V} {ds : List D} (ha : H a = some (.lst xs)) (h : FzAll C H Z xs ds) (hz : ¬ Z a) (h0 : B.H0 a = none)
    (hn : ∀ j es, j ≠ i → getC ρ j = .o es → σ[j]? ≠ some (some (.ref a))) (hi : B.io ≠ none → i ≠ 0) : Rel C B Z H (σ.set i (some (.ref a))) (setC ρ i (.o ds)) where
  len := by simpa [setC] using R.len
  val := fun j e q => by
    by_cases hij : i = j
    · subst hij
      have lt : i < ρ.length := by have := getC_lt q (fun z => nomatch z); simpa [setC] using this
      rw [getC_set_self lt] at q; cases q
    · rw [getC_set_ne hij] at q
      rw [set_get, if_neg hij]
      exact R.val j e q
  own := fun j e q => by
    by_cases hij : i = j
    · subst hij
      have lt : i < ρ.length := by have := getC_lt q (fun z => nomatch z); simpa [setC] using this
      rw [getC_set_self lt] at q; cases q
      exact ⟨a, xs, by rw [set_get, if_pos rfl, if_pos (by rw [R.len]; exact lt)], ha, h, hz, .inl h0⟩
    · rw [getC_set_ne hij] at q
      rw [set_get, if_neg hij]
      exact R.own j e q
  dis := fun j k b es fs hjk q1 q2 r1 r2 => by
    by_cases n1 : i = j
    · subst n1
      rw [getC_set_ne hjk] at q2
      rw [set_get, if_neg hjk] at r2
      rw [set_get, if_pos rfl] at r1
      split at r1
      · cases r1; exact hn k fs (Ne.symm hjk) q2 r2
      · cases r1
    · by_cases n2 : i = k
      · subst n2
        rw [getC_set_ne (Ne.symm hjk)] at q1
        rw [set_get, if_neg (Ne.symm hjk)] at r1
        rw [set_get, if_pos rfl] at r2
        split at r2
        · cases r2; exact hn j es hjk q1 r1
        · cases r2
      · rw [getC_set_ne n1] at q1
        rw [getC_set_ne n2] at q2
        rw [set_get, if_neg n1] at r1
        rw [set_get, if_neg n2] at r2
        exact R.dis j k b es fs hjk q1 q2 r1 r2
  frm := R.frm
  zin := R.zin
  ztr := R.ztr
  io0 := fun b q => by
    obtain ⟨q1, es, q2⟩ := R.io0 b q
    have n := hi (by rw [q]; exact fun z => nomatch z)
    exact ⟨by rw [set_get, if_neg n]; exact q1, es, by rw [getC_set_ne n]; exact q2⟩
/-- an own list is changed -/
theorem Rel.updO (R : Rel C B Z H σ ρ) {i : Nat} {ds ds' : List D} (e : getC ρ i = .o ds) {a : Addr} (ea : σ[i]? = some (some (.ref a))) {xs' : List V} (h : FzAll C H Z xs' ds') :
    Rel C B Z (upd H a (.lst xs')) σ (setC ρ i (.o ds')) ∧ Keep Z H (upd H a (.lst xs')) := by
  obtain ⟨b, xs, h1, h2, h3, h4, h5⟩ := R.own i ds e
  have hb : b = a := by rw [ea] at h1; cases h1; rfl
  subst hb
  have lt := getC_lt e (fun z => nomatch z)
  have k : Keep Z H (upd H b (.lst xs')) := fun c o q m => by
    by_cases hc : c = b
    · subst hc
      rw [h2] at q; cases q
      exact absurd (m trivial) h4
    · rw [upd_ne hc]; exact q
  refine ⟨⟨by simpa [setC] using R.len, fun j d q => ?_, fun j es q => ?_, fun j m c es fs hjm q1 q2 r1 r2 => ?_, fun c o q n => ?_, R.zin, fun c q => ?_, fun c q => ?_⟩, k⟩
  · have n1 : i ≠ j := fun z => by subst z; rw [getC_set_self lt] at q; cases q
    rw [getC_set_ne n1] at q
    obtain ⟨v, q1, q2⟩ := R.val j d q
    exact ⟨v, q1, q2.keep k fun _ z => z⟩
  · by_cases hij : i = j
    · subst hij
      rw [getC_set_self lt] at q; cases q
      exact ⟨b, xs', ea, upd_same, h.keep k (fun _ z => z), h4, h5⟩
    · rw [getC_set_ne hij] at q
      obtain ⟨c, ys, q1, q2, q3, q4, q5⟩ := R.own j es q
      have hc : c ≠ b := fun z => by subst z; exact R.dis i j c ds es hij e q ea q1
      exact ⟨c, ys, q1, by rw [upd_ne hc]; exact q2, q3.keep k (fun _ z => z), q4, q5⟩
  · by_cases n1 : i = j
    · subst n1
      rw [getC_set_ne hjm] at q2
      exact R.dis i m c ds fs hjm e q2 r1 r2
    · rw [getC_set_ne n1] at q1
      by_cases n2 : i = m
      · subst n2
        exact R.dis j i c es ds hjm q1 e r1 r2
      · rw [getC_set_ne n2] at q2
        exact R.dis j m c es fs hjm q1 q2 r1 r2
  · have hc : c ≠ b := fun z => by
      subst z
      rcases h5 with h5 | h5
      · rw [h5] at q; cases q
      · exact n h5
    rw [upd_ne hc]
    exact R.frm c o q n
  · by_cases hc : c = b
    · subst hc; exact ⟨_, upd_same⟩
    · rw [upd_ne hc]; exact R.ztr c q
  · obtain ⟨q1, es, q2⟩ := R.io0 c q
    refine ⟨q1, ?_⟩
    by_cases h0 : i = 0
    · subst h0; exact ⟨_, getC_set_self lt⟩
    · exact ⟨es, by rw [getC_set_ne h0]; exact q2⟩
theorem mask_length : ∀ {ρ ρ' : En}, ρ.length = ρ'.length → (mask ρ ρ').length = ρ.length
  | [], [], _ => rfl
  | .no :: r, _ :: s, h => congrArg Nat.succ (mask_length (Nat.succ.inj h))
  | .v _ :: r, _ :: s, h => congrArg Nat.succ (mask_length (Nat.succ.inj h))
  | .o _ :: r, _ :: s, h => congrArg Nat.succ (mask_length (Nat.succ.inj h))
  | [], _ :: _, h => nomatch h
  | _ :: _, [], h => nomatch h
theorem mask_get : ∀ {ρ ρ' : En} (i : Nat), ρ.length = ρ'.length → getC (mask ρ ρ') i = .no ∨ getC (mask ρ ρ') i = getC ρ' i
  | [], [], _, _ => .inl rfl
  | .no :: r, _ :: s, 0, h => .inl rfl
  | .v _ :: r, _ :: s, 0, h => .inr rfl
  | .o _ :: r, _ :: s, 0, h => .inr rfl
  | .no :: r, _ :: s, i + 1, h => mask_get (ρ := r) (ρ' := s) i (Nat.succ.inj h)
  | .v _ :: r, _ :: s, i + 1, h => mask_get (ρ := r) (ρ' := s) i (Nat.succ.inj h)
  | .o _ :: r, _ :: s, i + 1, h => mask_get (ρ := r) (ρ' := s) i (Nat.succ.inj h)
  | [], _ :: _, _, h => nomatch h
  | _ :: _, [], _, h => nomatch h
theorem mask_0 : ∀ {ρ ρ' : En} {ds : List D}, ρ.length = ρ'.length → getC ρ 0 = .o ds → getC (mask ρ ρ') 0 = getC ρ' 0
  | .o _ :: r, _ :: s, _, h, _ => rfl
  | .no :: r, _ :: s, _, h, e => nomatch e
  | .v _ :: r, _ :: s, _, h, e => nomatch e
  | [], [], _, _, _ => rfl
  | [], _ :: _, _, h, _ => nomatch h
  | _ :: _, [], _, h, _ => nomatch h
theorem Rel.mask {Z₁ : Addr → Prop} {H₁ : Hp} {σ₁ : L2.St} {ρ₁ : En} (R₁ : Rel C B Z₁ H₁ σ₁ ρ₁) (R : Rel C B Z H σ ρ) (hl : ρ₁.length = ρ.length) : Rel C B Z H σ (PF.mask ρ₁ ρ) := by
  refine R.sub ((mask_length hl).trans hl) (fun i => mask_get i hl) fun q => ?_
  obtain ⟨a, e⟩ : ∃ a, B.io = some a := by
    cases h : B.io with
    | none => exact absurd h q
    | some a => exact ⟨a, rfl⟩
  obtain ⟨_, ds, e2⟩ := R₁.io0 a e
  exact mask_0 hl e2
theorem wipeC_length (ρ : En) : ∀ vs : List Nat, (wipeC ρ vs).length = ρ.length
  | [] => rfl
  | v :: vs => by
    show ((wipeC ρ vs).set v .no).length = _
    rw [List.length_set, wipeC_length ρ vs]
theorem wipeC_get (ρ : En) (i : Nat) : ∀ vs : List Nat, getC (wipeC ρ vs) i = if i ∈ vs then .no else getC ρ i
  | [] => by simp [wipeC]
  | v :: vs => by
    show getC (setC (wipeC ρ vs) v .no) i = _
    rw [getC_set, wipeC_get ρ i vs]
    by_cases h : v = i
    · subst h; simp
    · rw [if_neg h]
      by_cases h2 : i ∈ vs
      · simp [h2]
      · simp [h2, Ne.symm h]
theorem backC_length (ρ ρ' : En) : ∀ vs : List Nat, (backC ρ ρ' vs).length = ρ'.length
  | [] => rfl
  | v :: vs => by
    show ((backC ρ ρ' vs).set v _).length = _
    rw [List.length_set, backC_length ρ ρ' vs]
theorem backC_get (ρ ρ' : En) (i : Nat) (hl : ρ.length = ρ'.length) : ∀ vs : List Nat, getC (backC ρ ρ' vs) i = if i ∈ vs then (match getC ρ i with | .v d => .v d | _ => .no) else getC ρ' i
  | [] => by simp [backC]
  | v :: vs => by
    show getC (setC (backC ρ ρ' vs) v _) i = _
    rw [getC_set, backC_get ρ ρ' i hl vs, backC_length]
    by_cases h : v = i
    · subst h
      rw [if_pos rfl, if_pos List.mem_cons_self]
      split
      · rfl
      · rename_i hn
        cases q : getC ρ v with
        | v d => exact absurd (by rw [← hl]; exact getC_lt q (fun z => nomatch z)) hn
        | _ => rfl
    · rw [if_neg h]
      by_cases h2 : i ∈ vs
      · simp [h2]
      · simp [h2, Ne.symm h]
theorem wipe_get (σ : L2.St) (i : Nat) : ∀ vs : List Nat, i ∉ vs → (wipe σ vs)[i]? = σ[i]?
  | [], _ => rfl
  | v :: vs, h => by
    show ((wipe σ vs).set v none)[i]? = _
    rw [set_get, if_neg (fun z => h (by rw [z]; exact List.mem_cons_self)), wipe_get σ i vs (fun z => h (List.mem_cons_of_mem _ z))]
/-- the block's own names are forgotten -/
theorem Rel.wiped (R : Rel C B Z H σ ρ) {vs : List Nat} (h0 : B.io ≠ none → 0 ∉ vs) : Rel C B Z H (L2.wipe σ vs) (wipeC ρ vs) := by
  have R1 : Rel C B Z H σ (wipeC ρ vs) := R.sub (wipeC_length ρ vs) (fun i => by
    rw [wipeC_get]
    split
    · exact .inl rfl
    · exact .inr rfl) fun q => by rw [wipeC_get, if_neg (h0 q)]
  have nm : ∀ i c, getC (wipeC ρ vs) i = c → c ≠ .no → i ∉ vs := fun i c e n z => by
    rw [wipeC_get, if_pos z] at e
    exact n e.symm
  refine ⟨by rw [wipe_length, R.len, wipeC_length], fun i d e => ?_, fun i ds e => ?_, fun i j a ds es hij e1 e2 r1 r2 => ?_, R.frm, R.zin, R.ztr, fun a q => ?_⟩
  · rw [wipe_get σ i vs (nm i _ e fun z => nomatch z)]; exact R1.val i d e
  · rw [wipe_get σ i vs (nm i _ e fun z => nomatch z)]; exact R1.own i ds e
  · rw [wipe_get σ i vs (nm i _ e1 fun z => nomatch z)] at r1
    rw [wipe_get σ j vs (nm j _ e2 fun z => nomatch z)] at r2
    exact R1.dis i j a ds es hij e1 e2 r1 r2
  · obtain ⟨q1, q2⟩ := R1.io0 a q
    rw [wipe_get σ 0 vs (h0 (by rw [q]; exact fun z => nomatch z))]
    exact ⟨q1, q2⟩
/-- behind a block -/
theorem Rel.backed (R : Rel C B Z H σ ρ) {vs : List Nat} (R' : Rel C B Z' H' (L2.wipe σ vs) (wipeC ρ' vs)) (hl : ρ.length = ρ'.length) (k : Keep Z H H') (z : ∀ a, Z a → Z' a) (h0 : B.io ≠ none → 0 ∉ vs) : Rel C B Z' H' σ (backC ρ ρ' vs) := by
  have own : ∀ i ds, getC (backC ρ ρ' vs) i = .o ds → i ∉ vs ∧ getC (wipeC ρ' vs) i = .o ds := fun i ds e => by
    rw [backC_get ρ ρ' i hl] at e
    split at e
    · split at e <;> cases e
    · rename_i hn
      exact ⟨hn, by rw [wipeC_get, if_neg hn]; exact e⟩
  refine ⟨by rw [backC_length, ← hl]; exact R.len, fun i d e => ?_, fun i ds e => ?_, fun i j a ds es hij e1 e2 r1 r2 => ?_, R'.frm, R'.zin, R'.ztr, fun a q => ?_⟩
  · rw [backC_get ρ ρ' i hl] at e
    split at e
    · split at e
      · rename_i d' q
        cases e
        obtain ⟨v, q1, q2⟩ := R.val i _ q
        exact ⟨v, q1, q2.keep k z⟩
      · cases e
    · rename_i hn
      rw [← wipe_get σ i vs hn]
      exact R'.val i d (by rw [wipeC_get, if_neg hn]; exact e)
  · obtain ⟨hn, e'⟩ := own i ds e
    rw [← wipe_get σ i vs hn]
    exact R'.own i ds e'
  · obtain ⟨hn1, e1'⟩ := own i ds e1
    obtain ⟨hn2, e2'⟩ := own j es e2
    rw [← wipe_get σ i vs hn1] at r1
    rw [← wipe_get σ j vs hn2] at r2
    exact R'.dis i j a ds es hij e1' e2' r1 r2
  · have n := h0 (by rw [q]; exact fun z => nomatch z)
    obtain ⟨q1, ds, q2⟩ := R'.io0 a q
    rw [wipe_get σ 0 vs n] at q1
    refine ⟨q1, ds, ?_⟩
    rw [backC_get ρ ρ' 0 hl, if_neg n]
    rw [wipeC_get, if_neg n] at q2
    exact q2
end
end PF

set_option Elab.async false
set_option linter.all false
set_option maxRecDepth 100000
set_option maxHeartbeats 1000000
/-! PF4: each operation of the fragment is what the machine does. -/
namespace PF
open PySem PySem.Spec PyProof.Rows L2

/-- an operation's end: an old value, or a new tuple, a new list; mk: a list is always a new one -/
inductive Out (mk : Bool) (C : Cn) (H : Hp) (Z : Addr → Prop) : D → V → Hp → Prop
  | old {v : V} {d : D} : Fz C H Z v d → (mk = true → ∀ ds, d ≠ .lst ds) → Out mk C H Z d v H
  | tup {p : Addr} {xs : List V} {ds : List D} : H p = none → FzAll C H Z xs ds → Out mk C H Z (.tup ds) (.ref p) (upd H p (.tup xs))
  | lst {p : Addr} {xs : List V} {ds : List D} : H p = none → FzAll C H Z xs ds → Out mk C H Z (.lst ds) (.ref p) (upd H p (.lst xs))
theorem Out.int {mk : Bool} {C : Cn} {H : Hp} {Z : Addr → Prop} (i : Int) : Out mk C H Z (.int i) (.int i) H := .old (.int i) fun _ _ e => nomatch e
theorem Out.bl {mk : Bool} {C : Cn} {H : Hp} {Z : Addr → Prop} (i : Bool) : Out mk C H Z (.bl i) (.bl i) H := .old (.bl i) fun _ _ e => nomatch e
theorem Out.str {mk : Bool} {C : Cn} {H : Hp} {Z : Addr → Prop} (i : Str) : Out mk C H Z (.str i) (.str i) H := .old (.str i) fun _ _ e => nomatch e
theorem Out.weak {mk : Bool} {C : Cn} {H : Hp} {Z : Addr → Prop} {d : D} {v : V} {H' : Hp} (h : Out mk C H Z d v H') : Out false C H Z d v H' := by
  cases h with
  | old h _ => exact .old h fun q => nomatch q
  | tup h r => exact .tup h r
  | lst h r => exact .lst h r
/-- an operation of values: from what is read, under prim, its end -/
def rP (mk : Bool) (C : Cn) (o : Op) : List V → Hp → VK → Prop := fun vs H Q => ∃ Z ds d, RmAll true C H Z vs ds ∧ prim o ds = some d ∧ ∀ v H', Out mk C H Z d v H' → Q v H'
def rP2 (mk : Bool) (C : Cn) (o : Op) : R2 := fun x y H Q => rP mk C o [x, y] H Q
theorem RmAll.one {m : Bool} {C : Cn} {H : Hp} {Z : Addr → Prop} {x : V} {ds : List D} (h : RmAll m C H Z [x] ds) : ∃ d, ds = [d] ∧ Rm m C H Z x d := by
  cases h with
  | cons h t => cases t; exact ⟨_, rfl, h⟩
theorem RmAll.two {m : Bool} {C : Cn} {H : Hp} {Z : Addr → Prop} {x y : V} {ds : List D} (h : RmAll m C H Z [x, y] ds) : ∃ d e, ds = [d, e] ∧ Rm m C H Z x d ∧ Rm m C H Z y e := by
  cases h with
  | cons h t =>
    obtain ⟨e, rfl, h2⟩ := t.one
    exact ⟨_, _, rfl, h, h2⟩
theorem RmAll.length {m : Bool} {C : Cn} {H : Hp} {Z : Addr → Prop} {vs : List V} {ds : List D} (h : RmAll m C H Z vs ds) : vs.length = ds.length := by
  induction h with
  | nil => rfl
  | cons _ _ ih => exact congrArg Nat.succ ih

section
variable {X : Cx} {C : Cn}
/-- two ints, by a rule of the layer -/
theorem opr_ints {f : Value → Value → Sem Value} {r : R2} {p : List D → Option D} {o : Op} (ho : OpR X f r) (hp : prim o = p)
    (h : ∀ d1 d2 d, p [d1, d2] = some d → ∃ a b, d1 = .int a ∧ d2 = .int b ∧ ((∃ c, d = .int c ∧ ∀ H Q, Q (.int c) H → r (.int a) (.int b) H Q) ∨ ∃ c, d = .bl c ∧ ∀ H Q, Q (.bl c) H → r (.int a) (.int b) H Q)) : OpR X f (rP2 true C o) := by
  intro pins s σ H x y v u Q I rx ry hh
  obtain ⟨Z, ds, d, h1, h2, q⟩ := hh
  obtain ⟨d1, d2, rfl, x1, x2⟩ := h1.two
  rw [hp] at h2
  obtain ⟨a, b, rfl, rfl, hc⟩ := h _ _ _ h2
  have e1 := Rv.int x1
  have e2 := Rv.int x2
  subst e1 e2
  rcases hc with ⟨c, rfl, hc⟩ | ⟨c, rfl, hc⟩
  · exact ho pins s σ H _ _ v u Q I rx ry (hc _ _ (q _ _ (.int c)))
  · exact ho pins s σ H _ _ v u Q I rx ry (hc _ _ (q _ _ (.bl c)))
theorem opr_sub : OpR X (binaryOp .Sub) (rP2 true C .sub) := opr_ints op_sub rfl fun d1 d2 d h => by
  replace h : pSub [d1, d2] = some d := h
  unfold pSub at h; split at h
  · rename_i a b e; cases e; cases h
    exact ⟨a, b, rfl, rfl, .inl ⟨_, rfl, fun H Q q => ⟨_, _, rfl, rfl, q⟩⟩⟩
  · cases h
theorem opr_bits {f : Int → Int → Int} {op : Operator} {o : Op} (ho : OpR X (binaryOp op) (rI0 fun i j => .int (f i j))) (hp : prim o = pBits f) : OpR X (binaryOp op) (rP2 true C o) := opr_ints ho hp fun d1 d2 d h => by
  unfold pBits at h; split at h
  · rename_i a b e; cases e; cases h
    exact ⟨a, b, rfl, rfl, .inl ⟨_, rfl, fun H Q q => ⟨_, _, rfl, rfl, q⟩⟩⟩
  · cases h
theorem opr_cmp {f : Int → Int → Bool} {op : CmpOp} {o : Op} (ho : OpR X (compareOp op) (rI0 fun i j => .bl (f i j))) (hp : prim o = pCmp f) : OpR X (compareOp op) (rP2 true C o) := opr_ints ho hp fun d1 d2 d h => by
  unfold pCmp at h; split at h
  · rename_i a b e; cases e; cases h
    exact ⟨a, b, rfl, rfl, .inr ⟨_, rfl, fun H Q q => ⟨_, _, rfl, rfl, q⟩⟩⟩
  · cases h
theorem cpow_ok {a b : Int} (h : cpow a b = true) : CPow a b := by
  unfold cpow at h
  simp only [Bool.and_eq_true, decide_eq_true_eq] at h
  exact ⟨h.1.1, h.1.2, h.2⟩
theorem opr_pow : OpR X (binaryOp .Pow) (rP2 true C .pow) := opr_ints op_pow rfl fun d1 d2 d h => by
  replace h : pPow [d1, d2] = some d := h
  unfold pPow at h; split at h
  · rename_i a b e; cases e
    split at h
    · rename_i hc; cases h
      exact ⟨a, b, rfl, rfl, .inl ⟨_, rfl, fun H Q q => ⟨_, _, rfl, rfl, cpow_ok hc, q⟩⟩⟩
    · cases h
  · cases h
theorem opr_shl : OpR X (binaryOp .LShift) (rP2 true C .shl) := opr_ints op_shl rfl fun d1 d2 d h => by
  replace h : pShl [d1, d2] = some d := h
  unfold pShl at h; split at h
  · rename_i a b e; cases e
    split at h
    · rename_i hc; cases h
      exact ⟨a, b, rfl, rfl, .inl ⟨_, rfl, fun H Q q => ⟨_, _, rfl, rfl, cpow_ok hc, q⟩⟩⟩
    · cases h
  · cases h
theorem opr_shr : OpR X (binaryOp .RShift) (rP2 true C .shr) := opr_ints op_shr rfl fun d1 d2 d h => by
  replace h : pShr [d1, d2] = some d := h
  unfold pShr at h; split at h
  · rename_i a b e; cases e
    split at h
    · rename_i hc; cases h
      exact ⟨a, b, rfl, rfl, .inl ⟨_, rfl, fun H Q q => ⟨_, _, rfl, rfl, hc, q⟩⟩⟩
    · cases h
  · cases h
/-- by one rule or another -/
theorem OpR.or {f : Value → Value → Sem Value} {r r' : R2} (h : OpR X f r) (h' : OpR X f r') : OpR X f (fun x y H Q => r x y H Q ∨ r' x y H Q) :=
  fun pins s σ H x y v u Q I rx ry q => q.elim (h pins s σ H x y v u Q I rx ry) (h' pins s σ H x y v u Q I rx ry)
theorem opr_mod : OpR X (binaryOp .Mod) (rP2 true C .mod) := opr_ints (op_mod.or op_modN) rfl fun d1 d2 d h => by
  replace h : pMod [d1, d2] = some d := h
  unfold pMod at h; split at h
  · rename_i a b e; cases e
    split at h
    · rename_i hc; cases h
      exact ⟨a, b, rfl, rfl, .inl ⟨_, rfl, fun H Q q => .inl ⟨_, _, rfl, rfl, hc, q⟩⟩⟩
    · split at h
      · rename_i hc; cases h
        exact ⟨a, b, rfl, rfl, .inl ⟨_, rfl, fun H Q q => .inr ⟨_, _, rfl, rfl, hc, q⟩⟩⟩
      · cases h
  · cases h
theorem opr_div : OpR X (binaryOp .FloorDiv) (rP2 true C .fdiv) := opr_ints (op_fdivW.or op_fdivN) rfl fun d1 d2 d h => by
  replace h : pDiv [d1, d2] = some d := h
  unfold pDiv at h; split at h
  · rename_i a b e; cases e
    split at h
    · rename_i hc; cases h
      unfold divOk at hc
      simp only [Bool.and_eq_true, decide_eq_true_eq] at hc
      exact ⟨a, b, rfl, rfl, .inl ⟨_, rfl, fun H Q q => .inl ⟨_, _, rfl, rfl, hc, q⟩⟩⟩
    · split at h
      · rename_i hc; cases h
        unfold divOkN at hc
        simp only [Bool.and_eq_true, decide_eq_true_eq] at hc
        exact ⟨a, b, rfl, rfl, .inl ⟨_, rfl, fun H Q q => .inr ⟨_, _, rfl, rfl, hc, q⟩⟩⟩
      · cases h
  · cases h
theorem opr_add (hK : C.K = X.K) : OpR X (binaryOp .Add) (rP2 true C .add) := by
  intro pins s σ H x y v u Q I rx ry hh
  obtain ⟨Z, ds, d, h1, h2, q⟩ := hh
  obtain ⟨d1, d2, rfl, x1, x2⟩ := h1.two
  replace h2 : pAdd [d1, d2] = some d := h2
  unfold pAdd at h2
  split at h2
  · rename_i a b e; cases e; cases h2
    have e1 := Rv.int x1; have e2 := Rv.int x2; subst e1 e2
    exact op_add pins s σ H _ _ v u Q I rx ry ⟨_, _, rfl, rfl, q _ _ (.int _)⟩
  · rename_i a b e; cases e
    split at h2
    · rename_i hc; cases h2
      have e1 := Rv.str x1; have e2 := Rv.str x2; subst e1 e2
      exact op_add_str pins s σ H _ _ v u Q I rx ry ⟨_, _, rfl, rfl, hc, q _ _ (.str _)⟩
    · cases h2
  · rename_i a b e; cases e
    split at h2
    · rename_i hc; cases h2
      obtain ⟨p, xs, rfl, p1, p2⟩ := Rv.lst x1
      obtain ⟨r, ys, rfl, r1, r2⟩ := Rv.lst x2
      refine op_cat pins s σ H _ _ v u Q I rx ry ⟨_, _, _, _, rfl, rfl, p1, r1, ?_, fun z hz => q _ _ (.lst hz (p2.append r2))⟩
      rw [p2.length, r2.length]; exact hc
    · cases h2
  · rename_i a b e; cases e
    split at h2
    · rename_i hc; cases h2
      obtain ⟨p, xs, rfl, p1, p2⟩ := Rv.tup x1
      obtain ⟨r, ys, rfl, r1, r2⟩ := Rv.tup x2
      rw [hK] at p1 r1
      refine op_catA pins s σ H _ _ v u Q I rx ry ⟨_, _, _, _, rfl, rfl, p1, r1, by rw [p2.length, r2.length]; exact hc, fun e => ?_, fun _ e => ?_, fun _ _ z hz => q _ _ (.tup hz (p2.append r2))⟩
      · subst e
        cases p2
        exact q _ _ (.old (.tup (by rw [hK]; exact r1) r2) fun _ _ z => nomatch z)
      · subst e
        cases r2
        rw [List.append_nil] at q
        exact q _ _ (.old (.tup (by rw [hK]; exact p1) p2) fun _ _ z => nomatch z)
    · cases h2
  · cases h2
theorem opr_mul : OpR X (binaryOp .Mult) (rP2 true C .mul) := by
  intro pins s σ H x y v u Q I rx ry hh
  obtain ⟨Z, ds, d, h1, h2, q⟩ := hh
  obtain ⟨d1, d2, rfl, x1, x2⟩ := h1.two
  replace h2 : pMul [d1, d2] = some d := h2
  unfold pMul at h2
  split at h2
  · rename_i a b e; cases e
    split at h2
    · rename_i hc; cases h2
      have e1 := Rv.int x1; have e2 := Rv.int x2; subst e1 e2
      exact op_mulW pins s σ H _ _ v u Q I rx ry ⟨_, _, rfl, rfl, (show a.natAbs.log2 + b.natAbs.log2 < 1000000 from of_decide_eq_true hc), q _ _ (.int _)⟩
    · cases h2
  · rename_i a b e; cases e
    split at h2
    · rename_i hc; cases h2
      unfold repOk at hc
      simp only [Bool.and_eq_true, decide_eq_true_eq] at hc
      obtain ⟨p, xs, rfl, p1, p2⟩ := Rv.lst x1
      have e2 := Rv.int x2; subst e2
      exact op_rep pins s σ H _ _ v u Q I rx ry ⟨_, _, _, rfl, rfl, p1, hc.1.1, hc.1.2, by rw [p2.length]; exact hc.2, fun z hz => q _ _ (.lst hz (p2.rep _))⟩
    · cases h2
  · cases h2
end

/-! ### == and in -/
theorem toPys_map : ∀ xs : List D, toPys xs = xs.map toPy
  | [] => rfl
  | x :: xs => congrArg _ (toPys_map xs)
theorem shal_lay : ∀ (n : Nat) (d : D), shal n d = true → (toPy d).canLay0 = true ∧ (toPy d).depth ≤ n := by
  intro n
  induction n with
  | zero =>
    intro d h
    cases d <;> simp [shal] at h <;> simp [toPy, PyData.canLay0, PyData.depth]
    simpa [PyData.strOk] using h
  | succ n ih =>
    have all : ∀ xs : List D, xs.all (shal n) = true → PyData.canLayAll0 (toPys xs) = true ∧ PyData.depthAll (toPys xs) ≤ n := by
      intro xs
      induction xs with
      | nil => intro _; exact ⟨rfl, Nat.zero_le _⟩
      | cons x xs ihx =>
        intro h
        rw [List.all_cons, Bool.and_eq_true] at h
        obtain ⟨h1, h2⟩ := ih x h.1
        obtain ⟨h3, h4⟩ := ihx h.2
        refine ⟨?_, ?_⟩
        · show (PyData.canLay0 (toPy x) && PyData.canLayAll0 (toPys xs)) = true
          rw [h1, h3]; rfl
        · show max (PyData.depth (toPy x)) (PyData.depthAll (toPys xs)) ≤ n
          omega
    intro d h
    cases d with
    | lst xs =>
      obtain ⟨h1, h2⟩ := all xs h
      exact ⟨h1, Nat.succ_le_succ h2⟩
    | tup xs =>
      obtain ⟨h1, h2⟩ := all xs h
      exact ⟨h1, Nat.succ_le_succ h2⟩
    | str x => exact ⟨h, Nat.zero_le _⟩
    | scr _ => simp [shal] at h
    | exc _ _ => simp [shal] at h
    | _ => exact ⟨rfl, Nat.zero_le _⟩
theorem shal_shaped {n : Nat} {d : D} (hn : n ≤ 64) (h : shal n d = true) : SeqAt.shaped (toPy d) = true := by
  obtain ⟨h1, h2⟩ := shal_lay n d h
  unfold SeqAt.shaped
  rw [h1, Bool.true_and, decide_eq_true_eq]
  omega
theorem lst_shaped {xs : List D} (h : xs.all (shal 58) = true) : SeqAt.shaped (.list (toPys xs)) = true :=
  shal_shaped (n := 59) (d := .lst xs) (by decide) h
mutual
theorem deq_py : ∀ (n m : Nat) (d e : D), shal n d = true → shal m e = true → deq d e = PyData.eqv (toPy d) (toPy e)
  | n, m, d, e, h1, h2 => by
    cases d with
    | lst xs =>
      cases e with
      | lst ys =>
        cases n with
        | zero => simp [shal] at h1
        | succ n =>
          cases m with
          | zero => simp [shal] at h2
          | succ m =>
            show deqs xs ys = PyData.eqvAll (toPys xs) (toPys ys)
            exact deqs_py n m xs ys h1 h2
      | scr _ => simp [shal] at h2
      | exc _ _ => simp [shal] at h2
      | _ => simp [deq, toPy, PyData.eqv]
    | tup xs =>
      cases e with
      | tup ys =>
        cases n with
        | zero => simp [shal] at h1
        | succ n =>
          cases m with
          | zero => simp [shal] at h2
          | succ m =>
            show deqs xs ys = PyData.eqvAll (toPys xs) (toPys ys)
            exact deqs_py n m xs ys h1 h2
      | scr _ => simp [shal] at h2
      | exc _ _ => simp [shal] at h2
      | _ => simp [deq, toPy, PyData.eqv]
    | scr _ => simp [shal] at h1
    | exc _ _ => simp [shal] at h1
    | _ => cases e <;> first
      | (simp [shal] at h2; done)
      | simp [deq, toPy, PyData.eqv]
theorem deqs_py : ∀ (n m : Nat) (xs ys : List D), xs.all (shal n) = true → ys.all (shal m) = true → deqs xs ys = PyData.eqvAll (toPys xs) (toPys ys)
  | n, m, [], [], _, _ => by simp [deqs, toPys, PyData.eqvAll]
  | n, m, [], _ :: _, _, _ => by simp [deqs, toPys, PyData.eqvAll]
  | n, m, _ :: _, [], _, _ => by simp [deqs, toPys, PyData.eqvAll]
  | n, m, x :: xs, y :: ys, h1, h2 => by
    rw [List.all_cons, Bool.and_eq_true] at h1 h2
    have e1 := deq_py n m x y h1.1 h2.1
    have e2 := deqs_py n m xs ys h1.2 h2.2
    simp only [deqs, toPys, PyData.eqvAll]
    rw [e1, e2]
end
mutual
theorem Fz.dp {C : Cn} {H : Hp} {Z : Addr → Prop} : ∀ (n : Nat) {v : V} {d : D}, Fz C H Z v d → shal n d = true → Dp C.K H v (toPy d)
  | _, _, _, .non, _ => .non
  | _, _, _, .bl b, _ => .bl b
  | _, _, _, .int i, _ => .int i
  | _, _, _, .str x, _ => .str x
  | n + 1, _, _, .lst h _ r, e => .lst (SqL.of h) (FzAll.dp n r e)
  | n + 1, _, _, .tup h r, e => .tup h (FzAll.dp n r e)
  | 0, _, _, .lst _ _ _, e => by simp [shal] at e
  | 0, _, _, .tup _ _, e => by simp [shal] at e
  | _, _, _, .scrF _ _, e => by simp [shal] at e
  | _, _, _, .scrK _ _, e => by simp [shal] at e
  | _, _, _, .exc _ _, e => by simp [shal] at e
theorem FzAll.dp {C : Cn} {H : Hp} {Z : Addr → Prop} : ∀ (n : Nat) {vs : List V} {ds : List D}, FzAll C H Z vs ds → ds.all (shal n) = true → DpAll C.K H vs (toPys ds)
  | _, _, _, .nil, _ => .nil
  | n, _, _, .cons h t, e => by
    rw [List.all_cons, Bool.and_eq_true] at e
    exact .cons (Fz.dp n h e.1) (FzAll.dp n t e.2)
end
theorem Rv.dp {C : Cn} {H : Hp} {Z : Addr → Prop} {n : Nat} {v : V} {d : D} (h : Rv C H Z v d) (e : shal n d = true) : Dp C.K H v (toPy d) := by
  rcases h with h | ⟨a, xs, ds, rfl, rfl, h1, h2⟩
  · exact h.dp n e
  · cases n with
    | zero => simp [shal] at e
    | succ n => exact .lst (SqL.of h1) (h2.dp n e)
section
variable {X : Cx} {C : Cn}
theorem opr_eq (hK : C.K = X.K) (hu : X.A.units + 64 < cLine) : OpR X (compareOp .Eq) (rP2 true C .eq) := by
  intro pins s σ H x y v u Q I rx ry hh
  obtain ⟨Z, ds, d, h1, h2, q⟩ := hh
  obtain ⟨d1, d2, rfl, x1, x2⟩ := h1.two
  replace h2 : (if (shal 60 d1 && shal 60 d2) = true then some (D.bl (deq d1 d2)) else none) = some d := h2
  · split at h2
    · rename_i hc; cases h2
      rw [Bool.and_eq_true] at hc
      have k1 := Rv.dp x1 hc.1
      have k2 := Rv.dp x2 hc.2
      rw [hK] at k1 k2
      refine op_eqD hu pins s σ H _ _ v u Q I rx ry ⟨_, _, k1, k2, shal_shaped (by decide) hc.1, shal_shaped (by decide) hc.2, ?_⟩
      rw [← deq_py 60 60 _ _ hc.1 hc.2]
      exact q _ _ (.bl _)
    · cases h2
theorem opr_ne (hK : C.K = X.K) (hu : X.A.units + 64 < cLine) : OpR X (compareOp .NotEq) (rP2 true C .ne) := by
  intro pins s σ H x y v u Q I rx ry hh
  obtain ⟨Z, ds, d, h1, h2, q⟩ := hh
  obtain ⟨d1, d2, rfl, x1, x2⟩ := h1.two
  replace h2 : (if (shal 60 d1 && shal 60 d2) = true then some (D.bl (!deq d1 d2)) else none) = some d := h2
  · split at h2
    · rename_i hc; cases h2
      rw [Bool.and_eq_true] at hc
      have k1 := Rv.dp x1 hc.1
      have k2 := Rv.dp x2 hc.2
      rw [hK] at k1 k2
      refine op_neD hu pins s σ H _ _ v u Q I rx ry ⟨_, _, k1, k2, shal_shaped (by decide) hc.1, shal_shaped (by decide) hc.2, ?_⟩
      rw [← deq_py 60 60 _ _ hc.1 hc.2]
      exact q _ _ (.bl _)
    · cases h2
def isNon : D → Bool
  | .non => true
  | _ => false
theorem isN_V {C : Cn} {H : Hp} {Z : Addr → Prop} {v : V} {d : D} (h : Rv C H Z v d) : decide (v = .non) = isNon d := by
  rcases h with h | ⟨a, xs, ds, rfl, rfl, h1, h2⟩
  · cases h <;> rfl
  · rfl
theorem pIs_inv {neg : Bool} {d1 d2 d : D} (h : pIs neg [d1, d2] = some d) : d2 = .non ∧ d = .bl (xor neg (isNon d1)) := by
  cases d2 <;> cases d1 <;> first
    | (cases h; refine ⟨rfl, ?_⟩; cases neg <;> rfl)
    | cases h
theorem opr_isN : OpR X (compareOp .Is) (rP2 true C .isN) := by
  intro pins s σ H x y v u Q I rx ry hh
  obtain ⟨Z, ds, d, h1, h2, q⟩ := hh
  obtain ⟨d1, d2, rfl, x1, x2⟩ := h1.two
  obtain ⟨rfl, rfl⟩ := pIs_inv (neg := false) h2
  have e2 := Rv.non x2; subst e2
  refine op_isN pins s σ H _ _ v u Q I rx ry ⟨rfl, ?_⟩
  rw [isN_V x1, ← Bool.false_xor (isNon d1)]
  exact q _ _ (.bl _)
theorem opr_notN : OpR X (compareOp .IsNot) (rP2 true C .notN) := by
  intro pins s σ H x y v u Q I rx ry hh
  obtain ⟨Z, ds, d, h1, h2, q⟩ := hh
  obtain ⟨d1, d2, rfl, x1, x2⟩ := h1.two
  obtain ⟨rfl, rfl⟩ := pIs_inv (neg := true) h2
  have e2 := Rv.non x2; subst e2
  refine op_notN pins s σ H _ _ v u Q I rx ry ⟨rfl, ?_⟩
  rw [isN_V x1, ← Bool.true_xor (isNon d1)]
  exact q _ _ (.bl _)
theorem any_py {x : D} (hx : shal 60 x = true) : ∀ xs : List D, xs.all (shal 58) = true → ((toPys xs).any fun z => PyData.eqv z (toPy x)) = xs.any fun y => deq y x
  | [], _ => rfl
  | y :: ys, h => by
    rw [List.all_cons, Bool.and_eq_true] at h
    show (PyData.eqv (toPy y) (toPy x) || (toPys ys).any _) = _
    rw [any_py hx ys h.2, ← deq_py 58 60 y x h.1 hx, List.any_cons]
end
end PF

set_option Elab.async false
set_option linter.all false
set_option maxRecDepth 100000
set_option maxHeartbeats 1000000
/-! PF5: operations, on: in, items, slices, built-in functions, methods. -/
namespace PF
open PySem PySem.Spec PyProof.Rows L2
section
variable {X : Cx} {C : Cn}
theorem opr_inn (hK : C.K = X.K) (hu : X.A.units + 65 < cLine) : OpR X (compareOp .In) (rP2 true C .inn) := by
  intro pins s σ H x y v u Q I rx ry hh
  obtain ⟨Z, ds, d, h1, h2, q⟩ := hh
  obtain ⟨d1, d2, rfl, x1, x2⟩ := h1.two
  replace h2 : pIn false [d1, d2] = some d := h2
  unfold pIn at h2
  split at h2
  · rename_i a xs e; cases e
    split at h2
    · rename_i hc; cases h2
      rw [Bool.and_eq_true] at hc
      obtain ⟨p, ys, rfl, p1, p2⟩ := Rv.lst x2
      have k1 := Rv.dp x1 hc.1
      rw [hK] at k1
      have k2 : Dp X.K H (.ref p) (.list (toPys xs)) := .lst (SqL.of p1) (by rw [← hK]; exact p2.dp 58 hc.2)
      refine op_inD hu pins s σ H _ _ v u Q I rx ry ⟨_, _, k1, k2, shal_shaped (by decide) hc.1, lst_shaped hc.2, ?_⟩
      rw [any_py hc.1 xs hc.2]
      exact q _ _ (.bl _)
    · cases h2
  · rename_i a xs e; cases e
    split at h2
    · rename_i hc; cases h2
      rw [Bool.and_eq_true] at hc
      obtain ⟨p, ys, rfl, p1, p2⟩ := Rv.tup x2
      have k1 := Rv.dp x1 hc.1
      rw [hK] at k1 p1
      have k2 : Dp X.K H (.ref p) (.tuple (toPys xs)) := .tup p1 (by rw [← hK]; exact p2.dp 58 hc.2)
      obtain ⟨as, r1⟩ := Dp.reads I _ _ v k1 rx
      obtain ⟨bs, r2⟩ := Dp.reads I _ _ u k2 ry
      refine SeqAt.in_tuple_reads r2 r1 (shal_lay 59 (.tup xs) hc.2).1 (shal_lay 60 _ hc.1).1 (room_in_shaped (shal_shaped (by decide) hc.1) hu) ⟨.bl _, H, I, rfl, ?_⟩
      rw [any_py hc.1 xs hc.2]
      exact q _ _ (.bl _)
    · cases h2
  · rename_i a b e; cases e; cases h2
    have e1 := Rv.str x1; have e2 := Rv.str x2; subst e1 e2
    exact op_in_str pins s σ H _ _ v u Q I rx ry ⟨_, _, rfl, rfl, q _ _ (.bl _)⟩
  · cases h2
theorem opr_nin (hK : C.K = X.K) (hu : X.A.units + 65 < cLine) : OpR X (compareOp .NotIn) (rP2 true C .nin) := by
  intro pins s σ H x y v u Q I rx ry hh
  obtain ⟨Z, ds, d, h1, h2, q⟩ := hh
  obtain ⟨d1, d2, rfl, x1, x2⟩ := h1.two
  replace h2 : pIn true [d1, d2] = some d := h2
  unfold pIn at h2
  split at h2
  · rename_i a xs e; cases e
    split at h2
    · rename_i hc; cases h2
      rw [Bool.and_eq_true] at hc
      obtain ⟨p, ys, rfl, p1, p2⟩ := Rv.lst x2
      have k1 := Rv.dp x1 hc.1
      rw [hK] at k1
      have k2 : Dp X.K H (.ref p) (.list (toPys xs)) := .lst (SqL.of p1) (by rw [← hK]; exact p2.dp 58 hc.2)
      refine op_notInD hu pins s σ H _ _ v u Q I rx ry ⟨_, _, k1, k2, shal_shaped (by decide) hc.1, lst_shaped hc.2, ?_⟩
      rw [any_py hc.1 xs hc.2]
      exact q _ _ (.bl _)
    · cases h2
  · rename_i a xs e; cases e
    split at h2
    · rename_i hc; cases h2
      rw [Bool.and_eq_true] at hc
      obtain ⟨p, ys, rfl, p1, p2⟩ := Rv.tup x2
      have k1 := Rv.dp x1 hc.1
      rw [hK] at k1 p1
      have k2 : Dp X.K H (.ref p) (.tuple (toPys xs)) := .tup p1 (by rw [← hK]; exact p2.dp 58 hc.2)
      obtain ⟨as, r1⟩ := Dp.reads I _ _ v k1 rx
      obtain ⟨bs, r2⟩ := Dp.reads I _ _ u k2 ry
      refine SeqAt.notIn_tuple_reads r2 r1 (shal_lay 59 (.tup xs) hc.2).1 (shal_lay 60 _ hc.1).1 (room_in_shaped (shal_shaped (by decide) hc.1) hu) ⟨.bl _, H, I, rfl, ?_⟩
      rw [any_py hc.1 xs hc.2]
      exact q _ _ (.bl _)
    · cases h2
  · rename_i a b e; cases e; cases h2
    have e1 := Rv.str x1; have e2 := Rv.str x2; subst e1 e2
    exact op_notIn_str pins s σ H _ _ v u Q I rx ry ⟨_, _, rfl, rfl, q _ _ (.bl _)⟩
  · cases h2
theorem atI_fz {H : Hp} {Z : Addr → Prop} {xs : List V} {ds : List D} {i : Int} {d : D} (r : FzAll C H Z xs ds) (h : atI ds i = some d) : ∃ v, atI xs i = some v ∧ Fz C H Z v d := by
  unfold atI at h ⊢
  rw [r.length]
  cases e : ixN ds.length i with
  | none => rw [e] at h; cases h
  | some j =>
    rw [e] at h
    exact r.get (show ds[j]? = some d from h)
theorem ixr (hK : C.K = X.K) : IxR X (rP2 false C .ix) := by
  intro va sl pins s σ H x y v u Q I rx ry hh hsub
  obtain ⟨Z, ds, d, h1, h2, q⟩ := hh
  obtain ⟨d1, d2, rfl, x1, x2⟩ := h1.two
  replace h2 : pIx [d1, d2] = some d := h2
  unfold pIx at h2
  split at h2
  · rename_i a b e; cases e
    obtain ⟨p, xs, rfl, p1, p2⟩ := Rv.lst x1
    have e2 := Rv.int x2; subst e2
    obtain ⟨w, hw, fw⟩ := atI_fz p2 h2
    exact ix_list va sl pins s σ H _ _ v u Q I rx ry ⟨_, _, _, _, rfl, rfl, SqL.of p1, hw, q _ _ (.old fw fun q => nomatch q)⟩ hsub
  · rename_i a b e; cases e
    obtain ⟨p, xs, rfl, p1, p2⟩ := Rv.tup x1
    rw [hK] at p1
    have e2 := Rv.int x2; subst e2
    obtain ⟨w, hw, fw⟩ := atI_fz p2 h2
    exact ix_tup va sl pins s σ H _ _ v u Q I rx ry ⟨_, _, _, _, rfl, rfl, p1, hw, q _ _ (.old fw fun q => nomatch q)⟩ hsub
  · rename_i a b e; cases e
    obtain ⟨p, xs, rfl, p1, p2⟩ := Rv.scr x1
    rw [hK] at p1
    have e2 := Rv.int x2; subst e2
    obtain ⟨w, hw, fw⟩ := atI_fz p2 h2
    exact ix_list va sl pins s σ H _ _ v u Q I rx ry ⟨_, _, _, _, rfl, rfl, p1, hw, q _ _ (.old fw fun q => nomatch q)⟩ hsub
  · rename_i a b e; cases e
    split at h2
    · rename_i hc
      have e1 := Rv.str x1; have e2 := Rv.int x2; subst e1 e2
      obtain ⟨c, hcc, rfl⟩ := Option.map_eq_some_iff.mp h2
      exact ix_str va sl pins s σ H _ _ v u Q I rx ry ⟨_, _, _, rfl, rfl, hc, hcc, q _ _ (.str _)⟩ hsub
    · cases h2
  · cases h2
/-! ### slices -/
theorem cutD_fz {H : Hp} {Z : Addr → Prop} {xs : List V} {ds : List D} (r : FzAll C H Z xs ds) (lo hi : Option Int) : FzAll C H Z (cutV xs lo hi) (cutD ds lo hi) := by
  unfold cutV cutD
  rw [r.length]
  exact (r.drop _).take _
/-- a slice, by values -/
def rSlP (C : Cn) : V → Option Int → Option Int → Hp → VK → Prop := fun x lo hi H Q => ∃ Z d1 d, Rv C H Z x d1 ∧ sliceD d1 lo hi = some d ∧ ∀ v H', Out true C H Z d v H' → Q v H'
theorem cut_whole {ds : List D} {lo hi : Option Int} (h : HT.sIx ds.length 0 lo = 0 ∧ HT.sIx ds.length ds.length hi = ds.length) : cutD ds lo hi = ds := by
  unfold cutD
  rw [h.1, h.2]
  simp
theorem slr (hK : C.K = X.K) : SlR X (rSlP C) := by
  intro pins s σ H x v vl vu lo hi sl Q I rx hs pl pu hh
  obtain ⟨Z, d1, d, x1, h2, q⟩ := hh
  unfold sliceD at h2
  split at h2
  · cases h2
    obtain ⟨p, xs, rfl, p1, p2⟩ := Rv.lst x1
    exact sl_list pins s σ H _ v vl vu lo hi sl Q I rx hs pl pu ⟨_, _, rfl, SqL.of p1, fun z hz => q _ _ (.lst hz (cutD_fz p2 lo hi))⟩
  · cases h2
    obtain ⟨p, xs, rfl, p1, p2⟩ := Rv.tup x1
    have p1' := p1
    rw [hK] at p1'
    refine sl_tupA pins s σ H _ v vl vu lo hi sl Q I rx hs pl pu ⟨_, _, rfl, p1', fun e => ?_, fun _ z hz => q _ _ (.tup hz (cutD_fz p2 lo hi))⟩
    rw [p2.length] at e
    rw [cut_whole e] at q
    exact q _ _ (.old (.tup p1 p2) fun _ _ z => nomatch z)
  · split at h2
    · rename_i hc; cases h2
      have e1 := Rv.str x1; subst e1
      exact sl_str pins s σ H _ v vl vu lo hi sl Q I rx hs pl pu ⟨_, rfl, hc, q _ _ (.str _)⟩
    · cases h2
  · cases h2
/-! ### built-in functions -/
theorem rP.one {mk : Bool} {o : Op} {vs : List V} {H : Hp} {Q : VK} {p : List D → Option D} (hp : prim o = p) (h : rP mk C o vs H Q) (hn : ∀ ds d, p ds = some d → ∃ d1, ds = [d1]) :
    ∃ Z x d1 d, vs = [x] ∧ Rv C H Z x d1 ∧ p [d1] = some d ∧ ∀ v H', Out mk C H Z d v H' → Q v H' := by
  obtain ⟨Z, ds, d, h1, h2, q⟩ := h
  rw [hp] at h2
  obtain ⟨d1, rfl⟩ := hn _ _ h2
  have hl := h1.length
  match vs, hl with
  | [x], _ =>
    obtain ⟨e, he, x1⟩ := h1.one
    cases he
    exact ⟨Z, x, d1, d, rfl, x1, h2, q⟩
theorem rP.two {mk : Bool} {o : Op} {vs : List V} {H : Hp} {Q : VK} {p : List D → Option D} (hp : prim o = p) (h : rP mk C o vs H Q) (hn : ∀ ds d, p ds = some d → ∃ d1 d2, ds = [d1, d2]) :
    ∃ Z x y d1 d2 d, vs = [x, y] ∧ Rv C H Z x d1 ∧ Rv C H Z y d2 ∧ p [d1, d2] = some d ∧ ∀ v H', Out mk C H Z d v H' → Q v H' := by
  obtain ⟨Z, ds, d, h1, h2, q⟩ := h
  rw [hp] at h2
  obtain ⟨d1, d2, rfl⟩ := hn _ _ h2
  have hl := h1.length
  match vs, hl with
  | [x, y], _ =>
    obtain ⟨e, f, he, x1, x2⟩ := h1.two
    cases he
    exact ⟨Z, x, y, d1, d2, d, rfl, x1, x2, h2, q⟩
theorem cr_len (hK : C.K = X.K) : CallR X (.builtin "len") (rP true C .len) := by
  intro pins s σ H xs us Q I rs hh
  obtain ⟨Z, x, d1, d, rfl, x1, h2, q⟩ := hh.one (p := pLen) rfl (fun ds d h => by unfold pLen at h; split at h <;> first | exact ⟨_, rfl⟩ | cases h)
  unfold pLen at h2
  split at h2
  · rename_i a e; cases e; cases h2
    obtain ⟨p, ys, rfl, p1, p2⟩ := Rv.lst x1
    exact call_len pins s σ H _ us Q I rs ⟨_, _, rfl, .inl ⟨_, SqL.of p1, p2.length.symm⟩, q _ _ (.int _)⟩
  · rename_i a e; cases e; cases h2
    obtain ⟨p, ys, rfl, p1, p2⟩ := Rv.tup x1
    rw [hK] at p1
    exact call_len pins s σ H _ us Q I rs ⟨_, _, rfl, .inr ⟨_, p1, p2.length.symm⟩, q _ _ (.int _)⟩
  · rename_i a e; cases e; cases h2
    obtain ⟨p, ys, rfl, p1, p2⟩ := Rv.scr x1
    rw [hK] at p1
    exact call_len pins s σ H _ us Q I rs ⟨_, _, rfl, .inl ⟨_, p1, p2.length.symm⟩, q _ _ (.int _)⟩
  · rename_i a e; cases e
    split at h2
    · rename_i hc; cases h2
      have e1 := Rv.str x1; subst e1
      exact call_len pins s σ H _ us Q I rs ⟨_, _, rfl, ⟨hc, rfl⟩, q _ _ (.int _)⟩
    · cases h2
  · cases h2
theorem cr_abs : CallR X (.builtin "abs") (rP true C .abs) := by
  intro pins s σ H xs us Q I rs hh
  obtain ⟨Z, x, d1, d, rfl, x1, h2, q⟩ := hh.one (p := pAbs) rfl (fun ds d h => by unfold pAbs at h; split at h <;> first | exact ⟨_, rfl⟩ | cases h)
  unfold pAbs at h2
  split at h2
  · rename_i a e; cases e; cases h2
    have e1 := Rv.int x1; subst e1
    exact call_abs pins s σ H _ us Q I rs ⟨_, rfl, q _ _ (.int _)⟩
  · cases h2
theorem cr_int : CallR X (.type "int") (rP true C .int) := by
  intro pins s σ H xs us Q I rs hh
  obtain ⟨Z, x, d1, d, rfl, x1, h2, q⟩ := hh.one (p := pInt) rfl (fun ds d h => by unfold pInt at h; split at h <;> first | exact ⟨_, rfl⟩ | cases h)
  unfold pInt at h2
  split at h2
  · rename_i a e; cases e; cases h2
    have e1 := Rv.int x1; subst e1
    exact call_int1 pins s σ H _ us Q I rs (.inl ⟨_, rfl, q _ _ (.int _)⟩)
  · rename_i a e; cases e; cases h2
    have e1 := Rv.bl x1; subst e1
    exact call_int1 pins s σ H _ us Q I rs (.inr ⟨_, rfl, q _ _ (.int _)⟩)
  · rename_i a e; cases e
    split at h2
    · rename_i hc
      obtain ⟨n, hn, rfl⟩ := Option.map_eq_some_iff.mp h2
      have e1 := Rv.str x1; subst e1
      exact call_int_str pins s σ H _ us Q I rs ⟨_, _, rfl, hn, hc, q _ _ (.int _)⟩
    · cases h2
  · cases h2
theorem cr_bool : CallR X (.type "bool") (rP true C .bool) := by
  intro pins s σ H xs us Q I rs hh
  obtain ⟨Z, x, d1, d, rfl, x1, h2, q⟩ := hh.one (p := pBool) rfl (fun ds d h => by unfold pBool at h; split at h <;> first | exact ⟨_, rfl⟩ | cases h)
  unfold pBool at h2
  split at h2
  · rename_i a e; cases e; cases h2
    have e1 := Rv.bl x1; subst e1
    exact call_bool1 pins s σ H _ us Q I rs (.inr ⟨_, rfl, q _ _ (.bl _)⟩)
  · rename_i a e; cases e; cases h2
    have e1 := Rv.int x1; subst e1
    exact call_bool1 pins s σ H _ us Q I rs (.inl ⟨_, rfl, q _ _ (.bl _)⟩)
  · cases h2
theorem cr_str : CallR X (.type "str") (rP true C .str) := by
  intro pins s σ H xs us Q I rs hh
  obtain ⟨Z, x, d1, d, rfl, x1, h2, q⟩ := hh.one (p := pStr) rfl (fun ds d h => by unfold pStr at h; split at h <;> first | exact ⟨_, rfl⟩ | cases h)
  unfold pStr at h2
  split at h2
  · rename_i a e; cases e
    split at h2
    · rename_i hc; cases h2
      have e1 := Rv.int x1; subst e1
      exact call_str_int pins s σ H _ us Q I rs ⟨_, rfl, hc, q _ _ (.str _)⟩
    · cases h2
  · cases h2
theorem intL_fz {H : Hp} {Z : Addr → Prop} : ∀ {xs : List V} {ds : List D} {is : List Int}, FzAll C H Z xs ds → intL ds = some is → xs = is.map V.int
  | _, _, is, .nil, h => by cases h; rfl
  | _, _, is, .cons (d := d) (ds := ds) h t, e => by
    cases d with
    | int i =>
      obtain ⟨js, hj, rfl⟩ := Option.map_eq_some_iff.mp (show (intL ds).map (i :: ·) = some is from e)
      cases h
      rw [intL_fz t hj]; rfl
    | _ => cases e
theorem boolL_fz {H : Hp} {Z : Addr → Prop} : ∀ {xs : List V} {ds : List D} {is : List Bool}, FzAll C H Z xs ds → boolL ds = some is → xs = is.map V.bl
  | _, _, is, .nil, h => by cases h; rfl
  | _, _, is, .cons (d := d) (ds := ds) h t, e => by
    cases d with
    | bl i =>
      obtain ⟨js, hj, rfl⟩ := Option.map_eq_some_iff.mp (show (boolL ds).map (i :: ·) = some is from e)
      cases h
      rw [boolL_fz t hj]; rfl
    | _ => cases e
theorem strL_fz {H : Hp} {Z : Addr → Prop} : ∀ {xs : List V} {ds : List D} {is : List Str}, FzAll C H Z xs ds → strL ds = some is → xs = is.map V.str
  | _, _, is, .nil, h => by cases h; rfl
  | _, _, is, .cons (d := d) (ds := ds) h t, e => by
    cases d with
    | str i =>
      obtain ⟨js, hj, rfl⟩ := Option.map_eq_some_iff.mp (show (strL ds).map (i :: ·) = some is from e)
      cases h
      rw [strL_fz t hj]; rfl
    | _ => cases e
theorem cr_sumP (hc : X.calm = true) : CallR X (.builtin "sum") (rP true C .sum) := by
  intro pins s σ H xs us Q I rs hh
  obtain ⟨Z, x, d1, d, rfl, x1, h2, q⟩ := hh.one (p := pSum) rfl (fun ds d h => by unfold pSum at h; split at h <;> first | exact ⟨_, rfl⟩ | cases h)
  unfold pSum at h2
  split at h2
  · rename_i a e; cases e
    obtain ⟨is, hi, rfl⟩ := Option.map_eq_some_iff.mp h2
    obtain ⟨p, ys, rfl, p1, p2⟩ := Rv.lst x1
    have e2 := intL_fz p2 hi; subst e2
    exact cr_sum hc pins s σ H _ us Q I rs ⟨_, _, rfl, SqL.of p1, q _ _ (.int _)⟩
  · cases h2
theorem foldmax : ∀ (r : List Int) (i : Int), (r.foldl (fun a b => if a < b then b else a) i = i ∨ r.foldl (fun a b => if a < b then b else a) i ∈ r) ∧ i ≤ r.foldl (fun a b => if a < b then b else a) i ∧ ∀ y ∈ r, y ≤ r.foldl (fun a b => if a < b then b else a) i
  | [], i => ⟨.inl rfl, Int.le_refl _, fun _ h => nomatch h⟩
  | x :: r, i => by
    obtain ⟨h1, h2, h3⟩ := foldmax r (if i < x then x else i)
    simp only [List.foldl_cons]
    refine ⟨?_, ?_, fun y hy => ?_⟩
    · rcases h1 with h1 | h1
      · rw [h1]
        by_cases h : i < x
        · rw [if_pos h]; exact .inr List.mem_cons_self
        · rw [if_neg h]; exact .inl rfl
      · exact .inr (List.mem_cons_of_mem _ h1)
    · refine Int.le_trans ?_ h2
      split <;> omega
    · rcases List.mem_cons.mp hy with rfl | hy
      · refine Int.le_trans ?_ h2
        split <;> omega
      · exact h3 y hy
theorem foldmin : ∀ (r : List Int) (i : Int), (r.foldl (fun a b => if b < a then b else a) i = i ∨ r.foldl (fun a b => if b < a then b else a) i ∈ r) ∧ r.foldl (fun a b => if b < a then b else a) i ≤ i ∧ ∀ y ∈ r, r.foldl (fun a b => if b < a then b else a) i ≤ y
  | [], i => ⟨.inl rfl, Int.le_refl _, fun _ h => nomatch h⟩
  | x :: r, i => by
    obtain ⟨h1, h2, h3⟩ := foldmin r (if x < i then x else i)
    simp only [List.foldl_cons]
    refine ⟨?_, ?_, fun y hy => ?_⟩
    · rcases h1 with h1 | h1
      · rw [h1]
        by_cases h : x < i
        · rw [if_pos h]; exact .inr List.mem_cons_self
        · rw [if_neg h]; exact .inl rfl
      · exact .inr (List.mem_cons_of_mem _ h1)
    · refine Int.le_trans h2 ?_
      split <;> omega
    · rcases List.mem_cons.mp hy with rfl | hy
      · refine Int.le_trans h2 ?_
        split <;> omega
      · exact h3 y hy
theorem maxI_ok {is : List Int} {m : Int} (h : maxI is = some m) : 0 < is.length ∧ m ∈ is ∧ ∀ y ∈ is, y ≤ m := by
  cases is with
  | nil => cases h
  | cons i r =>
    cases h
    obtain ⟨h1, h2, h3⟩ := foldmax r i
    refine ⟨Nat.succ_pos _, ?_, fun y hy => ?_⟩
    · rcases h1 with h1 | h1
      · rw [h1]; exact List.mem_cons_self
      · exact List.mem_cons_of_mem _ h1
    · rcases List.mem_cons.mp hy with rfl | hy
      · exact h2
      · exact h3 y hy
theorem minI_ok {is : List Int} {m : Int} (h : minI is = some m) : 0 < is.length ∧ m ∈ is ∧ ∀ y ∈ is, m ≤ y := by
  cases is with
  | nil => cases h
  | cons i r =>
    cases h
    obtain ⟨h1, h2, h3⟩ := foldmin r i
    refine ⟨Nat.succ_pos _, ?_, fun y hy => ?_⟩
    · rcases h1 with h1 | h1
      · rw [h1]; exact List.mem_cons_self
      · exact List.mem_cons_of_mem _ h1
    · rcases List.mem_cons.mp hy with rfl | hy
      · exact h2
      · exact h3 y hy
theorem cr_maxP (hc : X.calm = true) : CallR X (.builtin "max") (rP true C .max) := by
  intro pins s σ H xs us Q I rs hh
  obtain ⟨Z, x, d1, d, rfl, x1, h2, q⟩ := hh.one (p := pMax) rfl (fun ds d h => by unfold pMax at h; split at h <;> first | exact ⟨_, rfl⟩ | cases h)
  unfold pMax at h2
  split at h2
  · rename_i a e; cases e
    obtain ⟨m, hm, rfl⟩ := Option.map_eq_some_iff.mp h2
    obtain ⟨is, hi, hm⟩ := Option.bind_eq_some_iff.mp hm
    obtain ⟨p, ys, rfl, p1, p2⟩ := Rv.lst x1
    have e2 := intL_fz p2 hi; subst e2
    obtain ⟨m0, m1, m2⟩ := maxI_ok hm
    refine cr_max hc pins s σ H _ us Q I rs ⟨_, _, rfl, SqL.of p1, m0, fun k k1 k2 => ?_⟩
    have : k = m := Int.le_antisymm (m2 k k1) (k2 m m1)
    subst this
    exact q _ _ (.int _)
  · cases h2
theorem cr_minP (hc : X.calm = true) : CallR X (.builtin "min") (rP true C .min) := by
  intro pins s σ H xs us Q I rs hh
  obtain ⟨Z, x, d1, d, rfl, x1, h2, q⟩ := hh.one (p := pMin) rfl (fun ds d h => by unfold pMin at h; split at h <;> first | exact ⟨_, rfl⟩ | cases h)
  unfold pMin at h2
  split at h2
  · rename_i a e; cases e
    obtain ⟨m, hm, rfl⟩ := Option.map_eq_some_iff.mp h2
    obtain ⟨is, hi, hm⟩ := Option.bind_eq_some_iff.mp hm
    obtain ⟨p, ys, rfl, p1, p2⟩ := Rv.lst x1
    have e2 := intL_fz p2 hi; subst e2
    obtain ⟨m0, m1, m2⟩ := minI_ok hm
    refine cr_min hc pins s σ H _ us Q I rs ⟨_, _, rfl, SqL.of p1, m0, fun k k1 k2 => ?_⟩
    have : k = m := Int.le_antisymm (k2 m m1) (m2 k k1)
    subst this
    exact q _ _ (.int _)
  · cases h2
theorem cr_max2 (hc : X.calm = true) : CallR X (.builtin "max") (rP true C .max2) := by
  intro pins s σ H xs us Q I rs hh
  obtain ⟨Z, x, y, d1, d2, d, rfl, x1, x2, h2, q⟩ := hh.two (p := pMax2) rfl (fun ds d h => by unfold pMax2 at h; split at h <;> first | exact ⟨_, _, rfl⟩ | cases h)
  unfold pMax2 at h2
  split at h2
  · rename_i a b e; cases e; cases h2
    have e1 := Rv.int x1; have e2 := Rv.int x2; subst e1 e2
    exact call_max2 hc pins s σ H _ us Q I rs ⟨_, _, rfl, q _ _ (.int _)⟩
  · cases h2
theorem cr_min2 (hc : X.calm = true) : CallR X (.builtin "min") (rP true C .min2) := by
  intro pins s σ H xs us Q I rs hh
  obtain ⟨Z, x, y, d1, d2, d, rfl, x1, x2, h2, q⟩ := hh.two (p := pMin2) rfl (fun ds d h => by unfold pMin2 at h; split at h <;> first | exact ⟨_, _, rfl⟩ | cases h)
  unfold pMin2 at h2
  split at h2
  · rename_i a b e; cases e; cases h2
    have e1 := Rv.int x1; have e2 := Rv.int x2; subst e1 e2
    exact call_min2 hc pins s σ H _ us Q I rs ⟨_, _, rfl, q _ _ (.int _)⟩
  · cases h2
theorem cr_allP (hc : X.calm = true) : CallR X (.builtin "all") (rP true C .all) := by
  intro pins s σ H xs us Q I rs hh
  obtain ⟨Z, x, d1, d, rfl, x1, h2, q⟩ := hh.one (p := pAll) rfl (fun ds d h => by unfold pAll at h; split at h <;> first | exact ⟨_, rfl⟩ | cases h)
  unfold pAll at h2
  split at h2
  · rename_i a e; cases e
    obtain ⟨is, hi, rfl⟩ := Option.map_eq_some_iff.mp h2
    obtain ⟨p, ys, rfl, p1, p2⟩ := Rv.lst x1
    have e2 := boolL_fz p2 hi; subst e2
    exact cr_all hc pins s σ H _ us Q I rs ⟨_, _, rfl, SqL.of p1, q _ _ (.bl _)⟩
  · cases h2
theorem cr_anyP (hc : X.calm = true) : CallR X (.builtin "any") (rP true C .any) := by
  intro pins s σ H xs us Q I rs hh
  obtain ⟨Z, x, d1, d, rfl, x1, h2, q⟩ := hh.one (p := pAny) rfl (fun ds d h => by unfold pAny at h; split at h <;> first | exact ⟨_, rfl⟩ | cases h)
  unfold pAny at h2
  split at h2
  · rename_i a e; cases e
    obtain ⟨is, hi, rfl⟩ := Option.map_eq_some_iff.mp h2
    obtain ⟨p, ys, rfl, p1, p2⟩ := Rv.lst x1
    have e2 := boolL_fz p2 hi; subst e2
    exact cr_any hc pins s σ H _ us Q I rs ⟨_, _, rfl, SqL.of p1, q _ _ (.bl _)⟩
  · cases h2
theorem cr_tuple (hK : C.K = X.K) : CallR X (.type "tuple") (rP true C .tuple) := by
  intro pins s σ H xs us Q I rs hh
  obtain ⟨Z, x, d1, d, rfl, x1, h2, q⟩ := hh.one (p := pTuple) rfl (fun ds d h => by unfold pTuple at h; split at h <;> first | exact ⟨_, rfl⟩ | cases h)
  unfold pTuple at h2
  split at h2
  · rename_i a e; cases e; cases h2
    obtain ⟨p, ys, rfl, p1, p2⟩ := Rv.lst x1
    exact call_tuple_of pins s σ H _ us Q I rs ⟨_, _, rfl, .inl ⟨SqL.of p1, fun z hz => q _ _ (.tup hz p2)⟩⟩
  · rename_i a e; cases e; cases h2
    obtain ⟨p, ys, rfl, p1, p2⟩ := Rv.tup x1
    have p1' := p1
    rw [hK] at p1'
    exact call_tuple_of pins s σ H _ us Q I rs ⟨_, _, rfl, .inr ⟨p1', q _ _ (.old (.tup p1 p2) fun _ _ z => nomatch z)⟩⟩
  · cases h2
theorem cr_list (hK : C.K = X.K) : CallR X (.type "list") (rP true C .list) := by
  intro pins s σ H xs us Q I rs hh
  obtain ⟨Z, x, d1, d, rfl, x1, h2, q⟩ := hh.one (p := pList) rfl (fun ds d h => by unfold pList at h; split at h <;> first | exact ⟨_, rfl⟩ | cases h)
  unfold pList at h2
  split at h2
  · rename_i a e; cases e; cases h2
    obtain ⟨p, ys, rfl, p1, p2⟩ := Rv.lst x1
    exact call_list_of pins s σ H _ us Q I rs ⟨_, _, rfl, .inl (SqL.of p1), fun z hz => q _ _ (.lst hz p2)⟩
  · rename_i a e; cases e; cases h2
    obtain ⟨p, ys, rfl, p1, p2⟩ := Rv.tup x1
    rw [hK] at p1
    exact call_list_of pins s σ H _ us Q I rs ⟨_, _, rfl, .inr p1, fun z hz => q _ _ (.lst hz p2)⟩
  · cases h2
/-! ### isinstance -/
def tyN : Ty → String
  | .int => "int" | .bool => "bool" | .str => "str" | .tuple => "tuple" | .list => "list" | _ => "ValueError"
def tyVal (C : Cn) : Ty → V
  | .exc h => .ref (C.ea h)
  | t => .ty (tyN t)
def tyD : D → String
  | .non => "NoneType" | .bl _ => "bool" | .int _ => "int" | .str _ => "str" | .lst _ => "list" | .tup _ => "tuple" | _ => ""
theorem ty_of (hK : C.K = X.K) {H : Hp} {Z : Addr → Prop} {x : V} {d : D} (h : Rv C H Z x d) (n1 : ∀ xs, d ≠ .scr xs) (n2 : ∀ c a, d ≠ .exc c a) :
    ∃ T, TyX X.K H x (.type T) ∧ T = tyD d := by
  cases d with
  | non => have := Rv.non h; subst this; exact ⟨_, .base .non, rfl⟩
  | bl b => have := Rv.bl h; subst this; exact ⟨_, .base (.bl _), rfl⟩
  | int b => have := Rv.int h; subst this; exact ⟨_, .base (.int _), rfl⟩
  | str b => have := Rv.str h; subst this; exact ⟨_, .base (.str _), rfl⟩
  | lst b =>
    obtain ⟨p, ys, rfl, p1, p2⟩ := Rv.lst h
    exact ⟨_, .base (.lst p1), rfl⟩
  | tup b =>
    obtain ⟨p, ys, rfl, p1, p2⟩ := Rv.tup h
    rw [hK] at p1
    rcases p1 with (p1 | ⟨o, p1⟩) | ⟨o, its, n, q1, q2, _⟩
    · exact ⟨_, .base (.tup p1), rfl⟩
    · exact ⟨_, .fTuple p1, rfl⟩
    · exact ⟨_, .kTuple q1 q2, rfl⟩
  | scr b => exact absurd rfl (n1 b)
  | exc c a => exact absurd rfl (n2 c a)
theorem kits {K : PySem.W.Frag} (t : Ty) (d : D) (b : Bool) (h : isTy t d = some b) (n2 : ∀ c a, d ≠ .exc c a) :
    PySem.W.kitOne K (.type (tyD d)) (.type (tyN t)) = some b ∧ (∀ h, t ≠ .exc h) ∧ ∀ xs, d ≠ .scr xs := by
  cases d with
  | exc c a => exact absurd rfl (n2 c a)
  | scr xs => cases t <;> cases h
  | _ =>
    cases t <;> first
    | (cases h; done)
    | (cases h; refine ⟨kit_ty (by dsimp only [tyD, tyN]; decide +kernel), (fun _ e => nomatch e), fun _ e => nomatch e⟩)
/-- isinstance(x, T) of plain data -/
theorem cr_isinst (hK : C.K = X.K) (t : Ty) (hx : ∀ c a, C.px c a ≠ C.px c a) : True := trivial
def rIsT (C : Cn) (t : Ty) : List V → Hp → VK → Prop := fun vs H Q => ∃ x, vs = [x, tyVal C t] ∧ rP true C (.isinst t) [x] H Q
theorem cr_isT (hK : C.K = X.K) (t : Ty) (hx : ∀ a cls dd, ¬ C.px a cls dd) : CallR X (.builtin "isinstance") (rIsT C t) := by
  intro pins s σ H xs us Q I rs hh
  obtain ⟨x, rfl, hh⟩ := hh
  obtain ⟨Z, y, d1, d, e, x1, h2, q⟩ := hh.one (p := pIsinst t) rfl (fun ds d h => by unfold pIsinst at h; split at h <;> first | exact ⟨_, rfl⟩ | cases h)
  cases e
  obtain ⟨b, hb, rfl⟩ := Option.map_eq_some_iff.mp (show (isTy t d1).map D.bl = some d from h2)
  have n2 : ∀ c a, d1 ≠ .exc c a := fun c a e => by
    subst e
    cases x1.fz (fun _ e => nomatch e) with
    | exc p _ => exact hx _ _ _ p
  obtain ⟨k1, k2, k3⟩ := kits (K := X.K) t d1 b hb n2
  obtain ⟨T, ty, rfl⟩ := ty_of hK x1 k3 n2
  have e : tyVal C t = .ty (tyN t) := by cases t <;> first | rfl | exact absurd rfl (k2 _)
  rw [e] at rs
  exact call_isi pins s σ H _ us Q I rs ⟨_, _, _, _, _, rfl, .ty _, ty, k1, q _ _ (.bl _)⟩
/-! ### methods -/
theorem mt_indexP (hK : C.K = X.K) (hu : X.A.units + 65 < cLine) : MtR X "list.index" (fun x xs H Q => (∃ a ys, x = .ref a ∧ H a = some (.lst ys)) ∧ rP true C .index (x :: xs) H Q) := by
  intro pins s σ H x xs v us Q I rx rs hh
  obtain ⟨_, hh⟩ := hh
  obtain ⟨Z, x', y, d1, d2, d, e, x1, x2, h2, q⟩ := hh.two (p := pIndex) rfl (fun ds d h => by unfold pIndex at h; split at h <;> first | exact ⟨_, _, rfl⟩ | cases h)
  cases e
  unfold pIndex at h2
  split at h2
  · rename_i ys z0 e; cases e
    split at h2
    · rename_i hc
      rw [Bool.and_eq_true] at hc
      obtain ⟨k, hk, rfl⟩ := Option.map_eq_some_iff.mp h2
      obtain ⟨p, ws, rfl, p1, p2⟩ := Rv.lst x1
      have key : ∀ (l : List D) (m k : Nat), l.all (shal 58) = true → findIx d2 l m = some k → m ≤ k ∧ (∃ w, l[k - m]? = some w ∧ PyData.eqv (toPy w) (toPy d2) = true) ∧ ∀ j w, j < k - m → l[j]? = some w → PyData.eqv (toPy w) (toPy d2) = false := by
        intro l
        induction l with
        | nil => intro m k _ h; cases h
        | cons w l ih =>
          intro m k hl h
          rw [List.all_cons, Bool.and_eq_true] at hl
          have e0 := deq_py 58 60 w d2 hl.1 hc.1
          unfold findIx at h
          split at h
          · rename_i hw
            cases h
            refine ⟨Nat.le_refl _, ⟨w, by simp, by rw [← e0]; exact hw⟩, fun j w' hj _ => ?_⟩
            omega
          · rename_i hw
            obtain ⟨i1, ⟨w', i2, i3⟩, i4⟩ := ih (m + 1) k hl.2 h
            refine ⟨by omega, ⟨w', ?_, i3⟩, fun j u hj hu' => ?_⟩
            · have : k - m = (k - (m + 1)) + 1 := by omega
              rw [this, List.getElem?_cons_succ]; exact i2
            · cases j with
              | zero =>
                cases hu'
                rw [← e0]
                simpa using hw
              | succ j =>
                exact i4 j u (by omega) (by simpa using hu')
      obtain ⟨_, ⟨w, i2, i3⟩, i4⟩ := key ys 0 k hc.2 hk
      rw [Nat.sub_zero] at i2 i4
      have k2 := Rv.dp x2 hc.1
      rw [hK] at k2
      have k1 : Dp X.K H (.ref p) (.list (toPys ys)) := .lst (SqL.of p1) (by rw [← hK]; exact p2.dp 58 hc.2)
      refine mt_indexD hu pins s σ H _ _ v us Q I rx rs ⟨p, y, toPy d2, toPys ys, k, toPy w, rfl, rfl, k1, k2, lst_shaped hc.2, shal_shaped (by decide) hc.1, ?_, i3, fun m z' hm hz => ?_, q _ _ (.int _)⟩
      · rw [toPys_map, List.getElem?_map, i2]; rfl
      · rw [toPys_map, List.getElem?_map] at hz
        obtain ⟨w', hw', rfl⟩ := Option.map_eq_some_iff.mp hz
        exact i4 m w' hm hw'
    · cases h2
  · cases h2
theorem mt_partP : MtR X "str.partition" (fun x xs H Q => rP true C .partition (x :: xs) H Q) := by
  intro pins s σ H x xs v us Q I rx rs hh
  obtain ⟨Z, x', y, d1, d2, d, e, x1, x2, h2, q⟩ := hh.two (p := pPartition) rfl (fun ds d h => by unfold pPartition at h; split at h <;> first | exact ⟨_, _, rfl⟩ | cases h)
  cases e
  unfold pPartition at h2
  split at h2
  · rename_i a b e; cases e
    split at h2
    · cases h2
    · rename_i hc
      cases h2
      simp only [Bool.or_eq_true, decide_eq_true_eq, not_or] at hc
      have e1 := Rv.str x1; have e2 := Rv.str x2; subst e1 e2
      refine mt_partition pins s σ H _ _ v us Q I rx rs ⟨_, _, rfl, rfl, by simpa using hc.1, by omega, fun p hp => q _ _ (.tup hp ?_)⟩
      exact .cons (.str _) (.cons (.str _) (.cons (.str _) .nil))
  · cases h2
theorem mt_splitP : MtR X "str.split" (fun x xs H Q => rP true C .split (x :: xs) H Q) := by
  intro pins s σ H x xs v us Q I rx rs hh
  obtain ⟨Z, x', y, d1, d2, d, e, x1, x2, h2, q⟩ := hh.two (p := pSplit) rfl (fun ds d h => by unfold pSplit at h; split at h <;> first | exact ⟨_, _, rfl⟩ | cases h)
  cases e
  unfold pSplit at h2
  split at h2
  · rename_i a b e; cases e
    split at h2
    · cases h2
    · rename_i hc
      cases h2
      simp only [Bool.or_eq_true, decide_eq_true_eq, not_or] at hc
      have e1 := Rv.str x1; have e2 := Rv.str x2; subst e1 e2
      refine mt_split pins s σ H _ _ v us Q I rx rs ⟨_, _, rfl, rfl, by simpa using hc.1, by omega, fun p hp => q _ _ (.lst hp ?_)⟩
      generalize Txt.split a b = l
      induction l with
      | nil => exact .nil
      | cons x l ih => exact .cons (.str _) ih
  · cases h2
theorem mt_joinP (hK : C.K = X.K) : MtR X "str.join" (fun x xs H Q => rP true C .join (x :: xs) H Q) := by
  intro pins s σ H x xs v us Q I rx rs hh
  obtain ⟨Z, x', y, d1, d2, d, e, x1, x2, h2, q⟩ := hh.two (p := pJoin) rfl (fun ds d h => by unfold pJoin at h; split at h <;> first | exact ⟨_, _, rfl⟩ | cases h)
  cases e
  unfold pJoin at h2
  split at h2
  · rename_i a l e; cases e
    obtain ⟨ys, hy, h2⟩ := Option.bind_eq_some_iff.mp h2
    split at h2
    · rename_i hc; cases h2
      have e1 := Rv.str x1; subst e1
      obtain ⟨p, ws, rfl, p1, p2⟩ := Rv.lst x2
      have e2 := strL_fz p2 hy; subst e2
      exact mt_join pins s σ H _ _ v us Q I rx rs ⟨_, _, _, rfl, rfl, .inl (SqL.of p1), of_decide_eq_true hc, q _ _ (.str _)⟩
    · cases h2
  · rename_i a l e; cases e
    obtain ⟨ys, hy, h2⟩ := Option.bind_eq_some_iff.mp h2
    split at h2
    · rename_i hc; cases h2
      have e1 := Rv.str x1; subst e1
      obtain ⟨p, ws, rfl, p1, p2⟩ := Rv.tup x2
      rw [hK] at p1
      have e2 := strL_fz p2 hy; subst e2
      exact mt_join pins s σ H _ _ v us Q I rx rs ⟨_, _, _, rfl, rfl, .inr p1, of_decide_eq_true hc, q _ _ (.str _)⟩
    · cases h2
  · cases h2
end
end PF

set_option Elab.async false
set_option linter.all false
set_option maxRecDepth 100000
set_option maxHeartbeats 2000000
/-! PF51: sorted. -/
namespace PF
open PySem PySem.Spec PyProof.Rows L2
theorem sortedAll_keep {h : Heap} {a b : Addr} {vs : List Value} {out : Array Value} {o : Obj} (hb : b ≠ a) (e : h.get? b = some o) : (sortedHeap h a vs out).get? b = some o := by
  rw [sortedHeap_old hb (Heap.lt_size e)]; exact e
/-- sorted of a list or a tuple of data -/
theorem sorted_seqD {β : Type} {prog : Program} {w : World} {A : Around} {E : Value → Shared → Prop} {s : Shared} {bs : List β} {enc : β → PyData} {R : Value → β → Prop} {l : Addr} {T : String} {o : Obj} {its : Array Value} {n : Nat} {Q : Value → Shared → Prop}
    (hT : T = "list" ∨ T = "tuple") (ho : s.heap.get? l = some o) (hc : o.cls = .type T) (hd : o.data = .seq its n) (hz : its.size ≤ sizeLine)
    (e : PySem.W.EachIs R its.toList bs) (er : PySem.W.EachIs (fun v b => ∃ as, Reads s.heap v (enc b) as) its.toList bs) (hal : PySem.W.AllAlike (bs.map enc)) (hk : PySem.W.Sortable (bs.map enc))
    (hu : ∀ b, b ∈ bs → A.units + 2 + (enc b).depth < cLine)
    (h : ∀ (h' : Heap) (d : Addr) (out : List Value), out.length = bs.length → PySem.W.EachIs R out (bs.mergeSort (PySem.W.dataLe false enc)) → (∀ b o, s.heap.get? b = some o → h'.get? b = some o) → s.heap.get? d = none → (∃ ep, h'.get? d = some (seqObj "list" out.toArray ep)) → Q (.ref d) { s with heap := h' }) :
    wpAny (model prog w) A (call (.builtin "sorted") [.ref l]) Q E s := by
  refine Calls.call_function_entry kind_sorted plain_sorted entry_sorted (args_sorted1 _) ?_
  unfold Builtin.«sorted»
  refine wpAny_bind (m := checkCount "sorted" 1 1 _) (wpAny_pure ?_)
  refine wpAny_bind (wpAny_collect_seq l hT ho hc hd (fun h1 k1 => ?_) hz)
  refine wpAny_bind (wpAny_newList ?_ (by rw [Array.length_toList]; exact hz))
  have hL : bs.length ≤ sizeLine := by rw [← e.length, Array.length_toList]; exact hz
  have at2 : (h1.push (seqObj "list" its.toList.toArray 0)).get? h1.objs.size = some (seqObj "list" its.toList.toArray 0) := Heap.get?_push_size _ rfl
  have keep2 : ∀ b o, s.heap.get? b = some o → (h1.push (seqObj "list" its.toList.toArray 0)).get? b = some o := fun b o q => Heap.get?_push_of_some _ (k1 b o q)
  have nin : ∀ b o, s.heap.get? b = some o → b ≠ h1.objs.size := fun b o q z => by
    have := Heap.lt_size (k1 _ _ q)
    rw [z] at this
    exact absurd this (Nat.lt_irrefl _)
  have new : s.heap.get? h1.objs.size = none := by
    cases q : s.heap.get? h1.objs.size with
    | none => rfl
    | some o => exact (nin _ o q rfl).elim
  refine wpAny_bind (wpAny_holding (PySem.W.list_sort_data (A := A.in1) (R := R) (enc := enc) (bs := bs) at2 e ?_ hal hk hL (fun b hb => ?_) fun out ol oe => ?_))
  · refine er.mono fun v b ⟨as, r⟩ => ⟨as, PyProof.Rows.Reads.keeps keep2 r, fun hm => ?_⟩
    obtain ⟨o, q⟩ := PyProof.On.reads_mem_get r _ hm
    exact nin _ o q rfl
  · have := hu b hb
    show A.units + 1 + 1 + (enc b).depth < cLine
    omega
  · obtain ⟨ep, he'⟩ := PyProof.Rows.sortedHeap_at (vs := its.toList) (out := out.toArray) at2
    exact wpAny_pure ⟨_, rfl, h _ _ out ol oe (fun b o q => sortedAll_keep (nin b o q) (keep2 b o q)) new ⟨ep, he'⟩⟩
section
variable {X : Cx} {C : Cn}
theorem each_fz {X : Cx} {pins : List (Addr × Obj)} {σ : L2.St} {H : Hp} {s : Shared} {Z : Addr → Prop} (I : Inv X pins σ H s) (hK : C.K = X.K) : ∀ {xs : List V} {us : List Value} {ds : List D}, FzAll C H Z xs ds → Vals xs us → ds.all (shal 40) = true →
    PySem.W.EachIs (fun u d => ∃ v, RelV v u ∧ Fz C H Z v d) us ds ∧ PySem.W.EachIs (fun u d => ∃ as, Reads s.heap u (toPy d) as) us ds
  | _, _, _, .nil, .nil, _ => ⟨.nil, .nil⟩
  | _, _, _, .cons h t, .cons r rs, e => by
    rw [List.all_cons, Bool.and_eq_true] at e
    obtain ⟨a, b⟩ := each_fz I hK t rs e.2
    have dp := Fz.dp 40 h e.1
    rw [hK] at dp
    exact ⟨.cons ⟨_, r, h⟩ a, .cons (Dp.reads I _ _ _ dp r) b⟩
theorem fz_each {H : Hp} {Z : Addr → Prop} : ∀ {us : List Value} {ds : List D}, PySem.W.EachIs (fun u d => ∃ v, RelV v u ∧ Fz C H Z v d) us ds → ∃ xs, Vals xs us ∧ FzAll C H Z xs ds
  | _, _, .nil => ⟨[], .nil, .nil⟩
  | _, _, .cons ⟨v, r, f⟩ t => by
    obtain ⟨xs, rs, fs⟩ := fz_each t
    exact ⟨v :: xs, .cons r rs, .cons f fs⟩
theorem srtD_ok {xs : List D} {d : D} (h : srtD xs = some d) : xs.all (shal 40) = true ∧ PySem.W.Sortable (xs.map toPy) ∧ PySem.W.AllAlike (xs.map toPy) ∧ d = .lst (xs.mergeSort leD) := by
  unfold srtD at h
  split at h
  · rename_i hc
    cases h
    simp only [Bool.and_eq_true, Bool.or_eq_true, List.all_eq_true] at hc
    obtain ⟨⟨h1, h2⟩, h3⟩ := hc
    refine ⟨List.all_eq_true.mpr h1, ?_, fun a ha b hb => ?_, rfl⟩
    · rcases h2 with h2 | h2
      · refine .inl fun p hp => ?_
        obtain ⟨x, hx, rfl⟩ := List.mem_map.mp hp
        have := h2 x hx
        match x, this with
        | .tup (y :: ys), _ => exact ⟨_, _, rfl⟩
      · refine .inr fun p hp => ?_
        obtain ⟨x, hx, rfl⟩ := List.mem_map.mp hp
        have := h2 x hx
        cases x <;> first
          | (cases this; done)
          | exact ⟨(fun e => nomatch e), (fun _ e => nomatch e)⟩
    · obtain ⟨x, hx, rfl⟩ := List.mem_map.mp ha
      obtain ⟨y, hy, rfl⟩ := List.mem_map.mp hb
      exact h3 x hx y hy
  · cases h
theorem cr_sortedP (hK : C.K = X.K) (hu : X.A.units + 64 < cLine) : CallR X (.builtin "sorted") (rP true C .sorted) := by
  intro pins s σ H xs us Q I rs hh
  obtain ⟨Z, x, d1, d, rfl, x1, h2, q⟩ := hh.one (p := pSorted) rfl (fun ds d h => by unfold pSorted at h; split at h <;> first | exact ⟨_, rfl⟩ | cases h)
  have go : ∀ {p : Addr} {ys : List V} {ds : List D} {T : String} {o : Obj} {its : Array Value} {n : Nat}, x = .ref p → FzAll C H Z ys ds → (T = "list" ∨ T = "tuple") → s.heap.get? p = some o → o.cls = .type T → o.data = .seq its n → its.size ≤ sizeLine → Vals ys its.toList → srtD ds = some d →
      wpAny (model X.prog X.w) X.A (call (.builtin "sorted") us) (EP X pins σ Q) X.xe s := by
    intro p ys ds T o its n ex fz hT ho hc hd hz rv hs
    subst ex
    obtain ⟨a1, a2, a3, rfl⟩ := srtD_ok hs
    obtain ⟨e1, e2⟩ := each_fz I hK fz rv a1
    rw [Vals.ref1 rs]
    refine sorted_seqD (enc := toPy) hT ho hc hd hz e1 e2 a3 a2 (fun b hb => ?_) fun h' c out ol oe k nc hn => ?_
    · have := (shal_lay 40 b (List.all_eq_true.mp a1 b hb)).2
      omega
    · obtain ⟨zs, rz, fz'⟩ := fz_each oe
      obtain ⟨ep, he⟩ := hn
      have hcn := I.hok.gone nc
      have hlen : zs.length ≤ sizeLine := by
        rw [fz'.length, List.length_mergeSort, ← fz.length, rv.length, Array.length_toList]; exact hz
      exact ⟨.ref c, upd H c (.lst zs), I.laidN (t' := s.toks) k nc hcn ⟨hlen, out, ep, rz, he⟩, rfl, q _ _ (.lst hcn fz')⟩
  unfold pSorted at h2
  split at h2
  · rename_i a e; cases e
    obtain ⟨p, ys, rfl, p1, p2⟩ := Rv.lst x1
    obtain ⟨its, rv, hl, hz⟩ := I.list (SqL.of p1)
    obtain ⟨o, ho, hc, n, hd⟩ := hl.isList
    exact go rfl p2 (.inl rfl) ho hc hd (by rw [List.size_toArray, ← rv.length]; exact hz) (by simpa using rv) h2
  · rename_i a e; cases e
    obtain ⟨p, ys, rfl, p1, p2⟩ := Rv.tup x1
    rw [hK] at p1
    obtain ⟨its, rv, hl, hz⟩ := I.tuple p1
    obtain ⟨o, ho, hc, n, hd⟩ := hl
    exact go rfl p2 (.inr rfl) ho hc hd (by rw [List.size_toArray, ← rv.length]; exact hz) (by simpa using rv) h2
  · cases h2
end
end PF

set_option Elab.async false
set_option linter.all false
set_option maxRecDepth 100000
set_option maxHeartbeats 1000000
/-! PF6: what is known of a context; how readings follow one another. -/
namespace PF
open PySem PySem.Spec PyProof.Rows L2

/-! ### a def's promise -/
structure After (C : Cn) (io : Option Addr) (Z : Addr → Prop) (H : Hp) (Z' : Addr → Prop) (H' : Hp) : Prop where
  zle : ∀ a, Z a → Z' a
  zin : ∀ a, Z' a → Z a ∨ H a = none
  ztr : ∀ a, Z' a → ∃ o, H' a = some o
  frm : ∀ a o, H a = some o → io ≠ some a → H' a = some o
/-- n arguments; io: the first one is a list that may be changed; fr: the answer is a list of one's own -/
def spOf (C : Cn) (φ : List D → Fr) (n : Nat) (io fr : Bool) : Sp := fun vs H Q E => vs.length = n ∧ ∃ Z, (∀ a, Z a → ∃ o, H a = some o) ∧
  match io with
  | false => ∃ ds, FzAll C H Z vs ds ∧ (match φ ds with
    | .ok d _ => ∀ v Z' H', After C none Z H Z' H' → (if fr then ∃ a xs es, v = .ref a ∧ d = .lst es ∧ H' a = some (.lst xs) ∧ FzAll C H' Z' xs es ∧ ¬ Z' a ∧ H a = none else Fz C H' Z' v d) → Q v H'
    | .exc x => ∀ Z' H' cls dd, After C none Z H Z' H' → exv C H' cls dd x.c x.a → E cls dd H'
    | .bad => False)
  | true => ∃ p ws xs es ds, vs = .ref p :: ws ∧ H p = some (.lst xs) ∧ FzAll C H Z xs es ∧ ¬ Z p ∧ FzAll C H Z ws ds ∧ (match φ (.lst es :: ds) with
    | .ok d m => ∀ v xs' Z' H', After C (some p) Z H Z' H' → Fz C H' Z' v d → H' p = some (.lst xs') → FzAll C H' Z' xs' m → ¬ Z' p → Q v H'
    | _ => False)
structure Callee (C : Cn) (X : Cx) (M : Mo) (L : Nat) (fresh : List Nat) (ar : List (Nat × Nat)) (f : Nat) (io : Bool) (x : Str) : Prop where
  ex : ∃ (k : Nat) (a : Addr) (fd : FuncData) (ps : List Str), k ≤ L ∧ ar.lookup f = some ps.length ∧ X.mg x = some (.ref a) ∧ PySem.W.keepIn X.K (.ref a) = true ∧ Binds X.K fd ps [] ∧
    FnOk X.prog X.w X.K X.mg X.base (L2.CX X.prog X.w) k a fd ps (spOf C (M.fn f) ps.length io (fresh.contains f))
/-- an error class of the text without own __init__ -/
structure ExcFacts (K : PySem.W.Frag) (a : Addr) : Prop where
  ex : ∃ (B newId initId : String) (bmB : List Value), ExcBaseFacts B newId initId bmB ∧ PySem.W.excIn K a bmB newId = true ∧ PySem.W.keepIn K (.ref a) = true ∧ PySem.W.subIn K (.ref a) (.type "BaseException") = some true ∧ PySem.W.typeIn K (.ref a) = some (.type "type")
structure Good (S : SC) (M : Mo) (C : Cn) (L : Nat) (X : Cx) : Prop where
  N : X.N = S.N
  nd : S.N.Nodup
  sc : X.env.scope = S.sc
  calm : S.hot = false → X.calm = true
  K : C.K = X.K
  room : S.hot = false → Room (L + 1) X.A
  units : X.A.units + 66 < cLine
  fn : ∀ x, S.wc.contains x = true → X.fn x = true
  free : ∀ x, S.free.contains x = true → X.mg x = none
  cst : ∀ x d, S.cst.lookup x = some d → ∃ u v, X.mg x = some u ∧ RelV v u ∧ ∀ H Z, Fz C H Z v d
  fns : S.hot = false → ∀ x f io, S.fns.lookup x = some (f, io) → Callee C X M L S.fresh S.ar f io x
  exs : ∀ x c, S.exs.lookup x = some c → X.mg x = some (.ref (C.ea c))
  mkx : ∀ x, S.exs.lookup x = some 0 → ExcFacts X.K (C.ea 0)
  exq : ∀ x c, S.exs.lookup x = some c → C.ex c = true
  exm : ∀ y h, S.exs.lookup y = some h → ∀ c, c < 3 → C.ex c = true → PySem.W.exmOne X.K (.ref (C.ea c)) (.ref (C.ea h)) = some (hits h c)
  px : ∀ a cls dd, C.px a cls dd → S.hot = true ∧ ∃ oe, (a, oe) ∈ X.pn ∧ Zc cls dd oe ∧ ∃ vs, oe.data = .fields vs

/-! ### readings in a row -/
def Lands {α : Type} (C : Cn) (W : WX) (σ : L2.St) (B : Bs) (Z : Addr → Prop) (H : Hp) (q : Bool) (r : Rs α) (ok : α → (Addr → Prop) → Hp → En → Prop) : Prop := match r with
  | .ok a ρ' => ∀ Z' H', Rel C B Z' H' σ ρ' → (∀ a, Z a → Z' a) → Keep Z H H' → (q = true → Same H H') → ok a Z' H' ρ'
  | .exc x ρ' => ∀ Z' H' cls dd, Rel C B Z' H' σ ρ' → (∀ a, Z a → Z' a) → Keep Z H H' → exv C H' cls dd x.c x.a → W cls dd σ H'
  | .bad => False
section
variable {α β : Type} {C : Cn} {W : WX} {σ : L2.St} {B : Bs} {Z Z1 : Addr → Prop} {H H1 : Hp} {q q1 q2 : Bool}
theorem Lands.imp {r : Rs α} {ok ok' : α → (Addr → Prop) → Hp → En → Prop} (h : Lands C W σ B Z H q r ok)
    (hi : ∀ a Z' H' ρ', Rel C B Z' H' σ ρ' → (∀ a, Z a → Z' a) → Keep Z H H' → (q = true → Same H H') → ok a Z' H' ρ' → ok' a Z' H' ρ') : Lands C W σ B Z H q r ok' := by
  cases r with
  | ok a ρ' => exact fun Z' H' R z k s => hi a Z' H' ρ' R z k s (h Z' H' R z k s)
  | exc x ρ' => exact h
  | bad => exact h
theorem Lands.shift {r : Rs α} {ok : α → (Addr → Prop) → Hp → En → Prop} (h : Lands C W σ B Z H q r ok) (z : ∀ a, Z a → Z1 a) (k : Keep Z H H1) (s : q = true → Same H H1 ∧ q2 = true) : Lands C W σ B Z1 H1 q2 r ok := by
  cases r with
  | ok a ρ' => exact fun Z' H' R z' k' s' => h Z' H' R (fun a m => z' a (z a m)) (k.trans z k') fun e => (s e).1.trans (s' (s e).2)
  | exc x ρ' => exact fun Z' H' cls dd R z' k' e => h Z' H' cls dd R (fun a m => z' a (z a m)) (k.trans z k') e
  | bad => exact h
theorem Lands.bind {r : Rs α} {f : α → En → Rs β} {ok : β → (Addr → Prop) → Hp → En → Prop} (h : Lands C W σ B Z H q (r.bind f) ok) (hq : q = true → q1 = true ∧ q2 = true) :
    Lands C W σ B Z H q1 r (fun a Z1 H1 ρ1 => Lands C W σ B Z1 H1 q2 (f a ρ1) ok) := by
  cases r with
  | ok a ρ' =>
    intro Z' H' R z k s
    exact Lands.shift (r := f a ρ') h z k fun e => ⟨s (hq e).1, (hq e).2⟩
  | exc x ρ' => exact h
  | bad => exact h
theorem Lands.stay {a : α} {ρ : En} {ok : α → (Addr → Prop) → Hp → En → Prop} (h : Lands C W σ B Z H q (.ok a ρ) ok) (R : Rel C B Z H σ ρ) : ok a Z H ρ :=
  h Z H R (fun _ m => m) (Keep.refl _ _) fun _ => Same.refl H
end
def BOk (io : Bool) (B : Bs) : Prop := B.io ≠ none → io = true
section
variable (M : Mo) (C : Cn) (W : WX) (io : Bool)
/-- an expression's reading, by its value -/
def tX (m : Bool) (c : Ex) : TE := fun σ H Q => ∃ B Z ρ, BOk io B ∧ Rel C B Z H σ ρ ∧ Lands C W σ B Z H (quiet c) (ev M c ρ) fun d Z' H' _ => ∀ v, Rm m C H' Z' v d → Q v H'
def tXT (c : Tx) : TT := fun σ H Q => ∃ B Z ρ, BOk io B ∧ Rel C B Z H σ ρ ∧ Lands C W σ B Z H (quietT c) (evT M c ρ) fun b _ H' _ => Q b H'
end
/-- readings in a row -/
def seqT : List TE → L2.St → Hp → (List V → Hp → Prop) → Prop
  | [], _, H, k => k [] H
  | t :: ts, σ, H, k => t σ H fun v H1 => seqT ts σ H1 fun vs H2 => k (v :: vs) H2
def tes (M : Mo) (C : Cn) (W : WX) (io m : Bool) : Exs → List TE
  | .nil => []
  | .cons e es => tX M C W io m e :: tes M C W io m es
section
variable {M : Mo} {C : Cn} {W : WX} {io : Bool} {B : Bs} {Z Z' : Addr → Prop} {H H' : Hp} {σ : L2.St} {ρ : En}
theorem Rm.move {m : Bool} {v : V} {d : D} (h : Rm m C H Z v d) (z : ∀ a, Z a → Z' a) (k : Keep Z H H') (s : m = true → Same H H') : Rm m C H' Z' v d := by
  cases m with
  | true => exact Rv.same (s rfl) z h
  | false => exact Fz.keep k z h
theorem seq_ok {m : Bool} (ob : BOk io B) : ∀ (es : Exs) {Z : Addr → Prop} {H : Hp} {ρ : En} {k : List V → Hp → Prop}, Rel C B Z H σ ρ → (m = true → quiets es = true) →
    (Lands C W σ B Z H (quiets es) (evs M es ρ) fun ds Z' H' _ => ∀ vs, RmAll m C H' Z' vs ds → k vs H') → seqT (tes M C W io m es) σ H k
  | .nil, Z, H, ρ, k, R, hm, h => Lands.stay h R [] .nil
  | .cons e es, Z, H, ρ, k, R, hm, h => by
    have hq : quiets (.cons e es) = true → quiet e = true ∧ quiets es = true := fun q => by
      have q' : (quiet e && quiets es) = true := q
      rwa [Bool.and_eq_true] at q'
    refine ⟨B, Z, ρ, ob, R, ?_⟩
    refine (Lands.bind (f := fun d ρ => (evs M es ρ).bind fun ds ρ => .ok (d :: ds) ρ) (q1 := quiet e) (q2 := quiets es) h hq).imp fun d Z1 H1 ρ1 R1 z1 k1 s1 h1 v hv => ?_
    refine seq_ok ob es R1 (fun q => (hq (hm q)).2) ?_
    refine (Lands.bind (q1 := quiets es) (q2 := true) h1 fun q => ⟨q, rfl⟩).imp fun ds Z2 H2 ρ2 R2 z2 k2 s2 h2 vs hvs => ?_
    exact Lands.stay h2 R2 (v :: vs) (.cons (hv.move z2 k2 fun q => s2 (hq (hm q)).2) hvs)
/-- an operation's end, laid into the heap -/
theorem out_end {mk : Bool} {d : D} {v : V} (R : Rel C B Z H σ ρ) (o : Out mk C H Z d v H') : ∃ Z', Rel C B Z' H' σ ρ ∧ (∀ a, Z a → Z' a) ∧ Keep Z H H' ∧ Same H H' ∧ Fz C H' Z' v d := by
  have sm : ∀ {p : Addr} {o : HO}, H p = none → Same H (upd H p o) := fun hp b u e => by rw [upd_ne (ne_of_none e hp)]; exact e
  cases o with
  | old h _ => exact ⟨Z, R, fun _ m => m, Keep.refl _ _, Same.refl H, h⟩
  | tup hp h =>
    rename_i p xs ds
    have s : Same H (upd H p (.tup xs)) := sm hp
    exact ⟨Z, R.grow s, fun _ m => m, Keep.of_same s, s, .tup (SqT.of upd_same) (h.keep (Keep.of_same s) fun _ m => m)⟩
  | lst hp h =>
    rename_i p xs ds
    have s : Same H (upd H p (.lst xs)) := sm hp
    have hn : ∀ i ds, getC ρ i = .o ds → σ[i]? ≠ some (some (.ref p)) := fun i ds e q => by
      obtain ⟨a, ys, h1, h2, _⟩ := R.own i ds e
      rw [q] at h1; cases h1
      rw [hp] at h2; cases h2
    have h0 : B.H0 p = none := by
      cases e : B.H0 p with
      | none => rfl
      | some u =>
        by_cases hi : B.io = some p
        · obtain ⟨q1, ds', q2⟩ := R.io0 p hi
          exact (hn 0 ds' q2 q1).elim
        · rw [R.frm p u e hi] at hp; cases hp
    exact ⟨_, (R.grow s).freeze upd_same h0 hn, fun _ m => .inl m, Keep.of_same s, s, .lst upd_same (.inr rfl) (h.keep (Keep.of_same s) fun _ m => .inl m)⟩
theorem Rm.of {m : Bool} {v : V} {d : D} (h : Fz C H Z v d) : Rm m C H Z v d := by
  cases m with
  | true => exact .inl h
  | false => exact h
/-- an operation over arguments in a row -/
theorem prim_core' {rd m mk : Bool} {o : Op} {es : Exs} {Q : VK} {k : List V → Hp → Prop} (h : tX M C W io rd (.prim o es) σ H Q) (hm : m = true → quiets es = true)
    (hk : ∀ vs H1, rP mk C o vs H1 Q → k vs H1) : seqT (tes M C W io m es) σ H k := by
  obtain ⟨B, Z, ρ, ob, R, h⟩ := h
  refine seq_ok ob es R hm ?_
  refine (Lands.bind (f := fun ds ρ => rOf (prim o ds) ρ) (q1 := quiets es) (q2 := true) h fun q => ⟨q, rfl⟩).imp fun ds Z1 H1 ρ1 R1 z1 k1 s1 h1 vs hvs => ?_
  cases e : prim o ds with
  | none => rw [e] at h1; exact h1.elim
  | some d =>
    rw [e] at h1
    refine hk _ _ ⟨Z1, ds, d, hvs.rv, e, fun v H' ho => ?_⟩
    obtain ⟨Z2, R2, z2, k2, s2, f2⟩ := out_end R1 ho
    exact h1 Z2 H' R2 z2 k2 (fun _ => s2) v (.of f2)
theorem prim_core {rd m mk : Bool} {o : Op} {es : Exs} {Q : VK} (h : tX M C W io rd (.prim o es) σ H Q) (hm : m = true → quiets es = true) :
    seqT (tes M C W io m es) σ H fun vs H1 => rP mk C o vs H1 Q := prim_core' h hm fun _ _ q => q
end
theorem PE.weak {X : Cx} {e : Expr} {t t' : TE} (h : PE X e t) (hw : ∀ σ H Q, t' σ H Q → t σ H Q) : PE X e t' := ⟨fun pins s σ H Q I q => h.run pins s σ H Q I (hw σ H Q q)⟩
theorem PT.weak {X : Cx} {e : Expr} {t t' : TT} (h : PT X e t) (hw : ∀ σ H Q, t' σ H Q → t σ H Q) : PT X e t' := ⟨fun pins s σ H Q I q => h.run pins s σ H Q I (hw σ H Q q)⟩
theorem PW.weak {X : Cx} {e : Expr} {t t' : TT} (h : PW X e t) (hw : ∀ σ H Q, t' σ H Q → t σ H Q) : PW X e t' := ⟨fun wh pins s σ H Q I q => h.run wh pins s σ H Q I (hw σ H Q q)⟩
theorem PA.weak {X : Cx} {es : List Expr} {t t' : TA} (h : PA X es t) (hw : ∀ σ H Q, t' σ H Q → t σ H Q) : PA X es t' := ⟨fun pos pins s σ H Q I q => h.run pos pins s σ H Q I (hw σ H Q q)⟩
theorem PS.weak {X : Cx} {st : Stmt} {t t' : TS} (h : PS X st t) (hw : ∀ D σ H, t' D σ H → t D σ H) : PS X st t' := ⟨fun pins s σ H D I q => h.run pins s σ H D I (hw D σ H q)⟩
theorem PSs.weak {X : Cx} {st : List Stmt} {t t' : TS} (h : PSs X st t) (hw : ∀ D σ H, t' D σ H → t D σ H) : PSs X st t' := ⟨fun pins s σ H D I q => h.run pins s σ H D I (hw D σ H q)⟩
end PF

set_option Elab.async false
set_option linter.all false
set_option maxRecDepth 100000
set_option maxHeartbeats 2000000
/-! PF7: expressions. -/
namespace PF
open PySem PySem.Spec PyProof.Rows L2

/-! ### names -/
theorem findIdx_get {N : List Str} {x : Str} {i : Nat} (h : N.findIdx? (· == x) = some i) : N[i]? = some x := by
  obtain ⟨h1, h2, _⟩ := List.findIdx?_eq_some_iff_getElem.mp h
  rw [List.getElem?_eq_getElem h1, eq_of_beq h2]
theorem okName_and {x : Str} (h : okName x = true) : (x == ("__debug__" : Str)) = false ∧ (x == ("__classdict__" : Str)) = false ∧ x ≠ ("__name__" : Str) := by
  unfold okName at h
  simp only [Bool.and_eq_true, Bool.not_eq_true', beq_eq_false_iff_ne] at h
  exact ⟨beq_eq_false_iff_ne.mpr h.1.1, beq_eq_false_iff_ne.mpr h.1.2, h.2⟩
theorem slotOf_ok {S : SC} {x : Str} {i : Nat} (h : slotOf S x = some i) : S.N[i]? = some x ∧ Vis S.sc x ∧ okName x = true := by
  unfold slotOf at h
  split at h
  · rename_i e
    split at h
    · rename_i hk; exact ⟨findIdx_get h, .inl e, hk⟩
    · cases h
  · rename_i e
    split at h
    · rename_i hk; exact ⟨findIdx_get h, .inr (.inl e), hk⟩
    · cases h
  · rename_i e
    split at h
    · rename_i hk; exact ⟨findIdx_get h, .inr (.inr e), hk⟩
    · cases h
  · cases h
theorem slotW_ok {S : SC} {x : Str} {i : Nat} (h : slotW S x = some i) : S.N[i]? = some x ∧ Loc S.sc x ∧ (S.sc.names.lookup x = some .local ∨ S.wc.contains x = true) ∧ (S.io = true → i ≠ 0) := by
  have key : ∀ {o : Option Nat}, (o.bind fun i => if S.io && i == 0 then none else some i) = some i → o = some i ∧ (S.io = true → i ≠ 0) := fun {o} h => by
    obtain ⟨j, hj, h⟩ := Option.bind_eq_some_iff.mp h
    split at h
    · cases h
    · rename_i hn
      cases h
      refine ⟨hj, fun e z => hn ?_⟩
      subst z
      rw [e]; rfl
  unfold slotW at h
  split at h
  · rename_i e
    obtain ⟨h1, h2⟩ := key h
    exact ⟨findIdx_get h1, .inl e, .inl e, h2⟩
  · rename_i e
    split at h
    · rename_i hw
      obtain ⟨h1, h2⟩ := key h
      exact ⟨findIdx_get h1, .inr e, .inr hw, h2⟩
    · cases h
  · cases h
theorem isGl_ok {S : SC} {x : Str} (h : isGl S x = true) : S.sc.names.lookup x = some .globalImplicit ∧ okName x = true := by
  unfold isGl at h
  split at h
  · rename_i e; exact ⟨e, h⟩
  · cases h
section
variable {S : SC} {M : Mo} {C : Cn} {L : Nat} {X : Cx} {W : WX}
theorem Good.gl (G : Good S M C L X) {x : Str} (h : isGl S x = true) : Gl X x := by
  show X.env.scope.names.lookup x = _
  rw [G.sc]
  exact (isGl_ok h).1
theorem Good.blt (G : Good S M C L X) {x : Str} (h : isBlt S x = true) : Gl X x ∧ X.mg x = none ∧ x ≠ ("__name__" : Str) ∧ (x == ("__debug__" : Str)) = false := by
  unfold isBlt at h
  rw [Bool.and_eq_true] at h
  obtain ⟨_, k⟩ := isGl_ok h.1
  obtain ⟨k1, k2, k3⟩ := okName_and k
  exact ⟨G.gl h.1, G.free x h.2, k3, k1⟩
theorem Good.hu (G : Good S M C L X) : X.A.units + 1 < cLine := by have := G.units; omega

/-! ### parts of the compiler -/
theorem cL_one {f : Bool → Expr → Option Ex} {m : Bool} {a : Expr} {cs : Exs} (h : cL f m [a] = some cs) : ∃ c, f m a = some c ∧ cs = .cons c .nil := by
  obtain ⟨c, h1, h2⟩ := Option.bind_eq_some_iff.mp (show ((f m a).bind fun c => (some Exs.nil).map fun r => Exs.cons c r) = some cs from h)
  cases h2
  exact ⟨c, h1, rfl⟩
theorem cL_cons {f : Bool → Expr → Option Ex} {m : Bool} {a : Expr} {es : List Expr} {cs : Exs} (h : cL f m (a :: es) = some cs) : ∃ c r, f m a = some c ∧ cL f m es = some r ∧ cs = .cons c r := by
  obtain ⟨c, h1, h2⟩ := Option.bind_eq_some_iff.mp (show ((f m a).bind fun c => (cL f m es).map fun r => Exs.cons c r) = some cs from h)
  obtain ⟨r, h3, h4⟩ := Option.map_eq_some_iff.mp h2
  exact ⟨c, r, h1, h3, h4.symm⟩
theorem cL_two {f : Bool → Expr → Option Ex} {m : Bool} {a b : Expr} {cs : Exs} (h : cL f m [a, b] = some cs) : ∃ c d, f m a = some c ∧ f m b = some d ∧ cs = .cons c (.cons d .nil) := by
  obtain ⟨c, r, h1, h2, rfl⟩ := cL_cons h
  obtain ⟨d, h3, rfl⟩ := cL_one h2
  exact ⟨c, d, h1, h3, rfl⟩
theorem cArgs_ok {f : Bool → Expr → Option Ex} {es : List Expr} {cs : Exs} (h : cArgs f es = some cs) : ∃ m, cL f m es = some cs ∧ (m = true → quiets cs = true) := by
  unfold cArgs at h
  split at h
  · rename_i r hr
    split at h
    · rename_i hq; cases h; exact ⟨true, hr, fun _ => hq⟩
    · exact ⟨false, h, fun q => nomatch q⟩
  · cases h

/-- what is shown of the compiler up to a depth -/
def EOk (M : Mo) (L n : Nat) : Prop := ∀ (C : Cn) (S : SC) (rd : Bool) (e : Expr) (c : Ex), cE n S rd e = some c → ∀ (X : Cx) (W : WX), Good S M C L X → L2.Takes X W → PE X e (tX M C W S.io rd c)
theorem star_of {n : Nat} {rd : Bool} {e : Expr} {c : Ex} (h : cE n S rd e = some c) (es : List Expr) (env : PySem.Env) : starEach (e :: es) env = (false, eval e env) :: starEach es env := by
  cases e <;> first
    | rfl
    | (cases n <;> cases h)
theorem plain_of {n : Nat} {rd : Bool} {e : Expr} {c : Ex} (h : cE n S rd e = some c) : PlainIx e := by
  cases e <;> first
    | (intro o i; rfl)
    | (cases n <;> cases h)
theorem mark_of {n : Nat} {rd : Bool} {e : Expr} {c : Ex} {op : CmpOp} (h : cE n S rd e = some c) : behindInMarks op e = false := by
  cases e <;> first
    | rfl
    | (cases n <;> cases h)
theorem nostars {n : Nat} {rd : Bool} : ∀ {es : List Expr} {cs : Exs} (h : cL (cE n S) rd es = some cs) (env : PySem.Env) (pos : Pos), (backTo pos (starEach es env)).any (·.1) = false
  | [], _, _, _, _ => rfl
  | e :: es, cs, h, env, pos => by
    obtain ⟨c, r, h1, h2, rfl⟩ := cL_cons h
    rw [star_of h1]
    show (false || (backTo pos (starEach es env)).any (·.1)) = false
    rw [nostars h2 env pos]; rfl
theorem args_ok {n : Nat} (ih : EOk M L n) (G : Good S M C L X) (tk : L2.Takes X W) {m : Bool} : ∀ {es : List Expr} {cs : Exs}, cL (cE n S) m es = some cs → PA X es (fun σ H Q => seqT (tes M C W S.io m cs) σ H Q)
  | [], cs, h => by
    cases h
    exact pa_nil
  | e :: es, cs, h => by
    obtain ⟨c, r, h1, h2, rfl⟩ := cL_cons h
    exact pa_cons (ih C S m e c h1 X W G tk) (args_ok ih G tk h2) (star_of h1 es X.env)

/-! ### constants, names -/
theorem e_const {rd : Bool} {k : Const} {j : Nat} {pos : Pos} {d : D} (h : cConst k = some d) : PE X (.Constant k j pos) (tX M C W S.io rd (.cst d)) := by
  have fin : ∀ {v : V} {d : D}, (∀ H Z, Fz C H Z v d) → ∀ σ H Q, tX M C W S.io rd (.cst d) σ H Q → tC v σ H Q := fun {v d} f σ H Q q => by
    obtain ⟨B, Z, ρ, ob, R, h⟩ := q
    exact Lands.stay (a := d) h R v (.of (f _ _))
  cases k <;> first
    | (cases h; done)
    | (cases h; exact PE.weak pe_non (fin fun _ _ => .non))
    | (cases h; exact PE.weak pe_bl (fin fun _ _ => .bl _))
    | (cases h; exact PE.weak pe_int (fin fun _ _ => .int _))
    | (cases h; exact PE.weak pe_str (fin fun _ _ => .str _))
theorem io_ne {B : Bs} {io : Bool} {i : Nat} (ob : BOk io B) (h : io = true → i ≠ 0) : B.io ≠ none → i ≠ 0 := fun q => h (ob q)
theorem e_name (G : Good S M C L X) {rd : Bool} {n : Nat} {x : Str} {pos : Pos} {c : Ex} (h : cE (n + 1) S rd (.Name x pos) = some c) : PE X (.Name x pos) (tX M C W S.io rd c) := by
  have h : (match slotOf S x with
      | some i => if S.mu.contains i then (if rd then some (Ex.rd i) else if S.io && i == 0 then none else some (.var i)) else some (.vr i)
      | none => if isGl S x then (S.cst.lookup x).map .cst else none) = some c := h
  split at h
  · rename_i i hi
    obtain ⟨h1, h2, h3⟩ := slotOf_ok hi
    obtain ⟨k1, k2, _⟩ := okName_and h3
    have base : PE X (.Name x pos) (tVar i) := pe_var (by rw [G.N]; exact h1) (by rw [G.sc]; exact h2) k1 k2
    refine PE.weak base fun σ H Q q => ?_
    obtain ⟨B, Z, ρ, ob, R, q⟩ := q
    split at h
    · split at h
      · rename_i hrd
        cases h
        subst hrd
        have q : Lands C W σ B Z H true (ev M (.rd i) ρ) _ := q
        simp only [ev] at q
        split at q
        · exact q.elim
        · rename_i d e
          obtain ⟨v, h4, h5⟩ := R.val i d e
          exact ⟨v, h4, Lands.stay q R v (.inl h5)⟩
        · rename_i ds e
          obtain ⟨a, xs, h4, h5, h6, _⟩ := R.own i ds e
          exact ⟨_, h4, Lands.stay q R _ (.inr ⟨a, xs, ds, rfl, rfl, h5, h6⟩)⟩
      · split at h
        · cases h
        · rename_i hn
          cases h
          have q : Lands C W σ B Z H false (ev M (.var i) ρ) _ := q
          simp only [ev] at q
          split at q
          · exact q.elim
          · rename_i d e
            obtain ⟨v, h4, h5⟩ := R.val i d e
            exact ⟨v, h4, Lands.stay q R v (.of h5)⟩
          · rename_i ds e
            obtain ⟨a, xs, h4, h5, h6, h7⟩ := R.freezeAt e (io_ne ob fun hio z => hn (by rw [hio, z]; rfl))
            exact ⟨_, h4, q _ H h7 (fun _ m => .inl m) (Keep.refl _ _) (fun z => nomatch z) _ (.of (.lst h5 (.inr rfl) (h6.keep (Keep.refl _ _) fun _ m => .inl m)))⟩
    · cases h
      have q : Lands C W σ B Z H true (ev M (.vr i) ρ) _ := q
      simp only [ev] at q
      split at q
      · rename_i d e
        obtain ⟨v, h4, h5⟩ := R.val i d e
        exact ⟨v, h4, Lands.stay q R v (.of h5)⟩
      · exact q.elim
  · split at h
    · rename_i hg
      obtain ⟨d, hd, rfl⟩ := Option.map_eq_some_iff.mp h
      obtain ⟨u, v, h1, h2, h3⟩ := G.cst x d hd
      obtain ⟨k1, _, _⟩ := okName_and (isGl_ok hg).2
      refine PE.weak (pe_glob (G.gl hg) h1 h2 k1) fun σ H Q q => ?_
      obtain ⟨B, Z, ρ, ob, R, q⟩ := q
      exact Lands.stay (a := d) q R v (.of (h3 _ _))
    · cases h

/-! ### operators -/
theorem bin_ok (G : Good S M C L X) {op : Operator} {o : Op} (h : binOp op = some o) : OpR X (binaryOp op) (rP2 true C o) := by
  cases op with
  | Add => cases h; exact opr_add G.K
  | Sub => cases h; exact opr_sub
  | Mult => cases h; exact opr_mul
  | FloorDiv => cases h; exact opr_div
  | Mod => cases h; exact opr_mod
  | Pow => cases h; exact opr_pow
  | LShift => cases h; exact opr_shl
  | RShift => cases h; exact opr_shr
  | BitAnd => cases h; exact opr_bits op_and rfl
  | BitOr => cases h; exact opr_bits op_or rfl
  | BitXor => cases h; exact opr_bits op_xor rfl
  | _ => cases h
theorem cmp_ok (G : Good S M C L X) {op : CmpOp} {o : Op} (h : cmpOp op = some o) : OpR X (compareOp op) (rP2 true C o) := by
  have h64 : X.A.units + 64 < cLine := by have := G.units; omega
  cases op with
  | Eq => cases h; exact opr_eq G.K h64
  | NotEq => cases h; exact opr_ne G.K h64
  | Lt => cases h; exact opr_cmp op_lt rfl
  | LtE => cases h; exact opr_cmp op_le rfl
  | Gt => cases h; exact opr_cmp op_gt rfl
  | GtE => cases h; exact opr_cmp op_ge rfl
  | Is => cases h; exact opr_isN
  | IsNot => cases h; exact opr_notN
  | In => cases h; exact opr_inn G.K (by have := G.units; omega)
  | NotIn => cases h; exact opr_nin G.K (by have := G.units; omega)
theorem unr_neg : UnR X (unaryOp .USub) (fun x H Q => rP true C .neg [x] H Q) := by
  intro pins s σ H x v Q I rx hh
  obtain ⟨Z, y, d1, d, e, x1, h2, q⟩ := hh.one (p := pNeg) rfl (fun ds d h => by unfold pNeg at h; split at h <;> first | exact ⟨_, rfl⟩ | cases h)
  cases e
  unfold pNeg at h2
  split at h2
  · rename_i a e; cases e; cases h2
    have e1 := Rv.int x1; subst e1
    exact un_neg pins s σ H _ v Q I rx ⟨_, rfl, q _ _ (.int _)⟩
  · cases h2
theorem truth_V (hK : C.K = X.K) {H : Hp} {Z : Addr → Prop} {v : V} {d : D} {b : Bool} (h : Rv C H Z v d) (e : truth d = some b) : TruV X.K v H b := by
  cases d with
  | non => cases e; have := Rv.non h; subst this; rfl
  | bl k => cases e; have := Rv.bl h; subst this; rfl
  | int k => cases e; have := Rv.int h; subst this; rfl
  | str k =>
    have := Rv.str h; subst this
    have e : (if k.length ≤ sizeLine then some ((k.length : Int) != 0) else none) = some b := e
    split at e
    · rename_i hc; cases e; exact ⟨hc, rfl⟩
    · cases e
  | lst ds =>
    cases e
    obtain ⟨a, xs, rfl, h1, h2⟩ := Rv.lst h
    refine .inl ⟨xs, SqL.of h1, ?_⟩
    cases h2 <;> rfl
  | tup ds =>
    cases e
    obtain ⟨a, xs, rfl, h1, h2⟩ := Rv.tup h
    rw [hK] at h1
    refine .inr (.inl ⟨xs, h1, ?_⟩)
    cases h2 <;> rfl
  | scr _ => cases e
  | exc _ _ => cases e

/-! ### the forms -/
theorem quiet_two {a b : Ex} (h : quiets (.cons a (.cons b .nil)) = true) : quiet a = true ∧ quiet b = true := by
  have h : (quiet a && (quiet b && true)) = true := h
  simpa using h
theorem e_bin {n : Nat} (ih : EOk M L n) (G : Good S M C L X) (tk : L2.Takes X W) {rd : Bool} {a b : Expr} {op : Operator} {pos : Pos} {o : Op} {es : Exs} (ho : binOp op = some o) (h : cArgs (cE n S) [a, b] = some es) :
    PE X (.BinOp a op b pos) (tX M C W S.io rd (.prim o es)) := by
  obtain ⟨m, h1, hm⟩ := cArgs_ok h
  obtain ⟨ca, cb, ha, hb, rfl⟩ := cL_two h1
  exact PE.weak (pe_op (bin_ok G ho) (ih C S m a ca ha X W G tk) (ih C S m b cb hb X W G tk)) fun σ H Q q => prim_core q hm
theorem e_cmp {n : Nat} (ih : EOk M L n) (G : Good S M C L X) (tk : L2.Takes X W) {rd : Bool} {a b : Expr} {op : CmpOp} {pos : Pos} {o : Op} {es : Exs} (ho : cmpOp op = some o) (h : cArgs (cE n S) [a, b] = some es) :
    PE X (.Compare a [op] [b] pos) (tX M C W S.io rd (.prim o es)) := by
  obtain ⟨m, h1, hm⟩ := cArgs_ok h
  obtain ⟨ca, cb, ha, hb, rfl⟩ := cL_two h1
  exact PE.weak (pe_cmpR (cmp_ok G ho) (ih C S m a ca ha X W G tk) (ih C S m b cb hb X W G tk) (mark_of hb)) fun σ H Q q => prim_core q hm
theorem e_neg {n : Nat} (ih : EOk M L n) (G : Good S M C L X) (tk : L2.Takes X W) {rd : Bool} {a : Expr} {pos : Pos} {es : Exs} (h : cArgs (cE n S) [a] = some es) :
    PE X (.UnaryOp .USub a pos) (tX M C W S.io rd (.prim .neg es)) := by
  obtain ⟨m, h1, hm⟩ := cArgs_ok h
  obtain ⟨ca, ha, rfl⟩ := cL_one h1
  exact PE.weak (pe_un unr_neg (ih C S m a ca ha X W G tk)) fun σ H Q q => prim_core q hm
theorem e_ix {n : Nat} (ih : EOk M L n) (G : Good S M C L X) (tk : L2.Takes X W) {rd : Bool} {a b : Expr} {pos : Pos} {es : Exs} (h : cArgs (cE n S) [a, b] = some es) :
    PE X (.Subscript a b pos) (tX M C W S.io rd (.prim .ix es)) := by
  obtain ⟨m, h1, hm⟩ := cArgs_ok h
  obtain ⟨ca, cb, ha, hb, rfl⟩ := cL_two h1
  exact PE.weak (pe_ix (ixr G.K) (ih C S m a ca ha X W G tk) (ih C S m b cb hb X W G tk) (plain_of hb)) fun σ H Q q => prim_core q hm
theorem e_not {n : Nat} (ih : EOk M L n) (G : Good S M C L X) (tk : L2.Takes X W) {rd : Bool} {a : Expr} {pos : Pos} {c : Ex} (h : cE n S true a = some c) :
    PE X (.UnaryOp .Not a pos) (tX M C W S.io rd (.tst (.not (.val c)))) := by
  refine PE.weak (pe_notT (ih C S true a c h X W G tk)) fun σ H Q q => ?_
  obtain ⟨B, Z, ρ, ob, R, q⟩ := q
  have q : Lands C W σ B Z H (quiet c) ((((ev M c ρ).bind fun d ρ => rOf (truth d) ρ).bind fun b ρ => Rs.ok (!b) ρ).bind fun b ρ => Rs.ok (D.bl b) ρ) _ := q
  refine ⟨B, Z, ρ, ob, R, ?_⟩
  have e : ((((ev M c ρ).bind fun d ρ => rOf (truth d) ρ).bind fun b ρ => Rs.ok (!b) ρ).bind fun b ρ => Rs.ok (D.bl b) ρ) = (ev M c ρ).bind fun d ρ => ((rOf (truth d) ρ).bind fun b ρ => Rs.ok (!b) ρ).bind fun b ρ => Rs.ok (D.bl b) ρ := by
    cases ev M c ρ <;> rfl
  rw [e] at q
  refine (Lands.bind (q1 := quiet c) (q2 := true) q fun q => ⟨q, rfl⟩).imp fun d Z1 H1 ρ1 R1 z1 k1 s1 h1 v hv => ?_
  cases e : truth d with
  | none => rw [e] at h1; exact h1.elim
  | some b =>
    rw [e] at h1
    exact ⟨b, truth_V G.K hv.rv e, Lands.stay (a := D.bl (!b)) h1 R1 _ (.of (.bl _))⟩
theorem e_tup {n : Nat} (ih : EOk M L n) (G : Good S M C L X) (tk : L2.Takes X W) {rd : Bool} {es : List Expr} {k : Nat} {pos : Pos} {r : Exs} (h : cL (cE n S) false es = some r) :
    PE X (.Tuple es k pos) (tX M C W S.io rd (.prim .tup r)) := by
  refine PE.weak (pe_tup (args_ok ih G tk h)) fun σ H Q q => ?_
  obtain ⟨B, Z, ρ, ob, R, q⟩ := q
  refine seq_ok ob r R (fun q => nomatch q) ?_
  refine (Lands.bind (f := fun ds ρ => rOf (prim .tup ds) ρ) (q1 := quiets r) (q2 := true) q fun q => ⟨q, rfl⟩).imp fun ds Z1 H1 ρ1 R1 z1 k1 s1 h1 vs hvs => ?_
  have hvs := hvs.fz
  have e : prim .tup ds = if ds.length ≤ sizeLine then some (.tup ds) else none := rfl
  rw [e] at h1
  split at h1
  · rename_i hl
    refine ⟨by rw [hvs.length]; exact hl, fun p hp => ?_⟩
    obtain ⟨Z2, R2, z2, k2, s2, f2⟩ := out_end R1 (.tup hp hvs : Out true C H1 Z1 _ _ _)
    exact h1 Z2 _ R2 z2 k2 (fun _ => s2) _ (.of f2)
  · exact h1.elim
theorem e_lst {n : Nat} (ih : EOk M L n) (G : Good S M C L X) (tk : L2.Takes X W) {rd : Bool} {es : List Expr} {pos : Pos} {r : Exs} (h : cL (cE n S) false es = some r) :
    PE X (.List es pos) (tX M C W S.io rd (.prim .lst r)) := by
  refine PE.weak (pe_lst (args_ok ih G tk h)) fun σ H Q q => ?_
  obtain ⟨B, Z, ρ, ob, R, q⟩ := q
  refine seq_ok ob r R (fun q => nomatch q) ?_
  refine (Lands.bind (f := fun ds ρ => rOf (prim .lst ds) ρ) (q1 := quiets r) (q2 := true) q fun q => ⟨q, rfl⟩).imp fun ds Z1 H1 ρ1 R1 z1 k1 s1 h1 vs hvs => ?_
  have hvs := hvs.fz
  have e : prim .lst ds = if ds.length ≤ sizeLine then some (.lst ds) else none := rfl
  rw [e] at h1
  split at h1
  · rename_i hl
    refine ⟨by rw [hvs.length]; exact hl, fun p hp => ?_⟩
    obtain ⟨Z2, R2, z2, k2, s2, f2⟩ := out_end R1 (.lst hp hvs : Out true C H1 Z1 _ _ _)
    exact h1 Z2 _ R2 z2 k2 (fun _ => s2) _ (.of f2)
  · exact h1.elim
theorem chain_core {rd io : Bool} {o o' : Op} {x y z : Ex} (hq : (quiet x = true ∧ quiet y = true) ∧ quiet z = true) {σ : L2.St} {H : Hp} {Q : VK} (q : tX M C W io rd (.chain o o' x y z) σ H Q) :
    tChain (rP2 true C o) (rP2 true C o') (tX M C W io true x) (tX M C W io true y) (tX M C W io true z) σ H Q := by
  obtain ⟨B, Z, ρ, ob, R, q⟩ := q
  have q : Lands C W σ B Z H true ((ev M x ρ).bind fun d ρ => (ev M y ρ).bind fun e ρ => match prim o [d, e] with
    | some (.bl true) => (ev M z ρ).bind fun f ρ => rOf (prim o' [e, f]) ρ
    | some (.bl false) => .ok (.bl false) ρ
    | _ => .bad) (fun d Z' H' _ => ∀ v, Rm rd C H' Z' v d → Q v H') := by
      have e : quiet (.chain o o' x y z) = true := by
        show (quiet x && quiet y && quiet z) = true
        rw [hq.1.1, hq.1.2, hq.2]; rfl
      rw [e] at q
      exact q
  refine ⟨B, Z, ρ, ob, R, ?_⟩
  rw [hq.1.1]
  refine (Lands.bind (q1 := true) (q2 := true) q fun _ => ⟨rfl, rfl⟩).imp fun d Z1 H1 ρ1 R1 z1 k1 s1 h1 v hv => ?_
  refine ⟨B, Z1, ρ1, ob, R1, ?_⟩
  rw [hq.1.2]
  refine (Lands.bind (q1 := true) (q2 := true) h1 fun _ => ⟨rfl, rfl⟩).imp fun e Z2 H2 ρ2 R2 z2 k2 s2 h2 w hw => ?_
  have hv2 : Rv C H2 Z2 v d := Rv.same (s2 rfl) z2 hv
  cases hp : prim o [d, e] with
  | none => rw [hp] at h2; exact h2.elim
  | some r =>
    rw [hp] at h2
    refine ⟨Z2, [d, e], r, .cons hv2 (.cons hw .nil), hp, fun t H3 ht => ?_⟩
    obtain ⟨Z3, R3, z3, k3, s3, f3⟩ := out_end R2 ht
    cases r with
    | bl k =>
      cases f3
      refine ⟨k, rfl, ?_⟩
      cases k with
      | false =>
        rw [if_neg Bool.false_ne_true]
        exact h2 Z3 H3 R3 z3 k3 (fun _ => s3) _ (.of (.bl _))
      | true =>
        rw [if_pos rfl]
        have h3 := Lands.shift (Z1 := Z3) (H1 := H3) (q2 := true) (r := (ev M z ρ2).bind fun f ρ => rOf (prim o' [e, f]) ρ) h2 z3 k3 fun _ => ⟨s3, rfl⟩
        refine ⟨B, Z3, ρ2, ob, R3, ?_⟩
        rw [hq.2]
        refine (Lands.bind (q1 := true) (q2 := true) h3 fun _ => ⟨rfl, rfl⟩).imp fun f Z4 H4 ρ4 R4 z4 k4 s4 h4 u hu => ?_
        have hw4 : Rv C H4 Z4 w e := Rv.same (s3.trans (s4 rfl)) (fun a m => z4 a (z3 a m)) hw
        cases hp' : prim o' [e, f] with
        | none => rw [hp'] at h4; exact h4.elim
        | some r' =>
          rw [hp'] at h4
          refine ⟨Z4, [e, f], r', .cons hw4 (.cons hu .nil), hp', fun t' H5 ht' => ?_⟩
          obtain ⟨Z5, R5, z5, k5, s5, f5⟩ := out_end R4 ht'
          exact h4 Z5 H5 R5 z5 k5 (fun _ => s5) _ (.of f5)
    | _ => exact h2.elim
theorem e_chain {n : Nat} (ih : EOk M L n) (G : Good S M C L X) (tk : L2.Takes X W) {rd : Bool} {a b c : Expr} {op op' : CmpOp} {pos : Pos} {o o' : Op} {x y z : Ex} (ho : cmpOp op = some o) (ho' : cmpOp op' = some o')
    (ha : cE n S true a = some x) (hb : cE n S true b = some y) (hc : cE n S true c = some z) (hq : (quiet x && quiet y && quiet z) = true) :
    PE X (.Compare a [op, op'] [b, c] pos) (tX M C W S.io rd (.chain o o' x y z)) := by
  have hlast : lastMarks [op, op'] [b, c] = false := by
    show behindInMarks op' c = false
    exact mark_of hc
  rw [Bool.and_eq_true, Bool.and_eq_true] at hq
  refine PE.weak (pe_chain (cmp_ok G ho) (cmp_ok G ho') (ih C S true a x ha X W G tk) (ih C S true b y hb X W G tk) (ih C S true c z hc X W G tk) hlast) fun σ H Q q => chain_core hq q
theorem orand {n : Nat} (ih : EOk M L n) (G : Good S M C L X) (tk : L2.Takes X W) {op : BoolOp} {pos : Pos} : ∀ {es : List Expr} {c : Ex}, cVals (cE n S false) op es = some c → PE X (.BoolOp op es pos) (tX M C W S.io false c)
  | [], c, h => by cases h
  | [e], c, h => pe_one (ih C S false e c h X W G tk)
  | e :: e2 :: es, c, h => by
    obtain ⟨x, hx, h⟩ := Option.bind_eq_some_iff.mp (show ((cE n S false e).bind fun a => (cVals (cE n S false) op (e2 :: es)).map fun b => vOp op a b) = some c from h)
    obtain ⟨y, hy, rfl⟩ := Option.map_eq_some_iff.mp h
    have iy := orand ih G tk (op := op) (pos := pos) hy
    have ix := ih C S false e x hx X W G tk
    cases op with
    | And =>
      refine PE.weak (pe_andT ix iy) fun σ H Q q => ?_
      obtain ⟨B, Z, ρ, ob, R, q⟩ := q
      have q : Lands C W σ B Z H (quiet x && quiet y) ((ev M x ρ).bind fun d ρ => match truth d with
        | some true => ev M y ρ
        | some false => .ok d ρ
        | none => .bad) _ := q
      refine ⟨B, Z, ρ, ob, R, ?_⟩
      refine (Lands.bind (q1 := quiet x) (q2 := quiet y) q fun q => by rwa [Bool.and_eq_true] at q).imp fun d Z1 H1 ρ1 R1 z1 k1 s1 h1 v hv => ?_
      cases e : truth d with
      | none => rw [e] at h1; exact h1.elim
      | some b =>
        rw [e] at h1
        refine ⟨b, truth_V G.K hv.rv e, ?_⟩
        cases b with
        | true => rw [if_pos rfl]; exact ⟨B, Z1, ρ1, ob, R1, h1⟩
        | false => rw [if_neg Bool.false_ne_true]; exact Lands.stay (a := d) h1 R1 v hv
    | Or =>
      refine PE.weak (pe_orT ix iy) fun σ H Q q => ?_
      obtain ⟨B, Z, ρ, ob, R, q⟩ := q
      have q : Lands C W σ B Z H (quiet x && quiet y) ((ev M x ρ).bind fun d ρ => match truth d with
        | some true => .ok d ρ
        | some false => ev M y ρ
        | none => .bad) _ := q
      refine ⟨B, Z, ρ, ob, R, ?_⟩
      refine (Lands.bind (q1 := quiet x) (q2 := quiet y) q fun q => by rwa [Bool.and_eq_true] at q).imp fun d Z1 H1 ρ1 R1 z1 k1 s1 h1 v hv => ?_
      cases e : truth d with
      | none => rw [e] at h1; exact h1.elim
      | some b =>
        rw [e] at h1
        refine ⟨b, truth_V G.K hv.rv e, ?_⟩
        cases b with
        | true => rw [if_pos rfl]; exact Lands.stay (a := d) h1 R1 v hv
        | false => rw [if_neg Bool.false_ne_true]; exact ⟨B, Z1, ρ1, ob, R1, h1⟩
theorem tX.rd {c : Ex} {rd : Bool} {σ : L2.St} {H : Hp} {Q : VK} {io : Bool} (h : tX M C W io rd c σ H Q) : tX M C W io false c σ H Q := by
  obtain ⟨B, Z, ρ, ob, R, h⟩ := h
  exact ⟨B, Z, ρ, ob, R, h.imp fun d Z' H' ρ' _ _ _ _ q v hv => q v (.of hv)⟩

end
end PF

set_option Elab.async false
set_option linter.all false
set_option maxRecDepth 100000
set_option maxHeartbeats 2000000
/-! PF8: tests, slices, calls, methods. -/
namespace PF
open PySem PySem.Spec PyProof.Rows L2
section
variable {S : SC} {M : Mo} {C : Cn} {L : Nat} {X : Cx} {W : WX}
/-! ### tests -/
theorem val_bl {c : Ex} (hc : ∀ ρ d ρ', ev M c ρ = .ok d ρ' → ∃ b, d = .bl b) {io : Bool} {σ : L2.St} {H : Hp} {Q : Bool → Hp → Prop} (h : tXT M C W io (.val c) σ H Q) : tX M C W io true c σ H fun x H' => ∃ k, x = .bl k ∧ Q k H' := by
  obtain ⟨B, Z, ρ, ob, R, h⟩ := h
  refine ⟨B, Z, ρ, ob, R, ?_⟩
  have h : Lands C W σ B Z H (quiet c) ((ev M c ρ).bind fun d ρ => rOf (truth d) ρ) fun b _ H' _ => Q b H' := h
  cases e : ev M c ρ with
  | ok d ρ1 =>
    obtain ⟨b, rfl⟩ := hc ρ d ρ1 e
    rw [e] at h
    intro Z' H' R' z k s v hv
    have := Rv.bl hv.rv
    subst this
    exact ⟨b, rfl, h Z' H' R' z k s⟩
  | exc x ρ1 => rw [e] at h; exact h
  | bad => rw [e] at h; exact h
theorem val_tr (hK : C.K = X.K) {c : Ex} {io : Bool} {σ : L2.St} {H : Hp} {Q : Bool → Hp → Prop} (h : tXT M C W io (.val c) σ H Q) : tX M C W io true c σ H fun x H' => ∃ k, TruV X.K x H' k ∧ Q k H' := by
  obtain ⟨B, Z, ρ, ob, R, h⟩ := h
  refine ⟨B, Z, ρ, ob, R, ?_⟩
  have h : Lands C W σ B Z H (quiet c) ((ev M c ρ).bind fun d ρ => rOf (truth d) ρ) fun b _ H' _ => Q b H' := h
  refine (Lands.bind (q1 := quiet c) (q2 := true) h fun q => ⟨q, rfl⟩).imp fun d Z1 H1 ρ1 R1 z1 k1 s1 h1 v hv => ?_
  cases e : truth d with
  | none => rw [e] at h1; exact h1.elim
  | some b =>
    rw [e] at h1
    exact ⟨b, truth_V hK hv.rv e, Lands.stay (a := b) h1 R1⟩
theorem cmp_bl {op : CmpOp} {o : Op} (h : cmpOp op = some o) {ds : List D} {d : D} (e : prim o ds = some d) : ∃ b, d = .bl b := by
  have c1 : ∀ {f : Int → Int → Bool}, pCmp f ds = some d → ∃ b, d = .bl b := fun {f} e => by
    unfold pCmp at e
    split at e
    · cases e; exact ⟨_, rfl⟩
    · cases e
  have c2 : ∀ {n : Bool}, pEq n ds = some d → ∃ b, d = .bl b := fun {n} e => by
    unfold pEq at e
    split at e
    · split at e
      · cases e; exact ⟨_, rfl⟩
      · cases e
    · cases e
  have c3 : ∀ {n : Bool}, pIs n ds = some d → ∃ b, d = .bl b := fun {n} e => by
    unfold pIs at e
    split at e
    · cases e; exact ⟨_, rfl⟩
    · cases e; exact ⟨_, rfl⟩
    · cases e
  have c4 : ∀ {n : Bool}, pIn n ds = some d → ∃ b, d = .bl b := fun {n} e => by
    unfold pIn at e
    split at e
    · split at e
      · cases e; exact ⟨_, rfl⟩
      · cases e
    · split at e
      · cases e; exact ⟨_, rfl⟩
      · cases e
    · cases e; exact ⟨_, rfl⟩
    · cases e
  cases op with
  | Eq => cases h; exact c2 e
  | NotEq => cases h; exact c2 e
  | Lt => cases h; exact c1 e
  | LtE => cases h; exact c1 e
  | Gt => cases h; exact c1 e
  | GtE => cases h; exact c1 e
  | Is => cases h; exact c3 e
  | IsNot => cases h; exact c3 e
  | In => cases h; exact c4 e
  | NotIn => cases h; exact c4 e
theorem prim_ok {o : Op} {es : Exs} {ρ ρ' : En} {d : D} (h : ev M (.prim o es) ρ = .ok d ρ') : ∃ ds, prim o ds = some d := by
  have h : ((evs M es ρ).bind fun ds ρ => rOf (prim o ds) ρ) = .ok d ρ' := h
  cases e : evs M es ρ with
  | ok ds ρ1 =>
    rw [e] at h
    have h : rOf (prim o ds) ρ1 = .ok d ρ' := h
    cases e2 : prim o ds with
    | some d' => rw [e2] at h; cases h; exact ⟨ds, e2⟩
    | none => rw [e2] at h; cases h
  | exc x ρ1 => rw [e] at h; cases h
  | bad => rw [e] at h; cases h
/-- a comparison as a test -/
theorem t_cmp {n : Nat} (ih : EOk M L n) (G : Good S M C L X) (tk : L2.Takes X W) {a b : Expr} {op : CmpOp} {pos : Pos} {o : Op} {es : Exs} (ho : cmpOp op = some o) (h : cArgs (cE n S) [a, b] = some es) :
    PT X (.Compare a [op] [b] pos) (tXT M C W S.io (.val (.prim o es))) := by
  obtain ⟨m, h1, hm⟩ := cArgs_ok h
  obtain ⟨ca, cb, ha, hb, rfl⟩ := cL_two h1
  exact PT.weak (pt_cmpR (cmp_ok G ho) (ih C S m a ca ha X W G tk) (ih C S m b cb hb X W G tk) (mark_of hb)) fun σ H Q q =>
    prim_core (val_bl (fun ρ d ρ' e => (prim_ok e).elim fun ds e => cmp_bl ho e) q) hm
theorem chain_bl {o o' : Op} {x y z : Ex} {op' : CmpOp} (ho : cmpOp op' = some o') (ρ : En) (d : D) (ρ' : En) (h : ev M (.chain o o' x y z) ρ = .ok d ρ') : ∃ b, d = .bl b := by
  have h : ((ev M x ρ).bind fun d ρ => (ev M y ρ).bind fun e ρ => match prim o [d, e] with
    | some (.bl true) => (ev M z ρ).bind fun f ρ => rOf (prim o' [e, f]) ρ
    | some (.bl false) => .ok (.bl false) ρ
    | _ => .bad) = .ok d ρ' := h
  cases e1 : ev M x ρ with
  | ok d1 ρ1 =>
    rw [e1] at h
    replace h : ((ev M y ρ1).bind fun e ρ => match prim o [d1, e] with
      | some (.bl true) => (ev M z ρ).bind fun f ρ => rOf (prim o' [e, f]) ρ
      | some (.bl false) => .ok (.bl false) ρ
      | _ => .bad) = .ok d ρ' := h
    cases e2 : ev M y ρ1 with
    | ok d2 ρ2 =>
      rw [e2] at h
      replace h : (match prim o [d1, d2] with
        | some (.bl true) => (ev M z ρ2).bind fun f ρ => rOf (prim o' [d2, f]) ρ
        | some (.bl false) => .ok (.bl false) ρ2
        | _ => .bad) = .ok d ρ' := h
      split at h
      · cases e3 : ev M z ρ2 with
        | ok d3 ρ3 =>
          rw [e3] at h
          replace h : rOf (prim o' [d2, d3]) ρ3 = .ok d ρ' := h
          cases e4 : prim o' [d2, d3] with
          | some r => rw [e4] at h; cases h; exact cmp_bl ho e4
          | none => rw [e4] at h; cases h
        | exc _ _ => rw [e3] at h; cases h
        | bad => rw [e3] at h; cases h
      · cases h; exact ⟨_, rfl⟩
      · cases h
    | exc _ _ => rw [e2] at h; cases h
    | bad => rw [e2] at h; cases h
  | exc _ _ => rw [e1] at h; cases h
  | bad => rw [e1] at h; cases h
theorem ands_ok {f : Expr → Option Tx} (hf : ∀ e t, f e = some t → PT X e (tXT M C W S.io t)) {op : BoolOp} {pos : Pos} : ∀ {es : List Expr} {t : Tx}, cAnds f op es = some t → PW X (.BoolOp op es pos) (tXT M C W S.io t)
  | [], t, h => by cases h
  | [e], t, h => by
    cases op with
    | And => exact pw_and1 (hf e t h)
    | Or => exact pw_or1 (hf e t h)
  | e :: e2 :: es, t, h => by
    obtain ⟨x, hx, h⟩ := Option.bind_eq_some_iff.mp (show ((f e).bind fun a => (cAnds f op (e2 :: es)).map fun b => tOpx op a b) = some t from h)
    obtain ⟨y, hy, rfl⟩ := Option.map_eq_some_iff.mp h
    have iy := ands_ok hf (op := op) (pos := pos) hy
    have ix := hf e x hx
    cases op with
    | And =>
      refine PW.weak (pw_and ix iy) fun σ H Q q => ?_
      obtain ⟨B, Z, ρ, ob, R, q⟩ := q
      have q : Lands C W σ B Z H (quietT x && quietT y) ((evT M x ρ).bind fun c ρ => match c with
        | true => evT M y ρ
        | false => .ok false ρ) (fun b _ H' _ => Q b H') := q
      refine ⟨B, Z, ρ, ob, R, ?_⟩
      refine (Lands.bind (q1 := quietT x) (q2 := quietT y) q fun q => by rwa [Bool.and_eq_true] at q).imp fun c Z1 H1 ρ1 R1 z1 k1 s1 h1 => ?_
      cases c with
      | true => rw [if_pos rfl]; exact ⟨B, Z1, ρ1, ob, R1, h1⟩
      | false => rw [if_neg Bool.false_ne_true]; exact Lands.stay (a := false) h1 R1
    | Or =>
      refine PW.weak (pw_or ix iy) fun σ H Q q => ?_
      obtain ⟨B, Z, ρ, ob, R, q⟩ := q
      have q : Lands C W σ B Z H (quietT x && quietT y) ((evT M x ρ).bind fun c ρ => match c with
        | true => .ok true ρ
        | false => evT M y ρ) (fun b _ H' _ => Q b H') := q
      refine ⟨B, Z, ρ, ob, R, ?_⟩
      refine (Lands.bind (q1 := quietT x) (q2 := quietT y) q fun q => by rwa [Bool.and_eq_true] at q).imp fun c Z1 H1 ρ1 R1 z1 k1 s1 h1 => ?_
      cases c with
      | true => rw [if_pos rfl]; exact Lands.stay (a := true) h1 R1
      | false => rw [if_neg Bool.false_ne_true]; exact ⟨B, Z1, ρ1, ob, R1, h1⟩
theorem t_val {n : Nat} (ih : ∀ m, m ≤ n → EOk M L m) (G : Good S M C L X) (tk : L2.Takes X W) {e : Expr} {c : Ex} (h : cE n S true e = some c) (n1 : ∀ a p, e ≠ .UnaryOp .Not a p) (n2 : ∀ o vs p, e ≠ .BoolOp o vs p) (n3 : ∀ a b c p, e ≠ .IfExp a b c p) :
    PT X e (tXT M C W S.io (.val c)) := by
  have plain : (∀ whole, isTrue e X.env whole = (do let v ← whole; standAt e.pos; holding [v] (truthy v))) → PT X e (tXT M C W S.io (.val c)) := fun he =>
    PT.weak (pt_truth (ih n (Nat.le_refl _) C S true e c h X W G tk) he) fun σ H Q q => val_tr G.K q
  cases e with
  | UnaryOp op a p =>
    cases op with
    | Not => exact absurd rfl (n1 a p)
    | _ => exact plain fun _ => rfl
  | BoolOp o vs p => exact absurd rfl (n2 o vs p)
  | IfExp a b c p => exact absurd rfl (n3 a b c p)
  | Compare a ops bs p =>
    cases n with
    | zero => cases h
    | succ n =>
      match ops, bs, h with
      | [op], [b], h =>
        obtain ⟨o, ho, h⟩ := Option.bind_eq_some_iff.mp (show ((cmpOp op).bind fun o => (cArgs (cE n S) [a, b]).map fun es => Ex.prim o es) = some c from h)
        obtain ⟨es, he, rfl⟩ := Option.map_eq_some_iff.mp h
        exact t_cmp (ih n (Nat.le_succ n)) G tk ho he
      | [op, op'], [b, d], h =>
        obtain ⟨o, ho, h⟩ := Option.bind_eq_some_iff.mp (show ((cmpOp op).bind fun o => (cmpOp op').bind fun o' => (cE n S true a).bind fun x => (cE n S true b).bind fun y => (cE n S true d).bind fun z =>
          if quiet x && quiet y && quiet z then some (Ex.chain o o' x y z) else none) = some c from h)
        obtain ⟨o', ho', h⟩ := Option.bind_eq_some_iff.mp h
        obtain ⟨x, hx, h⟩ := Option.bind_eq_some_iff.mp h
        obtain ⟨y, hy, h⟩ := Option.bind_eq_some_iff.mp h
        obtain ⟨z, hz, h⟩ := Option.bind_eq_some_iff.mp h
        split at h
        · rename_i hq
          cases h
          have hlast : lastMarks [op, op'] [b, d] = false := by
            show behindInMarks op' d = false
            exact mark_of hz
          have ih' := ih n (Nat.le_succ n)
          rw [Bool.and_eq_true, Bool.and_eq_true] at hq
          exact PT.weak (pt_chain (cmp_ok G ho) (cmp_ok G ho') (ih' C S true a x hx X W G tk) (ih' C S true b y hy X W G tk) (ih' C S true d z hz X W G tk) hlast) fun σ H Q q =>
            chain_core hq (val_bl (fun ρ d ρ' e => chain_bl ho' ρ d ρ' e) q)
        · cases h
      | [], bs, h => cases h
      | [_], [], h => cases h
      | [_], _ :: _ :: _, h => cases h
      | [_, _], [], h => cases h
      | [_, _], [_], h => cases h
      | [_, _], _ :: _ :: _ :: _, h => cases h
      | _ :: _ :: _ :: _, _, h => cases h
  | _ => exact plain fun _ => rfl
/-- tests, by their depth -/
theorem test_ok {n : Nat} (ih : ∀ m, m ≤ n → EOk M L m) (G : Good S M C L X) (tk : L2.Takes X W) : ∀ (k : Nat) {e : Expr} {t : Tx}, cTest (cE n) k S e = some t → PT X e (tXT M C W S.io t)
  | 0, e, t, h => by cases h
  | k + 1, e, t, h => by
    have val : (∀ a p, e ≠ .UnaryOp .Not a p) → (∀ o vs p, e ≠ .BoolOp o vs p) → (∀ a b c p, e ≠ .IfExp a b c p) → (cE n S true e).map Tx.val = some t → PT X e (tXT M C W S.io t) := fun n1 n2 n3 h => by
      obtain ⟨c, hc, rfl⟩ := Option.map_eq_some_iff.mp h
      exact t_val ih G tk hc n1 n2 n3
    cases e with
    | UnaryOp op a p =>
      cases op with
      | Not =>
        obtain ⟨t', ht, rfl⟩ := Option.map_eq_some_iff.mp (show (cTest (cE n) k S a).map Tx.not = some t from h)
        refine PT.weak (pt_not (test_ok ih G tk k ht)) fun σ H Q q => ?_
        obtain ⟨B, Z, ρ, ob, R, q⟩ := q
        have q : Lands C W σ B Z H (quietT t') ((evT M t' ρ).bind fun b ρ => Rs.ok (!b) ρ) (fun b _ H' _ => Q b H') := q
        refine ⟨B, Z, ρ, ob, R, ?_⟩
        exact (Lands.bind (q1 := quietT t') (q2 := true) q fun q => ⟨q, rfl⟩).imp fun b Z1 H1 ρ1 R1 z1 k1 s1 h1 => Lands.stay (a := !b) h1 R1
      | _ => exact val (fun _ _ e => nomatch e) (fun _ _ _ e => nomatch e) (fun _ _ _ _ e => nomatch e) h
    | BoolOp op vs p => exact (ands_ok (fun e t ht => test_ok ih G tk k ht) (show cAnds (cTest (cE n) k S) op vs = some t from h)).pt
    | IfExp a b c p => cases h
    | _ => exact val (fun _ _ e => nomatch e) (fun _ _ _ e => nomatch e) (fun _ _ _ _ e => nomatch e) h
theorem e_ifExp {n : Nat} (ih : ∀ m, m ≤ n → EOk M L m) (G : Good S M C L X) (tk : L2.Takes X W) {rd : Bool} {t a b : Expr} {pos : Pos} {c : Tx} {x y : Ex} (ht : cTest (cE n) n S t = some c) (ha : cE n S false a = some x) (hb : cE n S false b = some y) :
    PE X (.IfExp t a b pos) (tX M C W S.io rd (.ite c x y)) := by
  refine PE.weak (pe_ifExp (test_ok ih G tk n ht) (ih n (Nat.le_refl _) C S false a x ha X W G tk) (ih n (Nat.le_refl _) C S false b y hb X W G tk)) fun σ H Q q => ?_
  obtain ⟨B, Z, ρ, ob, R, q⟩ := tX.rd q
  have q : Lands C W σ B Z H (quietT c && quiet x && quiet y) ((evT M c ρ).bind fun k ρ => match k with
    | true => ev M x ρ
    | false => ev M y ρ) (fun d Z' H' _ => ∀ v, Rm false C H' Z' v d → Q v H') := q
  refine ⟨B, Z, ρ, ob, R, ?_⟩
  refine (Lands.bind (q1 := quietT c) (q2 := quiet x && quiet y) q fun q => by rw [Bool.and_assoc, Bool.and_eq_true] at q; exact q).imp fun k Z1 H1 ρ1 R1 z1 k1 s1 h1 => ?_
  cases k with
  | true =>
    rw [if_pos rfl]
    exact ⟨B, Z1, ρ1, ob, R1, Lands.shift (q := quiet x && quiet y) (r := ev M x ρ1) h1 (fun _ m => m) (Keep.refl _ _) fun q => ⟨Same.refl _, by rw [Bool.and_eq_true] at q; exact q.1⟩⟩
  | false =>
    rw [if_neg Bool.false_ne_true]
    exact ⟨B, Z1, ρ1, ob, R1, Lands.shift (q := quiet x && quiet y) (r := ev M y ρ1) h1 (fun _ m => m) (Keep.refl _ _) fun q => ⟨Same.refl _, by rw [Bool.and_eq_true] at q; exact q.2⟩⟩
/-! ### slices -/
theorem e_rev {n : Nat} (ih : EOk M L n) (G : Good S M C L X) (tk : L2.Takes X W) {rd : Bool} {a : Expr} {k : Nat} {p1 p2 p3 pos : Pos} {es : Exs} (h : cArgs (cE n S) [a] = some es) :
    PE X (.Subscript a (.Slice none none (some (.UnaryOp .USub (.Constant (.int 1) k p1) p2)) p3) pos) (tX M C W S.io rd (.prim .rev es)) := by
  obtain ⟨m, h1, hm⟩ := cArgs_ok h
  obtain ⟨ca, ha, rfl⟩ := cL_one h1
  refine PE.weak (pe_revL (ih C S m a ca ha X W G tk)) fun σ H Q q => prim_core' (mk := true) (k := fun vs H1 => match vs with
    | [x] => ∃ b xs, x = .ref b ∧ SqL X.K H1 b xs ∧ ∀ p, H1 p = none → Q (.ref p) (upd H1 p (.lst xs.reverse))
    | _ => True) q hm fun vs H1 hh => ?_
  obtain ⟨Z, x, d1, d, rfl, x1, h2, q'⟩ := hh.one (p := pRev) rfl (fun ds d h => by unfold pRev at h; split at h <;> first | exact ⟨_, rfl⟩ | cases h)
  unfold pRev at h2
  split at h2
  · rename_i a e; cases e; cases h2
    obtain ⟨p, ys, rfl, p1, p2⟩ := Rv.lst x1
    exact ⟨p, ys, rfl, SqL.of p1, fun z hz => q' _ _ (.lst hz p2.rev)⟩
  · cases h2
theorem sliceD_of {lo hi : Bool} {ds : List D} {d : D} (h : pSlice lo hi ds = some d) : ∃ x l u, sliceD x l u = some d ∧ (lo = l.isSome) ∧ (hi = u.isSome) ∧ ds = x :: (l.toList.map D.int ++ u.toList.map D.int) := by
  unfold pSlice at h
  split at h
  · split at h
    · exact ⟨_, none, none, h, rfl, rfl, rfl⟩
    · cases h
  · split at h
    · exact ⟨_, some _, none, h, rfl, rfl, rfl⟩
    · exact ⟨_, none, some _, h, rfl, rfl, rfl⟩
    · cases h
  · split at h
    · exact ⟨_, some _, some _, h, rfl, rfl, rfl⟩
    · cases h
  · cases h
theorem e_slice {n : Nat} (ih : EOk M L n) (G : Good S M C L X) (tk : L2.Takes X W) {rd : Bool} {a : Expr} {lo hi : Option Expr} {p2 pos : Pos} {es : Exs} (h : cArgs (cE n S) (a :: (lo.toList ++ hi.toList)) = some es) (h0 : lo = none ∨ hi = none) :
    PE X (.Subscript a (.Slice lo hi none p2) pos) (tX M C W S.io rd (.prim (.slice lo.isSome hi.isSome) es)) := by
  obtain ⟨m, h1, hm⟩ := cArgs_ok h
  obtain ⟨ca, r, ha, h2, rfl⟩ := cL_cons h1
  have ia := ih C S m a ca ha X W G tk
  cases lo with
  | none =>
    cases hi with
    | none =>
      cases h2
      refine PE.weak (pe_slice (slr G.K) ia po_none po_none) fun σ H Q q => prim_core' (mk := true) (k := fun vs H1 => match vs with
        | [x] => rSlP C x none none H1 Q
        | _ => True) q hm fun vs H1 hh => ?_
      obtain ⟨Z, ds, d, hr, hp, q'⟩ := hh
      obtain ⟨x, l, u, hs, e1, e2, rfl⟩ := sliceD_of (lo := false) (hi := false) hp
      cases l <;> cases u <;> first
        | (cases e1; done)
        | (cases e2; done)
        | skip
      have hl := hr.length
      match vs, hl, hr with
      | [v], _, hr =>
        obtain ⟨d1, hd, x1⟩ := hr.one
        cases hd
        exact ⟨Z, x, d, x1, hs, q'⟩
    | some u =>
      obtain ⟨cu, hu, rfl⟩ := cL_one h2
      refine PE.weak (pe_slice (slr G.K) ia po_none (po_some (ih C S m u cu hu X W G tk))) fun σ H Q q => prim_core' (mk := true) (k := fun vs H1 => match vs with
        | [x, y] => ∃ i, y = .int i ∧ rSlP C x none (some i) H1 Q
        | _ => True) q hm fun vs H1 hh => ?_
      obtain ⟨Z, ds, d, hr, hp, q'⟩ := hh
      obtain ⟨x, l, u, hs, e1, e2, rfl⟩ := sliceD_of (lo := false) (hi := true) hp
      cases l <;> cases u <;> first
        | (cases e1; done)
        | (cases e2; done)
        | skip
      rename_i i
      have hl := hr.length
      match vs, hl, hr with
      | [v, w], _, hr =>
        obtain ⟨d1, d2, hd, x1, x2⟩ := hr.two
        cases hd
        exact ⟨i, Rv.int x2, Z, x, d, x1, hs, q'⟩
  | some l =>
    cases hi with
    | none =>
      obtain ⟨cl, hl, rfl⟩ := cL_one h2
      refine PE.weak (pe_slice (slr G.K) ia (po_some (ih C S m l cl hl X W G tk)) po_none) fun σ H Q q => prim_core' (mk := true) (k := fun vs H1 => match vs with
        | [x, y] => ∃ i, y = .int i ∧ rSlP C x (some i) none H1 Q
        | _ => True) q hm fun vs H1 hh => ?_
      obtain ⟨Z, ds, d, hr, hp, q'⟩ := hh
      obtain ⟨x, l, u, hs, e1, e2, rfl⟩ := sliceD_of (lo := true) (hi := false) hp
      cases l <;> cases u <;> first
        | (cases e1; done)
        | (cases e2; done)
        | skip
      rename_i i
      have hl := hr.length
      match vs, hl, hr with
      | [v, w], _, hr =>
        obtain ⟨d1, d2, hd, x1, x2⟩ := hr.two
        cases hd
        exact ⟨i, Rv.int x2, Z, x, d, x1, hs, q'⟩
    | some u =>
      rcases h0 with h0 | h0 <;> cases h0
theorem e_sl2 {n : Nat} (ih : EOk M L n) (G : Good S M C L X) (tk : L2.Takes X W) {rd : Bool} {a l u : Expr} {p2 pos : Pos} {x y z : Ex} (ha : cE n S true a = some x) (hl : cE n S true l = some y) (hu : cE n S true u = some z)
    (hq : (quiet x && quiet y && quiet z) = true) : PE X (.Subscript a (.Slice (some l) (some u) none p2) pos) (tX M C W S.io rd (.sl2 x y z)) := by
  rw [Bool.and_eq_true, Bool.and_eq_true] at hq
  refine PE.weak (pe_slice (slr G.K) (ih C S true a x ha X W G tk) (po_some (ih C S true l y hl X W G tk)) (po_some (ih C S true u z hu X W G tk))) fun σ H Q q => ?_
  obtain ⟨B, Z, ρ, ob, R, q⟩ := q
  have q : Lands C W σ B Z H true ((ev M x ρ).bind fun d ρ => (ev M y ρ).bind fun e ρ => match e with
    | .int i => (ev M z ρ).bind fun f ρ => (match f with
      | .int j => rOf (sliceD d (some i) (some j)) ρ
      | _ => .bad)
    | _ => .bad) (fun d Z' H' _ => ∀ v, Rm rd C H' Z' v d → Q v H') := by
      have e : quiet (.sl2 x y z) = true := by
        show (quiet x && quiet y && quiet z) = true
        rw [hq.1.1, hq.1.2, hq.2]; rfl
      rw [e] at q
      exact q
  refine ⟨B, Z, ρ, ob, R, ?_⟩
  rw [hq.1.1]
  refine (Lands.bind (q1 := true) (q2 := true) q fun _ => ⟨rfl, rfl⟩).imp fun d Z1 H1 ρ1 R1 z1 k1 s1 h1 v hv => ?_
  refine ⟨B, Z1, ρ1, ob, R1, ?_⟩
  rw [hq.1.2]
  refine (Lands.bind (q1 := true) (q2 := true) h1 fun _ => ⟨rfl, rfl⟩).imp fun e Z2 H2 ρ2 R2 z2 k2 s2 h2 w hw => ?_
  cases e with
  | int i =>
    refine ⟨i, Rv.int hw.rv, B, Z2, ρ2, ob, R2, ?_⟩
    rw [hq.2]
    refine (Lands.bind (q1 := true) (q2 := true) h2 fun _ => ⟨rfl, rfl⟩).imp fun f Z3 H3 ρ3 R3 z3 k3 s3 h3 t ht => ?_
    cases f with
    | int j =>
      refine ⟨j, Rv.int ht.rv, ?_⟩
      replace h3 : Lands C W σ B Z3 H3 true (rOf (sliceD d (some i) (some j)) ρ3) (fun d Z' H' _ => ∀ v, Rm rd C H' Z' v d → Q v H') := h3
      cases e : sliceD d (some i) (some j) with
      | none => rw [e] at h3; exact h3.elim
      | some r =>
        rw [e] at h3
        refine ⟨Z3, d, r, Rv.same ((s2 rfl).trans (s3 rfl)) (fun a m => z3 a (z2 a m)) hv.rv, e, fun v' H' ho => ?_⟩
        obtain ⟨Z4, R4, z4, k4, s4, f4⟩ := out_end R3 ho
        exact h3 Z4 H' R4 z4 k4 (fun _ => s4) _ (.of f4)
    | _ => exact h3.elim
  | _ => exact h2.elim
end
end PF

set_option Elab.async false
set_option linter.all false
set_option maxRecDepth 100000
set_option maxHeartbeats 2000000
/-! PF9: calls. -/
namespace PF
open PySem PySem.Spec PyProof.Rows L2
section
variable {S : SC} {M : Mo} {C : Cn} {L : Nat} {X : Cx} {W : WX}
theorem lookup_mem {α : Type} {x : Str} {a : α} : ∀ {l : List (Str × α)}, l.lookup x = some a → (x, a) ∈ l
  | (k, v) :: r, h => by
    rw [List.lookup_cons] at h
    cases hb : x == k with
    | true => rw [hb] at h; cases h; rw [eq_of_beq hb]; exact List.mem_cons_self
    | false => rw [hb] at h; exact List.mem_cons_of_mem _ (lookup_mem h)
def BltOk (C : Cn) (X : Cx) (p : Str × Op) : Prop :=
    (∃ id, bootBuiltins p.1 = some (.builtin id) ∧ CallR X (.builtin id) (rP true C p.2)) ∨ ∃ T, bootBuiltins p.1 = some (.type T) ∧ CallR X (.type T) (rP true C p.2)
inductive AllL {α : Type} (P : α → Prop) : List α → Prop
  | nil : AllL P []
  | cons {a : α} {l : List α} : P a → AllL P l → AllL P (a :: l)
theorem all_mem {α : Type} {P : α → Prop} {l : List α} (h : AllL P l) : ∀ a ∈ l, P a := by
  induction h with
  | nil => intro a m; cases m
  | cons h1 _ ih =>
    intro a m
    rcases List.mem_cons.mp m with rfl | m
    · exact h1
    · exact ih a m
theorem bltOp_ok (G : Good S M C L X) {x : Str} {n : Nat} {o : Op} (h : bltOp S x n = some o) : BltOk C X (x, o) := by
  unfold bltOp at h
  have B : ∀ {x : Str} {id : String} {o : Op}, bootBuiltins x = some (.builtin id) → CallR X (.builtin id) (rP true C o) → BltOk C X (x, o) := fun a b => .inl ⟨_, a, b⟩
  have T : ∀ {x : Str} {id : String} {o : Op}, bootBuiltins x = some (.type id) → CallR X (.type id) (rP true C o) → BltOk C X (x, o) := fun a b => .inr ⟨_, a, b⟩
  split at h
  · exact all_mem (P := BltOk C X) (l := bltHot) (.cons (B boot_len (cr_len G.K)) (.cons (T PyProof.Rows.boot_str cr_str) .nil)) _ (lookup_mem h)
  · rename_i hh
    have hc : X.calm = true := G.calm hh
    exact all_mem (P := BltOk C X) (l := blt1) (.cons (B boot_len (cr_len G.K)) (.cons (B boot_abs cr_abs) (.cons (T PyProof.Rows.boot_int cr_int) (.cons (T PyProof.Rows.boot_bool cr_bool) (.cons (T PyProof.Rows.boot_str cr_str)
      (.cons (B boot_sum (cr_sumP hc)) (.cons (B boot_max (cr_maxP hc)) (.cons (B boot_min (cr_minP hc)) (.cons (B boot_all (cr_allP hc)) (.cons (B boot_any (cr_anyP hc))
      (.cons (T PyProof.Rows.boot_tuple (cr_tuple G.K)) (.cons (T PyProof.Rows.boot_list (cr_list G.K)) (.cons (B PyProof.Rows.boot_sorted (cr_sortedP G.K (by have := G.units; omega))) .nil))))))))))))) _ (lookup_mem h)
  · rename_i hh
    have hc : X.calm = true := G.calm hh
    exact all_mem (P := BltOk C X) (l := blt2) (.cons (B boot_max (cr_max2 hc)) (.cons (B boot_min (cr_min2 hc)) .nil)) _ (lookup_mem h)
  · cases h
theorem e_blt {n : Nat} (ih : EOk M L n) (G : Good S M C L X) (tk : L2.Takes X W) {rd : Bool} {x : Str} {e : Expr} {es : List Expr} {p pos : Pos} {o : Op} {r : Exs} (hx : isBlt S x = true) (ho : bltOp S x (e :: es).length = some o) (h : cArgs (cE n S) (e :: es) = some r) :
    PE X (.Call (.Name x p) (e :: es) [] pos) (tX M C W S.io rd (.prim o r)) := by
  obtain ⟨m, h1, hm⟩ := cArgs_ok h
  obtain ⟨g1, g2, g3, g4⟩ := G.blt hx
  have pa := args_ok ih G tk h1
  obtain ⟨c, r', ha, hr, rfl⟩ := cL_cons h1
  rcases bltOp_ok G ho with ⟨id, hb, hc⟩ | ⟨T, hb, hc⟩
  · exact PE.weak (pe_callB hc g1 g2 hb pa g3 g4 (star_of ha es X.env) (nostars hr X.env pos)) fun σ H Q q => prim_core q hm
  · exact PE.weak (pe_callTy hc g1 g2 hb pa g3 g4 (star_of ha es X.env) (nostars hr X.env pos)) fun σ H Q q => prim_core q hm
theorem boot_VE : bootBuiltins "ValueError" = some (.type "ValueError") := by decide +kernel
/-- a class's name, as isinstance takes it -/
theorem e_ty (G : Good S M C L X) {x : Str} {t : Ty} {pos : Pos} (h : tyOf S x = some t) : PE X (.Name x pos) (tC (tyVal C t)) := by
  unfold tyOf at h
  split at h
  · rename_i hb
    obtain ⟨g1, g2, g3, g4⟩ := G.blt hb
    have fin : ∀ {x : Str} {T : Ty} {T' : String}, bootBuiltins x = some (.type T') → tyVal C T = .ty T' → ∃ u, bootBuiltins x = some u ∧ RelV (tyVal C T) u := fun {x T T'} a b => ⟨_, a, by rw [b]; rfl⟩
    obtain ⟨u, hu, ru⟩ := all_mem (P := fun p : Str × Ty => ∃ u, bootBuiltins p.1 = some u ∧ RelV (tyVal C p.2) u) (l := tyTab) (.cons (fin PyProof.Rows.boot_int rfl) (.cons (fin PyProof.Rows.boot_bool rfl) (.cons (fin PyProof.Rows.boot_str rfl)
      (.cons (fin PyProof.Rows.boot_tuple rfl) (.cons (fin PyProof.Rows.boot_list rfl) (.cons (fin boot_VE rfl) .nil)))))) _ (lookup_mem h)
    exact pe_bltn g1 g2 hu ru g3 g4
  · split at h
    · rename_i hg
      obtain ⟨c, hc, rfl⟩ := Option.map_eq_some_iff.mp h
      obtain ⟨k1, _, _⟩ := okName_and (isGl_ok hg).2
      exact pe_glob (G.gl hg) (G.exs x c hc) rfl k1
    · cases h
theorem e_isinst {n : Nat} (ih : EOk M L n) (G : Good S M C L X) (tk : L2.Takes X W) (hh : S.hot = false) {rd : Bool} {a : Expr} {x : Str} {p p2 pos : Pos} {t : Ty} {r : Exs} (hx : isBlt S "isinstance" = true) (ht : tyOf S x = some t) (h : cArgs (cE n S) [a] = some r) :
    PE X (.Call (.Name "isinstance" p) [a, .Name x p2] [] pos) (tX M C W S.io rd (.prim (.isinst t) r)) := by
  obtain ⟨m, h1, hm⟩ := cArgs_ok h
  obtain ⟨g1, g2, g3, g4⟩ := G.blt hx
  obtain ⟨c, ha, rfl⟩ := cL_one h1
  have ia := ih C S m a c ha X W G tk
  have npx : ∀ a cls dd, ¬ C.px a cls dd := fun a cls dd q => by
    have := (G.px a cls dd q).1
    rw [hh] at this; cases this
  refine PE.weak (pe_callB (cr_isT G.K t npx) g1 g2 boot_isinstance (pa_cons ia (pa_cons (e_ty G ht) pa_nil rfl) (star_of ha _ X.env)) g3 g4 (star_of ha _ X.env) rfl) fun σ H Q q => ?_
  exact prim_core' (mk := true) (k := fun vs H1 => rIsT C t (vs ++ [tyVal C t]) H1 Q) q hm fun vs H1 hq => by
    obtain ⟨Z, x, d1, d, rfl, x1, h2, q'⟩ := hq.one (p := pIsinst t) rfl (fun ds d h => by unfold pIsinst at h; split at h <;> first | exact ⟨_, rfl⟩ | cases h)
    exact ⟨x, rfl, Z, [d1], d, .cons x1 .nil, h2, q'⟩
/-! ### methods of one argument -/
theorem base_of {a : Expr} (h : notSuper a = true) (m : Str) (env : PySem.Env) (t : Sem Value) : attributeBase a m env t = t := by
  unfold attributeBase
  split
  · rename_i id p pos
    have : (id != "super") = true := h
    simp [this]
  · rfl
def MtOk (C : Cn) (X : Cx) (p : Str × Op) : Prop :=
  ∃ (T id : String) (r : V → List V → Hp → VK → Prop), PlainAttrs T ∧ Slot T p.1 id ∧ typeOf (.builtin id) = pure (.type "method_descriptor") ∧ MtR X id r ∧
      (∀ x d H Z, Rv C H Z x d → mtTy p.2 d = true → tyV X.K T x H) ∧ ∀ x y H Q, (∃ d Z, Rv C H Z x d ∧ mtTy p.2 d = true) → rP true C p.2 [x, y] H Q → r x [y] H Q
theorem mt_str {x : V} {d : D} {H : Hp} {Z : Addr → Prop} (h : Rv C H Z x d) (e : (match d with | .str _ => true | _ => false) = true) : tyV X.K "str" x H := by
  cases d with
  | str s => have := Rv.str h; subst this; rfl
  | _ => cases e
theorem mt_ok (G : Good S M C L X) {m : Str} {o : Op} (h : mtOp m = some o) : MtOk C X (m, o) := by
  refine all_mem (P := MtOk C X) (l := mtTab) (.cons ?_ (.cons ?_ (.cons ?_ (.cons ?_ .nil)))) _ (lookup_mem h)
  · refine ⟨"list", _, _, F.plainAttrs_list, F.slot_list_index, F.type_list_index, mt_indexP G.K (by have := G.units; omega), fun x d H Z h e => ?_, fun x y H Q hx q => ⟨?_, q⟩⟩
    · cases d with
      | lst ds =>
        obtain ⟨p, ys, rfl, p1, p2⟩ := Rv.lst h
        exact .inl ⟨rfl, _, SqL.of p1⟩
      | _ => cases e
    · obtain ⟨d, Z, h, e⟩ := hx
      cases d with
      | lst ds =>
        obtain ⟨p, ys, rfl, p1, p2⟩ := Rv.lst h
        exact ⟨p, ys, rfl, p1⟩
      | _ => cases e
  · exact ⟨"str", _, _, F.plainAttrs_str, F.slot_str_partition, F.type_str_partition, mt_partP, fun x d H Z h e => mt_str h (by cases d <;> first | exact e | cases e), fun x y H Q _ q => q⟩
  · exact ⟨"str", _, _, F.plainAttrs_str, F.slot_str_split, F.type_str_split, mt_splitP, fun x d H Z h e => mt_str h (by cases d <;> first | exact e | cases e), fun x y H Q _ q => q⟩
  · exact ⟨"str", _, _, F.plainAttrs_str, F.slot_str_join, F.type_str_join, mt_joinP G.K, fun x d H Z h e => mt_str h (by cases d <;> first | exact e | cases e), fun x y H Q _ q => q⟩
theorem e_meth {n : Nat} (ih : EOk M L n) (G : Good S M C L X) (tk : L2.Takes X W) {rd : Bool} {a e : Expr} {m : Str} {apos pos : Pos} {o : Op} {r : Exs} {c : Ex} (hl : (apos.endLine == pos.line) = true) (hs : notSuper a = true) (ho : mtOp m = some o) (h : cArgs (cE n S) [a, e] = some r)
    (hc : cMeth o r = some c) : PE X (.Call (.Attribute a m apos) [e] [] pos) (tX M C W S.io rd c) := by
  obtain ⟨k, h1, hm⟩ := cArgs_ok h
  obtain ⟨ca, cb, ha, hb, rfl⟩ := cL_two h1
  cases hc
  obtain ⟨T, id, rr, pa, slot, ty, rule, f1, f2⟩ := mt_ok G ho
  have ia := ih C S k a ca ha X W G tk
  have ib := ih C S k e cb hb X W G tk
  refine PE.weak (pe_bm pa slot ty rule ia (pa_cons ib pa_nil (star_of hb [] X.env)) (base_of hs _ _ _) (by rw [star_of hb [] X.env]; rfl) hl (star_of hb [] X.env) rfl) fun σ H Q q => ?_
  obtain ⟨B, Z, ρ, ob, R, q⟩ := q
  have q : Lands C W σ B Z H (quiet ca && quiet cb) ((ev M ca ρ).bind fun x ρ => match mtTy o x with
    | true => (ev M cb ρ).bind fun y ρ => rOf (prim o [x, y]) ρ
    | false => .bad) _ := q
  refine ⟨B, Z, ρ, ob, R, ?_⟩
  refine (Lands.bind (q1 := quiet ca) (q2 := quiet cb) q fun q => by rwa [Bool.and_eq_true] at q).imp fun d Z1 H1 ρ1 R1 z1 k1 s1 h1 v hv => ?_
  cases et : mtTy o d with
  | false => rw [et] at h1; exact h1.elim
  | true =>
    rw [et] at h1
    refine ⟨f1 v d H1 Z1 hv.rv et, B, Z1, ρ1, ob, R1, ?_⟩
    refine (Lands.bind (q1 := quiet cb) (q2 := true) h1 fun q => ⟨q, rfl⟩).imp fun d2 Z2 H2 ρ2 R2 z2 k2 s2 h2 w hw => ?_
    cases e : prim o [d, d2] with
    | none => rw [e] at h2; exact h2.elim
    | some d' =>
      rw [e] at h2
      have hv2 : Rv C H2 Z2 v d := (hv.move z2 k2 fun q => s2 (quiet_two (hm q)).2).rv
      refine f2 v w H2 Q ⟨d, Z2, hv2, et⟩ ⟨Z2, [d, d2], d', .cons hv2 (.cons hw.rv .nil), e, fun u H' hu => ?_⟩
      obtain ⟨Z3, R3, z3, k3, s3, f3⟩ := out_end R2 hu
      exact h2 Z3 H' R3 z3 k3 (fun _ => s3) u (.of f3)
end
end PF

set_option Elab.async false
set_option linter.all false
set_option maxRecDepth 100000
set_option maxHeartbeats 2000000
/-! PF10: calls of the text's own defs; pops. -/
namespace PF
open PySem PySem.Spec PyProof.Rows L2
section
variable {C : Cn} {B : Bs} {Z Z' : Addr → Prop} {H H' : Hp} {σ : L2.St} {ρ : En}
theorem After.same (a : After C none Z H Z' H') : Same H H' := fun p o e => a.frm p o e fun q => nomatch q
theorem Rel.gone (R : Rel C B Z H σ ρ) {p : Addr} (h : H p = none) : B.H0 p = none := by
  cases e : B.H0 p with
  | none => rfl
  | some o =>
    by_cases hi : B.io = some p
    · obtain ⟨q1, ds, q2⟩ := R.io0 p hi
      obtain ⟨a, xs, h1, h2, _⟩ := R.own 0 ds q2
      rw [q1] at h1; cases h1
      rw [h] at h2; cases h2
    · rw [R.frm p o e hi] at h; cases h
/-- more is frozen -/
theorem Rel.more (R : Rel C B Z H σ ρ) (zle : ∀ a, Z a → Z' a) (zin : ∀ a, Z' a → Z a ∨ (B.H0 a = none ∧ ∀ i ds, getC ρ i = .o ds → σ[i]? ≠ some (some (.ref a)))) (ztr : ∀ a, Z' a → ∃ o, H a = some o) : Rel C B Z' H σ ρ where
  len := R.len
  val := fun i d e => let ⟨v, h1, h2⟩ := R.val i d e; ⟨v, h1, h2.keep (Keep.refl _ _) zle⟩
  own := fun i ds e => let ⟨a, xs, h1, h2, h3, h4, h5⟩ := R.own i ds e; ⟨a, xs, h1, h2, h3.keep (Keep.refl _ _) zle, fun z => (zin a z).elim h4 fun q => q.2 i ds e h1, h5⟩
  dis := R.dis
  frm := R.frm
  zin := fun a h => (zin a h).elim (R.zin a) fun q => .inr q.1
  ztr := ztr
  io0 := R.io0
theorem Rel.ofNone (R : Rel C B Z H σ ρ) {a : Addr} (h : H a = none) : B.H0 a = none ∧ ∀ i ds, getC ρ i = .o ds → σ[i]? ≠ some (some (.ref a)) :=
  ⟨R.gone h, fun i ds e q => by
    obtain ⟨b, xs, h1, h2, _⟩ := R.own i ds e
    rw [q] at h1; cases h1
    rw [h] at h2; cases h2⟩
theorem Rel.after (R : Rel C B Z H σ ρ) (a : After C none Z H Z' H') : Rel C B Z' H' σ ρ :=
  (R.grow a.same).more a.zle (fun p h => (a.zin p h).imp (fun q => q) fun q => R.ofNone q) a.ztr
/-- a callee changed the list at slot i -/
theorem Rel.afterM (R : Rel C B Z H σ ρ) {i : Nat} {ds ds' : List D} (e : getC ρ i = .o ds) {p : Addr} (ep : σ[i]? = some (some (.ref p))) {xs' : List V} (a : After C (some p) Z H Z' H') (hp : H' p = some (.lst xs')) (hf : FzAll C H' Z' xs' ds') (hz : ¬ Z' p) :
    Rel C B Z' H' σ (setC ρ i (.o ds')) ∧ Keep Z H H' := by
  obtain ⟨b, xs, h1, h2, h3, h4, h5⟩ := R.own i ds e
  have hb : b = p := by rw [ep] at h1; cases h1; rfl
  subst hb
  have lt := getC_lt e (fun z => nomatch z)
  have fr : ∀ c o, c ≠ b → H c = some o → H' c = some o := fun c o n q => a.frm c o q fun z => n (Option.some.inj z).symm
  have k : Keep Z H H' := fun c o q m => by
    by_cases hc : c = b
    · subst hc
      rw [h2] at q; cases q
      exact absurd (m trivial) h4
    · exact fr c o hc q
  have zn : ∀ c, Z' c → Z c ∨ (B.H0 c = none ∧ ∀ i ds, getC ρ i = .o ds → σ[i]? ≠ some (some (.ref c))) := fun c h => (a.zin c h).imp (fun q => q) fun q => R.ofNone q
  refine ⟨⟨by simpa [setC] using R.len, fun j d q => ?_, fun j es q => ?_, fun j m c es fs hjm q1 q2 r1 r2 => ?_, fun c o q n => ?_, fun c h => (zn c h).elim (R.zin c) (fun q => .inr q.1), a.ztr, fun c q => ?_⟩, k⟩
  · have n1 : i ≠ j := fun z => by subst z; rw [getC_set_self lt] at q; cases q
    rw [getC_set_ne n1] at q
    obtain ⟨v, q1, q2⟩ := R.val j d q
    exact ⟨v, q1, q2.keep k a.zle⟩
  · by_cases hij : i = j
    · subst hij
      rw [getC_set_self lt] at q; cases q
      exact ⟨b, xs', ep, hp, hf, hz, h5⟩
    · rw [getC_set_ne hij] at q
      obtain ⟨c, ys, q1, q2, q3, q4, q5⟩ := R.own j es q
      have hc : c ≠ b := fun z => by subst z; exact R.dis i j c ds es hij e q ep q1
      exact ⟨c, ys, q1, fr c _ hc q2, q3.keep k a.zle, fun z => (zn c z).elim q4 fun r => r.2 j es q q1, q5⟩
  · by_cases n1 : i = j
    · subst n1
      rw [getC_set_ne hjm] at q2
      exact R.dis i m c ds fs hjm e q2 r1 r2
    · rw [getC_set_ne n1] at q1
      by_cases n2 : i = m
      · subst n2
        exact R.dis j i c es ds hjm q1 e r1 r2
      · rw [getC_set_ne n2] at q2
        exact R.dis j m c es fs hjm q1 q2 r1 r2
  · have hc : c ≠ b := fun z => by
      subst z
      rcases h5 with h5 | h5
      · rw [h5] at q; cases q
      · exact n h5
    exact fr c o hc (R.frm c o q n)
  · obtain ⟨q1, es, q2⟩ := R.io0 c q
    refine ⟨q1, ?_⟩
    by_cases h0 : i = 0
    · subst h0; exact ⟨_, getC_set_self lt⟩
    · exact ⟨es, by rw [getC_set_ne h0]; exact q2⟩
theorem nol_all : ∀ {n : Nat} {xs : List D}, (xs.all (nol n)) = true → ∀ x ∈ xs, nol n x = true := fun h x m => List.all_eq_true.mp h x m
mutual
/-- list-free data needs no frozen list -/
theorem Fz.nolist {C : Cn} {H : Hp} {Z Z' : Addr → Prop} : ∀ {n : Nat} {v : V} {d : D}, Fz C H Z v d → nol n d = true → Fz C H Z' v d
  | _, _, _, .non, _ => .non
  | _, _, _, .bl b, _ => .bl b
  | _, _, _, .int b, _ => .int b
  | _, _, _, .str b, _ => .str b
  | 0, _, _, .lst _ _ _, e => by cases e
  | _ + 1, _, _, .lst _ _ _, e => by cases e
  | 0, _, _, .tup _ _, e => by cases e
  | n + 1, _, _, .tup h r, e => .tup h (FzAll.nolist (n := n) r (nol_all e))
  | 0, _, _, .scrF _ _, e => by cases e
  | _ + 1, _, _, .scrF _ _, e => by cases e
  | 0, _, _, .scrK _ _, e => by cases e
  | _ + 1, _, _, .scrK _ _, e => by cases e
  | 0, _, _, .exc _ _, e => by cases e
  | _ + 1, _, _, .exc _ _, e => by cases e
theorem FzAll.nolist {C : Cn} {H : Hp} {Z Z' : Addr → Prop} : ∀ {n : Nat} {vs : List V} {ds : List D}, FzAll C H Z vs ds → (∀ d ∈ ds, nol n d = true) → FzAll C H Z' vs ds
  | _, _, _, .nil, _ => .nil
  | n, _, _, .cons h t, e => .cons (Fz.nolist h (e _ List.mem_cons_self)) (FzAll.nolist t fun d m => e d (List.mem_cons_of_mem _ m))
end
/-- arguments that are read: with the lists among them taken as frozen -/
theorem RmAll.frozen {vs : List V} {ds : List D} (h : RmAll true C H Z vs ds) : FzAll C H (fun a => Z a ∨ (V.ref a ∈ vs ∧ ∃ xs, H a = some (.lst xs))) vs ds := by
  induction h with
  | nil => exact .nil
  | cons h _ ih =>
    refine .cons ?_ (ih.keep (Keep.refl _ _) fun a q => q.imp (fun z => z) fun z => ⟨List.mem_cons_of_mem _ z.1, z.2⟩)
    rcases h with h | ⟨a, xs, es, rfl, rfl, h1, h2⟩
    · exact h.keep (Keep.refl _ _) fun a q => .inl q
    · exact .lst h1 (.inr ⟨List.mem_cons_self, xs, h1⟩) (h2.keep (Keep.refl _ _) fun a q => .inl q)
end
theorem Lands.impE {α : Type} {W : WX} {q : Bool} {r : Rs α} {ok ok' : α → (Addr → Prop) → Hp → En → Prop} (h : Lands C W σ B Z H q r ok)
    (hi : ∀ a ρ', r = .ok a ρ' → ∀ Z' H', Rel C B Z' H' σ ρ' → (∀ a, Z a → Z' a) → Keep Z H H' → (q = true → Same H H') → ok a Z' H' ρ' → ok' a Z' H' ρ') : Lands C W σ B Z H q r ok' := by
  cases r with
  | ok a ρ' => exact fun Z' H' R z k s => hi a ρ' rfl Z' H' R z k s (h Z' H' R z k s)
  | exc x ρ' => exact h
  | bad => exact h
def exsN : Exs → Nat
  | .nil => 0
  | .cons _ es => exsN es + 1
theorem evs_len {M : Mo} : ∀ {es : Exs} {ρ ρ' : En} {ds : List D}, evs M es ρ = .ok ds ρ' → ds.length = exsN es
  | .nil, ρ, ρ', ds, h => by cases h; rfl
  | .cons e es, ρ, ρ', ds, h => by
    have h : ((ev M e ρ).bind fun d ρ => (evs M es ρ).bind fun ds ρ => .ok (d :: ds) ρ) = .ok ds ρ' := h
    cases h1 : ev M e ρ with
    | ok d ρ1 =>
      rw [h1, bind_ok] at h
      cases h2 : evs M es ρ1 with
      | ok es' ρ2 =>
        rw [h2, bind_ok] at h
        cases h
        exact congrArg Nat.succ (evs_len h2)
      | _ => rw [h2] at h; cases h
    | _ => rw [h1] at h; cases h
theorem cL_len {f : Bool → Expr → Option Ex} {m : Bool} : ∀ {es : List Expr} {cs : Exs}, cL f m es = some cs → exsN cs = es.length
  | [], cs, h => by cases h; rfl
  | e :: es, cs, h => by
    obtain ⟨c, r, h1, h2, rfl⟩ := cL_cons h
    exact congrArg Nat.succ (cL_len h2)
section
variable {S : SC} {M : Mo} {C : Cn} {L : Nat} {X : Cx} {W : WX}
/-- the call of a def, by what it promises -/
theorem e_call {n : Nat} (ih : EOk M L n) (G : Good S M C L X) (tk : L2.Takes X W) (hh : S.hot = false) {m : Bool} {x : Str} {p pos : Pos} {es : List Expr} {r : Exs} {f : Nat} {io : Bool} {t : TE} (hg : isGl S x = true) (hf : S.fns.lookup x = some (f, io)) (h : cL (cE n S) m es = some r)
    (hw : ∀ σ H Q, t σ H Q → ∀ k, S.ar.lookup f = some k → seqT (tes M C W S.io m r) σ H fun vs H1 => spOf C (M.fn f) k io (S.fresh.contains f) vs H1 Q (WE W σ)) :
    PE X (.Call (.Name x p) es [] pos) t := by
  obtain ⟨k, a, fd, ps, hk, har, hm, hkeep, hb, F⟩ := (G.fns hh x f io hf).ex
  have hr : Room k X.A := (G.room hh).mono (by omega)
  obtain ⟨k1, _, _⟩ := okName_and (isGl_ok hg).2
  have F' := F.mono (Nat.le_refl k)
  cases es with
  | nil =>
    cases h
    refine ⟨fun pins s σ H Q I q => ?_⟩
    refine wpAny_Call_Name_kw (ld_glob I (G.gl hg) hm ?_ k1)
    exact PySem.W.callWith_K0 I.kIn hkeep (run_fnS (us := []) (E := WE W) F hr hb (passAt tk σ) I .nil (hw σ H Q q _ har))
  | cons e es =>
    obtain ⟨c, r', he, hr', rfl⟩ := cL_cons h
    exact PE.weak (pe_callS F hr (G.gl hg) hm hkeep hb (passAt tk) (args_ok ih G tk h) k1 (star_of he es X.env) (nostars hr' X.env pos)) fun σ H Q q => hw σ H Q q _ har
theorem e_callV {n : Nat} (ih : EOk M L n) (G : Good S M C L X) (tk : L2.Takes X W) (hh : S.hot = false) {rd : Bool} {x : Str} {p pos : Pos} {es : List Expr} {r : Exs} {f : Nat} (hg : isGl S x = true) (hf : S.fns.lookup x = some (f, false)) (ha : S.ar.lookup f = some es.length)
    (h : cL (cE n S) false es = some r) : PE X (.Call (.Name x p) es [] pos) (tX M C W S.io rd (.call f r)) := by
  refine e_call ih G tk hh hg hf h fun σ H Q q k hk => ?_
  obtain ⟨B, Z, ρ, ob, R, q⟩ := q
  have q : Lands C W σ B Z H (quiets r) ((evs M r ρ).bind fun ds ρ => frV (M.fn f ds) ρ) (fun d Z' H' _ => ∀ v, Rm rd C H' Z' v d → Q v H') := q
  refine seq_ok ob r R (fun q => nomatch q) ?_
  refine (Lands.bind (q1 := quiets r) (q2 := true) q fun q => ⟨q, rfl⟩).impE fun ds ρ1 heq Z1 H1 R1 z1 k1 s1 h1 vs hvs => ?_
  have hvs := hvs.fz
  refine ⟨?_, Z1, R1.ztr, ds, hvs, ?_⟩
  · rw [hk] at ha; cases ha
    rw [hvs.length, evs_len heq, cL_len h]
  · cases e : M.fn f ds with
    | ok d m =>
      rw [e] at h1
      intro v Z2 H2 a hv
      have R2 := R1.after a
      by_cases fr : (S.fresh.contains f) = true
      · rw [if_pos fr] at hv
        obtain ⟨b, xs, es', rfl, rfl, g1, g2, g3, g4⟩ := hv
        have R3 := (R1.after a).freeze g1 (R1.gone g4) (R1.ofNone g4).2
        exact h1 _ H2 R3 (fun c z => .inl (a.zle c z)) (Keep.of_same a.same) (fun _ => a.same) _ (.of (.lst g1 (.inr rfl) (g2.keep (Keep.refl _ _) fun _ m => .inl m)))
      · rw [if_neg fr] at hv
        exact h1 Z2 H2 R2 a.zle (Keep.of_same a.same) (fun _ => a.same) _ (.of hv)
    | exc x =>
      rw [e] at h1
      intro Z2 H2 cls dd a hx
      exact h1 Z2 H2 cls dd (R1.after a) a.zle (Keep.of_same a.same) hx
    | bad => rw [e] at h1; exact h1
/-- a call that reads lists of one's own, with a list-free answer -/
theorem e_callB {n : Nat} (ih : EOk M L n) (G : Good S M C L X) (tk : L2.Takes X W) (hh : S.hot = false) {rd : Bool} {x : Str} {p pos : Pos} {es : List Expr} {r : Exs} {f : Nat} (hg : isGl S x = true) (hf : S.fns.lookup x = some (f, false)) (ha : S.ar.lookup f = some es.length)
    (h : cL (cE n S) true es = some r) (hq : quiets r = true) : PE X (.Call (.Name x p) es [] pos) (tX M C W S.io rd (.callB f r)) := by
  refine e_call ih G tk hh hg hf h fun σ H Q q k hk => ?_
  obtain ⟨B, Z, ρ, ob, R, q⟩ := q
  have q : Lands C W σ B Z H (quiets r) ((evs M r ρ).bind fun ds ρ => match M.fn f ds with
    | .ok d _ => if nol 9 d then .ok d ρ else .bad
    | .exc x => .exc x ρ
    | .bad => .bad) (fun d Z' H' _ => ∀ v, Rm rd C H' Z' v d → Q v H') := q
  refine seq_ok ob r R (fun _ => hq) ?_
  refine (Lands.bind (q1 := quiets r) (q2 := true) q fun q => ⟨q, rfl⟩).impE fun ds ρ1 heq Z1 H1 R1 z1 k1 s1 h1 vs hvs => ?_
  have hz := hvs.frozen
  refine ⟨?_, _, ?_, ds, hz, ?_⟩
  · rw [hk] at ha; cases ha
    rw [hz.length, evs_len heq, cL_len h]
  · exact fun a z => z.elim (R1.ztr a) fun z => ⟨_, z.2.choose_spec⟩
  · cases e : M.fn f ds with
    | ok d m =>
      rw [e] at h1
      intro v Z2 H2 a hv
      have R2 : Rel C B Z1 H2 σ ρ1 := R1.grow a.same
      have h1 : Lands C W σ B Z1 H1 true (if nol 9 d then Rs.ok d ρ1 else .bad) (fun d Z' H' _ => ∀ v, Rm rd C H' Z' v d → Q v H') := h1
      split at h1
      · rename_i hn
        have hv : Fz C H2 Z2 v d := by
          by_cases fr : (S.fresh.contains f) = true
          · rw [if_pos fr] at hv
            obtain ⟨b, xs, es', _, rfl, _⟩ := hv
            cases hn
          · rw [if_neg fr] at hv; exact hv
        exact h1 Z1 H2 R2 (fun _ m => m) (Keep.of_same a.same) (fun _ => a.same) v (.of (hv.nolist hn))
      · exact h1.elim
    | exc x =>
      rw [e] at h1
      intro Z2 H2 cls dd a hx
      exact h1 Z1 H2 cls dd (R1.grow a.same) (fun _ m => m) (Keep.of_same a.same) hx
    | bad => rw [e] at h1; exact h1
/-- a call that may change the list at slot i -/
theorem e_callM {n : Nat} (ih : EOk M L n) (G : Good S M C L X) (tk : L2.Takes X W) (hh : S.hot = false) {rd : Bool} {x y : Str} {p p2 pos : Pos} {es : List Expr} {r : Exs} {f i : Nat} (hg : isGl S x = true) (hf : S.fns.lookup x = some (f, true)) (ha : S.ar.lookup f = some (es.length + 1))
    (hy : slotOf S y = some i) (h : cL (cE n S) false es = some r) : PE X (.Call (.Name x p) (.Name y p2 :: es) [] pos) (tX M C W S.io rd (.callM f i r)) := by
  obtain ⟨k, a, fd, ps, hk, har, hm, hkeep, hb, F⟩ := (G.fns hh x f true hf).ex
  have hr : Room k X.A := (G.room hh).mono (by omega)
  obtain ⟨k1, _, _⟩ := okName_and (isGl_ok hg).2
  obtain ⟨j1, j2, j3⟩ := slotOf_ok hy
  obtain ⟨m1, m2, _⟩ := okName_and j3
  have base : PE X (.Name y p2) (tVar i) := pe_var (by rw [G.N]; exact j1) (by rw [G.sc]; exact j2) m1 m2
  refine PE.weak (pe_callS F hr (G.gl hg) hm hkeep hb (passAt tk) (pa_cons base (args_ok ih G tk h)) k1 rfl (nostars h X.env pos)) fun σ H Q q => ?_
  obtain ⟨B, Z, ρ, ob, R, q⟩ := q
  have q : Lands C W σ B Z H false (match getC ρ i with
    | .o _ => (evs M r ρ).bind fun ds ρ => (match getC ρ i with
      | .o xs => (match M.fn f (.lst xs :: ds) with
        | .ok d m => .ok d (setC ρ i (.o m))
        | _ => .bad)
      | _ => .bad)
    | _ => .bad) (fun d Z' H' _ => ∀ v, Rm rd C H' Z' v d → Q v H') := q
  cases e0 : getC ρ i with
  | no => rw [e0] at q; exact q.elim
  | v d => rw [e0] at q; exact q.elim
  | o xs0 =>
    rw [e0] at q
    obtain ⟨b, ys0, g1, _⟩ := R.own i xs0 e0
    refine ⟨.ref b, g1, ?_⟩
    refine seq_ok ob r R (fun q => nomatch q) ?_
    refine (Lands.bind (f := fun ds ρ => (match getC ρ i with
      | .o xs => (match M.fn f (.lst xs :: ds) with
        | .ok d m => .ok d (setC ρ i (.o m))
        | _ => .bad)
      | _ => .bad)) (q1 := quiets r) (q2 := false) q fun q => nomatch q).impE fun ds ρ1 heq Z1 H1 R1 z1 k1 s1 h1 vs hvs => ?_
    have hvs := hvs.fz
    cases e1 : getC ρ1 i with
    | no => rw [e1] at h1; exact h1.elim
    | v d => rw [e1] at h1; exact h1.elim
    | o xs =>
      rw [e1] at h1
      obtain ⟨b', ys, n1, n2, n3, n4, n5⟩ := R1.own i xs e1
      rw [g1] at n1; cases n1
      refine ⟨?_, Z1, R1.ztr, b, vs, ys, xs, ds, rfl, n2, n3, n4, hvs, ?_⟩
      · rw [har] at ha
        have ha := Option.some.inj ha
        have l1 := hvs.length
        have l2 := evs_len heq
        have l3 := cL_len h
        rw [List.length_cons]
        omega
      · replace h1 : Lands C W σ B Z1 H1 false (match M.fn f (.lst xs :: ds) with
          | .ok d m => Rs.ok d (setC ρ1 i (.o m))
          | _ => .bad) (fun d Z' H' _ => ∀ v, Rm rd C H' Z' v d → Q v H') := h1
        cases e : M.fn f (.lst xs :: ds) with
        | ok d m =>
          rw [e] at h1
          intro v xs' Z2 H2 a hv hp hf' hz
          obtain ⟨R2, k2⟩ := R1.afterM e1 g1 a hp hf' hz
          exact h1 Z2 H2 R2 a.zle k2 (fun q => nomatch q) v (.of hv)
        | exc x => rw [e] at h1; exact h1.elim
        | bad => rw [e] at h1; exact h1.elim
theorem e_pop (G : Good S M C L X) {rd : Bool} {y : Str} {p2 apos pos : Pos} {i : Nat} (hy : slotOf S y = some i) (hl : (apos.endLine == pos.line) = true) :
    PE X (.Call (.Attribute (.Name y p2) "pop" apos) [] [] pos) (tX M C W S.io rd (.pop i)) := by
  obtain ⟨j1, j2, j3⟩ := slotOf_ok hy
  obtain ⟨m1, m2, _⟩ := okName_and j3
  have base : PE X (Expr.Name y p2) (tVar i) := pe_var (by rw [G.N]; exact j1) (by rw [G.sc]; exact j2) m1 m2
  refine PE.weak (pe_bm0 F.plainAttrs_list F.slot_list_pop F.type_list_pop mt_pop base rfl hl) fun σ H Q q => ?_
  obtain ⟨B, Z, ρ, ob, R, q⟩ := q
  have q : Lands C W σ B Z H false (match getC ρ i with
    | .o xs => (match xs[xs.length - 1]? with
      | some d => .ok d (setC ρ i (.o xs.dropLast))
      | none => .bad)
    | _ => .bad) (fun d Z' H' _ => ∀ v, Rm rd C H' Z' v d → Q v H') := q
  cases e0 : getC ρ i with
  | no => rw [e0] at q; exact q.elim
  | v d => rw [e0] at q; exact q.elim
  | o ds =>
    rw [e0] at q
    obtain ⟨b, ys, g1, g2, g3, _⟩ := R.own i ds e0
    refine ⟨.ref b, g1, .inl ⟨rfl, _, SqL.of g2⟩, b, ys, ?_⟩
    replace q : Lands C W σ B Z H false (match ds[ds.length - 1]? with
      | some d => .ok d (setC ρ i (.o ds.dropLast))
      | none => .bad) (fun d Z' H' _ => ∀ v, Rm rd C H' Z' v d → Q v H') := q
    cases ed : ds[ds.length - 1]? with
    | none => rw [ed] at q; exact q.elim
    | some d =>
      rw [ed] at q
      obtain ⟨w, hw, fw⟩ := g3.get ed
      obtain ⟨R2, k2⟩ := R.updO e0 g1 g3.dropLast
      exact ⟨w, rfl, rfl, g2, by rw [g3.length]; exact hw, q Z _ R2 (fun _ m => m) k2 (fun z => nomatch z) w (.of (fw.keep k2 fun _ m => m))⟩
theorem e_popAt {n : Nat} (ih : EOk M L n) (G : Good S M C L X) (tk : L2.Takes X W) {rd : Bool} {y : Str} {e : Expr} {p2 apos pos : Pos} {i : Nat} {c : Ex} (hy : slotOf S y = some i) (hl : (apos.endLine == pos.line) = true) (h : cE n S true e = some c) :
    PE X (.Call (.Attribute (.Name y p2) "pop" apos) [e] [] pos) (tX M C W S.io rd (.popAt i c)) := by
  obtain ⟨j1, j2, j3⟩ := slotOf_ok hy
  obtain ⟨m1, m2, _⟩ := okName_and j3
  have base : PE X (Expr.Name y p2) (tVar i) := pe_var (by rw [G.N]; exact j1) (by rw [G.sc]; exact j2) m1 m2
  refine PE.weak (pe_bm F.plainAttrs_list F.slot_list_pop F.type_list_pop mt_popAt base (pa_cons (ih C S true e c h X W G tk) pa_nil (star_of h [] X.env)) rfl (by rw [star_of h [] X.env]; rfl) hl (star_of h [] X.env) rfl) fun σ H Q q => ?_
  obtain ⟨B, Z, ρ, ob, R, q⟩ := q
  have q : Lands C W σ B Z H false (match getC ρ i with
    | .o _ => (ev M c ρ).bind fun k ρ => (match getC ρ i, k with
      | .o xs, .int k => if (decide (-(2 ^ 63) ≤ k) && decide (k < 2 ^ 63)) then (match seqIndex? k xs.length with
        | some j => (match xs[j]? with
          | some d => .ok d (setC ρ i (.o (xs.eraseIdx j)))
          | none => .bad)
        | none => .bad) else .bad
      | _, _ => .bad)
    | _ => .bad) (fun d Z' H' _ => ∀ v, Rm rd C H' Z' v d → Q v H') := q
  cases e0 : getC ρ i with
  | no => rw [e0] at q; exact q.elim
  | v d => rw [e0] at q; exact q.elim
  | o ds0 =>
    rw [e0] at q
    obtain ⟨b, ys0, g1, g2, _⟩ := R.own i ds0 e0
    refine ⟨.ref b, g1, .inl ⟨rfl, _, SqL.of g2⟩, B, Z, ρ, ob, R, ?_⟩
    replace q : Lands C W σ B Z H false ((ev M c ρ).bind fun k ρ => (match getC ρ i, k with
      | .o xs, .int k => if (decide (-(2 ^ 63) ≤ k) && decide (k < 2 ^ 63)) then (match seqIndex? k xs.length with
        | some j => (match xs[j]? with
          | some d => .ok d (setC ρ i (.o (xs.eraseIdx j)))
          | none => .bad)
        | none => .bad) else .bad
      | _, _ => .bad)) (fun d Z' H' _ => ∀ v, Rm rd C H' Z' v d → Q v H') := q
    refine (Lands.bind (q1 := quiet c) (q2 := false) q fun q => nomatch q).imp fun d Z1 H1 ρ1 R1 z1 k1 s1 h1 v hv => ?_
    cases e1 : getC ρ1 i with
    | no => rw [e1] at h1; exact h1.elim
    | v d => rw [e1] at h1; exact h1.elim
    | o ds =>
      rw [e1] at h1
      obtain ⟨b', ys, n1, n2, n3, _⟩ := R1.own i ds e1
      rw [g1] at n1; cases n1
      cases d with
      | int k =>
        have := Rv.int hv; subst this
        replace h1 : Lands C W σ B Z1 H1 false (if (decide (-(2 ^ 63) ≤ k) && decide (k < 2 ^ 63)) then (match seqIndex? k ds.length with
          | some j => (match ds[j]? with
            | some d => .ok d (setC ρ1 i (.o (ds.eraseIdx j)))
            | none => .bad)
          | none => .bad) else .bad) (fun d Z' H' _ => ∀ v, Rm rd C H' Z' v d → Q v H') := h1
        split at h1
        · rename_i hc
          rw [Bool.and_eq_true] at hc
          cases ej : seqIndex? k ds.length with
          | none => rw [ej] at h1; exact h1.elim
          | some j =>
            rw [ej] at h1
            replace h1 : Lands C W σ B Z1 H1 false (match ds[j]? with
              | some d => .ok d (setC ρ1 i (.o (ds.eraseIdx j)))
              | none => .bad) (fun d Z' H' _ => ∀ v, Rm rd C H' Z' v d → Q v H') := h1
            cases ed : ds[j]? with
            | none => rw [ed] at h1; exact h1.elim
            | some d =>
              rw [ed] at h1
              obtain ⟨w, hw, fw⟩ := n3.get ed
              obtain ⟨R2, k2⟩ := R1.updO e1 g1 (n3.erase j)
              exact ⟨b, ys, k, j, w, rfl, rfl, n2, of_decide_eq_true hc.1, of_decide_eq_true hc.2, by rw [n3.length]; exact ej, hw, h1 Z1 _ R2 (fun _ m => m) k2 (fun z => nomatch z) w (.of (fw.keep k2 fun _ m => m))⟩
        · exact h1.elim
      | _ => exact h1.elim
end
end PF

set_option Elab.async false
set_option linter.all false
set_option maxRecDepth 100000
set_option maxHeartbeats 2000000
/-! PF11: what is gone through: lists, tuples, texts, ranges, enumerate, zip. -/
namespace PF
open PySem PySem.Spec PyProof.Rows L2
theorem new_enumT (l : Addr) (items : Array Value) :
    Meets (Builtin.«enumerate.__new__» ⟨[.type "enumerate", .ref l], []⟩) (fun _ R s => s.heap.IsTuple l items ∧
      R (.ok (.ret (.ref (s.heap.push { cls := .type "tuple_iterator", data := .fields #[.ref l, .int 0 0] }).objs.size)))
        { s with heap := (s.heap.push { cls := .type "tuple_iterator", data := .fields #[.ref l, .int 0 0] }).push { cls := .type "enumerate", data := .fields #[.none, .bool false, .ref s.heap.objs.size, rawInt 0, .none, .none] } }) :=
  .of_wp fun prog w A R s h => by
    obtain ⟨hp, g, d, tk, os⟩ := s
    obtain ⟨hL, h⟩ := h
    have hsub := sub_enumerate
    obtain ⟨o, ho, hc, hr⟩ := id hL
    wp_walk using wpAny_loadPart' ho
    refine wpAny_stack_any fun st => wpAny_pure ?_
    split
    · rename_i c _ _ _ _ _
      cases (c == Value.type "enumerate")
      · wp_walk using wpAny_loadPart' ho, wpAny_pyIter_tuple hL
        exact ⟨_, rfl, h⟩
      · wp_walk using wpAny_loadPart' ho, wpAny_pyIter_tuple hL
        exact ⟨_, rfl, h⟩
    · wp_walk using wpAny_loadPart' ho, wpAny_pyIter_tuple hL
      exact ⟨_, rfl, h⟩
section
variable {prog : Program} {w : World} {A : Around} {E : Value → Shared → Prop} {s : Shared}
theorem call_enumT {l : Addr} {items : Array Value} {Q : Value → Shared → Prop} (hL : s.heap.IsTuple l items)
    (h : ∀ h', IsEnum h' (s.heap.objs.size + 1) s.heap.objs.size 0 .none → h'.IsTupleIter s.heap.objs.size l 0 → h'.objs.size = s.heap.objs.size + 2 → (∀ b o, s.heap.get? b = some o → h'.get? b = some o) →
      Q (.ref (s.heap.objs.size + 1)) { s with heap := h' }) :
    wpAny (model prog w) A (call (.type "enumerate") [.ref l]) Q E s := by
  refine callType_new F.called_enumerate (by decide) (F.typeCall_enumerate_1 _) (F.newCall_enumerate_1 _) (fun obj => F.args_object_init_2 obj _) F.entry_enumerate_new (new_enumT l items) ⟨hL, ?_⟩
  have z1 : (s.heap.push { cls := .type "tuple_iterator", data := .fields #[.ref l, .int 0 0] }).objs.size = s.heap.objs.size + 1 := Heap.size_push ..
  show _ ∧ _
  rw [z1]
  have z2 := Heap.get?_push_size (s.heap.push { cls := .type "tuple_iterator", data := .fields #[.ref l, .int 0 0] }) (o := { cls := .type "enumerate", data := .fields #[.none, .bool false, .ref s.heap.objs.size, rawInt 0, .none, .none] }) rfl
  rw [z1] at z2
  exact ⟨⟨_, z2, rfl⟩, h _ z2 ⟨_, Heap.get?_push_of_some _ (Heap.get?_push_size _ rfl), rfl, rfl⟩ (by rw [Heap.size_push, z1]) fun b o x => Heap.get?_push_of_some _ (Heap.get?_push_of_some _ x)⟩
end
/-- the tuple at a, each item in a new pair with its place -/
def IteT (K : PySem.W.Frag) (a : Addr) : L2.It where
  go i H := ∃ (xs : List V) (x : V), SqT K H a xs ∧ xs[i]? = some x
  yld i H v H' := ∃ T x, v = .ref T ∧ H T = none ∧ H' = upd H T (.tup [.int (i : Nat), x]) ∧ ∀ xs, SqT K H a xs → xs[i]? = some x
  stop i H := ∃ xs : List V, SqT K H a xs ∧ xs.length = i
theorem it_ne {h : Heap} {a it : Addr} {its : Array Value} {i : Nat} (p : h.IsTuple a its) (hit : h.IsTupleIter it a i) : a ≠ it := fun z => by
  subst z
  obtain ⟨o1, g1, c1, _⟩ := p
  obtain ⟨o2, g2, c2, _⟩ := hit
  rw [g1] at g2; cases g2
  rw [show o1.cls = .type "tuple" from c1] at c2
  exact absurd c2 (by decide)
theorem turn_enumT {P : Program} {w : World} {K : PySem.W.Frag} {elts : List Expr} {kk : Nat} {tpos : Pos} (a e it : Addr) :
    Turn P w K (.Tuple elts kk tpos) (IteT K a) [e, it] e (fun i h => (∃ old, IsEnum h e it ((i : Nat) : Int) old) ∧ h.IsTupleIter it a i ∧ e ≠ it) where
  mem := by simp
  obj i h st b hb := by
    obtain ⟨⟨old, e1⟩, ⟨o, ho, hc, hd⟩, _⟩ := st
    have cs : b = e ∨ b = it := by simpa using hb
    rcases cs with rfl | rfl
    · exact ⟨_, e1, fun v q => nomatch q⟩
    · exact ⟨o, ho, fun v q => by rw [hd] at q; cases q⟩
  keep i h h' st k := by
    obtain ⟨⟨old, e1⟩, hi, ne⟩ := st
    exact ⟨⟨old, k e (by simp) _ e1⟩, hi.at fun o q => k it (by simp) o q, ne⟩
  item := by
    intro X hP hw hK hc i pins s σ H E I hf st hg
    subst hP hw hK
    obtain ⟨⟨old, e1⟩, hit, ne⟩ := st
    obtain ⟨xs, x, hq, hx⟩ := hg
    obtain ⟨its, rv, p, hz⟩ := I.tuple hq
    have p : s.heap.IsTuple a its.toArray := p
    obtain ⟨u, hu, ru⟩ := rv.get hx
    have l1 : e < s.heap.objs.size := Heap.lt_size e1
    have l2 : it < s.heap.objs.size := by obtain ⟨_, q, _⟩ := hit; exact Heap.lt_size q
    have na := it_ne p hit
    have nb : e ∉ [it, a] := fun z => by
      rcases List.mem_cons.mp z with z | z
      · exact ne z
      · rw [List.mem_singleton] at z
        subst z
        obtain ⟨o1, g1, c1, _⟩ := p
        rw [show s.heap.get? e = some _ from e1] at g1; cases g1
        have c1 : Value.type "enumerate" = Value.type "tuple" := c1
        exact absurd c1 (by decide)
    have hlt : i < its.toArray.size := by
      have := (List.getElem?_eq_some_iff.mp hu).1
      simpa using this
    refine wpAny_pyNext_enum_itemD (Draws.tuple (A := X.A.in1) (show X.A.in1.handled = none from I.ok.hd hc) it a na its.toArray) e1 ⟨hit, p⟩ hlt ne nb fun y h' tk hy ho hst hT hsz hk => ?_
    have hyu : y = u := by
      have : its.toArray[i]? = some u := by simpa using hu
      exact Option.some.inj (hy.symm.trans this)
    subst hyu
    refine ⟨_, rfl, wpAny_letOwnedTupleGo_enum (s := { s with heap := h', toks := tk + 1 }) ho fun h'' he' sb => ?_⟩
    have hT2 : h''.get? s.heap.objs.size = some { cls := .type "tuple", data := .seq #[.int i tk, y] } := (sb.2 _ (Nat.ne_of_gt l1)).trans hT
    have nw : ObjOk X.prog X.w (upd H s.heap.objs.size (.tup [.int (i : Nat), x])) h'' s.heap.objs.size (.tup [.int (i : Nat), x]) :=
      ⟨by show 2 ≤ sizeLine; decide, [.int i tk, y], .cons ⟨_, rfl⟩ (.cons ru .nil), ⟨_, hT2, rfl, _, rfl⟩⟩
    have I1 : Inv X pins σ (upd H s.heap.objs.size (.tup [.int (i : Nat), x])) { s with heap := h'', toks := tk + 1 } :=
      I.turnedNew (ch := [e, it]) (t' := tk + 1) (fun b ob hb q => (sb.2 b (fun z => hb (by simp [z]))).trans (hk b ob (fun z => hb (by simp [z])) (fun z => hb (by simp [z])) q)) hf (Nat.le_refl _) nw
    refine ⟨.ref s.heap.objs.size, _, I1, rfl, ⟨_, x, rfl, I.hok.fresh (Nat.le_refl _), rfl, fun ys hy => by rw [I.tuple_inj hy hq]; exact hx⟩, ⟨⟨y, ?_⟩, hst.1.at fun o q => (sb.2 it (Ne.symm ne)).trans q, ne⟩, fun b hb => ?_⟩
    · have q1 : ((i + 1 : Nat) : Int) = (i : Int) + 1 := by omega
      rw [q1]; exact he'
    · have lb : b < s.heap.objs.size := by
        have cs : b = e ∨ b = it := by simpa using hb
        rcases cs with rfl | rfl
        · exact l1
        · exact l2
      rw [upd_ne (Nat.ne_of_lt lb)]
      exact (hf b hb).1
  done := by
    intro X hP hw hK hc i pins s σ H E I hf st hg
    subst hP hw hK
    obtain ⟨⟨old, e1⟩, hit, ne⟩ := st
    obtain ⟨xs, hq, rfl⟩ := hg
    obtain ⟨its, rv, p, hz⟩ := I.tuple hq
    have p : s.heap.IsTuple a its.toArray := p
    obtain ⟨f0, f1, f2, f3, f4, f5⟩ := hf it (by simp)
    have hl : xs.length = its.toArray.size := by rw [rv.length]; simp
    have na := it_ne p hit
    rw [hl] at hit
    exact wpAny_pyNext_enum_endD (Draws.tuple (A := X.A.in1) (show X.A.in1.handled = none from I.ok.hd hc) it a na its.toArray) e1 ⟨hit, p⟩ fun h' eb => ⟨rfl, I.turned (t' := s.toks) (fun b o hb q => eb b o hb q) f0 f1 f3 f4 f5⟩
  self A i s Q E st h := by
    obtain ⟨⟨_, e1⟩, _⟩ := st
    exact wpAny_pyIter_enum e1 h
/-! ### the sources -/
section
variable {X : Cx} {tg : Expr}
def iAny (K : PySem.W.Frag) (te : TE) : TI := fun σ H R => te σ H fun x H1 => (∃ a, x = .ref a ∧ (∃ xs, SqL K H1 a xs) ∧ R (Itl K a) H1) ∨ (∃ a, x = .ref a ∧ (∃ xs, SqT K H1 a xs) ∧ R (Itt K a) H1) ∨ ∃ z, x = .str z ∧ R (Its z) H1
theorem pi_any {l : Expr} {tl : TE} (hl : PE X l tl) : PI X tg l (iAny X.K tl) := by
  refine ⟨fun pins s σ H R I h => ?_⟩
  refine thn (hl.run pins s σ H _ I h) fun v s1 ⟨x, H1, I1, r1, q1⟩ => ?_
  have one : ∀ {J : L2.It} {tn : Nat → Heap → Prop} (o : Obj), Turn X.prog X.w X.K tg J [s1.heap.objs.size] s1.heap.objs.size tn → tn 0 (s1.heap.push o) → R J H1 → PIE X pins σ tg R (.ref s1.heap.objs.size) { s1 with heap := s1.heap.push o } :=
    fun o T st q => pi_one (tk := s1.toks) I1 o T st q
  rcases q1 with ⟨a, rfl, ⟨xs, hq⟩, q⟩ | ⟨a, rfl, ⟨xs, hq⟩, q⟩ | ⟨z, rfl, q⟩
  · cases r1
    obtain ⟨its, rv, p, hz⟩ := I1.list hq
    exact wpAny_pyIter_list p.isList (one _ (turn_list a _) ⟨_, Heap.get?_push_size _ rfl, rfl, rfl⟩ q)
  · cases r1
    obtain ⟨its, rv, p, hz⟩ := I1.tuple hq
    exact wpAny_pyIter_tuple (show s1.heap.IsTuple a its.toArray from p) (one _ (turn_tuple a _) ⟨_, Heap.get?_push_size _ rfl, rfl, rfl⟩ q)
  · obtain ⟨t, rfl⟩ := r1
    cases ha : z.cps.all (· < 128) with
    | false => exact wpAny_pyIter_wide ha (one _ (turn_str _ z t "str_iterator" (.inr rfl)) ⟨_, Heap.get?_push_size _ rfl, rfl, rfl⟩ q)
    | true => exact wpAny_pyIter_ascii ha (one _ (turn_str _ z t "str_ascii_iterator" (.inl rfl)) ⟨_, Heap.get?_push_size _ rfl, rfl, rfl⟩ q)
def iEnumA (K : PySem.W.Frag) (ta : TA) : TI := fun σ H R => ta σ H fun vs H1 => ∃ a xs, vs = [.ref a] ∧ ((SqL K H1 a xs ∧ R (Ite K a) H1) ∨ (SqT K H1 a xs ∧ R (IteT K a) H1))
theorem pi_enumA {e : Expr} {ta : TA} {p pos tpos : Pos} {elts : List Expr} {kk : Nat} (hg : Gl X "enumerate") (hm : X.mg "enumerate" = none) (ha : PA X [e] ta) (hs : starEach [e] X.env = [(false, eval e X.env)]) :
    PI X (.Tuple elts kk tpos) (.Call (.Name "enumerate" p) [e] [] pos) (iEnumA X.K ta) := by
  refine ⟨fun pins s σ H R I h => ?_⟩
  refine Call_ (ld_blt I hg hm boot_enumerate (PyProof.Rows.callWith_type1 (thn (ha.run pos pins s σ H _ I h) fun us s1 ⟨vs, H1, I1, r1, q1⟩ => ?_) hs rfl))
  obtain ⟨a, xs, rfl, q⟩ := q1
  obtain ⟨u, rfl, ru⟩ := r1.one
  cases ru
  have two : ∀ b, b ∈ [s1.heap.objs.size + 1, s1.heap.objs.size] → FpOk X pins H1 b := fun b hb => by
    have cs : b = s1.heap.objs.size + 1 ∨ b = s1.heap.objs.size := by simpa using hb
    have hle : s1.heap.objs.size ≤ b := by omega
    exact I1.fpOk hle (I1.hok.fresh hle)
  rcases q with ⟨hq, q⟩ | ⟨hq, q⟩
  · obtain ⟨its, rv, p', hz⟩ := I1.list hq
    exact call_enumerate_list p'.isList fun h' he hit hsz hk => wpAny_pyIter_enum he ⟨s1.heap.objs.size + 1, [s1.heap.objs.size + 1, s1.heap.objs.size], _, _, H1, rfl, I1.kept (t' := s1.toks) hk, turn_enum a _ _, ⟨⟨.none, he⟩, hit, Nat.succ_ne_self _⟩, two, q⟩
  · obtain ⟨its, rv, p', hz⟩ := I1.tuple hq
    exact call_enumT (show s1.heap.IsTuple a its.toArray from p') fun h' he hit hsz hk => wpAny_pyIter_enum he ⟨s1.heap.objs.size + 1, [s1.heap.objs.size + 1, s1.heap.objs.size], _, _, H1, rfl, I1.kept (t' := s1.toks) hk, turn_enumT a _ _, ⟨⟨.none, he⟩, hit, Nat.succ_ne_self _⟩, two, q⟩
end
end PF

set_option Elab.async false
set_option linter.all false
set_option maxRecDepth 100000
set_option maxHeartbeats 2000000
/-! PF12: targets; what is gone through, by its evaluator; comprehensions. -/
namespace PF
open PySem PySem.Spec PyProof.Rows L2
section
variable {C : Cn} {B : Bs} {Z Z' : Addr → Prop} {H H' : Hp} {σ σ' : L2.St} {ρ : En}
/-! ### targets -/
/-- values into slots, one after another -/
def setVs : List Nat → List V → L2.St → L2.St
  | i :: is, v :: vs, σ => setVs is vs (σ.set i (some v))
  | _, _, σ => σ
theorem Rel.setVs : ∀ {is : List Nat} {ds : List D} {vs : List V} {σ : L2.St} {ρ ρ' : En}, Rel C B Z H σ ρ → FzAll C H Z vs ds → setAll is ds ρ = some ρ' → (∀ i ∈ is, B.io ≠ none → i ≠ 0) → Rel C B Z H (PF.setVs is vs σ) ρ'
  | [], _, _, _, _, _, R, .nil, e, _ => by cases e; exact R
  | i :: is, _, _, σ, ρ, ρ', R, .cons h t, e, hi => Rel.setVs (is := is) (R.setV h (hi i List.mem_cons_self)) t e fun j m => hi j (List.mem_cons_of_mem _ m)
  | [], _, _, _, _, _, R, .cons _ _, e, _ => by cases e
  | _ :: _, _, _, _, _, _, R, .nil, e, _ => by cases e
theorem wipe_set {i : Nat} {v : Option V} : ∀ {vs : List Nat} {σ : L2.St}, i ∈ vs → wipe (σ.set i v) vs = wipe σ vs := fun {vs σ} h => by
  apply List.ext_getElem?
  intro j
  by_cases hj : j ∈ vs
  · have gone : ∀ (σ : L2.St) (vs : List Nat), j ∈ vs → (wipe σ vs)[j]? = if j < σ.length then some none else none := fun σ vs => by
      induction vs with
      | nil => intro m; cases m
      | cons w ws ih =>
        intro m
        show ((wipe σ ws).set w none)[j]? = _
        rw [set_get]
        by_cases hw : w = j
        · subst hw; rw [if_pos rfl, wipe_length]
        · rw [if_neg hw]
          exact ih ((List.mem_cons.mp m).resolve_left fun z => hw z.symm)
    rw [gone _ _ hj, gone _ _ hj, List.length_set]
  · have hij : i ≠ j := fun z => hj (z ▸ h)
    rw [wipe_get _ _ _ hj, wipe_get _ _ _ hj, set_get, if_neg hij]
theorem wipe_setVs {vs : List Nat} : ∀ {is : List Nat} {ws : List V} {σ : L2.St}, (∀ i ∈ is, i ∈ vs) → wipe (setVs is ws σ) vs = wipe σ vs
  | [], _, _, _ => by cases ‹List V› <;> rfl
  | i :: is, [], _, _ => rfl
  | i :: is, w :: ws, σ, h => by
    show wipe (setVs is ws (σ.set i (some w))) vs = _
    rw [wipe_setVs fun j m => h j (List.mem_cons_of_mem _ m), wipe_set (h i List.mem_cons_self)]
theorem setAll_len : ∀ {is : List Nat} {ds : List D} {ρ ρ' : En}, setAll is ds ρ = some ρ' → is.length = ds.length
  | [], [], _, _, _ => rfl
  | _ :: is, _ :: ds, _, _, e => congrArg Nat.succ (setAll_len (is := is) e)
  | [], _ :: _, _, _, e => by cases e
  | _ :: _, [], _, _, e => by cases e
end
section
variable {S : SC} {M : Mo} {C : Cn} {L : Nat} {X : Cx} {W : WX}
/-- a target's store -/
def tG (C : Cn) (io : Bool) (tg : List Nat) (one : Bool) : TG := fun v σ H Q => ∃ B Z ρ d ρ', BOk io B ∧ Rel C B Z H σ ρ ∧ Fz C H Z v d ∧ bindTg tg one d ρ = some ρ' ∧
  ∀ σ', Rel C B Z H σ' ρ' → (∀ vs : List Nat, (∀ i ∈ tg, i ∈ vs) → wipe σ' vs = wipe σ vs) → Q σ' H
theorem pg_one (G : Good S M C L X) {x : Str} {i : Nat} {pos : Pos} (h : slotW S x = some i) : PG X (.Name x pos) (gName i) ∧ (S.io = true → i ≠ 0) := by
  obtain ⟨h1, h2, h3, h4⟩ := slotW_ok h
  refine ⟨pg_name (by rw [G.N]; exact G.nd) (by rw [G.N]; exact h1) (by rw [G.sc]; exact h2) ?_, h4⟩
  rcases h3 with h3 | h3
  · exact .inr (by rw [G.sc]; exact h3)
  · exact .inl (G.fn x h3)
theorem pgs_names (G : Good S M C L X) : ∀ {es : List Expr} {is : List Nat}, cNames S es = some is → PGs X es (fun vs σ H Q => vs.length = is.length ∧ Q (setVs is vs σ) H) ∧ (∀ i ∈ is, S.io = true → i ≠ 0) ∧ (assignEach es X.env).length = is.length ∧ (assignEach es X.env).findIdx? (·.1) = none
  | [], is, h => by
    cases h
    refine ⟨⟨fun pins s σ H vs us Q I r q => ?_⟩, fun i m => (List.not_mem_nil m).elim, rfl, rfl⟩
    obtain ⟨q1, q2⟩ := q
    cases r with
    | nil => exact assignInOrder_nil ⟨σ, H, I, q2⟩
    | cons _ _ => cases q1
  | .Name x p :: es, is, h => by
    obtain ⟨i, hi, h⟩ := Option.bind_eq_some_iff.mp (show ((slotW S x).bind fun i => (cNames S es).map fun is => i :: is) = some is from h)
    obtain ⟨is', hr, rfl⟩ := Option.map_eq_some_iff.mp h
    obtain ⟨g1, g2⟩ := pg_one G (pos := p) hi
    obtain ⟨i1, i2, i3, i4⟩ := pgs_names G hr
    have e : assignEach (.Name x p :: es) X.env = (false, assign (.Name x p) X.env) :: assignEach es X.env := rfl
    refine ⟨⟨fun pins s σ H vs us Q I r q => ?_⟩, fun j m => ?_, ?_, ?_⟩
    · obtain ⟨q1, q2⟩ := q
      cases r with
      | nil => cases q1
      | cons r rr => exact (pgs_cons g1 i1 (by rw [e]; rfl)).run pins s σ H _ _ Q I (.cons r rr) ⟨_, _, rfl, Nat.succ.inj q1, q2⟩
    · rcases List.mem_cons.mp m with rfl | m
      · exact g2
      · exact i2 j m
    · rw [e, List.length_cons, List.length_cons, i3]
    · rw [e, List.findIdx?_cons, i4]; rfl
theorem tg_ok (G : Good S M C L X) (hc : X.calm = true) {tg : Expr} {t : List Nat × Bool} (h : cTg S tg = some t) : PG X tg (tG C S.io t.1 t.2) := by
  cases tg with
  | Name x p =>
    obtain ⟨i, hi, rfl⟩ := Option.map_eq_some_iff.mp (show (slotW S x).map (fun i => ([i], true)) = some t from h)
    obtain ⟨g1, g2⟩ := pg_one G (pos := p) hi
    refine ⟨fun pins s σ H v u Q I r q => g1.run pins s σ H v u Q I r ?_⟩
    obtain ⟨B, Z, ρ, d, ρ', ob, R, f, e, q⟩ := q
    cases e
    exact q _ (R.setV f (io_ne ob g2)) fun vs hv => wipe_set (hv i List.mem_cons_self)
  | Tuple es k p =>
    obtain ⟨is, hi, rfl⟩ := Option.map_eq_some_iff.mp (show (cNames S es).map (fun is => (is, false)) = some t from h)
    obtain ⟨i1, i2, i3, i4⟩ := pgs_names G hi
    refine ⟨fun pins s σ H v u Q I r q => (pg_tup hc i1 i3 i4).run pins s σ H v u Q I r ?_⟩
    obtain ⟨B, Z, ρ, d, ρ', ob, R, f, e, q⟩ := q
    cases d with
    | tup ds =>
      have e : setAll is ds ρ = some ρ' := e
      obtain ⟨a, xs, rfl, h1, h2⟩ := Rv.tup (.inl f)
      rw [G.K] at h1
      have hl : xs.length = is.length := by rw [h2.length, setAll_len e]
      exact ⟨a, xs, rfl, h1, hl, hl, q _ (R.setVs h2 e fun i m => io_ne ob (i2 i m)) fun vs hv => wipe_setVs hv⟩
    | _ => cases e
  | _ => cases h
/-! ### sources -/
/-- as it was, as far as it is watched -/
def Kp (q : Bool) (Z : Addr → Prop) (H H' : Hp) : Prop := Keep Z H H' ∧ (q = true → Same H H')
def ItOk (C : Cn) (q : Bool) (Z1 : Addr → Prop) (H1 : Hp) (J : L2.It) (ds : List D) : Prop :=
  ∀ H, Kp q Z1 H1 H → (∀ i d, ds[i]? = some d → J.go i H ∧ ∀ x H', J.yld i H x H' → Same H H' ∧ ∀ Z, (∀ a, Z1 a → Z a) → Fz C H' Z x d) ∧ J.stop ds.length H
def tI (M : Mo) (C : Cn) (W : WX) (io q : Bool) (it : It) : TI := fun σ H R => ∃ B Z ρ, BOk io B ∧ Rel C B Z H σ ρ ∧ Lands C W σ B Z H (quietI it) (evI M it ρ) fun ds Z' H' _ => ∀ J, ItOk C q Z' H' J ds → R J H'
theorem rng_it {a b : Int} {Z : Addr → Prop} {H : Hp} {q : Bool} : ItOk C q Z H (Itr a (b - a).toNat) (rngD a b) := fun H1 _ => by
  have hl : (rngD a b).length = (b - a).toNat := by simp [rngD]
  refine ⟨fun i d e => ?_, by show _ ≤ _; rw [hl]; exact Nat.le_refl _⟩
  have lt := (List.getElem?_eq_some_iff.mp e).1
  rw [hl] at lt
  have ed : d = .int (a + (i : Int)) := by
    unfold rngD at e
    rw [List.getElem?_map, List.getElem?_range lt] at e
    cases e; rfl
  subst ed
  refine ⟨lt, fun x H' y => ?_⟩
  obtain ⟨rfl, rfl⟩ := y
  exact ⟨Same.refl _, fun Z _ => .int _⟩
theorem Rm.lst {m : Bool} {Z : Addr → Prop} {H : Hp} {v : V} {ds : List D} (h : Rm m C H Z v (.lst ds)) : ∃ a xs, v = .ref a ∧ H a = some (.lst xs) ∧ FzAll C H Z xs ds ∧ (m = false → Z a) := by
  cases m with
  | true =>
    obtain ⟨a, xs, h1, h2, h3⟩ := Rv.lst h
    exact ⟨a, xs, h1, h2, h3, fun z => nomatch z⟩
  | false =>
    cases h with
    | lst h1 h2 h3 => exact ⟨_, _, rfl, h1, h3, fun _ => h2⟩
theorem Kp.lst {q : Bool} {Z : Addr → Prop} {H H' : Hp} (k : Kp q Z H H') {a : Addr} {xs : List V} (h : H a = some (.lst xs)) (hz : q = false → Z a) : H' a = some (.lst xs) := by
  cases q with
  | true => exact k.2 rfl _ _ h
  | false => exact k.1 _ _ h fun _ => hz rfl
theorem Kp.refl {q : Bool} {Z : Addr → Prop} {H : Hp} : Kp q Z H H := ⟨Keep.refl _ _, fun _ => Same.refl _⟩
section
variable {K : PySem.W.Frag} {q : Bool} {Z : Addr → Prop} {H : Hp} {a b : Addr} {xs ys : List V} {ds es : List D}
theorem itl_ok (hs : ∀ H', Kp q Z H H' → SqL K H' a xs) (hf : FzAll C H Z xs ds) : ItOk C q Z H (Itl K a) ds := fun H' k => by
  refine ⟨fun i d e => ?_, ⟨xs, hs H' k, Nat.le_of_eq hf.length⟩⟩
  obtain ⟨v, hv, fv⟩ := hf.get e
  refine ⟨⟨xs, v, hs H' k, hv⟩, fun x H2 y => ?_⟩
  obtain ⟨rfl, y⟩ := y
  have := y xs (hs _ k)
  rw [hv] at this; cases this
  exact ⟨Same.refl _, fun Z' z => fv.keep k.1 z⟩
theorem itt_ok (hs : ∀ H', Kp q Z H H' → SqT K H' a xs) (hf : FzAll C H Z xs ds) : ItOk C q Z H (Itt K a) ds := fun H' k => by
  refine ⟨fun i d e => ?_, ⟨xs, hs H' k, Nat.le_of_eq hf.length⟩⟩
  obtain ⟨v, hv, fv⟩ := hf.get e
  refine ⟨⟨xs, v, hs H' k, hv⟩, fun x H2 y => ?_⟩
  obtain ⟨rfl, y⟩ := y
  have := y xs (hs _ k)
  rw [hv] at this; cases this
  exact ⟨Same.refl _, fun Z' z => fv.keep k.1 z⟩
theorem enumD_get : ∀ {ds : List D} {k i : Nat} {d : D}, (enumD k ds)[i]? = some d → ∃ d', ds[i]? = some d' ∧ d = .tup [.int ((k + i : Nat) : Int), d']
  | [], _, _, _, e => by cases e
  | x :: xs, k, 0, d, e => by cases e; exact ⟨x, rfl, rfl⟩
  | x :: xs, k, i + 1, d, e => by
    obtain ⟨d', h1, h2⟩ := enumD_get (ds := xs) (k := k + 1) (i := i) (d := d) (by simpa [enumD] using e)
    exact ⟨d', by simpa using h1, by rw [h2]; congr 3; omega⟩
theorem enumD_len : ∀ {ds : List D} {k : Nat}, (enumD k ds).length = ds.length
  | [], _ => rfl
  | _ :: xs, k => congrArg Nat.succ (enumD_len (ds := xs) (k := k + 1))
theorem new_same {H : Hp} {T : Addr} {o : HO} (h : H T = none) : Same H (upd H T o) := fun b u e => by rw [upd_ne (ne_of_none e h)]; exact e
theorem pair_fz {H H' : Hp} {T : Addr} {x y : V} {d e : D} {Z' : Addr → Prop} (k : Keep Z H H') (z : ∀ a, Z a → Z' a) (hT : H' T = none) (hx : Fz C H Z x d) (hy : Fz C H Z y e) : Fz C (upd H' T (.tup [x, y])) Z' (.ref T) (.tup [d, e]) := by
  have k2 : Keep Z H (upd H' T (.tup [x, y])) := k.trans (fun _ m => m) (Keep.of_same (new_same hT))
  exact .tup (SqT.of upd_same) (.cons (hx.keep k2 z) (.cons (hy.keep k2 z) .nil))
theorem ite_ok (hs : ∀ H', Kp q Z H H' → SqL K H' a xs) (hf : FzAll C H Z xs ds) : ItOk C q Z H (Ite K a) (enumD 0 ds) := fun H' k => by
  refine ⟨fun i d e => ?_, ⟨xs, hs H' k, Nat.le_of_eq (by rw [enumD_len]; exact hf.length)⟩⟩
  obtain ⟨d', e', rfl⟩ := enumD_get e
  obtain ⟨v, hv, fv⟩ := hf.get e'
  refine ⟨⟨xs, v, hs H' k, hv⟩, fun x H2 y => ?_⟩
  obtain ⟨T, w, rfl, hT, rfl, y⟩ := y
  have := y xs (hs _ k)
  rw [hv] at this; cases this
  refine ⟨new_same hT, fun Z' z => ?_⟩
  rw [Nat.zero_add]
  exact pair_fz k.1 z hT (.int _) fv
theorem iteT_ok (hs : ∀ H', Kp q Z H H' → SqT K H' a xs) (hf : FzAll C H Z xs ds) : ItOk C q Z H (IteT K a) (enumD 0 ds) := fun H' k => by
  refine ⟨fun i d e => ?_, ⟨xs, hs H' k, by rw [enumD_len]; exact hf.length⟩⟩
  obtain ⟨d', e', rfl⟩ := enumD_get e
  obtain ⟨v, hv, fv⟩ := hf.get e'
  refine ⟨⟨xs, v, hs H' k, hv⟩, fun x H2 y => ?_⟩
  obtain ⟨T, w, rfl, hT, rfl, y⟩ := y
  have := y xs (hs _ k)
  rw [hv] at this; cases this
  refine ⟨new_same hT, fun Z' z => ?_⟩
  rw [Nat.zero_add]
  exact pair_fz k.1 z hT (.int _) fv
theorem zipD_get : ∀ {ds es : List D} {i : Nat} {d : D}, (zipD ds es)[i]? = some d → ∃ x y, ds[i]? = some x ∧ es[i]? = some y ∧ d = .tup [x, y]
  | [], _, _, _, e => by cases e
  | _ :: _, [], _, _, e => by cases e
  | x :: xs, y :: ys, 0, d, e => by cases e; exact ⟨x, y, rfl, rfl, rfl⟩
  | x :: xs, y :: ys, i + 1, d, e => by
    obtain ⟨u, v, h1, h2, h3⟩ := zipD_get (ds := xs) (es := ys) (i := i) (d := d) (by simpa [zipD] using e)
    exact ⟨u, v, by simpa using h1, by simpa using h2, h3⟩
theorem zipD_len : ∀ {ds es : List D}, ds.length ≤ (zipD ds es).length ∨ es.length ≤ (zipD ds es).length
  | [], _ => .inl (Nat.le_refl _)
  | _ :: _, [] => .inr (Nat.le_refl _)
  | x :: xs, y :: ys => (zipD_len (ds := xs) (es := ys)).imp Nat.succ_le_succ Nat.succ_le_succ
theorem itz_ok (hs : ∀ H', Kp q Z H H' → SqL K H' a xs) (hs2 : ∀ H', Kp q Z H H' → SqL K H' b ys) (hf : FzAll C H Z xs ds) (hf2 : FzAll C H Z ys es) : ItOk C q Z H (Itz K a b) (zipD ds es) := fun H' k => by
  refine ⟨fun i d e => ?_, ⟨xs, ys, hs H' k, hs2 H' k, by rw [hf.length, hf2.length]; exact zipD_len⟩⟩
  obtain ⟨d1, d2, e1, e2, rfl⟩ := zipD_get e
  obtain ⟨v, hv, fv⟩ := hf.get e1
  obtain ⟨w, hw, fw⟩ := hf2.get e2
  refine ⟨⟨xs, ys, v, w, hs H' k, hs2 H' k, hv, hw⟩, fun x H2 y => ?_⟩
  obtain ⟨T, v1, w1, rfl, hT, rfl, y1, y2⟩ := y
  have t1 := y1 xs (hs _ k)
  have t2 := y2 ys (hs2 _ k)
  rw [hv] at t1; cases t1
  rw [hw] at t2; cases t2
  exact ⟨new_same hT, fun Z' z => pair_fz k.1 z hT fv fw⟩
theorem itzT_ok (hs : ∀ H', Kp q Z H H' → SqT K H' a xs) (hs2 : ∀ H', Kp q Z H H' → SqT K H' b ys) (hf : FzAll C H Z xs ds) (hf2 : FzAll C H Z ys es) : ItOk C q Z H (RZ.ItzT K a b) (zipD ds es) := fun H' k => by
  refine ⟨fun i d e => ?_, ⟨xs, ys, hs H' k, hs2 H' k, by rw [hf.length, hf2.length]; exact zipD_len⟩⟩
  obtain ⟨d1, d2, e1, e2, rfl⟩ := zipD_get e
  obtain ⟨v, hv, fv⟩ := hf.get e1
  obtain ⟨w, hw, fw⟩ := hf2.get e2
  refine ⟨⟨xs, ys, v, w, hs H' k, hs2 H' k, hv, hw⟩, fun x H2 y => ?_⟩
  obtain ⟨T, v1, w1, rfl, hT, rfl, y1, y2⟩ := y
  have t1 := y1 xs (hs _ k)
  have t2 := y2 ys (hs2 _ k)
  rw [hv] at t1; cases t1
  rw [hw] at t2; cases t2
  exact ⟨new_same hT, fun Z' z => pair_fz k.1 z hT fv fw⟩
/-- a list or the script, as it is kept -/
theorem Rm.sql {v : V} {d : D} {ds : List D} (hK : C.K = K) (h : Rm q C H Z v d) (e : d = .lst ds ∨ d = .scr ds) : ∃ a xs, v = .ref a ∧ FzAll C H Z xs ds ∧ ∀ H', Kp q Z H H' → SqL K H' a xs := by
  rcases e with rfl | rfl
  · obtain ⟨a, xs, rfl, h1, h2, h3⟩ := Rm.lst h
    exact ⟨a, xs, rfl, h2, fun H' k => SqL.of (k.lst h1 h3)⟩
  · cases h.rv.fz (fun _ e => nomatch e) with
    | scrF h1 h2 => exact ⟨_, _, rfl, h2, fun H' k => .inl (.inr ⟨_, k.1 _ _ h1 fun q => q.elim⟩)⟩
    | scrK h1 h2 => rw [hK] at h1; exact ⟨_, _, rfl, h2, fun H' k => .inr h1⟩
theorem Rm.sqt {v : V} {ds : List D} (hK : C.K = K) (h : Rm q C H Z v (.tup ds)) : ∃ a xs, v = .ref a ∧ FzAll C H Z xs ds ∧ ∀ H', Kp q Z H H' → SqT K H' a xs := by
  obtain ⟨a, xs, rfl, h1, h2⟩ := Rv.tup h.rv
  exact ⟨a, xs, rfl, h2, fun H' k => by rw [← hK]; exact PF.SqT.keep k.1 h1⟩
end
theorem PI.weak {tg e : Expr} {t t' : TI} (h : PI X tg e t) (hw : ∀ σ H R, t' σ H R → t σ H R) : PI X tg e t' := ⟨fun pins s σ H R I q => h.run pins s σ H R I (hw σ H R q)⟩
theorem seq_it {n : Nat} (ih : EOk M L n) (G : Good S M C L X) (tk : L2.Takes X W) {rd : Bool} {tg e : Expr} {it : It} (h : (cE n S rd e).map It.seq = some it) : PI X tg e (tI M C W S.io rd it) := by
  obtain ⟨c, hc, rfl⟩ := Option.map_eq_some_iff.mp h
  refine PI.weak (pi_any (ih C S rd e c hc X W G tk)) fun σ H Rr q => ?_
  obtain ⟨B, Z, ρ, ob, R, q⟩ := q
  have q : Lands C W σ B Z H (quiet c) ((ev M c ρ).bind fun d ρ => rOf (itemsD d) ρ) (fun ds Z' H' _ => ∀ J, ItOk C rd Z' H' J ds → Rr J H') := q
  refine ⟨B, Z, ρ, ob, R, ?_⟩
  refine (Lands.bind (q1 := quiet c) (q2 := true) q fun q => ⟨q, rfl⟩).imp fun d Z1 H1 ρ1 R1 z1 k1 s1 h1 v hv => ?_
  have st : ∀ ds, itemsD d = some ds → ∀ J, ItOk C rd Z1 H1 J ds → Rr J H1 := fun ds e J ok => by
    rw [e] at h1
    exact Lands.stay h1 R1 J ok
  have lst : ∀ ds, (d = .lst ds ∨ d = .scr ds) → ∃ a, v = .ref a ∧ (∃ xs, SqL X.K H1 a xs) ∧ Rr (Itl X.K a) H1 := fun ds e => by
    obtain ⟨a, xs, rfl, f, s⟩ := Rm.sql G.K hv e
    exact ⟨a, rfl, ⟨xs, s _ Kp.refl⟩, st ds (by rcases e with rfl | rfl <;> rfl) _ (itl_ok s f)⟩
  cases d with
  | lst ds => exact .inl (lst ds (.inl rfl))
  | scr ds => exact .inl (lst ds (.inr rfl))
  | tup ds =>
    obtain ⟨a, xs, rfl, f, s⟩ := Rm.sqt G.K hv
    exact .inr (.inl ⟨a, rfl, ⟨xs, s _ Kp.refl⟩, st ds rfl _ (itt_ok s f)⟩)
  | str z =>
    have := Rv.str hv.rv; subst this
    refine .inr (.inr ⟨z, rfl, st _ rfl _ fun H' k => ⟨fun i d e => ?_, ?_⟩⟩)
    · rw [List.getElem?_map] at e
      obtain ⟨c, hc, rfl⟩ := Option.map_eq_some_iff.mp e
      have hc : z.cps[i]? = some c := by rw [← Array.getElem?_toList]; exact hc
      refine ⟨(Array.getElem?_eq_some_iff.mp hc).1, fun x H2 y => ?_⟩
      obtain ⟨rfl, c', h1, rfl⟩ := y
      rw [hc] at h1; cases h1
      exact ⟨Same.refl _, fun Z _ => .str _⟩
    · show z.cps.size ≤ _
      simp
  | _ => exact h1.elim
theorem two_ok {io m : Bool} {c d : Ex} {B : Bs} {Z : Addr → Prop} {H : Hp} {σ : L2.St} {ρ : En} {k : List V → Hp → Prop} (ob : BOk io B) (R : Rel C B Z H σ ρ) (hm : m = true → quiet d = true)
    (h : Lands C W σ B Z H (quiet c) (ev M c ρ) fun x Z1 H1 ρ1 => Lands C W σ B Z1 H1 (quiet d) (ev M d ρ1) fun y Z2 H2 _ => ∀ v w, Rm m C H2 Z2 v x → Rm m C H2 Z2 w y → k [v, w] H2) : seqT (tes M C W io m (.cons c (.cons d .nil))) σ H k :=
  ⟨B, Z, ρ, ob, R, h.imp fun x Z1 H1 ρ1 R1 z1 k1 s1 h1 v hv => ⟨B, Z1, ρ1, ob, R1, h1.imp fun y Z2 H2 ρ2 R2 z2 k2 s2 h2 w hw => h2 v w (hv.move z2 k2 fun e => s2 (hm e)) hw⟩⟩
theorem it2_ok {f : Ex → Ex → It} {rd : Bool} {r : Exs} {it : It} (h : it2 f rd r = some it) : ∃ c d, r = .cons c (.cons d .nil) ∧ it = f c d ∧ (rd = true → quiet c = true ∧ quiet d = true) := by
  unfold it2 at h
  split at h
  · rename_i c d
    split at h
    · rename_i hq
      cases h
      refine ⟨c, d, rfl, rfl, fun e => ?_⟩
      subst e
      simpa using hq
    · cases h
  · cases h
theorem quiets_two {c d : Ex} : quiets (.cons c (.cons d .nil)) = (quiet c && quiet d) := by
  show (quiet c && (quiet d && true)) = _
  rw [Bool.and_true]
theorem star2_of {n : Nat} {rd : Bool} {a b : Expr} {r : Exs} (h : cL (cE n S) rd [a, b] = some r) (env : PySem.Env) : starEach [a, b] env = [(false, eval a env), (false, eval b env)] ∧ starEach [b] env = [(false, eval b env)] := by
  obtain ⟨c, d, ha, hb, _⟩ := cL_two h
  exact ⟨by rw [star_of ha, star_of hb]; rfl, by rw [star_of hb]; rfl⟩
theorem okRng_of {a b : Int} (h : okRng a b = true) : (-(2 ^ 62) ≤ a ∧ a < 2 ^ 62) ∧ -(2 ^ 62) ≤ b ∧ b < 2 ^ 62 := by
  unfold okRng at h
  simp only [Bool.and_eq_true, decide_eq_true_eq] at h
  exact ⟨⟨h.1.1.1, h.1.1.2⟩, h.1.2, h.2⟩
theorem iter_ok {n : Nat} (ih : EOk M L n) (G : Good S M C L X) (tk : L2.Takes X W) {rd tp : Bool} {tg e : Expr} {it : It} (ht : tp = true → ∃ es k p, tg = .Tuple es k p) (h : cIter (cE n) S rd tp e = some it) : PI X tg e (tI M C W S.io rd it) := by
  unfold cIter at h
  split at h
  · rename_i x p a q
    split at h
    · rename_i hx
      subst hx
      split at h
      · rename_i hb
        obtain ⟨c, hc, rfl⟩ := Option.map_eq_some_iff.mp h
        obtain ⟨g1, g2, _⟩ := G.blt hb
        have hL : cL (cE n S) true [a] = some (.cons c .nil) := by
          show ((cE n S true a).bind fun c => (some Exs.nil).map fun r => Exs.cons c r) = _
          rw [hc]; rfl
        refine PI.weak (pi_range1 g1 g2 (args_ok ih G tk hL) (by rw [star_of hc]; rfl)) fun σ H Rr q => ?_
        obtain ⟨B, Z, ρ, ob, R, q⟩ := q
        have q : Lands C W σ B Z H (quiet c) ((ev M c ρ).bind fun x ρ => match x with
          | .int n => if okRng 0 n then .ok (rngD 0 n) ρ else .bad
          | _ => .bad) (fun ds Z' H' _ => ∀ J, ItOk C rd Z' H' J ds → Rr J H') := q
        refine ⟨B, Z, ρ, ob, R, ?_⟩
        refine (Lands.bind (q1 := quiet c) (q2 := true) q fun q => ⟨q, rfl⟩).imp fun d Z1 H1 ρ1 R1 z1 k1 s1 h1 v hv => ?_
        cases d with
        | int m =>
          have := Rv.int hv; subst this
          replace h1 : Lands C W σ B Z1 H1 true (if okRng 0 m then Rs.ok (rngD 0 m) ρ1 else .bad) (fun ds Z' H' _ => ∀ J, ItOk C rd Z' H' J ds → Rr J H') := h1
          split at h1
          · rename_i hr
            obtain ⟨_, r1, r2⟩ := okRng_of hr
            refine ⟨m, rfl, r1, r2, Lands.stay h1 R1 _ ?_⟩
            have := rng_it (C := C) (q := rd) (Z := Z1) (H := H1) (a := 0) (b := m)
            rwa [Int.sub_zero] at this
          · exact h1.elim
        | _ => exact h1.elim
      · cases h
    · split at h
      · rename_i hx
        subst hx
        split at h
        · rename_i hb
          rw [Bool.and_eq_true] at hb
          obtain ⟨es, k, p', rfl⟩ := ht hb.2
          obtain ⟨c, hc, rfl⟩ := Option.map_eq_some_iff.mp h
          obtain ⟨g1, g2, _⟩ := G.blt hb.1
          have hL : cL (cE n S) rd [a] = some (.cons c .nil) := by
            show ((cE n S rd a).bind fun c => (some Exs.nil).map fun r => Exs.cons c r) = _
            rw [hc]; rfl
          refine PI.weak (pi_enumA g1 g2 (args_ok ih G tk hL) (by rw [star_of hc]; rfl)) fun σ H Rr q => ?_
          obtain ⟨B, Z, ρ, ob, R, q⟩ := q
          have q : Lands C W σ B Z H (quiet c) ((ev M c ρ).bind fun d ρ => match d with
            | .lst xs | .tup xs => .ok (enumD 0 xs) ρ
            | _ => .bad) (fun ds Z' H' _ => ∀ J, ItOk C rd Z' H' J ds → Rr J H') := q
          refine ⟨B, Z, ρ, ob, R, ?_⟩
          refine (Lands.bind (q1 := quiet c) (q2 := true) q fun q => ⟨q, rfl⟩).imp fun d Z1 H1 ρ1 R1 z1 k1 s1 h1 v hv => ?_
          cases d with
          | lst ds =>
            obtain ⟨b, xs, rfl, f, s⟩ := Rm.sql G.K hv (.inl rfl)
            exact ⟨b, xs, rfl, .inl ⟨s _ Kp.refl, Lands.stay (a := enumD 0 ds) (ok := fun ds Z' H' _ => ∀ J, ItOk C rd Z' H' J ds → Rr J H') h1 R1 _ (ite_ok s f)⟩⟩
          | tup ds =>
            obtain ⟨b, xs, rfl, f, s⟩ := Rm.sqt G.K hv
            exact ⟨b, xs, rfl, .inr ⟨s _ Kp.refl, Lands.stay (a := enumD 0 ds) (ok := fun ds Z' H' _ => ∀ J, ItOk C rd Z' H' J ds → Rr J H') h1 R1 _ (iteT_ok s f)⟩⟩
          | _ => exact h1.elim
        · cases h
      · exact seq_it ih G tk h
  · rename_i x p a b q
    split at h
    · rename_i hx
      subst hx
      split at h
      · rename_i hb
        obtain ⟨r, hr, h⟩ := Option.bind_eq_some_iff.mp h
        obtain ⟨c, d, rfl, rfl, hq⟩ := it2_ok h
        obtain ⟨q1, q2⟩ := hq rfl
        obtain ⟨g1, g2, _⟩ := G.blt hb
        obtain ⟨s1, s2⟩ := star2_of hr X.env
        refine PI.weak (pi_range2 g1 g2 (args_ok ih G tk hr) s1 s2) fun σ H Rr q => ?_
        obtain ⟨B, Z, ρ, ob, R, q⟩ := q
        have q : Lands C W σ B Z H (quiet c && quiet d) ((ev M c ρ).bind fun x ρ => (ev M d ρ).bind fun y ρ => match x, y with
          | .int m, .int n => if okRng m n then .ok (rngD m n) ρ else .bad
          | _, _ => .bad) (fun ds Z' H' _ => ∀ J, ItOk C rd Z' H' J ds → Rr J H') := q
        refine two_ok (m := true) (k := fun vs H1 => ∃ i j : Int, vs = [.int i, .int j] ∧ (-(2 ^ 62) ≤ i ∧ i < 2 ^ 62 ∧ -(2 ^ 62) ≤ j ∧ j < 2 ^ 62) ∧ Rr (Itr i (j - i).toNat) H1) ob R (fun _ => q2) ((Lands.bind (q1 := quiet c) (q2 := quiet d) q fun q => by rwa [Bool.and_eq_true] at q).imp fun x Z1 H1 ρ1 R1 z1 k1 s1 h1 =>
          (Lands.bind (q1 := quiet d) (q2 := true) h1 fun q => ⟨q, rfl⟩).imp fun y Z2 H2 ρ2 R2 z2 k2 s2 h2 v w hv hw => ?_)
        cases x with
        | int m =>
          cases y with
          | int n =>
            have := Rv.int hv; subst this
            have := Rv.int hw; subst this
            replace h2 : Lands C W σ B Z2 H2 true (if okRng m n then Rs.ok (rngD m n) ρ2 else .bad) (fun ds Z' H' _ => ∀ J, ItOk C rd Z' H' J ds → Rr J H') := h2
            split at h2
            · rename_i hr
              obtain ⟨⟨r1, r2⟩, r3, r4⟩ := okRng_of hr
              exact ⟨m, n, rfl, ⟨r1, r2, r3, r4⟩, Lands.stay h2 R2 _ rng_it⟩
            · exact h2.elim
          | _ => exact h2.elim
        | _ => exact h2.elim
      · cases h
    · split at h
      · rename_i hx
        subst hx
        split at h
        · rename_i hb
          rw [Bool.and_eq_true] at hb
          obtain ⟨es, k, p', rfl⟩ := ht hb.2
          obtain ⟨r, hr, h⟩ := Option.bind_eq_some_iff.mp h
          obtain ⟨c, d, rfl, rfl, hq⟩ := it2_ok h
          obtain ⟨g1, g2, _⟩ := G.blt hb.1
          obtain ⟨s1, s2⟩ := star2_of hr X.env
          refine PI.weak (RZ.pi_zipA g1 g2 (args_ok ih G tk hr) (by rw [s1, s2]) (by rw [s2]; rfl)) fun σ H Rr q => ?_
          obtain ⟨B, Z, ρ, ob, R, q⟩ := q
          have q : Lands C W σ B Z H (quiet c && quiet d) ((ev M c ρ).bind fun x ρ => (ev M d ρ).bind fun y ρ => match x, y with
            | .lst xs, .lst ys | .tup xs, .tup ys => .ok (zipD xs ys) ρ
            | _, _ => .bad) (fun ds Z' H' _ => ∀ J, ItOk C rd Z' H' J ds → Rr J H') := q
          refine two_ok (m := rd) (k := fun vs H1 => ∃ a b xs ys, vs = [.ref a, .ref b] ∧ ((SqL X.K H1 a xs ∧ SqL X.K H1 b ys ∧ Rr (Itz X.K a b) H1) ∨ (SqT X.K H1 a xs ∧ SqT X.K H1 b ys ∧ Rr (RZ.ItzT X.K a b) H1))) ob R (fun e => (hq e).2) ((Lands.bind (q1 := quiet c) (q2 := quiet d) q fun q => by rwa [Bool.and_eq_true] at q).imp fun x Z1 H1 ρ1 R1 z1 k1 s1 h1 =>
            (Lands.bind (q1 := quiet d) (q2 := true) h1 fun q => ⟨q, rfl⟩).imp fun y Z2 H2 ρ2 R2 z2 k2 s2 h2 v w hv hw => ?_)
          cases x with
          | lst xs =>
            cases y with
            | lst ys =>
              obtain ⟨b1, us, rfl, f1, t1⟩ := Rm.sql G.K hv (.inl rfl)
              obtain ⟨b2, ws, rfl, f2, t2⟩ := Rm.sql G.K hw (.inl rfl)
              exact ⟨b1, b2, us, ws, rfl, .inl ⟨t1 _ Kp.refl, t2 _ Kp.refl, Lands.stay (a := zipD xs ys) (ok := fun ds Z' H' _ => ∀ J, ItOk C rd Z' H' J ds → Rr J H') h2 R2 _ (itz_ok t1 t2 f1 f2)⟩⟩
            | _ => exact h2.elim
          | tup xs =>
            cases y with
            | tup ys =>
              obtain ⟨b1, us, rfl, f1, t1⟩ := Rm.sqt G.K hv
              obtain ⟨b2, ws, rfl, f2, t2⟩ := Rm.sqt G.K hw
              exact ⟨b1, b2, us, ws, rfl, .inr ⟨t1 _ Kp.refl, t2 _ Kp.refl, Lands.stay (a := zipD xs ys) (ok := fun ds Z' H' _ => ∀ J, ItOk C rd Z' H' J ds → Rr J H') h2 R2 _ (itzT_ok t1 t2 f1 f2)⟩⟩
            | _ => exact h2.elim
          | _ => exact h2.elim
        · cases h
      · exact seq_it ih G tk h
  · exact seq_it ih G tk h
end
end PF

set_option Elab.async false
set_option linter.all false
set_option maxRecDepth 100000
set_option maxHeartbeats 2000000
/-! PF13: comprehensions. -/
namespace PF
open PySem PySem.Spec PyProof.Rows L2
/-- an object that the slots do not hold is watched -/
def Bs.prot (B : Bs) (p : Addr) (o : HO) : Bs where
  H0 := upd B.H0 p o
  Z0 := B.Z0
  io := B.io
  z0 a h := by
    by_cases e : a = p
    · subst e; exact ⟨o, upd_same⟩
    · rw [upd_ne e]; exact B.z0 a h
section
variable {C : Cn} {B : Bs} {Z Z' : Addr → Prop} {H H' : Hp} {σ σ' : L2.St} {ρ : En} {p : Addr} {o o' : HO}
theorem Rel.prot (R : Rel C B Z H σ ρ) (hp : H p = some o) (hz : ¬ Z p) (hn : ∀ i ds, getC ρ i = .o ds → σ[i]? ≠ some (some (.ref p))) : Rel C (B.prot p o) Z H σ ρ where
  len := R.len
  val := R.val
  own i ds e := by
    obtain ⟨a, xs, h1, h2, h3, h4, h5⟩ := R.own i ds e
    have n : a ≠ p := fun z => hn i ds e (z ▸ h1)
    exact ⟨a, xs, h1, h2, h3, h4, h5.imp (fun q => by show upd B.H0 p o a = none; rw [upd_ne n]; exact q) fun q => q⟩
  dis := R.dis
  frm a u e n := by
    have e : upd B.H0 p o a = some u := e
    by_cases ea : a = p
    · subst ea; rw [upd_same] at e; cases e; exact hp
    · rw [upd_ne ea] at e; exact R.frm a u e n
  zin a h := (R.zin a h).imp (fun q => q) fun q => by
    have n : a ≠ p := fun z => hz (z ▸ h)
    show upd B.H0 p o a = none
    rw [upd_ne n]; exact q
  ztr := R.ztr
  io0 := R.io0
structure Free (B : Bs) (Z : Addr → Prop) (H : Hp) (σ : L2.St) (ρ : En) (p : Addr) (o : HO) : Prop where
  at_ : H p = some o
  nz : ¬ Z p
  no : ∀ i ds, getC ρ i = .o ds → σ[i]? ≠ some (some (.ref p))
theorem Rel.free (R : Rel C (B.prot p o) Z H σ ρ) (h0 : B.H0 p = none) (hio : B.io ≠ some p) : Free B Z H σ ρ p o where
  at_ := R.frm p o upd_same hio
  nz h := by
    rcases R.zin p h with q | q
    · obtain ⟨u, e⟩ := B.z0 p q
      rw [h0] at e; cases e
    · rw [show (B.prot p o).H0 p = some o from upd_same] at q; cases q
  no i ds e q := by
    obtain ⟨a, xs, h1, h2, h3, h4, h5⟩ := R.own i ds e
    rw [q] at h1; cases h1
    rcases h5 with h5 | h5
    · rw [show (B.prot p o).H0 p = some o from upd_same] at h5; cases h5
    · exact hio h5
theorem Rel.unprot (R : Rel C (B.prot p o) Z H σ ρ) (h0 : B.H0 p = none) (hio : B.io ≠ some p) : Rel C B Z H σ ρ where
  len := R.len
  val := R.val
  own i ds e := by
    obtain ⟨a, xs, h1, h2, h3, h4, h5⟩ := R.own i ds e
    have n : a ≠ p := fun z => (R.free h0 hio).no i ds e (z ▸ h1)
    refine ⟨a, xs, h1, h2, h3, h4, h5.imp (fun q => ?_) fun q => q⟩
    have q : upd B.H0 p o a = none := q
    rw [upd_ne n] at q; exact q
  dis := R.dis
  frm a u e n := by
    have ea : a ≠ p := fun z => by rw [z, h0] at e; cases e
    exact R.frm a u (by show upd B.H0 p o a = some u; rw [upd_ne ea]; exact e) n
  zin a h := (R.zin a h).imp (fun q => q) fun q => by
    have n : a ≠ p := fun z => (R.free h0 hio).nz (z ▸ h)
    have q : upd B.H0 p o a = none := q
    rw [upd_ne n] at q; exact q
  ztr := R.ztr
  io0 := R.io0
/-- what is watched is changed -/
theorem Rel.bump {xs xs' : List V} (R : Rel C (B.prot p (.lst xs)) Z H σ ρ) (h0 : B.H0 p = none) (hio : B.io ≠ some p) : Rel C (B.prot p (.lst xs')) Z (upd H p (.lst xs')) σ ρ ∧ Keep Z H (upd H p (.lst xs')) := by
  have F := R.free h0 hio
  have k : Keep Z H (upd H p (.lst xs')) := fun a u e m => by
    by_cases ea : a = p
    · subst ea
      rw [F.at_] at e; cases e
      exact absurd (m trivial) F.nz
    · rw [upd_ne ea]; exact e
  have R0 := R.unprot h0 hio
  have R1 : Rel C B Z (upd H p (.lst xs')) σ ρ := by
    refine ⟨R0.len, fun i d e => ?_, fun i ds e => ?_, R0.dis, fun a u e n => ?_, R0.zin, fun a h => ?_, R0.io0⟩
    · obtain ⟨v, q1, q2⟩ := R0.val i d e
      exact ⟨v, q1, q2.keep k fun _ m => m⟩
    · obtain ⟨a, ys, q1, q2, q3, q4, q5⟩ := R0.own i ds e
      have ea : a ≠ p := fun z => F.no i ds e (z ▸ q1)
      exact ⟨a, ys, q1, by rw [upd_ne ea]; exact q2, q3.keep k (fun _ m => m), q4, q5⟩
    · have ea : a ≠ p := fun z => by rw [z, h0] at e; cases e
      rw [upd_ne ea]; exact R0.frm a u e n
    · by_cases ea : a = p
      · subst ea; exact ⟨_, upd_same⟩
      · rw [upd_ne ea]; exact R0.ztr a h
  exact ⟨R1.prot upd_same F.nz F.no, k⟩
end
def Okr {α : Type} (r : Rs α) (F : α → En → Prop) : Prop := match r with
  | .ok a ρ => F a ρ
  | _ => False
def WF : WX := fun _ _ _ _ => False
theorem wipe_wipe {vs : List Nat} {σ : L2.St} : wipe (wipe σ vs) vs = wipe σ vs := by
  have gone : ∀ (σ : L2.St) (vs : List Nat) (j : Nat), j ∈ vs → (wipe σ vs)[j]? = if j < σ.length then some none else none := fun σ vs j => by
    induction vs with
    | nil => intro m; cases m
    | cons w ws ih =>
      intro m
      show ((wipe σ ws).set w none)[j]? = _
      rw [set_get]
      by_cases hw : w = j
      · subst hw; rw [if_pos rfl, wipe_length]
      · rw [if_neg hw]
        exact ih ((List.mem_cons.mp m).resolve_left fun z => hw z.symm)
  apply List.ext_getElem?
  intro j
  by_cases hj : j ∈ vs
  · rw [gone _ _ _ hj, gone _ _ _ hj, wipe_length]
  · rw [wipe_get _ _ _ hj]
section
variable {S : SC} {M : Mo} {C : Cn} {L : Nat} {X : Cx} {W : WX}
/-- all but the new list is as it was -/
def Sb (rs : Bool) (p : Addr) (Ha H : Hp) : Prop := rs = true → ∀ a o, a ≠ p → Ha a = some o → H a = some o
/-- the turns of one clause: the new list at p -/
theorem lc_loop {B : Bs} {io rd rs : Bool} {Ha : Hp} {p : Addr} {J : L2.It} {Z1 : Addr → Prop} {H1 Hs : Hp} {xs ds0 : List D} {acc0 : List V} {tg vs : List Nat} {one : Bool} {c : Tx} {e : Ex} {σ : L2.St} {ρ0 : En} {Fin : Hp → Prop} {F : List D → En → Prop}
    (ob : BOk io B) (h0 : B.H0 p = none) (hio : B.io ≠ some p) (hJ : ItOk C rd Z1 H1 J xs) (hq : rd = true → quiet e = true ∧ quietT c = true) (hqs : rs = true → quiet e = true ∧ quietT c = true) (hp : rd = true → H1 p = none) (hw : ∀ i ∈ tg, i ∈ vs) (hv : B.io ≠ none → 0 ∉ vs)
    (hfin : ∀ Z' H' ρ' acc ds, Rel C (B.prot p (.lst acc)) Z' H' (wipe σ vs) (wipeC ρ' vs) → FzAll C H' Z' acc ds → (∀ a, Z1 a → Z' a) → Kp rd Z1 H1 H' → Sb rs p Ha H' → F ds ρ' → Fin H')
    (R0 : Rel C (B.prot p (.lst acc0)) Z1 Hs (wipe σ vs) (wipeC ρ0 vs)) (f0 : FzAll C Hs Z1 acc0 ds0) (k0 : Kp rd Z1 H1 Hs) (b0 : Sb rs p Ha Hs) (hok : Okr (lcS vs tg one (evT M c) (ev M e) xs ds0 ρ0) F) :
    ∃ Wm : Nat → Nat → Hp → Prop, (∃ m, Wm 0 m Hs) ∧ ∀ i m H, Wm i m H → (J.stop i H ∧ Fin H) ∨ (J.go i H ∧ ∃ Nx : Hp → Prop, (∀ H', Nx H' → ∃ m', m' < m ∧ Wm (i + 1) m' H') ∧ ∀ x H', J.yld i H x H' →
      tG C io tg one x (wipe σ vs) H' fun σ2 H2 => wipe σ2 vs = wipe σ vs ∧ tXT M C WF io c σ2 H2 fun b H3 => if b = true then tX M C WF io false e σ2 H3 fun y H4 => ∃ acc, H4 p = some (.lst acc) ∧ acc.length < sizeLine ∧ Nx (upd H4 p (.lst (acc ++ [y]))) else Nx H3) := by
  let Pv : Nat → Hp → Prop := fun i H => ∃ Z' ρ' acc ds, Rel C (B.prot p (.lst acc)) Z' H (wipe σ vs) (wipeC ρ' vs) ∧ FzAll C H Z' acc ds ∧ (∀ a, Z1 a → Z' a) ∧ Kp rd Z1 H1 H ∧ Sb rs p Ha H ∧ Okr (lcS vs tg one (evT M c) (ev M e) (xs.drop i) ds ρ') F
  refine ⟨fun i m H => m = xs.length - i ∧ i ≤ xs.length ∧ Pv i H, ⟨_, rfl, Nat.zero_le _, Z1, ρ0, acc0, ds0, R0, f0, fun _ m => m, k0, b0, hok⟩, ?_⟩
  rintro i m H ⟨rfl, hi, Z', ρ', acc, ds, R, f, z, k, sb, ok⟩
  by_cases lt : i < xs.length
  · obtain ⟨d, hd⟩ : ∃ d, xs[i]? = some d := ⟨_, List.getElem?_eq_getElem lt⟩
    have hdrop : xs.drop i = d :: xs.drop (i + 1) := by
      rw [List.drop_eq_getElem_cons lt]
      rw [List.getElem?_eq_getElem lt] at hd
      cases hd; rfl
    rw [hdrop] at ok
    obtain ⟨go, yl⟩ := (hJ H k).1 i d hd
    refine .inr ⟨go, Pv (i + 1), fun H' q => ⟨xs.length - (i + 1), by omega, rfl, lt, q⟩, fun x H' y => ?_⟩
    obtain ⟨sm, fx⟩ := yl x H' y
    replace ok : Okr (match bindTg tg one d (wipeC ρ' vs) with
      | none => .bad
      | some ρ1 => (evT M c ρ1).nox.bind fun b ρ2 => match b with
        | false => lcS vs tg one (evT M c) (ev M e) (xs.drop (i + 1)) ds ρ2
        | true => (ev M e ρ2).nox.bind fun d ρ3 => if ds.length < sizeLine then lcS vs tg one (evT M c) (ev M e) (xs.drop (i + 1)) (ds ++ [d]) ρ3 else .bad) F := ok
    cases hb : bindTg tg one d (wipeC ρ' vs) with
    | none => rw [hb] at ok; exact ok.elim
    | some ρ1 =>
      rw [hb] at ok
      replace ok : Okr ((evT M c ρ1).nox.bind fun b ρ2 => match b with
        | false => lcS vs tg one (evT M c) (ev M e) (xs.drop (i + 1)) ds ρ2
        | true => (ev M e ρ2).nox.bind fun d ρ3 => if ds.length < sizeLine then lcS vs tg one (evT M c) (ev M e) (xs.drop (i + 1)) (ds ++ [d]) ρ3 else .bad) F := ok
      have kx : Kp rd Z1 H1 H' := ⟨k.1.trans (fun _ m => m) (Keep.of_same sm), fun e => (k.2 e).trans sm⟩
      refine ⟨B.prot p (.lst acc), Z', wipeC ρ' vs, d, ρ1, ob, R.grow sm, fx Z' z, hb, fun σ2 R2 w2 => ⟨(w2 vs hw).trans wipe_wipe, ?_⟩⟩
      have w3 : wipe σ2 vs = wipe σ vs := (w2 vs hw).trans wipe_wipe
      refine ⟨B.prot p (.lst acc), Z', ρ1, ob, R2, ?_⟩
      cases hc : evT M c ρ1 with
      | exc _ _ => rw [hc] at ok; exact ok.elim
      | bad => rw [hc] at ok; exact ok.elim
      | ok b ρ2 =>
        rw [hc, nox_ok, bind_ok] at ok
        intro Z2 H2 R3 z2 k2 s2
        have f2 : FzAll C H2 Z2 acc ds := (f.keep (Keep.of_same sm) fun _ m => m).keep k2 z2
        have kp2 : Kp rd Z1 H1 H2 := ⟨kx.1.trans z k2, fun e => (kx.2 e).trans (s2 (hq e).2)⟩
        cases b with
        | false =>
          show Pv (i + 1) H2
          have R4 := R3.wiped hv
          rw [w3] at R4
          exact ⟨Z2, ρ2, acc, ds, R4, f2, fun a m => z2 a (z a m), kp2, fun e a u n ha => s2 (hqs e).2 _ _ (sm _ _ (sb e a u n ha)), ok⟩
        | true =>
          show tX M C WF io false e σ2 H2 _
          refine ⟨B.prot p (.lst acc), Z2, ρ2, ob, R3, ?_⟩
          replace ok : Okr ((ev M e ρ2).nox.bind fun d ρ3 => if ds.length < sizeLine then lcS vs tg one (evT M c) (ev M e) (xs.drop (i + 1)) (ds ++ [d]) ρ3 else .bad) F := ok
          cases he : ev M e ρ2 with
          | exc _ _ => rw [he] at ok; exact ok.elim
          | bad => rw [he] at ok; exact ok.elim
          | ok y ρ3 =>
            rw [he, nox_ok, bind_ok] at ok
            split at ok
            · rename_i hl
              intro Z3 H3 R5 z3 k3 s3 w hw2
              have hw2 : Fz C H3 Z3 w y := hw2
              have f3 := f2.keep k3 z3
              have R6 := R5.wiped hv
              rw [w3] at R6
              obtain ⟨R7, k7⟩ := R6.bump (xs' := acc ++ [w]) h0 hio
              refine ⟨acc, (R6.free h0 hio).at_, by rw [f3.length]; exact hl, Z3, ρ3, acc ++ [w], ds ++ [y], R7, (f3.append (.one hw2)).keep k7 fun _ m => m, fun a m => z3 a (z2 a (z a m)), ⟨(kp2.1.trans (fun a m => z2 a (z a m)) k3).trans (fun a m => z3 a (z2 a (z a m))) k7, fun e => ?_⟩, fun e a u n ha => by rw [upd_ne n]; exact s3 (hqs e).1 _ _ (s2 (hqs e).2 _ _ (sm _ _ (sb e a u n ha))), ok⟩
              have s := (kp2.2 e).trans (s3 (hq e).1)
              intro a u ha
              have : a ≠ p := fun q => by rw [q, hp e] at ha; cases ha
              rw [upd_ne this]
              exact s a u ha
            · exact ok.elim
  · have hi : i = xs.length := by omega
    subst hi
    rw [List.drop_length] at ok
    exact .inl ⟨(hJ H k).2, hfin Z' H ρ' acc ds R f z k sb ok⟩
/-! ### results of one's own -/
def Ow (C : Cn) (B : Bs) (σ : L2.St) (ρ : En) (H : Hp) (Z : Addr → Prop) (v : V) (d : D) : Prop :=
  (Fz C H Z v d ∧ ∀ ds, d ≠ .lst ds) ∨ ∃ a xs ds, v = .ref a ∧ d = .lst ds ∧ H a = some (.lst xs) ∧ FzAll C H Z xs ds ∧ ¬ Z a ∧ B.H0 a = none ∧ B.io ≠ some a ∧ ∀ j es, getC ρ j = .o es → σ[j]? ≠ some (some (.ref a))
def tO (M : Mo) (C : Cn) (W : WX) (io : Bool) (c : Ex) : TE := fun σ H Q => ∃ B Z ρ, BOk io B ∧ Rel C B Z H σ ρ ∧ Lands C W σ B Z H (quiet c) (ev M c ρ) fun d Z' H' ρ' => ∀ v, Ow C B σ ρ' H' Z' v d → Q v H'
theorem tO.of {io rd : Bool} {c : Ex} {σ : L2.St} {H : Hp} {Q : VK} (h : tX M C W io rd c σ H Q) : tO M C W io c σ H Q := by
  obtain ⟨B, Z, ρ, ob, R, h⟩ := h
  refine ⟨B, Z, ρ, ob, R, ?_⟩
  cases he : ev M c ρ with
  | ok d ρ' =>
    rw [he] at h
    intro Z' H' R' z k s v ow
    rcases ow with ⟨f, _⟩ | ⟨a, xs, ds, rfl, rfl, h1, h2, h3, h4, h5, h6⟩
    · exact h Z' H' R' z k s v (.of f)
    · exact h _ H' (R'.freeze h1 h4 h6) (fun b m => .inl (z b m)) k s _ (.of (.lst h1 (.inr rfl) (h2.keep (Keep.refl _ _) fun _ m => .inl m)))
  | exc x ρ' => rw [he] at h; exact h
  | bad => rw [he] at h; exact h
theorem PE.own {e : Expr} {io rd : Bool} {c : Ex} (h : PE X e (tO M C W io c)) : PE X e (tX M C W io rd c) := PE.weak h fun σ H Q q => tO.of q
theorem lcS_nox {vs tg : List Nat} {one : Bool} {c : En → Rs Bool} {e : En → Rs D} {x : Exn} {ρ' : En} : ∀ {xs acc : List D} {ρ : En}, lcS vs tg one c e xs acc ρ ≠ .exc x ρ'
  | [], acc, ρ, h => by cases h
  | d :: xs, acc, ρ, h => by
    replace h : (match bindTg tg one d (wipeC ρ vs) with
      | none => (Rs.bad : Rs (List D))
      | some ρ1 => (c ρ1).nox.bind fun b ρ2 => match b with
        | false => lcS vs tg one c e xs acc ρ2
        | true => (e ρ2).nox.bind fun d ρ3 => if acc.length < sizeLine then lcS vs tg one c e xs (acc ++ [d]) ρ3 else .bad) = .exc x ρ' := h
    split at h
    · cases h
    · rename_i ρ1 _
      cases hc : c ρ1 with
      | ok b ρ2 =>
        rw [hc, nox_ok, bind_ok] at h
        cases b with
        | false => exact lcS_nox h
        | true =>
          replace h : ((e ρ2).nox.bind fun d ρ3 => if acc.length < sizeLine then lcS vs tg one c e xs (acc ++ [d]) ρ3 else .bad) = .exc x ρ' := h
          cases he : e ρ2 with
          | ok y ρ3 =>
            rw [he, nox_ok, bind_ok] at h
            split at h
            · exact lcS_nox h
            · cases h
          | _ => rw [he] at h; cases h
      | _ => rw [hc] at h; cases h
theorem takesF {X : Cx} : L2.Takes X WF := fun u s' ⟨_, _, _, _, _, _, _, _, _, _, _, _, _, _, _, _, w⟩ => w.elim
theorem blk_ok (h : blkOk S scope = true) : L2.blkC S.N S.sc scope (ownSlots S scope) = true ∧ (S.io = true → 0 ∉ (ownSlots S scope).map (·.2)) := by
  unfold blkOk at h
  rw [Bool.and_eq_true] at h
  refine ⟨h.1, fun e m => ?_⟩
  obtain ⟨p, hp, hp0⟩ := List.mem_map.mp m
  have := List.all_eq_true.mp h.2 p hp
  rw [e, hp0] at this
  cases this
theorem Good.blk (G : Good S M C L X) (hh : S.hot = false) {scope : Scope} (hb : blkOk S scope = true) (s : Shared) (H : Hp) (A : Addr) (cl : List (Str × Addr)) (fp : List Addr) : Good (S.blk scope) M C L (X.blk s H scope (compEnvC scope cl A X.env) fp) where
  N := G.N
  nd := G.nd
  sc := by
    show relT scope X.env.scope = relT scope S.sc
    rw [G.sc]
  calm := G.calm
  K := G.K
  room := G.room
  units := G.units
  fn x hx := by
    have hx : (cellsOf scope).contains x = true := hx
    obtain ⟨y, hy, e⟩ := List.mem_filterMap.mp (List.contains_iff_mem.mp hx)
    have hu := (blkOk_by (blk_ok hb).1).uniq y hy
    show (scope.names.lookup x == some .cell) = true
    split at e
    · rename_i k; cases e
      rw [hu, k]; rfl
    · cases e
  free := G.free
  cst := G.cst
  fns _ x f io hf := by
    obtain ⟨k, a, fd, ps, h1, h2, h3, h4, h5, h6⟩ := (G.fns hh x f io hf).ex
    exact ⟨k, a, fd, ps, h1, h2, h3, h4, h5, h6⟩
  exs := G.exs
  mkx := G.mkx
  exq := G.exq
  exm := G.exm
  px a cls dd q := by
    have := (G.px a cls dd q).1
    rw [hh] at this; cases this
theorem ifs_ok {n : Nat} (ih : ∀ m, m ≤ n → EOk M L m) (G : Good S M C L X) (tk : L2.Takes X W) {ifs : List Expr} {k : Tx} (h : cIf (cE n) n S ifs = some k) : PTs X ifs (tXT M C W S.io k) := by
  match ifs, h with
  | [], h =>
    cases h
    refine ⟨fun pins s σ H Q I q => pts_nil.run pins s σ H Q I ?_⟩
    obtain ⟨B, Z, ρ, ob, R, q⟩ := q
    exact Lands.stay (a := true) q R
  | [t], h => exact pts_one (test_ok ih G tk n h)
  | _ :: _ :: _, h => cases h
theorem cIter_set {g : SC → Bool → Expr → Option Ex} {rd tp : Bool} {e : Expr} {it : It} (hg : ∀ es k p, g S rd (.Set es k p) = none) (h : cIter g S rd tp e = some it) (env : PySem.Env) (x : Value) : foldedSetIterable e env x = pure x := by
  cases e with
  | «Set» es k p =>
    have : (g S rd (.Set es k p)).map It.seq = some it := h
    rw [hg] at this; cases this
  | _ => rfl
theorem cE_set {n k : Nat} {rd : Bool} {es : List Expr} {p : Pos} : cE n S rd (.Set es k p) = none := by cases n <;> rfl
theorem tup_of {tg : Expr} (h : isTup tg = true) : ∃ es k p, tg = .Tuple es k p := by
  cases tg with
  | Tuple es k p => exact ⟨es, k, p, rfl⟩
  | _ => cases h
theorem lc_weak {scope : Scope} {t : List Nat × Bool} {c : Ex} {k : Tx} {it : It} (b2 : S.io = true → 0 ∉ (ownSlots S scope).map (·.2)) (hw : within t.1 (ownSlots S scope) = true) (σ : L2.St) (H : Hp) (Q : VK)
    (q : tO M C W S.io (.lc c t.1 t.2 it k ((ownSlots S scope).map (·.2))) σ H Q) : tLc (tI M C W S.io (quiet c && quietT k) it) (tG C S.io t.1 t.2) (tXT M C WF S.io k) (tX M C WF S.io false c) ((ownSlots S scope).map (·.2)) σ H Q := by
  obtain ⟨B, Z, ρ, ob, R, q⟩ := q
  have q : Lands C W σ B Z H (quiet c && quietI it && quietT k) ((evI M it ρ).bind fun xs ρ => (lcS ((ownSlots S scope).map (·.2)) t.1 t.2 (evT M k) (ev M c) xs [] ρ).bind fun ds ρ' => .ok (.lst ds) (backC ρ ρ' ((ownSlots S scope).map (·.2))))
    (fun d Z' H' ρ' => ∀ v, Ow C B σ ρ' H' Z' v d → Q v H') := q
  refine ⟨B, Z, ρ, ob, R, ?_⟩
  refine (Lands.bind (q1 := quietI it) (q2 := quiet c && quietT k) q fun q => by simp only [Bool.and_eq_true] at q ⊢; exact ⟨q.1.2, q.1.1, q.2⟩).imp fun xs Z1 H1 ρ1 R1 z1 k1 s1 h1 J hJ p hp => ?_
  have h0 : B.H0 p = none := R1.gone hp
  have hio : B.io ≠ some p := fun e => by
    obtain ⟨q1, ds, q2⟩ := R1.io0 p e
    exact (R1.ofNone hp).2 0 ds q2 q1
  have hv : B.io ≠ none → 0 ∉ (ownSlots S scope).map (·.2) := fun e => b2 (ob e)
  have sm : Same H1 (upd H1 p (.lst [])) := new_same hp
  have R2 : Rel C (B.prot p (.lst [])) Z1 (upd H1 p (.lst [])) (wipe σ ((ownSlots S scope).map (·.2))) (wipeC ρ1 ((ownSlots S scope).map (·.2))) := by
    refine ((R1.grow sm).prot upd_same (fun z => ?_) ((R1.ofNone hp).2)).wiped hv
    obtain ⟨o, e⟩ := R1.ztr p z
    rw [hp] at e; cases e
  refine lc_loop (F := fun ds ρ' => Lands C W σ B Z1 H1 (quiet c && quietT k) (.ok (.lst ds) (backC ρ1 ρ' ((ownSlots S scope).map (·.2)))) (fun d Z' H' ρ' => ∀ v, Ow C B σ ρ' H' Z' v d → Q v H')) (rd := quiet c && quietT k)
    (rs := false) (Ha := H1) ob h0 hio hJ (fun e => by rwa [Bool.and_eq_true] at e) (fun e => nomatch e) (fun _ => hp) (fun i m => List.contains_iff_mem.mp (List.all_eq_true.mp hw i m)) hv ?_ R2 .nil ⟨Keep.of_same sm, fun _ => sm⟩ (fun e => nomatch e) ?_
  · intro Z' H' ρ' acc ds R3 f z kp _ hF
    have F3 := R3.free h0 hio
    have R4 := R3.unprot h0 hio
    have len := R1.len.symm.trans ((wipe_length _ _).symm.trans (R3.len.trans (wipeC_length _ _)))
    have R5 := R1.backed R4 len kp.1 z hv
    refine hF Z' H' R5 z kp.1 kp.2 _ (.inr ⟨p, acc, ds, rfl, rfl, F3.at_, f, F3.nz, h0, hio, fun j es ej sj => ?_⟩)
    have nj : j ∉ (ownSlots S scope).map (·.2) := fun m => by
      rw [backC_get ρ1 ρ' j len, if_pos m] at ej
      split at ej <;> cases ej
    refine F3.no j es ?_ (by rw [wipe_get _ _ _ nj]; exact sj)
    rw [wipeC_get, if_neg nj]
    rw [backC_get ρ1 ρ' j len, if_neg nj] at ej
    exact ej
  · cases e : lcS ((ownSlots S scope).map (·.2)) t.1 t.2 (evT M k) (ev M c) xs [] ρ1 with
    | ok ds ρ' => rw [e] at h1; exact h1
    | exc x ρ' => exact (lcS_nox e).elim
    | bad => rw [e] at h1; exact h1
/-! ### two clauses -/
theorem e_lcO {n : Nat} (ih : ∀ m, m ≤ n → EOk M L m) (G : Good S M C L X) (tk : L2.Takes X W) (hh : S.hot = false) {elt tg iter : Expr} {ifs : List Expr} {scope : Scope} {pos : Pos} {t : List Nat × Bool} {c : Ex} {k : Tx} {it : It} (hb : blkOk S scope = true)
    (ht : cTg (S.blk scope) tg = some t) (hc : cE n (S.blk scope) false elt = some c) (hk : cIf (cE n) n (S.blk scope) ifs = some k) (hi : cIter (cE n) S (quiet c && quietT k) (isTup tg) iter = some it) (hw : within t.1 (ownSlots S scope) = true) :
    PE X (.ListComp elt [⟨tg, iter, ifs, 0⟩] scope pos) (tO M C W S.io (.lc c t.1 t.2 it k ((ownSlots S scope).map (·.2)))) := by
  have calm := G.calm hh
  obtain ⟨b1, b2⟩ := blk_ok hb
  have gb := fun s H A cl fp => G.blk hh hb s H A cl fp
  have ihn := ih n (Nat.le_refl n)
  exact PE.weak (pe_lc calm (by rw [G.N]; exact G.nd) (iter_ok ihn G tk (fun e => tup_of e) hi) (own := ownSlots S scope) (by rw [G.N, G.sc]; exact blkOk_by b1)
    (fun s H A cl fp => tg_ok (gb s H A cl fp) calm ht) (fun s H A cl fp => ifs_ok ih (gb s H A cl fp) takesF hk) (fun s H A cl fp => ihn C _ false elt c hc _ WF (gb s H A cl fp) takesF) (cIter_set (fun es k p => cE_set) hi X.env)) (lc_weak b2 hw)

theorem wipe_sub {vs : List Nat} {σ : L2.St} : ∀ {us : List Nat}, (∀ i ∈ us, i ∈ vs) → wipe (wipe σ us) vs = wipe σ vs
  | [], _ => rfl
  | u :: us, h => by
    show wipe ((wipe σ us).set u none) vs = _
    rw [wipe_set (h u List.mem_cons_self), wipe_sub fun i m => h i (List.mem_cons_of_mem _ m)]
theorem wipeC_at {j : Nat} : ∀ {vs : List Nat} {ρ : En}, (wipeC ρ vs)[j]? = if j ∈ vs then (if j < ρ.length then some .no else none) else ρ[j]?
  | [], ρ => by simp [wipeC]
  | v :: vs, ρ => by
    show ((wipeC ρ vs).set v .no)[j]? = _
    rw [List.getElem?_set, wipeC_at (vs := vs), wipeC_length]
    by_cases h : v = j
    · subst h; simp
    · rw [if_neg h]
      by_cases h2 : j ∈ vs
      · simp [h2]
      · simp [h2, Ne.symm h]
theorem wipeC_sub {vs us : List Nat} {ρ : En} (h : ∀ i ∈ us, i ∈ vs) : wipeC (wipeC ρ us) vs = wipeC ρ vs := by
  apply List.ext_getElem?
  intro j
  rw [wipeC_at, wipeC_at, wipeC_length, wipeC_at]
  by_cases m : j ∈ vs
  · simp [m]
  · have : j ∉ us := fun z => m (h j z)
    simp [m, this]
theorem lc2S_nox {vs tg vs2 tg2 : List Nat} {one one2 : Bool} {c c2 : En → Rs Bool} {it2 : En → Rs (List D)} {e : En → Rs D} {x : Exn} {ρ' : En} : ∀ {xs acc : List D} {ρ : En}, lc2S vs tg one c vs2 tg2 one2 it2 c2 e xs acc ρ ≠ .exc x ρ'
  | [], acc, ρ, h => by cases h
  | d :: xs, acc, ρ, h => by
    replace h : (match bindTg tg one d (wipeC ρ vs) with
      | none => (Rs.bad : Rs (List D))
      | some ρ1 => (c ρ1).nox.bind fun b ρ2 => match b with
        | false => lc2S vs tg one c vs2 tg2 one2 it2 c2 e xs acc ρ2
        | true => (it2 ρ2).nox.bind fun ys ρ3 => (lcS vs2 tg2 one2 c2 e ys acc ρ3).bind fun acc2 ρ4 => lc2S vs tg one c vs2 tg2 one2 it2 c2 e xs acc2 ρ4) = .exc x ρ' := h
    split at h
    · cases h
    · rename_i ρ1 _
      cases hc : c ρ1 with
      | ok b ρ2 =>
        rw [hc, nox_ok, bind_ok] at h
        cases b with
        | false => exact lc2S_nox h
        | true =>
          replace h : ((it2 ρ2).nox.bind fun ys ρ3 => (lcS vs2 tg2 one2 c2 e ys acc ρ3).bind fun acc2 ρ4 => lc2S vs tg one c vs2 tg2 one2 it2 c2 e xs acc2 ρ4) = .exc x ρ' := h
          cases he : it2 ρ2 with
          | ok ys ρ3 =>
            rw [he, nox_ok, bind_ok] at h
            cases hl : lcS vs2 tg2 one2 c2 e ys acc ρ3 with
            | ok acc2 ρ4 => rw [hl, bind_ok] at h; exact lc2S_nox h
            | exc _ _ => exact lcS_nox hl
            | bad => rw [hl] at h; cases h
          | _ => rw [he] at h; cases h
      | _ => rw [hc] at h; cases h
theorem lc2_loop {B : Bs} {io rd : Bool} {p : Addr} {J : L2.It} {Z1 : Addr → Prop} {H1 Hs : Hp} {xs ds0 : List D} {acc0 : List V} {tg tg2 vs : List Nat} {one one2 : Bool} {c c2 : Tx} {it2 : It} {e : Ex} {σ : L2.St} {ρ0 : En} {Fin : Hp → Prop} {F : List D → En → Prop}
    (ob : BOk io B) (h0 : B.H0 p = none) (hio : B.io ≠ some p) (hJ : ItOk C rd Z1 H1 J xs) (hq : rd = true → quiet e = true ∧ quietT c = true ∧ quietT c2 = true ∧ quietI it2 = true) (hp : rd = true → H1 p = none) (hw : ∀ i ∈ tg, i ∈ vs) (hw2 : ∀ i ∈ tg2, i ∈ vs) (hv : B.io ≠ none → 0 ∉ vs)
    (hfin : ∀ Z' H' ρ' acc ds, Rel C (B.prot p (.lst acc)) Z' H' (wipe σ vs) (wipeC ρ' vs) → FzAll C H' Z' acc ds → (∀ a, Z1 a → Z' a) → Kp rd Z1 H1 H' → F ds ρ' → Fin H')
    (R0 : Rel C (B.prot p (.lst acc0)) Z1 Hs (wipe σ vs) (wipeC ρ0 vs)) (f0 : FzAll C Hs Z1 acc0 ds0) (k0 : Kp rd Z1 H1 Hs) (hok : Okr (lc2S vs tg one (evT M c) tg2 tg2 one2 (evI M it2) (evT M c2) (ev M e) xs ds0 ρ0) F) :
    ∃ Wm : Nat → Nat → Hp → Prop, (∃ m, Wm 0 m Hs) ∧ ∀ i m H, Wm i m H → (J.stop i H ∧ Fin H) ∨ (J.go i H ∧ ∃ Nx : Hp → Prop, (∀ H', Nx H' → ∃ m', m' < m ∧ Wm (i + 1) m' H') ∧ ∀ x H', J.yld i H x H' →
      tG C io tg one x (wipe σ vs) H' fun σ2 H2 => wipe σ2 vs = wipe σ vs ∧ tXT M C WF io c σ2 H2 fun b H3 => if b = true then
        tI M C WF io false it2 σ2 H3 fun J1 H4 => ∃ W1 : Nat → Nat → Hp → Prop, (∃ m, W1 0 m H4) ∧ ∀ j k H, W1 j k H → (J1.stop j H ∧ Nx H) ∨ (J1.go j H ∧ ∃ Nx1 : Hp → Prop, (∀ H', Nx1 H' → ∃ k', k' < k ∧ W1 (j + 1) k' H') ∧ ∀ x H', J1.yld j H x H' →
          tG C io tg2 one2 x (wipe σ2 tg2) H' fun σ3 H5 => wipe σ3 tg2 = wipe σ2 tg2 ∧ tXT M C WF io c2 σ3 H5 fun b H6 => if b = true then tX M C WF io false e σ3 H6 fun y H7 => ∃ acc, H7 p = some (.lst acc) ∧ acc.length < sizeLine ∧ Nx1 (upd H7 p (.lst (acc ++ [y]))) else Nx1 H6)
        else Nx H3) := by
  let Pv : Nat → Hp → Prop := fun i H => ∃ Z' ρ' acc ds, Rel C (B.prot p (.lst acc)) Z' H (wipe σ vs) (wipeC ρ' vs) ∧ FzAll C H Z' acc ds ∧ (∀ a, Z1 a → Z' a) ∧ Kp rd Z1 H1 H ∧ Okr (lc2S vs tg one (evT M c) tg2 tg2 one2 (evI M it2) (evT M c2) (ev M e) (xs.drop i) ds ρ') F
  refine ⟨fun i m H => m = xs.length - i ∧ i ≤ xs.length ∧ Pv i H, ⟨_, rfl, Nat.zero_le _, Z1, ρ0, acc0, ds0, R0, f0, fun _ m => m, k0, hok⟩, ?_⟩
  rintro i m H ⟨rfl, hi, Z', ρ', acc, ds, R, f, z, k, ok⟩
  by_cases lt : i < xs.length
  · obtain ⟨d, hd⟩ : ∃ d, xs[i]? = some d := ⟨_, List.getElem?_eq_getElem lt⟩
    have hdrop : xs.drop i = d :: xs.drop (i + 1) := by
      rw [List.drop_eq_getElem_cons lt]
      rw [List.getElem?_eq_getElem lt] at hd
      cases hd; rfl
    rw [hdrop] at ok
    obtain ⟨go, yl⟩ := (hJ H k).1 i d hd
    refine .inr ⟨go, Pv (i + 1), fun H' q => ⟨xs.length - (i + 1), by omega, rfl, lt, q⟩, fun x H' y => ?_⟩
    obtain ⟨sm, fx⟩ := yl x H' y
    replace ok : Okr (match bindTg tg one d (wipeC ρ' vs) with
      | none => .bad
      | some ρ1 => (evT M c ρ1).nox.bind fun b ρ2 => match b with
        | false => lc2S vs tg one (evT M c) tg2 tg2 one2 (evI M it2) (evT M c2) (ev M e) (xs.drop (i + 1)) ds ρ2
        | true => (evI M it2 ρ2).nox.bind fun ys ρ3 => (lcS tg2 tg2 one2 (evT M c2) (ev M e) ys ds ρ3).bind fun acc2 ρ4 => lc2S vs tg one (evT M c) tg2 tg2 one2 (evI M it2) (evT M c2) (ev M e) (xs.drop (i + 1)) acc2 ρ4) F := ok
    cases hb : bindTg tg one d (wipeC ρ' vs) with
    | none => rw [hb] at ok; exact ok.elim
    | some ρ1 =>
      rw [hb] at ok
      replace ok : Okr ((evT M c ρ1).nox.bind fun b ρ2 => match b with
        | false => lc2S vs tg one (evT M c) tg2 tg2 one2 (evI M it2) (evT M c2) (ev M e) (xs.drop (i + 1)) ds ρ2
        | true => (evI M it2 ρ2).nox.bind fun ys ρ3 => (lcS tg2 tg2 one2 (evT M c2) (ev M e) ys ds ρ3).bind fun acc2 ρ4 => lc2S vs tg one (evT M c) tg2 tg2 one2 (evI M it2) (evT M c2) (ev M e) (xs.drop (i + 1)) acc2 ρ4) F := ok
      have kx : Kp rd Z1 H1 H' := ⟨k.1.trans (fun _ m => m) (Keep.of_same sm), fun e => (k.2 e).trans sm⟩
      refine ⟨B.prot p (.lst acc), Z', wipeC ρ' vs, d, ρ1, ob, R.grow sm, fx Z' z, hb, fun σ2 R2 w2 => ⟨(w2 vs hw).trans wipe_wipe, ?_⟩⟩
      have w3 : wipe σ2 vs = wipe σ vs := (w2 vs hw).trans wipe_wipe
      refine ⟨B.prot p (.lst acc), Z', ρ1, ob, R2, ?_⟩
      cases hc : evT M c ρ1 with
      | exc _ _ => rw [hc] at ok; exact ok.elim
      | bad => rw [hc] at ok; exact ok.elim
      | ok b ρ2 =>
        rw [hc, nox_ok, bind_ok] at ok
        intro Z2 H2 R3 z2 k2 s2
        have f2 : FzAll C H2 Z2 acc ds := (f.keep (Keep.of_same sm) fun _ m => m).keep k2 z2
        have kp2 : Kp rd Z1 H1 H2 := ⟨kx.1.trans z k2, fun e => (kx.2 e).trans (s2 (hq e).2.1)⟩
        cases b with
        | false =>
          show Pv (i + 1) H2
          have R4 := R3.wiped hv
          rw [w3] at R4
          exact ⟨Z2, ρ2, acc, ds, R4, f2, fun a m => z2 a (z a m), kp2, ok⟩
        | true =>
          show tI M C WF io false it2 σ2 H2 _
          refine ⟨B.prot p (.lst acc), Z2, ρ2, ob, R3, ?_⟩
          replace ok : Okr ((evI M it2 ρ2).nox.bind fun ys ρ3 => (lcS tg2 tg2 one2 (evT M c2) (ev M e) ys ds ρ3).bind fun acc2 ρ4 => lc2S vs tg one (evT M c) tg2 tg2 one2 (evI M it2) (evT M c2) (ev M e) (xs.drop (i + 1)) acc2 ρ4) F := ok
          cases he : evI M it2 ρ2 with
          | exc _ _ => rw [he] at ok; exact ok.elim
          | bad => rw [he] at ok; exact ok.elim
          | ok ys ρ3 =>
            rw [he, nox_ok, bind_ok] at ok
            intro Z3 H3 R5 z3 k3 s3 J1 hJ1
            have f3 := f2.keep k3 z3
            have kp3 : Kp rd Z1 H1 H3 := ⟨kp2.1.trans (fun a m => z2 a (z a m)) k3, fun e => (kp2.2 e).trans (s3 (hq e).2.2.2)⟩
            have hv2 : B.io ≠ none → 0 ∉ tg2 := fun e m => hv e (hw2 0 m)
            have hfr := R5.free h0 hio
            refine lc_loop (F := fun acc2 ρ4 => Okr (lc2S vs tg one (evT M c) tg2 tg2 one2 (evI M it2) (evT M c2) (ev M e) (xs.drop (i + 1)) acc2 ρ4) F) (rd := false) (rs := rd) (Ha := H3) (Z1 := Z3) (H1 := H3) ob h0 hio hJ1 (fun e => nomatch e) (fun e => ⟨(hq e).1, (hq e).2.2.1⟩) (fun e => nomatch e) (fun i m => m) hv2 ?_ (R5.wiped hv2) f3 Kp.refl (fun _ _ _ _ h => h) ?_
            · intro Z4 H4 ρ4 acc4 ds4 R6 f4 z4 kp4 sb4 ok4
              have R7 := R6.wiped hv
              rw [wipe_sub hw2, w3, wipeC_sub hw2] at R7
              refine ⟨Z4, ρ4, acc4, ds4, R7, f4, fun a m => z4 a (z3 a (z2 a (z a m))), ⟨kp3.1.trans (fun a m => z3 a (z2 a (z a m))) kp4.1, fun e a u ha => ?_⟩, ok4⟩
              have n : a ≠ p := fun q => by rw [q, hp e] at ha; cases ha
              exact sb4 e a u n (kp3.2 e a u ha)
            · cases hl : lcS tg2 tg2 one2 (evT M c2) (ev M e) ys ds ρ3 with
              | ok acc2 ρ4 => rw [hl, bind_ok] at ok; exact ok
              | exc _ _ => exact (lcS_nox hl).elim
              | bad => rw [hl] at ok; exact ok.elim
  · have hi : i = xs.length := by omega
    subst hi
    rw [List.drop_length] at ok
    exact .inl ⟨(hJ H k).2, hfin Z' H ρ' acc ds R f z k ok⟩
theorem lc2_weak {scope : Scope} {t t2 : List Nat × Bool} {c : Ex} {k k2 : Tx} {it it2 : It} (b2 : S.io = true → 0 ∉ (ownSlots S scope).map (·.2)) (w1 : ∀ i ∈ t.1, i ∈ (ownSlots S scope).map (·.2)) (w2 : ∀ i ∈ t2.1, i ∈ (ownSlots S scope).map (·.2)) (σ : L2.St) (H : Hp) (Q : VK)
    (q : tO M C W S.io (.lc2 c t.1 t.2 it k t2.1 t2.2 it2 k2 ((ownSlots S scope).map (·.2)) t2.1) σ H Q) : tLc2 (tI M C W S.io (quiet c && quietT k && quietT k2 && quietI it2) it) (tG C S.io t.1 t.2) (tXT M C WF S.io k) (tI M C WF S.io false it2) (tG C S.io t2.1 t2.2) (tXT M C WF S.io k2) (tX M C WF S.io false c) ((ownSlots S scope).map (·.2)) t2.1 σ H Q := by
  obtain ⟨B, Z, ρ, ob, R, q⟩ := q
  have q : Lands C W σ B Z H (quiet c && quietI it && quietT k && quietI it2 && quietT k2) ((evI M it ρ).bind fun xs ρ => (lc2S ((ownSlots S scope).map (·.2)) t.1 t.2 (evT M k) t2.1 t2.1 t2.2 (evI M it2) (evT M k2) (ev M c) xs [] ρ).bind fun ds ρ' => .ok (.lst ds) (backC ρ ρ' ((ownSlots S scope).map (·.2))))
    (fun d Z' H' ρ' => ∀ v, Ow C B σ ρ' H' Z' v d → Q v H') := q
  refine ⟨B, Z, ρ, ob, R, ?_⟩
  refine (Lands.bind (q1 := quietI it) (q2 := quiet c && quietT k && quietT k2 && quietI it2) q fun q => by simp only [Bool.and_eq_true] at q ⊢; exact ⟨q.1.1.1.2, ⟨⟨q.1.1.1.1, q.1.1.2⟩, q.2⟩, q.1.2⟩).imp fun xs Z1 H1 ρ1 R1 z1 k1 s1 h1 J hJ p hp => ?_
  have h0 : B.H0 p = none := R1.gone hp
  have hio : B.io ≠ some p := fun e => by
    obtain ⟨q1, ds, q2⟩ := R1.io0 p e
    exact (R1.ofNone hp).2 0 ds q2 q1
  have hv : B.io ≠ none → 0 ∉ (ownSlots S scope).map (·.2) := fun e => b2 (ob e)
  have sm : Same H1 (upd H1 p (.lst [])) := new_same hp
  have R2 : Rel C (B.prot p (.lst [])) Z1 (upd H1 p (.lst [])) (wipe σ ((ownSlots S scope).map (·.2))) (wipeC ρ1 ((ownSlots S scope).map (·.2))) := by
    refine ((R1.grow sm).prot upd_same (fun z => ?_) ((R1.ofNone hp).2)).wiped hv
    obtain ⟨o, e⟩ := R1.ztr p z
    rw [hp] at e; cases e
  refine lc2_loop (F := fun ds ρ' => Lands C W σ B Z1 H1 (quiet c && quietT k && quietT k2 && quietI it2) (.ok (.lst ds) (backC ρ1 ρ' ((ownSlots S scope).map (·.2)))) (fun d Z' H' ρ' => ∀ v, Ow C B σ ρ' H' Z' v d → Q v H'))
    (rd := quiet c && quietT k && quietT k2 && quietI it2) ob h0 hio hJ (fun e => by simp only [Bool.and_eq_true] at e; exact ⟨e.1.1.1, e.1.1.2, e.1.2, e.2⟩) (fun _ => hp) w1 w2 hv ?_ R2 .nil ⟨Keep.of_same sm, fun _ => sm⟩ ?_
  · intro Z' H' ρ' acc ds R3 f z kp hF
    have F3 := R3.free h0 hio
    have R4 := R3.unprot h0 hio
    have len := R1.len.symm.trans ((wipe_length _ _).symm.trans (R3.len.trans (wipeC_length _ _)))
    have R5 := R1.backed R4 len kp.1 z hv
    refine hF Z' H' R5 z kp.1 kp.2 _ (.inr ⟨p, acc, ds, rfl, rfl, F3.at_, f, F3.nz, h0, hio, fun j es ej sj => ?_⟩)
    have nj : j ∉ (ownSlots S scope).map (·.2) := fun m => by
      rw [backC_get ρ1 ρ' j len, if_pos m] at ej
      split at ej <;> cases ej
    refine F3.no j es ?_ (by rw [wipe_get _ _ _ nj]; exact sj)
    rw [wipeC_get, if_neg nj]
    rw [backC_get ρ1 ρ' j len, if_neg nj] at ej
    exact ej
  · cases e : lc2S ((ownSlots S scope).map (·.2)) t.1 t.2 (evT M k) t2.1 t2.1 t2.2 (evI M it2) (evT M k2) (ev M c) xs [] ρ1 with
    | ok ds ρ' => rw [e] at h1; exact h1
    | exc x ρ' => exact (lc2S_nox e).elim
    | bad => rw [e] at h1; exact h1
theorem e_lc2O {n : Nat} (ih : ∀ m, m ≤ n → EOk M L m) (G : Good S M C L X) (tk : L2.Takes X W) (hh : S.hot = false) {elt tg iter tg2 iter2 : Expr} {ifs ifs2 : List Expr} {scope : Scope} {pos : Pos} {t t2 : List Nat × Bool} {c : Ex} {k k2 : Tx} {it it2 : It} (hb : blkOk S scope = true)
    (ht : cTg (S.blk scope) tg = some t) (ht2 : cTg (S.blk scope) tg2 = some t2) (hc : cE n (S.blk scope) false elt = some c) (hk : cIf (cE n) n (S.blk scope) ifs = some k) (hk2 : cIf (cE n) n (S.blk scope) ifs2 = some k2)
    (hi2 : cIter (cE n) (S.blk scope) false (isTup tg2) iter2 = some it2) (hi : cIter (cE n) S (quiet c && quietT k && quietT k2 && quietI it2) (isTup tg) iter = some it) (hw : within t.1 (ownSlots S scope) = true) (hw2 : within t2.1 (ownSlots S scope) = true) :
    PE X (.ListComp elt [⟨tg, iter, ifs, 0⟩, ⟨tg2, iter2, ifs2, 0⟩] scope pos) (tO M C W S.io (.lc2 c t.1 t.2 it k t2.1 t2.2 it2 k2 ((ownSlots S scope).map (·.2)) t2.1)) := by
  have calm := G.calm hh
  obtain ⟨b1, b2⟩ := blk_ok hb
  have gb := fun s H A cl fp => G.blk hh hb s H A cl fp
  have ihn := ih n (Nat.le_refl n)
  have w1 : ∀ i ∈ t.1, i ∈ (ownSlots S scope).map (·.2) := fun i m => List.contains_iff_mem.mp (List.all_eq_true.mp hw i m)
  have w2 : ∀ i ∈ t2.1, i ∈ (ownSlots S scope).map (·.2) := fun i m => List.contains_iff_mem.mp (List.all_eq_true.mp hw2 i m)
  exact PE.weak (pe_lc2 calm (by rw [G.N]; exact G.nd) (iter_ok ihn G tk (fun e => tup_of e) hi) (own := ownSlots S scope) (by rw [G.N, G.sc]; exact blkOk_by b1) w2
    (fun s H A cl fp => tg_ok (gb s H A cl fp) calm ht) (fun s H A cl fp => ifs_ok ih (gb s H A cl fp) takesF hk) (fun s H A cl fp => iter_ok ihn (gb s H A cl fp) takesF (fun e => tup_of e) hi2)
    (fun s H A cl fp => tg_ok (gb s H A cl fp) calm ht2) (fun s H A cl fp => ifs_ok ih (gb s H A cl fp) takesF hk2) (fun s H A cl fp => ihn C _ false elt c hc _ WF (gb s H A cl fp) takesF)
    (cIter_set (fun es k p => cE_set) hi X.env) (cIter_set (fun es k p => cE_set) hi2)) (lc2_weak b2 w1 w2)

end
end PF

set_option Elab.async false
set_option linter.all false
set_option maxRecDepth 100000
set_option maxHeartbeats 4000000
/-! PF14: every expression that the compiler takes. -/
namespace PF
open PySem PySem.Spec PyProof.Rows L2
theorem expr_ok (M : Mo) (L : Nat) : ∀ n, EOk M L n := by
  intro n
  induction n using Nat.strongRecOn with
  | _ n ih =>
    cases n with
    | zero => intro C S rd e c h; cases h
    | succ n =>
      have ihm : ∀ m, m ≤ n → EOk M L m := fun m hm => ih m (Nat.lt_succ_of_le hm)
      have ihn := ihm n (Nat.le_refl n)
      intro C S rd e c h X W G tk
      have h0 := h
      unfold cE at h
      split at h
      · obtain ⟨d, hd, rfl⟩ := Option.map_eq_some_iff.mp h
        exact e_const hd
      · exact e_name G h0
      · obtain ⟨o, ho, h⟩ := Option.bind_eq_some_iff.mp h
        obtain ⟨es, he, rfl⟩ := Option.map_eq_some_iff.mp h
        exact e_bin ihn G tk ho he
      · obtain ⟨es, he, rfl⟩ := Option.map_eq_some_iff.mp h
        exact e_neg ihn G tk he
      · obtain ⟨x, hx, rfl⟩ := Option.map_eq_some_iff.mp h
        exact e_not ihn G tk hx
      · exact PE.weak (orand ihn G tk h) fun σ H Q q => tX.rd q
      · obtain ⟨o, ho, h⟩ := Option.bind_eq_some_iff.mp h
        obtain ⟨es, he, rfl⟩ := Option.map_eq_some_iff.mp h
        exact e_cmp ihn G tk ho he
      · obtain ⟨o, ho, h⟩ := Option.bind_eq_some_iff.mp h
        obtain ⟨o', ho', h⟩ := Option.bind_eq_some_iff.mp h
        obtain ⟨x, hx, h⟩ := Option.bind_eq_some_iff.mp h
        obtain ⟨y, hy, h⟩ := Option.bind_eq_some_iff.mp h
        obtain ⟨z, hz, h⟩ := Option.bind_eq_some_iff.mp h
        split at h
        · rename_i hq; cases h
          exact e_chain ihn G tk ho ho' hx hy hz hq
        · cases h
      · obtain ⟨t, ht, h⟩ := Option.bind_eq_some_iff.mp h
        obtain ⟨x, hx, h⟩ := Option.bind_eq_some_iff.mp h
        obtain ⟨y, hy, rfl⟩ := Option.map_eq_some_iff.mp h
        exact e_ifExp ihm G tk ht hx hy
      · obtain ⟨r, hr, rfl⟩ := Option.map_eq_some_iff.mp h
        exact e_tup ihn G tk hr
      · obtain ⟨r, hr, rfl⟩ := Option.map_eq_some_iff.mp h
        exact e_lst ihn G tk hr
      · obtain ⟨r, hr, rfl⟩ := Option.map_eq_some_iff.mp h
        exact e_rev ihn G tk hr
      · obtain ⟨x, hx, h⟩ := Option.bind_eq_some_iff.mp h
        obtain ⟨y, hy, h⟩ := Option.bind_eq_some_iff.mp h
        obtain ⟨z, hz, h⟩ := Option.bind_eq_some_iff.mp h
        split at h
        · rename_i hq; cases h
          exact e_sl2 ihn G tk hx hy hz hq
        · cases h
      · rename_i a lo hi _ _ hne
        obtain ⟨r, hr, rfl⟩ := Option.map_eq_some_iff.mp h
        refine e_slice ihn G tk hr ?_
        cases lo with
        | none => exact .inl rfl
        | some l =>
          cases hi with
          | none => exact .inr rfl
          | some u => exact (hne l u rfl rfl).elim
      · obtain ⟨r, hr, rfl⟩ := Option.map_eq_some_iff.mp h
        exact e_ix ihn G tk hr
      · rename_i x p es pos
        split at h
        · rename_i hx
          split at h
          · rename_i hi
            subst hi
            split at h
            · cases h
            · rename_i hh
              split at h
              · obtain ⟨t, ht, h⟩ := Option.bind_eq_some_iff.mp h
                obtain ⟨r, hr, rfl⟩ := Option.map_eq_some_iff.mp h
                exact e_isinst ihn G tk (Bool.eq_false_iff.mpr hh) hx ht hr
              · cases h
          · obtain ⟨o, ho, h⟩ := Option.bind_eq_some_iff.mp h
            obtain ⟨r, hr, rfl⟩ := Option.map_eq_some_iff.mp h
            cases es with
            | nil =>
              exfalso
              unfold bltOp at ho
              cases hS : S.hot <;> rw [hS] at ho <;> cases ho
            | cons e es => exact e_blt ihn G tk hx ho hr
        · split at h
          · rename_i hg
            rw [Bool.and_eq_true, Bool.not_eq_true'] at hg
            obtain ⟨hg, hh⟩ := hg
            split at h
            · rename_i f hf
              split at h
              · rename_i ha
                split at h
                · obtain ⟨r, hr, h⟩ := Option.bind_eq_some_iff.mp h
                  split at h
                  · rename_i hq
                    cases h
                    exact e_callB ihn G tk hh hg hf ha hr hq
                  · cases h
                · obtain ⟨r, hr, rfl⟩ := Option.map_eq_some_iff.mp h
                  exact e_callV ihn G tk hh hg hf ha hr
              · cases h
            · rename_i f hf
              split at h
              · rename_i ha
                split at h
                · obtain ⟨i, hi, h⟩ := Option.bind_eq_some_iff.mp h
                  obtain ⟨r, hr, rfl⟩ := Option.map_eq_some_iff.mp h
                  exact e_callM ihn G tk hh hg hf ha hi hr
                · cases h
              · cases h
            · cases h
          · cases h
      · rename_i a m apos es cpos
        split at h
        · rename_i hl
          rw [Bool.and_eq_true] at hl
          split at h
          · rename_i hm
            subst hm
            split at h
            · obtain ⟨i, hi, h⟩ := Option.bind_eq_some_iff.mp h
              split at h
              · cases h; exact e_pop G hi hl.1
              · obtain ⟨k, hk, rfl⟩ := Option.map_eq_some_iff.mp h
                exact e_popAt ihn G tk hi hl.1 hk
              · cases h
            · cases h
          · split at h
            · obtain ⟨o, ho, h⟩ := Option.bind_eq_some_iff.mp h
              obtain ⟨r, hr, h⟩ := Option.bind_eq_some_iff.mp h
              exact e_meth ihn G tk hl.1 hl.2 ho hr h
            · cases h
        · cases h
      · split at h
        · cases h
        · rename_i hb
          simp only [Bool.or_eq_true, Bool.not_eq_true', not_or, Bool.not_eq_true, Bool.not_eq_false] at hb
          obtain ⟨t, ht, h⟩ := Option.bind_eq_some_iff.mp h
          obtain ⟨c', hc, h⟩ := Option.bind_eq_some_iff.mp h
          obtain ⟨k, hk, h⟩ := Option.bind_eq_some_iff.mp h
          obtain ⟨it, hi, h⟩ := Option.bind_eq_some_iff.mp h
          split at h
          · rename_i hw
            cases h
            exact PE.own (e_lcO ihm G tk hb.1 hb.2 ht hc hk hi hw)
          · cases h
      · split at h
        · cases h
        · rename_i hb
          simp only [Bool.or_eq_true, Bool.not_eq_true', not_or, Bool.not_eq_true, Bool.not_eq_false] at hb
          obtain ⟨t, ht, h⟩ := Option.bind_eq_some_iff.mp h
          obtain ⟨t2, ht2, h⟩ := Option.bind_eq_some_iff.mp h
          obtain ⟨c', hc, h⟩ := Option.bind_eq_some_iff.mp h
          obtain ⟨k, hk, h⟩ := Option.bind_eq_some_iff.mp h
          obtain ⟨k2, hk2, h⟩ := Option.bind_eq_some_iff.mp h
          obtain ⟨it2, hi2, h⟩ := Option.bind_eq_some_iff.mp h
          obtain ⟨it, hi, h⟩ := Option.bind_eq_some_iff.mp h
          split at h
          · rename_i hw
            rw [Bool.and_eq_true] at hw
            cases h
            exact PE.own (e_lc2O ihm G tk hb.1 hb.2 ht ht2 hc hk hk2 hi2 hi hw.1 hw.2)
          · cases h
      · cases h
end PF

set_option Elab.async false
set_option linter.all false
set_option maxRecDepth 100000
set_option maxHeartbeats 4000000
/-! PF15: expressions that make a list of their own. -/
namespace PF
open PySem PySem.Spec PyProof.Rows L2
section
variable {S : SC} {M : Mo} {C : Cn} {L : Nat} {X : Cx} {W : WX}
theorem Rel.noio {B : Bs} {Z : Addr → Prop} {H : Hp} {σ : L2.St} {ρ : En} (R : Rel C B Z H σ ρ) {p : Addr} (h : H p = none) : B.io ≠ some p := fun e => by
  obtain ⟨q1, ds, q2⟩ := R.io0 p e
  exact (R.ofNone h).2 0 ds q2 q1
theorem Rel.new {B : Bs} {Z : Addr → Prop} {H : Hp} {σ : L2.St} {ρ : En} (R : Rel C B Z H σ ρ) {p : Addr} (h : H p = none) : ¬ Z p := fun z => by
  obtain ⟨o, e⟩ := R.ztr p z
  rw [h] at e; cases e
theorem out_endO {B : Bs} {Z : Addr → Prop} {H H' : Hp} {σ : L2.St} {ρ : En} {d : D} {v : V} (R : Rel C B Z H σ ρ) (o : Out true C H Z d v H') : ∃ Z', Rel C B Z' H' σ ρ ∧ (∀ a, Z a → Z' a) ∧ Keep Z H H' ∧ Same H H' ∧ Ow C B σ ρ H' Z' v d := by
  cases o with
  | old h n => exact ⟨Z, R, fun _ m => m, Keep.refl _ _, Same.refl H, .inl ⟨h, n rfl⟩⟩
  | tup hp h =>
    rename_i p xs ds
    have s : Same H (upd H p (.tup xs)) := new_same hp
    exact ⟨Z, R.grow s, fun _ m => m, Keep.of_same s, s, .inl ⟨.tup (SqT.of upd_same) (h.keep (Keep.of_same s) fun _ m => m), fun _ e => nomatch e⟩⟩
  | lst hp h =>
    rename_i p xs ds
    have s : Same H (upd H p (.lst xs)) := new_same hp
    exact ⟨Z, R.grow s, fun _ m => m, Keep.of_same s, s, .inr ⟨p, xs, ds, rfl, rfl, upd_same, h.keep (Keep.of_same s) (fun _ m => m), R.new hp, R.gone hp, R.noio hp, (R.ofNone hp).2⟩⟩
theorem prim_coreO {io m : Bool} {o : Op} {es : Exs} {σ : L2.St} {H : Hp} {Q : VK} {k : List V → Hp → Prop} (h : tO M C W io (.prim o es) σ H Q) (hm : m = true → quiets es = true)
    (hk : ∀ vs H1, rP true C o vs H1 Q → k vs H1) : seqT (tes M C W io m es) σ H k := by
  obtain ⟨B, Z, ρ, ob, R, h⟩ := h
  refine seq_ok ob es R hm ?_
  refine (Lands.bind (f := fun ds ρ => rOf (prim o ds) ρ) (q1 := quiets es) (q2 := true) h fun q => ⟨q, rfl⟩).imp fun ds Z1 H1 ρ1 R1 z1 k1 s1 h1 vs hvs => ?_
  cases e : prim o ds with
  | none => rw [e] at h1; exact h1.elim
  | some d =>
    rw [e] at h1
    refine hk _ _ ⟨Z1, ds, d, hvs.rv, e, fun v H' ho => ?_⟩
    obtain ⟨Z2, R2, z2, k2, s2, f2⟩ := out_endO R1 ho
    exact h1 Z2 H' R2 z2 k2 (fun _ => s2) v f2
theorem e_binO {n : Nat} (ih : EOk M L n) (G : Good S M C L X) (tk : L2.Takes X W) {a b : Expr} {op : Operator} {pos : Pos} {o : Op} {es : Exs} (ho : binOp op = some o) (h : cArgs (cE n S) [a, b] = some es) :
    PE X (.BinOp a op b pos) (tO M C W S.io (.prim o es)) := by
  obtain ⟨m, h1, hm⟩ := cArgs_ok h
  obtain ⟨ca, cb, ha, hb, rfl⟩ := cL_two h1
  exact PE.weak (pe_op (bin_ok G ho) (ih C S m a ca ha X W G tk) (ih C S m b cb hb X W G tk)) fun σ H Q q => prim_coreO q hm (fun _ _ q => q)
theorem e_lstO {n : Nat} (ih : EOk M L n) (G : Good S M C L X) (tk : L2.Takes X W) {es : List Expr} {pos : Pos} {r : Exs} (h : cL (cE n S) false es = some r) :
    PE X (.List es pos) (tO M C W S.io (.prim .lst r)) := by
  refine PE.weak (pe_lst (args_ok ih G tk h)) fun σ H Q q => ?_
  obtain ⟨B, Z, ρ, ob, R, q⟩ := q
  refine seq_ok ob r R (fun q => nomatch q) ?_
  refine (Lands.bind (f := fun ds ρ => rOf (prim .lst ds) ρ) (q1 := quiets r) (q2 := true) q fun q => ⟨q, rfl⟩).imp fun ds Z1 H1 ρ1 R1 z1 k1 s1 h1 vs hvs => ?_
  have hvs := hvs.fz
  have e : prim .lst ds = if ds.length ≤ sizeLine then some (.lst ds) else none := rfl
  rw [e] at h1
  split at h1
  · rename_i hl
    refine ⟨by rw [hvs.length]; exact hl, fun p hp => ?_⟩
    obtain ⟨Z2, R2, z2, k2, s2, f2⟩ := out_endO R1 (.lst hp hvs : Out true C H1 Z1 _ _ _)
    exact h1 Z2 _ R2 z2 k2 (fun _ => s2) _ f2
  · exact h1.elim
theorem e_revO {n : Nat} (ih : EOk M L n) (G : Good S M C L X) (tk : L2.Takes X W) {a : Expr} {k : Nat} {p1 p2 p3 pos : Pos} {es : Exs} (h : cArgs (cE n S) [a] = some es) :
    PE X (.Subscript a (.Slice none none (some (.UnaryOp .USub (.Constant (.int 1) k p1) p2)) p3) pos) (tO M C W S.io (.prim .rev es)) := by
  obtain ⟨m, h1, hm⟩ := cArgs_ok h
  obtain ⟨ca, ha, rfl⟩ := cL_one h1
  refine PE.weak (pe_revL (ih C S m a ca ha X W G tk)) fun σ H Q q => prim_coreO (k := fun vs H1 => match vs with
    | [x] => ∃ b xs, x = .ref b ∧ SqL X.K H1 b xs ∧ ∀ p, H1 p = none → Q (.ref p) (upd H1 p (.lst xs.reverse))
    | _ => True) q hm fun vs H1 hh => ?_
  obtain ⟨Z, x, d1, d, rfl, x1, h2, q'⟩ := hh.one (p := pRev) rfl (fun ds d h => by unfold pRev at h; split at h <;> first | exact ⟨_, rfl⟩ | cases h)
  unfold pRev at h2
  split at h2
  · rename_i a e; cases e; cases h2
    obtain ⟨p, ys, rfl, p1, p2⟩ := Rv.lst x1
    exact ⟨p, ys, rfl, SqL.of p1, fun z hz => q' _ _ (.lst hz p2.rev)⟩
  · cases h2
theorem e_sliceO {n : Nat} (ih : EOk M L n) (G : Good S M C L X) (tk : L2.Takes X W) {a : Expr} {lo hi : Option Expr} {p2 pos : Pos} {es : Exs} (h : cArgs (cE n S) (a :: (lo.toList ++ hi.toList)) = some es) (h0 : lo = none ∨ hi = none) :
    PE X (.Subscript a (.Slice lo hi none p2) pos) (tO M C W S.io (.prim (.slice lo.isSome hi.isSome) es)) := by
  obtain ⟨m, h1, hm⟩ := cArgs_ok h
  obtain ⟨ca, r, ha, h2, rfl⟩ := cL_cons h1
  have ia := ih C S m a ca ha X W G tk
  cases lo with
  | none =>
    cases hi with
    | none =>
      cases h2
      refine PE.weak (pe_slice (slr G.K) ia po_none po_none) fun σ H Q q => prim_coreO (k := fun vs H1 => match vs with
        | [x] => rSlP C x none none H1 Q
        | _ => True) q hm fun vs H1 hh => ?_
      obtain ⟨Z, ds, d, hr, hp, q'⟩ := hh
      obtain ⟨x, l, u, hs, e1, e2, rfl⟩ := sliceD_of (lo := false) (hi := false) hp
      cases l <;> cases u <;> first
        | (cases e1; done)
        | (cases e2; done)
        | skip
      have hl := hr.length
      match vs, hl, hr with
      | [v], _, hr =>
        obtain ⟨d1, hd, x1⟩ := hr.one
        cases hd
        exact ⟨Z, x, d, x1, hs, q'⟩
    | some u =>
      obtain ⟨cu, hu, rfl⟩ := cL_one h2
      refine PE.weak (pe_slice (slr G.K) ia po_none (po_some (ih C S m u cu hu X W G tk))) fun σ H Q q => prim_coreO (k := fun vs H1 => match vs with
        | [x, y] => ∃ i, y = .int i ∧ rSlP C x none (some i) H1 Q
        | _ => True) q hm fun vs H1 hh => ?_
      obtain ⟨Z, ds, d, hr, hp, q'⟩ := hh
      obtain ⟨x, l, u, hs, e1, e2, rfl⟩ := sliceD_of (lo := false) (hi := true) hp
      cases l <;> cases u <;> first
        | (cases e1; done)
        | (cases e2; done)
        | skip
      rename_i i
      have hl := hr.length
      match vs, hl, hr with
      | [v, w], _, hr =>
        obtain ⟨d1, d2, hd, x1, x2⟩ := hr.two
        cases hd
        exact ⟨i, Rv.int x2, Z, x, d, x1, hs, q'⟩
  | some l =>
    cases hi with
    | none =>
      obtain ⟨cl, hl, rfl⟩ := cL_one h2
      refine PE.weak (pe_slice (slr G.K) ia (po_some (ih C S m l cl hl X W G tk)) po_none) fun σ H Q q => prim_coreO (k := fun vs H1 => match vs with
        | [x, y] => ∃ i, y = .int i ∧ rSlP C x (some i) none H1 Q
        | _ => True) q hm fun vs H1 hh => ?_
      obtain ⟨Z, ds, d, hr, hp, q'⟩ := hh
      obtain ⟨x, l, u, hs, e1, e2, rfl⟩ := sliceD_of (lo := true) (hi := false) hp
      cases l <;> cases u <;> first
        | (cases e1; done)
        | (cases e2; done)
        | skip
      rename_i i
      have hl := hr.length
      match vs, hl, hr with
      | [v, w], _, hr =>
        obtain ⟨d1, d2, hd, x1, x2⟩ := hr.two
        cases hd
        exact ⟨i, Rv.int x2, Z, x, d, x1, hs, q'⟩
    | some u =>
      rcases h0 with h0 | h0 <;> cases h0
theorem e_sl2O {n : Nat} (ih : EOk M L n) (G : Good S M C L X) (tk : L2.Takes X W) {a l u : Expr} {p2 pos : Pos} {x y z : Ex} (ha : cE n S true a = some x) (hl : cE n S true l = some y) (hu : cE n S true u = some z)
    (hq : (quiet x && quiet y && quiet z) = true) : PE X (.Subscript a (.Slice (some l) (some u) none p2) pos) (tO M C W S.io (.sl2 x y z)) := by
  rw [Bool.and_eq_true, Bool.and_eq_true] at hq
  refine PE.weak (pe_slice (slr G.K) (ih C S true a x ha X W G tk) (po_some (ih C S true l y hl X W G tk)) (po_some (ih C S true u z hu X W G tk))) fun σ H Q q => ?_
  obtain ⟨B, Z, ρ, ob, R, q⟩ := q
  have q : Lands C W σ B Z H true ((ev M x ρ).bind fun d ρ => (ev M y ρ).bind fun e ρ => match e with
    | .int i => (ev M z ρ).bind fun f ρ => (match f with
      | .int j => rOf (sliceD d (some i) (some j)) ρ
      | _ => .bad)
    | _ => .bad) (fun d Z' H' ρ' => ∀ v, Ow C B σ ρ' H' Z' v d → Q v H') := by
      have e : quiet (.sl2 x y z) = true := by
        show (quiet x && quiet y && quiet z) = true
        rw [hq.1.1, hq.1.2, hq.2]; rfl
      rw [e] at q
      exact q
  refine ⟨B, Z, ρ, ob, R, ?_⟩
  rw [hq.1.1]
  refine (Lands.bind (q1 := true) (q2 := true) q fun _ => ⟨rfl, rfl⟩).imp fun d Z1 H1 ρ1 R1 z1 k1 s1 h1 v hv => ?_
  refine ⟨B, Z1, ρ1, ob, R1, ?_⟩
  rw [hq.1.2]
  refine (Lands.bind (q1 := true) (q2 := true) h1 fun _ => ⟨rfl, rfl⟩).imp fun e Z2 H2 ρ2 R2 z2 k2 s2 h2 w hw => ?_
  cases e with
  | int i =>
    refine ⟨i, Rv.int hw.rv, B, Z2, ρ2, ob, R2, ?_⟩
    rw [hq.2]
    refine (Lands.bind (q1 := true) (q2 := true) h2 fun _ => ⟨rfl, rfl⟩).imp fun f Z3 H3 ρ3 R3 z3 k3 s3 h3 t ht => ?_
    cases f with
    | int j =>
      refine ⟨j, Rv.int ht.rv, ?_⟩
      replace h3 : Lands C W σ B Z3 H3 true (rOf (sliceD d (some i) (some j)) ρ3) (fun d Z' H' ρ' => ∀ v, Ow C B σ ρ' H' Z' v d → Q v H') := h3
      cases e : sliceD d (some i) (some j) with
      | none => rw [e] at h3; exact h3.elim
      | some r =>
        rw [e] at h3
        refine ⟨Z3, d, r, Rv.same ((s2 rfl).trans (s3 rfl)) (fun a m => z3 a (z2 a m)) hv.rv, e, fun v' H' ho => ?_⟩
        obtain ⟨Z4, R4, z4, k4, s4, f4⟩ := out_endO R3 ho
        exact h3 Z4 H' R4 z4 k4 (fun _ => s4) _ f4
    | _ => exact h3.elim
  | _ => exact h2.elim
theorem e_bltO {n : Nat} (ih : EOk M L n) (G : Good S M C L X) (tk : L2.Takes X W) {x : Str} {e : Expr} {es : List Expr} {p pos : Pos} {o : Op} {r : Exs} (hx : isBlt S x = true) (ho : bltOp S x (e :: es).length = some o) (h : cArgs (cE n S) (e :: es) = some r) :
    PE X (.Call (.Name x p) (e :: es) [] pos) (tO M C W S.io (.prim o r)) := by
  obtain ⟨m, h1, hm⟩ := cArgs_ok h
  obtain ⟨g1, g2, g3, g4⟩ := G.blt hx
  have pa := args_ok ih G tk h1
  obtain ⟨c, r', ha, hr, rfl⟩ := cL_cons h1
  rcases bltOp_ok G ho with ⟨id, hb, hc⟩ | ⟨T, hb, hc⟩
  · exact PE.weak (pe_callB hc g1 g2 hb pa g3 g4 (star_of ha es X.env) (nostars hr X.env pos)) fun σ H Q q => prim_coreO q hm (fun _ _ q => q)
  · exact PE.weak (pe_callTy hc g1 g2 hb pa g3 g4 (star_of ha es X.env) (nostars hr X.env pos)) fun σ H Q q => prim_coreO q hm (fun _ _ q => q)

theorem e_callF {n : Nat} (ih : EOk M L n) (G : Good S M C L X) (tk : L2.Takes X W) (hh : S.hot = false) {x : Str} {p pos : Pos} {es : List Expr} {r : Exs} {f : Nat} (hg : isGl S x = true) (hf : S.fns.lookup x = some (f, false)) (ha : S.ar.lookup f = some es.length)
    (fr : S.fresh.contains f = true) (h : cL (cE n S) false es = some r) : PE X (.Call (.Name x p) es [] pos) (tO M C W S.io (.call f r)) := by
  refine e_call ih G tk hh hg hf h fun σ H Q q k hk => ?_
  obtain ⟨B, Z, ρ, ob, R, q⟩ := q
  have q : Lands C W σ B Z H (quiets r) ((evs M r ρ).bind fun ds ρ => frV (M.fn f ds) ρ) (fun d Z' H' ρ' => ∀ v, Ow C B σ ρ' H' Z' v d → Q v H') := q
  refine seq_ok ob r R (fun q => nomatch q) ?_
  refine (Lands.bind (q1 := quiets r) (q2 := true) q fun q => ⟨q, rfl⟩).impE fun ds ρ1 heq Z1 H1 R1 z1 k1 s1 h1 vs hvs => ?_
  have hvs := hvs.fz
  refine ⟨?_, Z1, R1.ztr, ds, hvs, ?_⟩
  · rw [hk] at ha; cases ha
    rw [hvs.length, evs_len heq, cL_len h]
  · cases e : M.fn f ds with
    | ok d m =>
      rw [e] at h1
      intro v Z2 H2 a hv
      rw [if_pos fr] at hv
      obtain ⟨b, xs, es', rfl, rfl, g1, g2, g3, g4⟩ := hv
      exact h1 Z2 H2 (R1.after a) a.zle (Keep.of_same a.same) (fun _ => a.same) _ (.inr ⟨b, xs, es', rfl, rfl, g1, g2, g3, R1.gone g4, R1.noio g4, (R1.ofNone g4).2⟩)
    | exc x =>
      rw [e] at h1
      intro Z2 H2 cls dd a hx
      exact h1 Z2 H2 cls dd (R1.after a) a.zle (Keep.of_same a.same) hx
    | bad => rw [e] at h1; exact h1
theorem e_ifExpO {n : Nat} (ih : ∀ m, m ≤ n → EOk M L m) (G : Good S M C L X) (tk : L2.Takes X W) {t a b : Expr} {pos : Pos} {c : Tx} {x y : Ex} (ht : cTest (cE n) n S t = some c) (ha : PE X a (tO M C W S.io x)) (hb : PE X b (tO M C W S.io y)) :
    PE X (.IfExp t a b pos) (tO M C W S.io (.ite c x y)) := by
  refine PE.weak (pe_ifExp (test_ok ih G tk n ht) ha hb) fun σ H Q q => ?_
  obtain ⟨B, Z, ρ, ob, R, q⟩ := q
  have q : Lands C W σ B Z H (quietT c && quiet x && quiet y) ((evT M c ρ).bind fun k ρ => match k with
    | true => ev M x ρ
    | false => ev M y ρ) (fun d Z' H' ρ' => ∀ v, Ow C B σ ρ' H' Z' v d → Q v H') := q
  refine ⟨B, Z, ρ, ob, R, ?_⟩
  refine (Lands.bind (q1 := quietT c) (q2 := quiet x && quiet y) q fun q => by rw [Bool.and_assoc, Bool.and_eq_true] at q; exact q).imp fun k Z1 H1 ρ1 R1 z1 k1 s1 h1 => ?_
  cases k with
  | true =>
    rw [if_pos rfl]
    exact ⟨B, Z1, ρ1, ob, R1, Lands.shift (q := quiet x && quiet y) (r := ev M x ρ1) h1 (fun _ m => m) (Keep.refl _ _) fun q => ⟨Same.refl _, by rw [Bool.and_eq_true] at q; exact q.1⟩⟩
  | false =>
    rw [if_neg Bool.false_ne_true]
    exact ⟨B, Z1, ρ1, ob, R1, Lands.shift (q := quiet x && quiet y) (r := ev M y ρ1) h1 (fun _ m => m) (Keep.refl _ _) fun q => ⟨Same.refl _, by rw [Bool.and_eq_true] at q; exact q.2⟩⟩
/-- what is taken as a maker gives a list of one's own -/
theorem own_ok : ∀ (n k : Nat) {e : Expr} {c : Ex}, maker S k e = true → cE n S false e = some c → Good S M C L X → L2.Takes X W → PE X e (tO M C W S.io c) := by
  intro n
  induction n with
  | zero => intro k e c _ h; cases h
  | succ n ih0 =>
    intro k e c hm h G tk
    have ihm : ∀ m, m ≤ n → EOk M L m := fun m _ => expr_ok M L m
    have ihn := expr_ok M L n
    unfold cE at h
    split at h
    · cases k <;> cases hm
    · cases k <;> cases hm
    · obtain ⟨o, ho, h⟩ := Option.bind_eq_some_iff.mp h
      obtain ⟨es, he, rfl⟩ := Option.map_eq_some_iff.mp h
      exact e_binO ihn G tk ho he
    · cases k <;> cases hm
    · cases k <;> cases hm
    · cases k <;> cases hm
    · cases k <;> cases hm
    · cases k <;> cases hm
    · obtain ⟨t, ht, h⟩ := Option.bind_eq_some_iff.mp h
      obtain ⟨x, hx, h⟩ := Option.bind_eq_some_iff.mp h
      obtain ⟨y, hy, rfl⟩ := Option.map_eq_some_iff.mp h
      cases k with
      | zero => cases hm
      | succ k =>
        have hm : (maker S k _ && maker S k _) = true := hm
        rw [Bool.and_eq_true] at hm
        exact e_ifExpO ihm G tk ht (ih0 k hm.1 hx G tk) (ih0 k hm.2 hy G tk)
    · cases k <;> cases hm
    · obtain ⟨r, hr, rfl⟩ := Option.map_eq_some_iff.mp h
      exact e_lstO ihn G tk hr
    · obtain ⟨r, hr, rfl⟩ := Option.map_eq_some_iff.mp h
      exact e_revO ihn G tk hr
    · obtain ⟨x, hx, h⟩ := Option.bind_eq_some_iff.mp h
      obtain ⟨y, hy, h⟩ := Option.bind_eq_some_iff.mp h
      obtain ⟨z, hz, h⟩ := Option.bind_eq_some_iff.mp h
      split at h
      · rename_i hq; cases h
        exact e_sl2O ihn G tk hx hy hz hq
      · cases h
    · rename_i a lo hi _ _ hne
      obtain ⟨r, hr, rfl⟩ := Option.map_eq_some_iff.mp h
      refine e_sliceO ihn G tk hr ?_
      cases lo with
      | none => exact .inl rfl
      | some l =>
        cases hi with
        | none => exact .inr rfl
        | some u => exact (hne l u rfl rfl).elim
    · rename_i a b _ _ _ _
      obtain ⟨r, hr, rfl⟩ := Option.map_eq_some_iff.mp h
      obtain ⟨m, h1, _⟩ := cArgs_ok hr
      obtain ⟨_, _, _, hb, _⟩ := cL_two h1
      cases b with
      | Slice l u s p => cases n <;> cases hb
      | _ => cases k <;> cases hm
    · rename_i x p es pos
      have hm : ((isBlt S x && (x = "list" || x = "sorted")) || (!isBlt S x && !isMu S es && (match S.fns.lookup x with | some (f, false) => S.fresh.contains f | _ => false))) = true := by cases k <;> exact hm
      split at h
      · rename_i hx
        split at h
        · rename_i hi
          subst hi
          rw [hx] at hm
          cases hm
        · obtain ⟨o, ho, h⟩ := Option.bind_eq_some_iff.mp h
          obtain ⟨r, hr, rfl⟩ := Option.map_eq_some_iff.mp h
          cases es with
          | nil =>
            exfalso
            unfold bltOp at ho
            cases hS : S.hot <;> rw [hS] at ho <;> cases ho
          | cons e es => exact e_bltO ihn G tk hx ho hr
      · rename_i hnb
        split at h
        · rename_i hg
          rw [Bool.and_eq_true, Bool.not_eq_true'] at hg
          obtain ⟨hg, hh⟩ := hg
          rw [Bool.or_eq_true, Bool.and_eq_true, Bool.and_eq_true, Bool.and_eq_true] at hm
          have hm := hm.resolve_left fun z => hnb z.1
          split at h
          · rename_i f hf
            have fr : S.fresh.contains f = true := by have := hm.2; rw [hf] at this; exact this
            split at h
            · rename_i ha
              split at h
              · rename_i hmu
                rw [hmu] at hm
                cases hm.1.2
              · obtain ⟨r, hr, rfl⟩ := Option.map_eq_some_iff.mp h
                exact e_callF ihn G tk hh hg hf ha fr hr
            · cases h
          · rename_i f hf
            have := hm.2
            rw [hf] at this; cases this
          · cases h
        · cases h
    · cases k <;> cases hm
    · split at h
      · cases h
      · rename_i hb
        simp only [Bool.or_eq_true, Bool.not_eq_true', not_or, Bool.not_eq_true, Bool.not_eq_false] at hb
        obtain ⟨t, ht, h⟩ := Option.bind_eq_some_iff.mp h
        obtain ⟨c', hc, h⟩ := Option.bind_eq_some_iff.mp h
        obtain ⟨k, hk, h⟩ := Option.bind_eq_some_iff.mp h
        obtain ⟨it, hi, h⟩ := Option.bind_eq_some_iff.mp h
        split at h
        · rename_i hw
          cases h
          exact e_lcO ihm G tk hb.1 hb.2 ht hc hk hi hw
        · cases h
    · split at h
      · cases h
      · rename_i hb
        simp only [Bool.or_eq_true, Bool.not_eq_true', not_or, Bool.not_eq_true, Bool.not_eq_false] at hb
        obtain ⟨t, ht, h⟩ := Option.bind_eq_some_iff.mp h
        obtain ⟨t2, ht2, h⟩ := Option.bind_eq_some_iff.mp h
        obtain ⟨c', hc, h⟩ := Option.bind_eq_some_iff.mp h
        obtain ⟨k, hk, h⟩ := Option.bind_eq_some_iff.mp h
        obtain ⟨k2, hk2, h⟩ := Option.bind_eq_some_iff.mp h
        obtain ⟨it2, hi2, h⟩ := Option.bind_eq_some_iff.mp h
        obtain ⟨it, hi, h⟩ := Option.bind_eq_some_iff.mp h
        split at h
        · rename_i hw
          rw [Bool.and_eq_true] at hw
          cases h
          exact e_lc2O ihm G tk hb.1 hb.2 ht ht2 hc hk hk2 hi2 hi hw.1 hw.2
        · cases h
    · cases h
end
end PF

set_option Elab.async false
set_option linter.all false
set_option maxRecDepth 100000
set_option maxHeartbeats 2000000
/-! PF16: statements: flows, rows, tests, loops. -/
namespace PF
open PySem PySem.Spec PyProof.Rows L2
/-- what a def hands back -/
def RtOk (fr : Bool) (C : Cn) (B : Bs) (H : Hp) (Z : Addr → Prop) (v : V) (d : D) : Prop := match fr with
  | false => Fz C H Z v d
  | true => ∃ a xs ds, v = .ref a ∧ d = .lst ds ∧ H a = some (.lst xs) ∧ FzAll C H Z xs ds ∧ ¬ Z a ∧ B.H0 a = none
def LandS (C : Cn) (W : WX) (fr : Bool) (σ : L2.St) (B : Bs) (Z : Addr → Prop) (H : Hp) (r : Rs Fl) (D : Ends) : Prop := match r with
  | .ok .nx ρ' => ∀ σ' Z' H', Rel C B Z' H' σ' ρ' → σ'.length = σ.length → (∀ a, Z a → Z' a) → Keep Z H H' → D.nx σ' H'
  | .ok .ct ρ' => ∀ σ' Z' H', Rel C B Z' H' σ' ρ' → σ'.length = σ.length → (∀ a, Z a → Z' a) → Keep Z H H' → D.ct σ' H'
  | .ok (.rt d) ρ' => ∀ σ' Z' H' v, Rel C B Z' H' σ' ρ' → σ'.length = σ.length → (∀ a, Z a → Z' a) → Keep Z H H' → RtOk fr C B H' Z' v d → D.rt v H'
  | .exc x ρ' => ∀ σ' Z' H' cls dd, Rel C B Z' H' σ' ρ' → σ'.length = σ.length → (∀ a, Z a → Z' a) → Keep Z H H' → exv C H' cls dd x.c x.a → W cls dd σ' H'
  | .bad => False
section
variable {C : Cn} {W : WX} {fr : Bool} {σ σ1 : L2.St} {B : Bs} {Z Z1 : Addr → Prop} {H H1 : Hp} {D : Ends}
theorem LandS.shift {r : Rs Fl} (h : LandS C W fr σ B Z H r D) (l : σ1.length = σ.length) (z : ∀ a, Z a → Z1 a) (k : Keep Z H H1) : LandS C W fr σ1 B Z1 H1 r D := by
  cases r with
  | ok f ρ' =>
    cases f with
    | nx => exact fun σ' Z' H' R l' z' k' => h σ' Z' H' R (l'.trans l) (fun a m => z' a (z a m)) (k.trans z k')
    | ct => exact fun σ' Z' H' R l' z' k' => h σ' Z' H' R (l'.trans l) (fun a m => z' a (z a m)) (k.trans z k')
    | rt d => exact fun σ' Z' H' v R l' z' k' q => h σ' Z' H' v R (l'.trans l) (fun a m => z' a (z a m)) (k.trans z k') q
  | exc x ρ' => exact fun σ' Z' H' cls dd R l' z' k' q => h σ' Z' H' cls dd R (l'.trans l) (fun a m => z' a (z a m)) (k.trans z k') q
  | bad => exact h
/-- an expression at the head of a statement -/
theorem LandS.bind {α : Type} {q : Bool} {r : Rs α} {f : α → En → Rs Fl} (h : LandS C W fr σ B Z H (r.bind f) D) : Lands C W σ B Z H q r fun a Z1 H1 ρ1 => LandS C W fr σ B Z1 H1 (f a ρ1) D := by
  cases r with
  | ok a ρ' => exact fun Z' H' R z k s => LandS.shift (r := f a ρ') h rfl z k
  | exc x ρ' => exact fun Z' H' cls dd R z k e => h σ Z' H' cls dd R rfl z k e
  | bad => exact h
theorem LandS.stay {ρ : En} (h : LandS C W fr σ B Z H (.ok .nx ρ) D) (R : Rel C B Z H σ1 ρ) (l : σ1.length = σ.length) : D.nx σ1 H := h σ1 Z H R l (fun _ m => m) (Keep.refl _ _)
end
section
variable (M : Mo) (C : Cn) (W : WX) (io fr : Bool)
def tS (c : Sm) : TS := fun D σ H => ∃ B Z ρ, BOk io B ∧ Rel C B Z H σ ρ ∧ LandS C W fr σ B Z H (exec M c ρ) D
def tSs (c : Sms) : TS := fun D σ H => ∃ B Z ρ, BOk io B ∧ Rel C B Z H σ ρ ∧ LandS C W fr σ B Z H (execs M c ρ) D
end
section
variable {S : SC} {M : Mo} {C : Cn} {L : Nat} {X : Cx} {W : WX} {fr : Bool}
/-- what is shown of statements up to a depth -/
structure Ctx (S : SC) (M : Mo) (C : Cn) (L : Nat) (X : Cx) (W : WX) : Prop where
  G : Good S M C L X
  tk : L2.Takes X W
  own : PassesOwn (model X.prog X.w) X.A X.env X.xe
theorem ss_nil : PSs X [] (tSs M C W S.io fr .nil) := PSs.weak pss_nil fun D σ H q => by
  obtain ⟨B, Z, ρ, ob, R, q⟩ := q
  exact LandS.stay q R rfl
theorem ss_cons {st : Stmt} {r : List Stmt} {c : Sm} {d : Sms} (h1 : PS X st (tS M C W S.io fr c)) (h2 : PSs X r (tSs M C W S.io fr d)) : PSs X (st :: r) (tSs M C W S.io fr (.cons c d)) := by
  refine PSs.weak (pss_cons h1 h2) fun D σ H q => ?_
  obtain ⟨B, Z, ρ, ob, R, q⟩ := q
  refine ⟨B, Z, ρ, ob, R, ?_⟩
  have q : LandS C W fr σ B Z H (match exec M c ρ with
    | .ok .nx ρ => execs M d ρ
    | x => x) D := q
  cases e : exec M c ρ with
  | ok f ρ1 =>
    rw [e] at q
    cases f with
    | nx => exact fun σ1 Z1 H1 R1 l z k => ⟨B, Z1, ρ1, ob, R1, LandS.shift (r := execs M d ρ1) q l z k⟩
    | ct => exact q
    | rt d => exact q
  | exc x ρ1 => rw [e] at q; exact q
  | bad => rw [e] at q; exact q
theorem s_if {t : Expr} {a b : List Stmt} {pos : Pos} {n : Nat} {c : Tx} {x y : Sms} (K : Ctx S M C L X W) (ht : cTest (cE n) n S t = some c) (ha : PSs X a (tSs M C W S.io fr x)) (hb : PSs X b (tSs M C W S.io fr y)) :
    PS X (.If t a b pos) (tS M C W S.io fr (.ite c x y)) := by
  refine PS.weak (ps_if (test_ok (fun m _ => expr_ok M L m) K.G K.tk n ht) ha hb) fun D σ H q => ?_
  obtain ⟨B, Z, ρ, ob, R, q⟩ := q
  have q : LandS C W fr σ B Z H ((evT M c ρ).bind fun c ρ => (match c with
    | true => execs M x ρ
    | false => execs M y ρ)) D := q
  refine ⟨B, Z, ρ, ob, R, (LandS.bind q).imp fun k Z1 H1 ρ1 R1 z1 k1 s1 h1 => ?_⟩
  cases k with
  | true => exact ⟨B, Z1, ρ1, ob, R1, h1⟩
  | false => exact ⟨B, Z1, ρ1, ob, R1, h1⟩
theorem s_ret {e : Expr} {pos : Pos} {n : Nat} {c : Ex} (K : Ctx S M C L X W) (h : cE n S false e = some c) : PS X (.Return (some e) pos) (tS M C W S.io false (.ret c)) := by
  refine PS.weak (ps_ret (expr_ok M L n C S false e c h X W K.G K.tk)) fun D σ H q => ?_
  obtain ⟨B, Z, ρ, ob, R, q⟩ := q
  have q : LandS C W false σ B Z H ((ev M c ρ).bind fun d ρ => .ok (.rt d) ρ) D := q
  exact ⟨B, Z, ρ, ob, R, (LandS.bind q).imp fun d Z1 H1 ρ1 R1 z1 k1 s1 h1 v hv => h1 σ Z1 H1 v R1 rfl (fun _ m => m) (Keep.refl _ _) hv⟩
theorem s_retN {pos : Pos} : PS X (.Return none pos) (tS M C W S.io false .retN) := by
  refine PS.weak ps_retN fun D σ H q => ?_
  obtain ⟨B, Z, ρ, ob, R, q⟩ := q
  exact q σ Z H .non R rfl (fun _ m => m) (Keep.refl _ _) .non
theorem s_retF {e : Expr} {pos : Pos} {n : Nat} {c : Ex} (K : Ctx S M C L X W) (hm : maker S 3 e = true) (h : cE n S false e = some c) : PS X (.Return (some e) pos) (tS M C W S.io true (.retF c)) := by
  refine PS.weak (ps_ret (own_ok n 3 hm h K.G K.tk)) fun D σ H q => ?_
  obtain ⟨B, Z, ρ, ob, R, q⟩ := q
  have q : LandS C W true σ B Z H ((ev M c ρ).bind fun d ρ => match d with
    | .lst xs => .ok (.rt (.lst xs)) ρ
    | _ => .bad) D := q
  refine ⟨B, Z, ρ, ob, R, (LandS.bind q).imp fun d Z1 H1 ρ1 R1 z1 k1 s1 h1 v hv => ?_⟩
  rcases hv with ⟨f, n⟩ | ⟨a, xs, ds, rfl, rfl, h2, h3, h4, h5, h6, h7⟩
  · cases d with
    | lst ds => exact (n ds rfl).elim
    | _ => exact h1.elim
  · exact h1 σ Z1 H1 _ R1 rfl (fun _ m => m) (Keep.refl _ _) ⟨a, xs, ds, rfl, rfl, h2, h3, h4, h5⟩
theorem s_retO {x : Str} {p pos : Pos} {i : Nat} (K : Ctx S M C L X W) (hio : S.io = false) (hx : slotOf S x = some i) : PS X (.Return (some (.Name x p)) pos) (tS M C W S.io true (.retO i)) := by
  obtain ⟨j1, j2, j3⟩ := slotOf_ok hx
  obtain ⟨m1, m2, _⟩ := okName_and j3
  have base : PE X (Expr.Name x p) (tVar i) := pe_var (by rw [K.G.N]; exact j1) (by rw [K.G.sc]; exact j2) m1 m2
  refine PS.weak (ps_ret base) fun D σ H q => ?_
  obtain ⟨B, Z, ρ, ob, R, q⟩ := q
  have q : LandS C W true σ B Z H (match getC ρ i with
    | .o xs => .ok (.rt (.lst xs)) ρ
    | _ => .bad) D := q
  cases e : getC ρ i with
  | o ds =>
    rw [e] at q
    obtain ⟨a, xs, h1, h2, h3, h4, h5⟩ := R.own i ds e
    refine ⟨_, h1, q σ Z H _ R rfl (fun _ m => m) (Keep.refl _ _) ⟨a, xs, ds, rfl, rfl, h2, h3, h4, ?_⟩⟩
    rcases h5 with h5 | h5
    · exact h5
    · have := ob (by rw [h5]; exact fun z => nomatch z)
      rw [hio] at this; cases this
  | no => rw [e] at q; exact q.elim
  | v d => rw [e] at q; exact q.elim
theorem s_pass {pos : Pos} : PS X (.Pass pos) (tS M C W S.io fr .pass) := PS.weak ps_pass fun D σ H q => by
  obtain ⟨B, Z, ρ, ob, R, q⟩ := q
  exact LandS.stay q R rfl
theorem s_cont {pos : Pos} : PS X (.Continue pos) (tS M C W S.io fr .cont) := PS.weak ps_continue fun D σ H q => by
  obtain ⟨B, Z, ρ, ob, R, q⟩ := q
  exact q σ Z H R rfl (fun _ m => m) (Keep.refl _ _)
theorem swaps_plain {e : Expr} (h : isComp e = false) {n : Nat} {rd : Bool} {c : Ex} (hc : cE n S rd e = some c) (t : Option Expr) (l : Nat) (env : PySem.Env) : swapsWith e t l env = pure false := by
  cases e <;> first
    | rfl
    | (cases h; done)
    | (cases n <;> cases hc)
theorem s_expr {e : Expr} {pos : Pos} {n : Nat} {c : Ex} (K : Ctx S M C L X W) (hcmp : isComp e = false) (h : cE n S true e = some c) : PS X (.Expr e pos) (tS M C W S.io fr (.expr c)) := by
  refine PS.weak (ps_expr (expr_ok M L n C S true e c h X W K.G K.tk) (swaps_plain hcmp h _ _ _)) fun D σ H q => ?_
  obtain ⟨B, Z, ρ, ob, R, q⟩ := q
  have q : LandS C W fr σ B Z H ((ev M c ρ).bind fun _ ρ => .ok .nx ρ) D := q
  exact ⟨B, Z, ρ, ob, R, (LandS.bind q).imp fun d Z1 H1 ρ1 R1 z1 k1 s1 h1 v hv => LandS.stay h1 R1 rfl⟩
/-! ### loops -/
theorem whileS_of {t : En → Rs Bool} {b : En → Rs Fl} {ρ : En} : (∃ n r, whileF t b n ρ = some r ∧ whileS t b ρ = r) ∨ whileS t b ρ = .bad := by
  unfold whileS
  split
  · rename_i h
    exact .inl ⟨h.choose, h.choose_spec.choose, h.choose_spec.choose_spec, rfl⟩
  · exact .inr rfl
theorem s_while {t : Expr} {b : List Stmt} {pos : Pos} {n : Nat} {c : Tx} {x : Sms} (hM : M.wh = whileS) (K : Ctx S M C L X W) (ht : cTest (cE n) n S t = some c) (hb : PSs X b (tSs M C W S.io fr x)) :
    PS X (.While t b [] pos) (tS M C W S.io fr (.whl c x)) := by
  refine PS.weak (ps_while K.own (test_ok (fun m _ => expr_ok M L m) K.G K.tk n ht) hb) fun D σ H q => ?_
  obtain ⟨B, Z, ρ, ob, R, q⟩ := q
  have q : LandS C W fr σ B Z H (M.wh (evT M c) (execs M x) ρ) D := q
  rw [hM] at q
  rcases whileS_of (t := evT M c) (b := execs M x) (ρ := ρ) with ⟨m, r, hm, hr⟩ | hr
  · rw [hr] at q
    refine ⟨fun m σ' H' => ∃ Z' ρ', Rel C B Z' H' σ' ρ' ∧ σ'.length = σ.length ∧ (∀ a, Z a → Z' a) ∧ Keep Z H H' ∧ whileF (evT M c) (execs M x) m ρ' = some r, ⟨m, Z, ρ, R, rfl, fun _ m => m, Keep.refl _ _, hm⟩, ?_⟩
    rintro m σ' H' ⟨Z', ρ', R', l, z, k, hw⟩
    cases m with
    | zero => cases hw
    | succ m =>
      have hw : (match evT M c ρ' with
        | .ok false ρ1 => some (.ok .nx ρ1)
        | .ok true ρ1 => (match execs M x ρ1 with
          | .ok .nx ρ2 => whileF (evT M c) (execs M x) m (mask ρ' ρ2)
          | .ok .ct ρ2 => whileF (evT M c) (execs M x) m (mask ρ' ρ2)
          | .ok (.rt d) ρ2 => some (.ok (.rt d) ρ2)
          | .exc x ρ2 => some (.exc x ρ2)
          | .bad => some .bad)
        | .exc x ρ1 => some (.exc x ρ1)
        | .bad => some .bad) = some r := hw
      refine ⟨B, Z', ρ', ob, R', ?_⟩
      cases ec : evT M c ρ' with
      | bad => rw [ec] at hw; cases hw; exact q.elim
      | exc e ρ1 =>
        rw [ec] at hw; cases hw
        exact fun Z1 H1 cls dd R1 z1 k1 hx => q σ' Z1 H1 cls dd R1 l (fun a m => z1 a (z a m)) (k.trans z k1) hx
      | ok v ρ1 =>
        rw [ec] at hw
        intro Z1 H1 R1 z1 k1 _
        cases v with
        | false =>
          cases hw
          exact q σ' Z1 H1 R1 l (fun a m => z1 a (z a m)) (k.trans z k1)
        | true =>
          replace hw : (match execs M x ρ1 with
            | .ok .nx ρ2 => whileF (evT M c) (execs M x) m (mask ρ' ρ2)
            | .ok .ct ρ2 => whileF (evT M c) (execs M x) m (mask ρ' ρ2)
            | .ok (.rt d) ρ2 => some (.ok (.rt d) ρ2)
            | .exc x ρ2 => some (.exc x ρ2)
            | .bad => some .bad) = some r := hw
          refine ⟨fun σ2 H2 => ∃ Z2 ρ2, Rel C B Z2 H2 σ2 ρ2 ∧ σ2.length = σ.length ∧ (∀ a, Z a → Z2 a) ∧ Keep Z H H2 ∧ whileF (evT M c) (execs M x) m ρ2 = some r, ?_, ?_⟩
          · rintro σ2 H2 ⟨Z2, ρ2, h⟩
            exact ⟨m, Nat.lt_succ_self m, Z2, ρ2, h⟩
          · refine ⟨B, Z1, ρ1, ob, R1, ?_⟩
            have len : ∀ {σ2 : L2.St} {Z2 : Addr → Prop} {H2 : Hp} {ρ2 : En}, Rel C B Z2 H2 σ2 ρ2 → σ2.length = σ'.length → ρ'.length = ρ2.length := fun R2 l2 => R'.len.symm.trans (l2.symm.trans R2.len)
            cases eb : execs M x ρ1 with
            | bad => rw [eb] at hw; cases hw; exact q.elim
            | exc e ρ2 =>
              rw [eb] at hw; cases hw
              exact fun σ2 Z2 H2 cls dd R2 l2 z2 k2 hx => q σ2 Z2 H2 cls dd R2 (l2.trans l) (fun a m => z2 a (z1 a (z a m))) ((k.trans z k1).trans (fun a m => z1 a (z a m)) k2) hx
            | ok f ρ2 =>
              rw [eb] at hw
              cases f with
              | nx => exact fun σ2 Z2 H2 R2 l2 z2 k2 => ⟨Z2, mask ρ' ρ2, Rel.mask R' R2 (len R2 l2), l2.trans l, fun a m => z2 a (z1 a (z a m)), (k.trans z k1).trans (fun a m => z1 a (z a m)) k2, hw⟩
              | ct => exact fun σ2 Z2 H2 R2 l2 z2 k2 => ⟨Z2, mask ρ' ρ2, Rel.mask R' R2 (len R2 l2), l2.trans l, fun a m => z2 a (z1 a (z a m)), (k.trans z k1).trans (fun a m => z1 a (z a m)) k2, hw⟩
              | rt d =>
                cases hw
                exact fun σ2 Z2 H2 v R2 l2 z2 k2 hv => q σ2 Z2 H2 v R2 (l2.trans l) (fun a m => z2 a (z1 a (z a m))) ((k.trans z k1).trans (fun a m => z1 a (z a m)) k2) hv
  · rw [hr] at q
    exact q.elim
theorem s_for {tg e : Expr} {b : List Stmt} {pos : Pos} {n : Nat} {t : List Nat × Bool} {it : It} {x : Sms} (hh : S.hot = false) (K : Ctx S M C L X W) (ht : cTg S tg = some t) (hi : cIter (cE n) S false (isTup tg) e = some it) (hb : PSs X b (tSs M C W S.io fr x)) :
    PS X (.For tg e b [] pos) (tS M C W S.io fr (.for_ t.1 t.2 it x)) := by
  refine PS.weak (ps_for K.own (K.G.calm hh) (iter_ok (expr_ok M L n) K.G K.tk (fun e => tup_of e) hi) (tg_ok K.G (K.G.calm hh) ht) hb (cIter_set (fun es k p => cE_set) hi X.env)) fun D σ H q => ?_
  obtain ⟨B, Z, ρ, ob, R, q⟩ := q
  have q : LandS C W fr σ B Z H ((evI M it ρ).bind fun xs ρ => forS t.1 t.2 (execs M x) xs ρ) D := q
  refine ⟨B, Z, ρ, ob, R, (LandS.bind q).imp fun xs Z1 H1 ρ1 R1 z1 k1 s1 h1 J hJ => ?_⟩
  refine ⟨fun i m σ' H' => m = xs.length - i ∧ i ≤ xs.length ∧ ∃ Z' ρ', Rel C B Z' H' σ' ρ' ∧ σ'.length = σ.length ∧ (∀ a, Z1 a → Z' a) ∧ Keep Z1 H1 H' ∧ LandS C W fr σ B Z1 H1 (forS t.1 t.2 (execs M x) (xs.drop i) ρ') D,
    ⟨_, rfl, Nat.zero_le _, Z1, ρ1, R1, rfl, fun _ m => m, Keep.refl _ _, h1⟩, ?_⟩
  rintro i m σ' H' ⟨rfl, hi, Z', ρ', R', l, z, k, ok⟩
  have kp : Kp false Z1 H1 H' := ⟨k, fun e => nomatch e⟩
  by_cases lt : i < xs.length
  · obtain ⟨d, hd⟩ : ∃ d, xs[i]? = some d := ⟨_, List.getElem?_eq_getElem lt⟩
    have hdrop : xs.drop i = d :: xs.drop (i + 1) := by
      rw [List.drop_eq_getElem_cons lt]
      rw [List.getElem?_eq_getElem lt] at hd
      cases hd; rfl
    rw [hdrop] at ok
    obtain ⟨go, yl⟩ := (hJ H' kp).1 i d hd
    refine .inr ⟨go, fun σ2 H2 => ∃ Z2 ρ2, Rel C B Z2 H2 σ2 ρ2 ∧ σ2.length = σ.length ∧ (∀ a, Z1 a → Z2 a) ∧ Keep Z1 H1 H2 ∧ LandS C W fr σ B Z1 H1 (forS t.1 t.2 (execs M x) (xs.drop (i + 1)) ρ2) D, fun σ2 H2 h => ⟨xs.length - (i + 1), by omega, rfl, lt, h⟩, fun v H2 y => ?_⟩
    obtain ⟨sm, fx⟩ := yl v H2 y
    have ok : LandS C W fr σ B Z1 H1 (match bindTg t.1 t.2 d ρ' with
      | none => .bad
      | some ρ1 => (match execs M x ρ1 with
        | .ok .nx ρ2 => forS t.1 t.2 (execs M x) (xs.drop (i + 1)) (mask ρ' ρ2)
        | .ok .ct ρ2 => forS t.1 t.2 (execs M x) (xs.drop (i + 1)) (mask ρ' ρ2)
        | .ok (.rt d) ρ2 => .ok (.rt d) ρ2
        | .exc x ρ2 => .exc x ρ2
        | .bad => .bad)) D := ok
    cases hbt : bindTg t.1 t.2 d ρ' with
    | none => rw [hbt] at ok; exact ok.elim
    | some ρ2 =>
      rw [hbt] at ok
      have ok : LandS C W fr σ B Z1 H1 (match execs M x ρ2 with
        | .ok .nx ρ3 => forS t.1 t.2 (execs M x) (xs.drop (i + 1)) (mask ρ' ρ3)
        | .ok .ct ρ3 => forS t.1 t.2 (execs M x) (xs.drop (i + 1)) (mask ρ' ρ3)
        | .ok (.rt d) ρ3 => .ok (.rt d) ρ3
        | .exc x ρ3 => .exc x ρ3
        | .bad => .bad) D := ok
      have k2 : Keep Z1 H1 H2 := k.trans (fun _ m => m) (Keep.of_same sm)
      refine ⟨B, Z', ρ', d, ρ2, ob, R'.grow sm, fx Z' z, hbt, fun σ2 R2 w2 => ⟨B, Z', ρ2, ob, R2, ?_⟩⟩
      have l2 : σ2.length = σ'.length := by
        have := w2 t.1 (fun i m => m)
        rw [← wipe_length σ2 t.1, this, wipe_length]
      have len : ∀ {σ3 : L2.St} {Z3 : Addr → Prop} {H3 : Hp} {ρ3 : En}, Rel C B Z3 H3 σ3 ρ3 → σ3.length = σ2.length → ρ'.length = ρ3.length := fun R3 l3 => R'.len.symm.trans (l2.symm.trans (l3.symm.trans R3.len))
      have kk : ∀ {Z3 : Addr → Prop} {H3 : Hp}, Keep Z' H2 H3 → Keep Z1 H1 H3 := fun k3 => k2.trans z k3
      cases eb : execs M x ρ2 with
      | bad => rw [eb] at ok; exact ok.elim
      | exc e ρ3 =>
        rw [eb] at ok
        exact fun σ3 Z3 H3 cls dd R3 l3 z3 k3 hx => ok σ3 Z3 H3 cls dd R3 (l3.trans (l2.trans l)) (fun a m => z3 a (z a m)) (k2.trans z k3) hx
      | ok f ρ3 =>
        rw [eb] at ok
        cases f with
        | nx => exact fun σ3 Z3 H3 R3 l3 z3 k3 => ⟨Z3, mask ρ' ρ3, Rel.mask R' R3 (len R3 l3), l3.trans (l2.trans l), fun a m => z3 a (z a m), k2.trans z k3, ok⟩
        | ct => exact fun σ3 Z3 H3 R3 l3 z3 k3 => ⟨Z3, mask ρ' ρ3, Rel.mask R' R3 (len R3 l3), l3.trans (l2.trans l), fun a m => z3 a (z a m), k2.trans z k3, ok⟩
        | rt d => exact fun σ3 Z3 H3 v R3 l3 z3 k3 hv => ok σ3 Z3 H3 v R3 (l3.trans (l2.trans l)) (fun a m => z3 a (z a m)) (k2.trans z k3) hv
  · have hi : i = xs.length := by omega
    subst hi
    rw [List.drop_length] at ok
    exact .inl ⟨(hJ H' kp).2, ok σ' Z' H' R' l z k⟩
end
end PF

set_option Elab.async false
set_option linter.all false
set_option maxRecDepth 100000
set_option maxHeartbeats 2000000
/-! PF17: assignments. -/
namespace PF
open PySem PySem.Spec PyProof.Rows L2
section
variable {C : Cn} {B B2 : Bs} {Z Z' : Addr → Prop} {H H' : Hp} {σ σ2 : L2.St} {ρ ρ2 : En}
/-- no slot holds p as its own -/
def NoSlot (σ : L2.St) (ρ : En) (p : Addr) : Prop := ∀ j es, getC ρ j = .o es → σ[j]? ≠ some (some (.ref p))
/-- a row of values: those of one's own apart from all else -/
def RowV (C : Cn) (σ : L2.St) (ρ : En) (H : Hp) (Z : Addr → Prop) : Bs → List Bool → List V → List D → Prop
  | _, [], [], [] => True
  | B, o :: os, v :: vs, d :: ds => (Fz C H Z v d ∧ (o = true → ∀ ds, d ≠ .lst ds) ∧ RowV C σ ρ H Z B os vs ds) ∨
      (o = true ∧ ∃ a xs es, v = .ref a ∧ d = .lst es ∧ H a = some (.lst xs) ∧ FzAll C H Z xs es ∧ ¬ Z a ∧ B.H0 a = none ∧ B.io ≠ some a ∧ NoSlot σ ρ a ∧ RowV C σ ρ H Z (B.prot a (.lst xs)) os vs ds)
  | _, _, _, _ => False
theorem prot_none {p a : Addr} {o : HO} : (B.prot p o).H0 a = none ↔ a ≠ p ∧ B.H0 a = none := by
  show upd B.H0 p o a = none ↔ _
  by_cases e : a = p
  · subst e; rw [upd_same]; simp
  · rw [upd_ne e]; simp [e]
theorem RowV.move : ∀ {os : List Bool} {vs : List V} {ds : List D} {B B2 : Bs}, RowV C σ ρ H Z B os vs ds → (∀ a, B.H0 a = none → B.io ≠ some a → NoSlot σ ρ a → B2.H0 a = none ∧ B2.io ≠ some a ∧ NoSlot σ2 ρ2 a) → RowV C σ2 ρ2 H Z B2 os vs ds
  | [], [], [], _, _, _, _ => trivial
  | o :: os, v :: vs, d :: ds, B, B2, h, m => by
    rcases h with ⟨h1, h2, h3⟩ | ⟨h1, a, xs, es, h2, h3, h4, h5, h6, h7, h8, h9, h10⟩
    · exact .inl ⟨h1, h2, RowV.move h3 m⟩
    · obtain ⟨m1, m2, m3⟩ := m a h7 h8 h9
      refine .inr ⟨h1, a, xs, es, h2, h3, h4, h5, h6, m1, m2, m3, RowV.move h10 fun c e1 e2 e3 => ?_⟩
      obtain ⟨q1, q2⟩ := prot_none.mp e1
      obtain ⟨n1, n2, n3⟩ := m c q2 e2 e3
      exact ⟨prot_none.mpr ⟨q1, n1⟩, n2, n3⟩
  | [], [], _ :: _, _, _, h, _ => by cases h
  | [], _ :: _, _, _, _, h, _ => by cases h
  | _ :: _, [], _, _, _, h, _ => by cases h
  | _ :: _, _ :: _, [], _, _, h, _ => by cases h
theorem RowV.len : ∀ {os : List Bool} {vs : List V} {ds : List D} {B : Bs}, RowV C σ ρ H Z B os vs ds → vs.length = os.length ∧ ds.length = os.length
  | [], [], [], _, _ => ⟨rfl, rfl⟩
  | o :: os, v :: vs, d :: ds, B, h => by
    have : vs.length = os.length ∧ ds.length = os.length := by
      rcases h with ⟨_, _, h3⟩ | ⟨_, _, _, _, _, _, _, _, _, _, _, _, h10⟩
      · exact RowV.len h3
      · exact RowV.len h10
    exact ⟨congrArg Nat.succ this.1, congrArg Nat.succ this.2⟩
  | [], [], _ :: _, _, h => by cases h
  | [], _ :: _, _, _, h => by cases h
  | _ :: _, [], _, _, h => by cases h
  | _ :: _, _ :: _, [], _, h => by cases h
theorem RowV.grow (s : Same H H') : ∀ {os : List Bool} {vs : List V} {ds : List D} {B : Bs}, RowV C σ ρ H Z B os vs ds → RowV C σ ρ H' Z B os vs ds
  | [], [], [], _, _ => trivial
  | o :: os, v :: vs, d :: ds, B, h => by
    rcases h with ⟨h1, h2, h3⟩ | ⟨h1, a, xs, es, h2, h3, h4, h5, h6, h7, h8, h9, h10⟩
    · exact .inl ⟨h1.keep (Keep.of_same s) (fun _ m => m), h2, RowV.grow s h3⟩
    · exact .inr ⟨h1, a, xs, es, h2, h3, s _ _ h4, h5.keep (Keep.of_same s) (fun _ m => m), h6, h7, h8, h9, RowV.grow s h10⟩
  | [], [], _ :: _, _, h => by cases h
  | [], _ :: _, _, _, h => by cases h
  | _ :: _, [], _, _, h => by cases h
  | _ :: _, _ :: _, [], _, h => by cases h
theorem Rel.row : ∀ {is : List (Nat × Bool)} {vs : List V} {ds : List D} {σ : L2.St} {ρ ρ' : En}, Rel C B Z H σ ρ → RowV C σ ρ H Z B (is.map (·.2)) vs ds → setPar is ds ρ = some ρ' → (∀ i ∈ is.map (·.1), B.io ≠ none → i ≠ 0) →
    Rel C B Z H (PF.setVs (is.map (·.1)) vs σ) ρ'
  | [], [], [], _, _, _, R, _, e, _ => by cases e; exact R
  | (i, o) :: is, v :: vs, d :: ds, σ, ρ, ρ', R, h, e, hi => by
    have e : setPar is ds (setC ρ i (ownC o d)) = some ρ' := e
    have i0 := hi i List.mem_cons_self
    have hi' : ∀ j ∈ is.map (·.1), B.io ≠ none → j ≠ 0 := fun j m => hi j (List.mem_cons_of_mem _ m)
    show Rel C B Z H (PF.setVs (is.map (·.1)) vs (σ.set i (some v))) ρ'
    rcases h with ⟨h1, h2, h3⟩ | ⟨h1, a, xs, es, rfl, rfl, h4, h5, h6, h7, h8, h9, h10⟩
    · have eo : ownC o d = .v d := by
        cases o with
        | false => rfl
        | true =>
          cases d with
          | lst ds => exact (h2 rfl ds rfl).elim
          | _ => rfl
      rw [eo] at e
      refine Rel.row (R.setV h1 i0) (h3.move fun a q1 q2 q3 => ⟨q1, q2, fun j es ej => ?_⟩) e hi'
      by_cases hij : i = j
      · subst hij
        have lt := getC_lt ej (fun z => nomatch z)
        rw [getC_set_self (by simpa [setC] using lt)] at ej; cases ej
      · rw [getC_set_ne hij] at ej
        rw [set_get, if_neg hij]
        exact q3 j es ej
    · have h1 : o = true := h1
      subst h1
      refine Rel.row (R.setO h4 h5 h6 h7 (fun j es _ ej => h9 j es ej) i0) (h10.move fun c q1 q2 q3 => ?_) e hi'
      obtain ⟨n, q1⟩ := prot_none.mp q1
      refine ⟨q1, q2, fun j fs ej => ?_⟩
      by_cases hij : i = j
      · subst hij
        rw [set_get, if_pos rfl]
        split
        · exact fun z => n (by cases z; rfl)
        · exact fun z => nomatch z
      · rw [getC_set_ne hij] at ej
        rw [set_get, if_neg hij]
        exact q3 j fs ej
  | [], [], _ :: _, _, _, _, _, h, _, _ => by cases h
  | [], _ :: _, _, _, _, _, _, h, _, _ => by cases h
  | _ :: _, [], _, _, _, _, _, h, _, _ => by cases h
  | _ :: _, _ :: _, [], _, _, _, _, h, _, _ => by cases h
end
section
variable {S : SC} {M : Mo} {C : Cn} {L : Nat} {X : Cx} {W : WX} {fr : Bool}
/-- readings of a row -/
def tesR (M : Mo) (C : Cn) (W : WX) (io : Bool) : List Bool → Exs → List TE
  | o :: os, .cons e es => (if o = true then tO M C W io e else tX M C W io false e) :: tesR M C W io os es
  | _, _ => []
theorem row_seq {io : Bool} {σ : L2.St} : ∀ {os : List Bool} {es : Exs} {B : Bs} {Z : Addr → Prop} {H : Hp} {ρ : En} {k : List V → Hp → Prop}, os.length = exsN es → BOk io B → Rel C B Z H σ ρ →
    (Lands C W σ B Z H false (evs M es ρ) fun ds Z' H' ρ' => ∀ vs, RowV C σ ρ' H' Z' B os vs ds → k vs H') → seqT (tesR M C W io os es) σ H k
  | [], .nil, B, Z, H, ρ, k, _, ob, R, h => by
    have h : Lands C W σ B Z H false (.ok [] ρ) _ := h
    exact h Z H R (fun _ m => m) (Keep.refl _ _) (fun q => nomatch q) [] trivial
  | o :: os, .cons e es, B, Z, H, ρ, k, hl, ob, R, h => by
    have hl' : os.length = exsN es := Nat.succ.inj hl
    have h : Lands C W σ B Z H false ((ev M e ρ).bind fun d ρ => (evs M es ρ).bind fun ds ρ => .ok (d :: ds) ρ) (fun ds Z' H' ρ' => ∀ vs, RowV C σ ρ' H' Z' B (o :: os) vs ds → k vs H') := h
    have plain : ∀ (d : D) (Z1 : Addr → Prop) (H1 : Hp) (ρ1 : En), Rel C B Z1 H1 σ ρ1 → (Lands C W σ B Z1 H1 false ((evs M es ρ1).bind fun ds ρ => .ok (d :: ds) ρ) (fun ds Z' H' ρ' => ∀ vs, RowV C σ ρ' H' Z' B (o :: os) vs ds → k vs H')) →
        ∀ v, Fz C H1 Z1 v d → (o = true → ∀ ds, d ≠ .lst ds) → seqT (tesR M C W io os es) σ H1 fun vs H2 => k (v :: vs) H2 := fun d Z1 H1 ρ1 R1 h1 v hv hn =>
      row_seq hl' ob R1 ((Lands.bind (q1 := false) (q2 := false) h1 fun q => nomatch q).imp fun ds Z2 H2 ρ2 R2 z2 k2 s2 h2 vs hvs =>
        h2 Z2 H2 R2 (fun _ m => m) (Keep.refl _ _) (fun q => nomatch q) (v :: vs) (.inl ⟨hv.keep k2 z2, hn, hvs⟩))
    cases o with
    | false =>
      show tX M C W io false e σ H _
      refine ⟨B, Z, ρ, ob, R, ?_⟩
      exact (Lands.bind (q1 := quiet e) (q2 := false) h fun q => nomatch q).imp fun d Z1 H1 ρ1 R1 z1 k1 s1 h1 v hv => plain d Z1 H1 ρ1 R1 h1 v hv (fun z => nomatch z)
    | true =>
      show tO M C W io e σ H _
      refine ⟨B, Z, ρ, ob, R, (Lands.bind (q1 := quiet e) (q2 := false) h fun q => nomatch q).imp fun d Z1 H1 ρ1 R1 z1 k1 s1 h1 v hv => ?_⟩
      rcases hv with ⟨f, n⟩ | ⟨a, xs, fs, rfl, rfl, g1, g2, g3, g4, g5, g6⟩
      · exact plain d Z1 H1 ρ1 R1 h1 v f (fun _ => n)
      · refine row_seq hl' (B := B.prot a (.lst xs)) (Z := Z1) (ρ := ρ1) ob (R1.prot g1 g3 g6) ?_
        cases ee : evs M es ρ1 with
        | ok ds ρ2 =>
          rw [ee] at h1
          intro Z2 H2 R2 z2 k2 _ vs hvs
          have F := R2.free g4 g5
          exact h1 Z2 H2 (R2.unprot g4 g5) z2 k2 (fun q => nomatch q) (.ref a :: vs) (.inr ⟨rfl, a, xs, fs, rfl, rfl, F.at_, g2.keep k2 z2, F.nz, g4, g5, F.no, hvs⟩)
        | exc x ρ2 =>
          rw [ee] at h1
          intro Z2 H2 cls dd R2 z2 k2 hx
          exact h1 Z2 H2 cls dd (R2.unprot g4 g5) z2 k2 hx
        | bad => rw [ee] at h1; exact h1
  | [], .cons _ _, _, _, _, _, _, hl, _, _, _ => by cases hl
  | _ :: _, .nil, _, _, _, _, _, hl, _, _, _ => by cases hl
theorem setVs_len : ∀ {is : List Nat} {vs : List V} {σ : L2.St}, (setVs is vs σ).length = σ.length
  | [], [], _ => rfl
  | [], _ :: _, _ => rfl
  | _ :: _, [], _ => rfl
  | i :: is, v :: vs, σ => by
    show (setVs is vs (σ.set i (some v))).length = _
    rw [setVs_len, List.length_set]
theorem row_land {io : Bool} {σ : L2.St} {H : Hp} {D : Ends} {k : List V → Hp → Prop} {is : List (Nat × Bool)} {r : Exs} {B : Bs} {Z : Addr → Prop} {ρ : En} (ob : BOk io B) (R : Rel C B Z H σ ρ) (hl : is.length = exsN r) (h0 : ∀ i ∈ is.map (·.1), io = true → i ≠ 0)
    (q : LandS C W fr σ B Z H ((evs M r ρ).bind fun ds ρ => (match setPar is ds ρ with
      | some ρ' => .ok .nx ρ'
      | none => .bad)) D) (hk : ∀ vs H1, vs.length = is.length → (∀ H2, Same H1 H2 → D.nx (setVs (is.map (·.1)) vs σ) H2) → k vs H1) : seqT (tesR M C W io (is.map (·.2)) r) σ H k := by
  refine row_seq (by rw [List.length_map]; exact hl) ob R ((LandS.bind q).imp fun ds Z1 H1 ρ1 R1 z1 k1 s1 h1 vs hvs => hk _ _ (by rw [hvs.len.1, List.length_map]) fun H2 s => ?_)
  cases e : setPar is ds ρ1 with
  | none => rw [e] at h1; exact h1.elim
  | some ρ' =>
    rw [e] at h1
    exact h1 _ Z1 H2 (Rel.row (R1.grow s) (hvs.grow s) e fun i m => io_ne ob (h0 i m)) setVs_len (fun _ m => m) (Keep.of_same s)
theorem cPar_ok {n : Nat} (K : Ctx S M C L X W) : ∀ {ts es : List Expr} {is : List (Nat × Bool)} {r : Exs}, cPar S ts es = some is → cL (cE n S) false es = some r →
    PA X es (fun σ H Q => seqT (tesR M C W S.io (is.map (·.2)) r) σ H Q) ∧ cNames S ts = some (is.map (·.1)) ∧ is.length = exsN r
  | [], [], is, r, h, hr => by
    cases h; cases hr
    exact ⟨pa_nil, rfl, rfl⟩
  | .Name x p :: ts, e :: es, is, r, h, hr => by
    obtain ⟨i, hi, h⟩ := Option.bind_eq_some_iff.mp (show ((slotW S x).bind fun i => (cPar S ts es).map fun r => (i, ownOf S i e) :: r) = some is from h)
    obtain ⟨is', hs, rfl⟩ := Option.map_eq_some_iff.mp h
    obtain ⟨c, r', hc, hr', rfl⟩ := cL_cons hr
    obtain ⟨i1, i2, i3⟩ := cPar_ok K hs hr'
    refine ⟨?_, ?_, congrArg Nat.succ i3⟩
    · have pe : PE X e (if ownOf S i e = true then tO M C W S.io c else tX M C W S.io false c) := by
        by_cases ho : ownOf S i e = true
        · rw [if_pos ho]
          unfold ownOf at ho
          rw [Bool.and_eq_true] at ho
          exact own_ok n 3 ho.2 hc K.G K.tk
        · rw [if_neg ho]
          exact expr_ok M L n C S false e c hc X W K.G K.tk
      exact pa_cons pe i1 (star_of hc es X.env)
    · show ((slotW S x).bind fun i => (cNames S ts).map fun is => i :: is) = _
      rw [hi, i2]; rfl
  | [], _ :: _, _, _, h, _ => by cases h
  | .Name _ _ :: _, [], _, _, h, _ => by cases h
theorem sw_folded {ts vs : List Expr} {k k2 : Nat} {p p2 : Pos} {env : PySem.Env} (h : vs.all (foldedForSure 8) = true) : swappedStores [.Tuple ts k p] (.Tuple vs k2 p2) env = pure none := by
  unfold swappedStores
  simp only [h]
  split
  · rfl
  · split
    · rfl
    · split
      · rfl
      · rfl
theorem sw_many {ts vs : List Expr} {k k2 : Nat} {p p2 : Pos} {env : PySem.Env} (h : 3 < ts.length) : swappedStores [.Tuple ts k p] (.Tuple vs k2 p2) env = pure none := by
  unfold swappedStores
  have h1 : (ts.length == 2) = false := by simp; omega
  have h2 : (ts.length == 3) = false := by simp; omega
  simp [h1, h2]
theorem loc1_ok {l : Nat} {e : Expr} {x : Str} (h : loc1 S l e = some x) : ∃ p, e = .Name x p ∧ S.sc.names.lookup x = some .local ∧ (p.line == l) = true := by
  cases e with
  | Name y p =>
    have h : (if S.sc.names.lookup y == some .local && p.line == l then some y else none) = some x := h
    split at h
    · rename_i hc
      cases h
      rw [Bool.and_eq_true] at hc
      refine ⟨p, rfl, ?_, hc.2⟩
      have := hc.1
      revert this
      cases S.sc.names.lookup x with
      | none => intro z; cases z
      | some k => cases k <;> intro z <;> first | rfl | cases z
    · cases h
  | _ => cases h
theorem nostar {n : Nat} {rd : Bool} {e : Expr} {c : Ex} (h : cE n S rd e = some c) : ∀ v p, e ≠ .Starred v p := fun v p z => by
  subst z
  cases n <;> cases h
theorem filt {α β : Type} {f : α → Option β} {a : α} {b : β} {l : List α} {m : List β} (h : f a = some b) (hl : l.filterMap f = m) : (a :: l).filterMap f = b :: m := by
  rw [List.filterMap_cons_some h, hl]
theorem dups_2 {x y : Str} (h : (x == y) = false) : [x, y].eraseDups = [x, y] := by
  have h' : (y == x) = false := by rw [BEq.comm]; exact h
  simp [List.eraseDups_cons, h']
theorem dups_3 {x y z : Str} (h : (x == y) = false) (h2 : (x == z) = false) (h3 : (y == z) = false) : [x, y, z].eraseDups = [x, y, z] := by
  have e1 : (y == x) = false := by rw [BEq.comm]; exact h
  have e2 : (z == x) = false := by rw [BEq.comm]; exact h2
  have e3 : (z == y) = false := by rw [BEq.comm]; exact h3
  simp [List.eraseDups_cons, e1, e2, e3]
theorem sw_2 {x y : Str} {px py : Pos} {a b : Expr} {k k2 : Nat} {p p2 : Pos} {env : PySem.Env} (hb : env.blockKind = .function) (hx : env.kindOf x = some .local) (hy : env.kindOf y = some .local) (hl : (py.line == px.line) = true) (hxy : (x == y) = false)
    (h : [a, b].all (foldedForSure 8) = false) (h2 : [a, b].all (constantsAlone 8) = false) (ha : ∀ v p, a ≠ .Starred v p) (hb' : ∀ v p, b ≠ .Starred v p) : swappedStores [.Tuple [.Name x px, .Name y py] k p] (.Tuple [a, b] k2 p2) env = pure (some [x, y]) := by
  unfold swappedStores
  have hl' : py.line = px.line := eq_of_beq hl
  dsimp only
  rw [if_neg (by rw [hb]; exact Bool.false_ne_true), if_neg ?_]
  · rw [filt (b := x) (m := [y]) (by simp [hx, Expr.pos]) (filt (b := y) (m := []) (by simp [hy, hl', Expr.pos]) rfl)]
    rw [dups_2 hxy, h, h2]
    rfl
  · rw [List.any_cons, List.any_cons, List.any_nil, Bool.or_false, Bool.or_eq_true]
    rintro (z | z)
    · split at z
      · exact ha _ _ rfl
      · cases z
    · split at z
      · exact hb' _ _ rfl
      · cases z
theorem sw_3 {x y z : Str} {px py pz : Pos} {a b c : Expr} {k k2 : Nat} {p p2 : Pos} {env : PySem.Env} (hb : env.blockKind = .function) (hx : env.kindOf x = some .local) (hy : env.kindOf y = some .local) (hz : env.kindOf z = some .local) (hl : (py.line == px.line) = true) (hl2 : (pz.line == px.line) = true)
    (hxy : (x == y) = false) (hxz : (x == z) = false) (hyz : (y == z) = false) (h : [a, b, c].all (foldedForSure 8) = false) (h2 : [a, b, c].all (constantsAlone 8) = false) (ha : ∀ v p, a ≠ .Starred v p) (hb' : ∀ v p, b ≠ .Starred v p) (hc' : ∀ v p, c ≠ .Starred v p) :
    swappedStores [.Tuple [.Name x px, .Name y py, .Name z pz] k p] (.Tuple [a, b, c] k2 p2) env = pure (some [x, y, z]) := by
  unfold swappedStores
  have hl' : py.line = px.line := eq_of_beq hl
  have hl2' : pz.line = px.line := eq_of_beq hl2
  dsimp only
  rw [if_neg (by rw [hb]; exact Bool.false_ne_true), if_neg ?_]
  · rw [filt (b := x) (m := [y, z]) (by simp [hx, Expr.pos]) (filt (b := y) (m := [z]) (by simp [hy, hl', Expr.pos]) (filt (b := z) (m := []) (by simp [hz, hl2', Expr.pos]) rfl))]
    rw [dups_3 hxy hxz hyz, h, h2]
    rfl
  · rw [List.any_cons, List.any_cons, List.any_cons, List.any_nil, Bool.or_false, Bool.or_eq_true, Bool.or_eq_true]
    rintro (z | z | z)
    · split at z
      · exact ha _ _ rfl
      · cases z
    · split at z
      · exact hb' _ _ rfl
      · cases z
    · split at z
      · exact hc' _ _ rfl
      · cases z
theorem cPar_cons {x : Str} {p : Pos} {ts es : List Expr} {is : List (Nat × Bool)} (h : cPar S (.Name x p :: ts) es = some is) : ∃ e es' i is', es = e :: es' ∧ slotW S x = some i ∧ cPar S ts es' = some is' ∧ is = (i, ownOf S i e) :: is' := by
  cases es with
  | nil => cases h
  | cons e es =>
    obtain ⟨i, hi, h⟩ := Option.bind_eq_some_iff.mp (show ((slotW S x).bind fun i => (cPar S ts es).map fun r => (i, ownOf S i e) :: r) = some is from h)
    obtain ⟨is', hs, rfl⟩ := Option.map_eq_some_iff.mp h
    exact ⟨e, es, i, is', rfl, hi, hs, rfl⟩
theorem cPar_nil {es : List Expr} {is : List (Nat × Bool)} (h : cPar S [] es = some is) : es = [] ∧ is = [] := by
  cases es with
  | nil => cases h; exact ⟨rfl, rfl⟩
  | cons e es => cases h
/-- a row of names that takes a row of values -/
theorem s_par {ts es : List Expr} {k k2 : Nat} {p p2 pos : Pos} {n : Nat} {is : List (Nat × Bool)} {r : Exs} (hh : S.hot = false) (K : Ctx S M C L X W) (ok : rowOk S ts es = true) (hp : cPar S ts es = some is) (hr : cL (cE n S) false es = some r) :
    PS X (.Assign [.Tuple ts k p] (.Tuple es k2 p2) pos) (tS M C W S.io fr (.par is r)) := by
  obtain ⟨i1, i2, i3⟩ := cPar_ok K hp hr
  obtain ⟨j1, j2, j3, j4⟩ := pgs_names K.G i2
  have calm := K.G.calm hh
  have N := K.G.N
  have lenr : exsN r = es.length := cL_len hr
  unfold rowOk at ok
  rw [Bool.and_eq_true, decide_eq_true_eq] at ok
  obtain ⟨h100, ok⟩ := ok
  have plain : swappedStores [.Tuple ts k p] (.Tuple es k2 p2) X.env = pure none → PS X (.Assign [.Tuple ts k p] (.Tuple es k2 p2) pos) (tS M C W S.io fr (.par is r)) := fun hw => by
    refine PS.weak (ps_asg (pe_tup i1) (pg_tup calm j1 j3 j4) rfl hw rfl) fun D σ H q => ?_
    obtain ⟨B, Z, ρ, ob, R, q⟩ := q
    refine row_land (is := is) (r := r) ob R i3 j2 q fun vs H1 hl hd => ⟨?_, fun p hp => ⟨p, vs, rfl, SqT.of upd_same, ?_, ?_, hd _ (new_same hp)⟩⟩
    · rw [hl, i3, lenr, sizeLine_eq]; omega
    · rw [hl, List.length_map]
    · rw [hl, List.length_map]
  have nd := K.G.nd
  have apart : ∀ {i j : Nat} {x y : Str}, slotW S x = some i → slotW S y = some j → (x == y) = false → i ≠ j := fun hi hj hxy e => by
    subst e
    have e1 := (slotW_ok hi).1
    have e2 := (slotW_ok hj).1
    rw [e1] at e2; cases e2
    rw [beq_self_eq_true] at hxy; cases hxy
  have kind : ∀ {x : Str}, S.sc.names.lookup x = some .local → X.env.kindOf x = some .local := fun h => by
    show X.env.scope.names.lookup _ = _
    rw [K.G.sc]; exact h
  rcases Bool.or_eq_true_iff.mp ok with ok | ok
  · rcases Bool.or_eq_true_iff.mp ok with ok | ok
    · exact plain (sw_folded ok)
    · exact plain (sw_many (of_decide_eq_true ok))
  · simp only [Bool.and_eq_true, Bool.not_eq_true'] at ok
    obtain ⟨⟨⟨ok1, ok2⟩, ok3⟩, ok4⟩ := ok
    have hb : X.env.blockKind = .function := by
      have : S.sc.kind = .function := by
        revert ok1
        cases S.sc.kind <;> intro z <;> first | rfl | cases z
      unfold Env.blockKind
      rw [K.G.sc, this]; rfl
    split at ok4
    · rename_i a b
      split at ok4
      · rename_i x y hx hy
        rw [Bool.not_eq_true'] at ok4
        obtain ⟨px, rfl, lx, _⟩ := loc1_ok hx
        obtain ⟨py, rfl, ly, ll⟩ := loc1_ok hy
        obtain ⟨e1, es1, i, is1, rfl, hi, hp1, rfl⟩ := cPar_cons hp
        obtain ⟨e2, es2, j, is2, rfl, hj, hp2, rfl⟩ := cPar_cons hp1
        obtain ⟨rfl, rfl⟩ := cPar_nil hp2
        obtain ⟨c1, c2, hc1, hc2, rfl⟩ := cL_two hr
        refine PS.weak (ps_par calm (by rw [N]; exact nd) (by rw [N]; exact (slotW_ok hi).1) (by rw [N]; exact (slotW_ok hj).1) (apart hi hj ok4) (by rw [K.G.sc]; exact lx) (by rw [K.G.sc]; exact ly) i1
          (sw_2 hb (kind lx) (kind ly) ll ok4 ok2 ok3 (nostar hc1) (nostar hc2))) fun D σ H q => ?_
        obtain ⟨B, Z, ρ, ob, R, q⟩ := q
        refine row_land ob R i3 j2 q fun vs H1 hl hd => ?_
        match vs, hl with
        | [v, w], _ => exact ⟨v, w, rfl, hd H1 (Same.refl _)⟩
      · cases ok4
    · rename_i a b c
      split at ok4
      · rename_i x y z hx hy hz
        simp only [Bool.and_eq_true, Bool.not_eq_true'] at ok4
        obtain ⟨⟨xy, xz⟩, yz⟩ := ok4
        obtain ⟨px, rfl, lx, _⟩ := loc1_ok hx
        obtain ⟨py, rfl, ly, ll⟩ := loc1_ok hy
        obtain ⟨pz, rfl, lz, ll2⟩ := loc1_ok hz
        obtain ⟨e1, es1, i, is1, rfl, hi, hp1, rfl⟩ := cPar_cons hp
        obtain ⟨e2, es2, j, is2, rfl, hj, hp2, rfl⟩ := cPar_cons hp1
        obtain ⟨e3, es3, l, is3, rfl, hk, hp3, rfl⟩ := cPar_cons hp2
        obtain ⟨rfl, rfl⟩ := cPar_nil hp3
        obtain ⟨c1, r1, hc1, hr1, rfl⟩ := cL_cons hr
        obtain ⟨c2, c3, hc2, hc3, rfl⟩ := cL_two hr1
        refine PS.weak (ps_par3 calm (by rw [N]; exact nd) (by rw [N]; exact (slotW_ok hi).1) (by rw [N]; exact (slotW_ok hj).1) (by rw [N]; exact (slotW_ok hk).1) (apart hi hj xy) (apart hi hk xz) (apart hj hk yz) (by rw [K.G.sc]; exact lx) (by rw [K.G.sc]; exact ly) (by rw [K.G.sc]; exact lz) i1
          (sw_3 hb (kind lx) (kind ly) (kind lz) ll ll2 xy xz yz ok2 ok3 (nostar hc1) (nostar hc2) (nostar hc3))) fun D σ H q => ?_
        obtain ⟨B, Z, ρ, ob, R, q⟩ := q
        refine row_land ob R i3 j2 q fun vs H1 hl hd => ?_
        match vs, hl with
        | [u, v, w], _ => exact ⟨u, v, w, rfl, hd H1 (Same.refl _)⟩
      · cases ok4
    · cases ok4
end
end PF

set_option Elab.async false
set_option linter.all false
set_option maxRecDepth 100000
set_option maxHeartbeats 2000000
/-! PF18: assignments to one name, to items; append, extend; op=. -/
namespace PF
open PySem PySem.Spec PyProof.Rows L2
section
variable {C : Cn} {B : Bs} {Z : Addr → Prop} {H : Hp} {σ : L2.St} {ρ : En}
theorem Rel.setOw (R : Rel C B Z H σ ρ) {v : V} {d : D} {i : Nat} (h : Ow C B σ ρ H Z v d) (hi : B.io ≠ none → i ≠ 0) : Rel C B Z H (σ.set i (some v)) (setC ρ i (ownC true d)) := by
  rcases h with ⟨f, n⟩ | ⟨a, xs, ds, rfl, rfl, h1, h2, h3, h4, h5, h6⟩
  · have eo : ownC true d = .v d := by
      cases d with
      | lst ds => exact (n ds rfl).elim
      | _ => rfl
    rw [eo]
    exact R.setV f hi
  · exact R.setO h1 h2 h3 h4 (fun j es _ ej => h6 j es ej) hi
end
section
variable {S : SC} {M : Mo} {C : Cn} {L : Nat} {X : Cx} {W : WX} {fr : Bool}
/-- the swap of a comprehension with its target, told -/
theorem swaps_comp (K : Ctx S M C L X W) {elt : Expr} {gs : List Comprehension} {scope : Scope} {pos py : Pos} {y : Str} {l : Nat} : swapsWith (.ListComp elt gs scope pos) (some (.Name y py)) l X.env = pure false ∨
    (swapsWith (.ListComp elt gs scope pos) (some (.Name y py)) l X.env = pure true ∧ X.env.scope.names.lookup y = some .local) := by
  unfold swapsWith
  cases hb : (X.env.blockKind == ScopeKind.function && X.env.kindOf y == some NameKind.local && py.line == (Expr.ListComp elt gs scope pos).pos.line && !(scope.names.any fun x => x.1 == y && (x.2 == NameKind.local || x.2 == NameKind.cell))) with
  | false => exact .inl (by simp only [pure_bind]; rw [hb])
  | true =>
    refine .inr ⟨by simp only [pure_bind]; rw [hb], ?_⟩
    simp only [Bool.and_eq_true] at hb
    have h := hb.1.1.2
    have h : (X.env.scope.names.lookup y == some NameKind.local) = true := h
    revert h
    cases X.env.scope.names.lookup y with
    | none => intro z; cases z
    | some k => cases k <;> intro z <;> first | rfl | cases z
theorem asg_end {io : Bool} {i : Nat} {own : Bool} {c : Ex} {σ : L2.St} {H : Hp} {D : Ends} (hi : io = true → i ≠ 0) (q : tS M C W io fr (.asg i own c) D σ H) :
    (if own = true then tO M C W io c else tX M C W io false c) σ H fun v H1 => D.nx (σ.set i (some v)) H1 := by
  obtain ⟨B, Z, ρ, ob, R, q⟩ := q
  have q : LandS C W fr σ B Z H ((ev M c ρ).bind fun d ρ => .ok .nx (setC ρ i (ownC own d))) D := q
  cases own with
  | true =>
    rw [if_pos rfl]
    exact ⟨B, Z, ρ, ob, R, (LandS.bind q).imp fun d Z1 H1 ρ1 R1 z1 k1 s1 h1 v hv => LandS.stay h1 (R1.setOw hv (io_ne ob hi)) (List.length_set ..)⟩
  | false =>
    rw [if_neg Bool.false_ne_true]
    exact ⟨B, Z, ρ, ob, R, (LandS.bind q).imp fun d Z1 H1 ρ1 R1 z1 k1 s1 h1 v hv => LandS.stay h1 (R1.setV hv (io_ne ob hi)) (List.length_set ..)⟩
theorem s_asg {x : Str} {p pos : Pos} {e : Expr} {i n : Nat} {c : Ex} (K : Ctx S M C L X W) (hx : slotW S x = some i) (h : cE n S false e = some c) :
    PS X (.Assign [.Name x p] e pos) (tS M C W S.io fr (.asg i (ownOf S i e) c)) := by
  obtain ⟨g1, g2⟩ := pg_one K.G (pos := p) hx
  have pe : PE X e (if ownOf S i e = true then tO M C W S.io c else tX M C W S.io false c) := by
    by_cases ho : ownOf S i e = true
    · rw [if_pos ho]
      unfold ownOf at ho
      rw [Bool.and_eq_true] at ho
      exact own_ok n 3 ho.2 h K.G K.tk
    · rw [if_neg ho]
      exact expr_ok M L n C S false e c h X W K.G K.tk
  have plain : swapsWith e (some (.Name x p)) pos.line X.env = pure false → PS X (.Assign [.Name x p] e pos) (tS M C W S.io fr (.asg i (ownOf S i e) c)) := fun hs =>
    PS.weak (ps_asg pe g1 hs (by cases e <;> rfl) rfl) fun D σ H q => asg_end g2 q
  by_cases hcmp : isComp e = true
  · cases e with
    | ListComp elt gs scope lpos =>
      rcases swaps_comp K (elt := elt) (gs := gs) (scope := scope) (pos := lpos) (py := p) (y := x) (l := pos.line) with hs | ⟨hs, hl⟩
      · exact plain hs
      · have fin : ∀ D σ H, tS M C W S.io fr (.asg i (ownOf S i (.ListComp elt gs scope lpos)) c) D σ H → tO M C W S.io c σ H fun v H1 => D.nx (σ.set i (some v)) H1 := fun D σ H q => by
          have q := asg_end g2 q
          by_cases ho : ownOf S i (.ListComp elt gs scope lpos) = true
          · rwa [if_pos ho] at q
          · rw [if_neg ho] at q
            exact tO.of q
        obtain ⟨w1, w2, w3, w4⟩ := slotW_ok hx
        have hN : X.N.Nodup := by rw [K.G.N]; exact K.G.nd
        have hy : X.N[i]? = some x := by rw [K.G.N]; exact w1
        cases n with
        | zero => cases h
        | succ n =>
          have ihn := expr_ok M L n
          have ih : ∀ m, m ≤ n → EOk M L m := fun m _ => expr_ok M L m
          unfold cE at h
          split at h <;> first
            | (rename_i he; cases he; done)
            | skip
          · rename_i he
            cases he
            split at h
            · cases h
            · rename_i hb
              simp only [Bool.or_eq_true, Bool.not_eq_true', not_or, Bool.not_eq_true, Bool.not_eq_false] at hb
              obtain ⟨hh, hb⟩ := hb
              obtain ⟨t, ht, h⟩ := Option.bind_eq_some_iff.mp h
              obtain ⟨c', hc, h⟩ := Option.bind_eq_some_iff.mp h
              obtain ⟨k, hk, h⟩ := Option.bind_eq_some_iff.mp h
              obtain ⟨it, hi, h⟩ := Option.bind_eq_some_iff.mp h
              split at h
              · rename_i hw
                cases h
                have calm := K.G.calm hh
                obtain ⟨b1, b2⟩ := blk_ok hb
                have gb := fun s H A cl fp => K.G.blk hh hb s H A cl fp
                exact PS.weak (ps_setLc calm hN hy hl hs (iter_ok ihn K.G K.tk (fun e => tup_of e) hi) (by rw [K.G.N, K.G.sc]; exact blkOk_by b1)
                  (fun s H A cl fp => tg_ok (gb s H A cl fp) calm ht) (fun s H A cl fp => ifs_ok ih (gb s H A cl fp) takesF hk) (fun s H A cl fp => ihn C _ false _ c' hc _ WF (gb s H A cl fp) takesF) (cIter_set (fun es k p => cE_set) hi X.env)) fun D σ H q => lc_weak b2 hw σ H _ (fin D σ H q)
              · cases h
          · rename_i he
            cases he
            split at h
            · cases h
            · rename_i hb
              simp only [Bool.or_eq_true, Bool.not_eq_true', not_or, Bool.not_eq_true, Bool.not_eq_false] at hb
              obtain ⟨hh, hb⟩ := hb
              obtain ⟨t, ht, h⟩ := Option.bind_eq_some_iff.mp h
              obtain ⟨t2, ht2, h⟩ := Option.bind_eq_some_iff.mp h
              obtain ⟨c', hc, h⟩ := Option.bind_eq_some_iff.mp h
              obtain ⟨k, hk, h⟩ := Option.bind_eq_some_iff.mp h
              obtain ⟨k2, hk2, h⟩ := Option.bind_eq_some_iff.mp h
              obtain ⟨it2, hi2, h⟩ := Option.bind_eq_some_iff.mp h
              obtain ⟨it, hi, h⟩ := Option.bind_eq_some_iff.mp h
              split at h
              · rename_i hw
                rw [Bool.and_eq_true] at hw
                cases h
                have calm := K.G.calm hh
                obtain ⟨b1, b2⟩ := blk_ok hb
                have gb := fun s H A cl fp => K.G.blk hh hb s H A cl fp
                have v1 : ∀ i ∈ t.1, i ∈ (ownSlots S scope).map (·.2) := fun i m => List.contains_iff_mem.mp (List.all_eq_true.mp hw.1 i m)
                have v2 : ∀ i ∈ t2.1, i ∈ (ownSlots S scope).map (·.2) := fun i m => List.contains_iff_mem.mp (List.all_eq_true.mp hw.2 i m)
                exact PS.weak (ps_setLc2 calm hN hy hl hs (iter_ok ihn K.G K.tk (fun e => tup_of e) hi) (by rw [K.G.N, K.G.sc]; exact blkOk_by b1) v2
                  (fun s H A cl fp => tg_ok (gb s H A cl fp) calm ht) (fun s H A cl fp => ifs_ok ih (gb s H A cl fp) takesF hk) (fun s H A cl fp => iter_ok ihn (gb s H A cl fp) takesF (fun e => tup_of e) hi2)
                  (fun s H A cl fp => tg_ok (gb s H A cl fp) calm ht2) (fun s H A cl fp => ifs_ok ih (gb s H A cl fp) takesF hk2) (fun s H A cl fp => ihn C _ false _ c' hc _ WF (gb s H A cl fp) takesF)
                  (cIter_set (fun es k p => cE_set) hi X.env) (cIter_set (fun es k p => cE_set) hi2)) fun D σ H q => lc2_weak b2 v1 v2 σ H _ (fin D σ H q)
              · cases h
          · cases h
    | _ => cases hcmp
  · exact plain (swaps_plain (Bool.eq_false_iff.mpr hcmp) h _ _ _)
theorem s_unp {ts : List Expr} {k n : Nat} {p pos : Pos} {e : Expr} {t : List Nat × Bool} {c : Ex} (hh : S.hot = false) (K : Ctx S M C L X W) (nt : ∀ es k p, e ≠ .Tuple es k p) (ht : cTg S (.Tuple ts k p) = some t) (h : cE n S false e = some c) :
    PS X (.Assign [.Tuple ts k p] e pos) (tS M C W S.io fr (.unp t.1 c)) := by
  have hw : swappedStores [.Tuple ts k p] e X.env = pure none := by
    cases e <;> first
      | rfl
      | exact (nt _ _ _ rfl).elim
  have two : t.2 = false := by
    obtain ⟨is, _, rfl⟩ := Option.map_eq_some_iff.mp (show (cNames S ts).map (fun is => (is, false)) = some t from ht)
    rfl
  refine PS.weak (ps_asg (expr_ok M L n C S false e c h X W K.G K.tk) (tg_ok K.G (K.G.calm hh) ht) (by cases e <;> rfl) hw (by cases e <;> rfl)) fun D σ H q => ?_
  obtain ⟨B, Z, ρ, ob, R, q⟩ := q
  have q : LandS C W fr σ B Z H ((ev M c ρ).bind fun d ρ => (match d with
    | .tup xs => (match setAll t.1 xs ρ with
      | some ρ' => .ok .nx ρ'
      | none => .bad)
    | _ => .bad)) D := q
  refine ⟨B, Z, ρ, ob, R, (LandS.bind q).imp fun d Z1 H1 ρ1 R1 z1 k1 s1 h1 v hv => ?_⟩
  cases d with
  | tup xs =>
    have h1 : LandS C W fr σ B Z1 H1 (match setAll t.1 xs ρ1 with
      | some ρ' => .ok .nx ρ'
      | none => .bad) D := h1
    cases e1 : setAll t.1 xs ρ1 with
    | none => rw [e1] at h1; exact h1.elim
    | some ρ' =>
      rw [e1] at h1
      refine ⟨B, Z1, ρ1, .tup xs, ρ', ob, R1, hv, by rw [two]; exact e1, fun σ2 R2 w2 => h1 σ2 Z1 H1 R2 ?_ (fun _ m => m) (Keep.refl _ _)⟩
      have := w2 t.1 (fun i m => m)
      rw [← wipe_length σ2 t.1, this, wipe_length]
  | _ => exact h1.elim
theorem own_var (G : Good S M C L X) {x : Str} {i : Nat} {p : Pos} (hx : slotOf S x = some i) : PE X (.Name x p) (tVar i) := by
  obtain ⟨j1, j2, j3⟩ := slotOf_ok hx
  obtain ⟨m1, m2, _⟩ := okName_and j3
  exact pe_var (by rw [G.N]; exact j1) (by rw [G.sc]; exact j2) m1 m2
theorem s_setIx {x : Str} {p p2 pos : Pos} {k e : Expr} {i n : Nat} {j c : Ex} (K : Ctx S M C L X W) (hx : slotOf S x = some i) (h : cE n S false e = some c) (hk : cE n S true k = some j) :
    PS X (.Assign [.Subscript (.Name x p) k p2] e pos) (tS M C W S.io fr (.setIx i j c)) := by
  have ha : ∀ v, assign (.Subscript (.Name x p) k p2) X.env v = (do
      let ov ← holding [v] (eval (.Name x p) X.env)
      let iv ← holding [v, ov] (eval k X.env)
      standAt p2
      holding [v, ov, iv] (setItem ov iv v)
      release [v, ov, iv] []) := by
    intro v
    cases k <;> first
      | rfl
      | (cases n <;> cases hk)
  refine PS.weak (ps_asg (expr_ok M L n C S false e c h X W K.G K.tk) (pg_sub (own_var K.G hx) (expr_ok M L n C S true k j hk X W K.G K.tk) set_list ha) (by cases e <;> rfl) (by cases e <;> rfl) (by cases e <;> rfl)) fun D σ H q => ?_
  obtain ⟨B, Z, ρ, ob, R, q⟩ := q
  have q : LandS C W fr σ B Z H ((ev M c ρ).bind fun d ρ => (match getC ρ i with
    | .o _ => (ev M j ρ).bind fun j ρ => (match getC ρ i, j with
      | .o xs, .int j => (match L2.ixN xs.length j with
        | some m => .ok .nx (setC ρ i (.o (xs.set m d)))
        | none => .bad)
      | _, _ => .bad)
    | _ => .bad)) D := q
  refine ⟨B, Z, ρ, ob, R, (LandS.bind q).imp fun d Z1 H1 ρ1 R1 z1 k1 s1 h1 v hv => ?_⟩
  have hv : Fz C H1 Z1 v d := hv
  cases e0 : getC ρ1 i with
  | no => rw [e0] at h1; exact h1.elim
  | v d => rw [e0] at h1; exact h1.elim
  | o ds0 =>
    rw [e0] at h1
    obtain ⟨b, ys0, g1, g2, _⟩ := R1.own i ds0 e0
    replace h1 : LandS C W fr σ B Z1 H1 ((ev M j ρ1).bind fun j ρ => (match getC ρ i, j with
      | .o xs, .int j => (match L2.ixN xs.length j with
        | some m => .ok .nx (setC ρ i (.o (xs.set m d)))
        | none => .bad)
      | _, _ => .bad)) D := h1
    refine ⟨.ref b, g1, B, Z1, ρ1, ob, R1, (LandS.bind h1).imp fun jd Z2 H2 ρ2 R2 z2 k2 s2 h2 w hw => ?_⟩
    cases e1 : getC ρ2 i with
    | no => rw [e1] at h2; exact h2.elim
    | v d => rw [e1] at h2; exact h2.elim
    | o ds =>
      rw [e1] at h2
      obtain ⟨b', ys, n1, n2, n3, _⟩ := R2.own i ds e1
      rw [g1] at n1; cases n1
      cases jd with
      | int m =>
        have := Rv.int hw; subst this
        replace h2 : LandS C W fr σ B Z2 H2 (match L2.ixN ds.length m with
          | some m => .ok .nx (setC ρ2 i (.o (ds.set m d)))
          | none => .bad) D := h2
        cases em : L2.ixN ds.length m with
        | none => rw [em] at h2; exact h2.elim
        | some l =>
          rw [em] at h2
          obtain ⟨R3, k3⟩ := R2.updO e1 g1 (n3.set (hv.keep k2 z2) l)
          exact ⟨b, ys, m, l, rfl, rfl, n2, by rw [n3.length]; exact em, h2 σ Z2 _ R3 rfl (fun _ m => m) k3⟩
      | _ => exact h2.elim
theorem s_app {x : Str} {p apos cpos pos : Pos} {e : Expr} {i n : Nat} {c : Ex} (K : Ctx S M C L X W) (hl : (apos.endLine == cpos.line) = true) (hx : slotOf S x = some i) (h : cE n S false e = some c) :
    PS X (.Expr (.Call (.Attribute (.Name x p) "append" apos) [e] [] cpos) pos) (tS M C W S.io fr (.app i c)) := by
  refine PS.weak (ps_expr (pe_bm F.plainAttrs_list F.slot_list_append F.type_list_append mt_append (own_var K.G hx) (pa_cons (expr_ok M L n C S false e c h X W K.G K.tk) pa_nil (star_of h [] X.env)) rfl (by rw [star_of h [] X.env]; rfl) hl (star_of h [] X.env) rfl) rfl) fun D σ H q => ?_
  obtain ⟨B, Z, ρ, ob, R, q⟩ := q
  have q : LandS C W fr σ B Z H (match getC ρ i with
    | .o _ => (ev M c ρ).bind fun d ρ => (match getC ρ i with
      | .o xs => if xs.length < sizeLine then .ok .nx (setC ρ i (.o (xs ++ [d]))) else .bad
      | _ => .bad)
    | _ => .bad) D := q
  cases e0 : getC ρ i with
  | no => rw [e0] at q; exact q.elim
  | v d => rw [e0] at q; exact q.elim
  | o ds0 =>
    rw [e0] at q
    obtain ⟨b, ys0, g1, g2, _⟩ := R.own i ds0 e0
    replace q : LandS C W fr σ B Z H ((ev M c ρ).bind fun d ρ => (match getC ρ i with
      | .o xs => if xs.length < sizeLine then .ok .nx (setC ρ i (.o (xs ++ [d]))) else .bad
      | _ => .bad)) D := q
    refine ⟨.ref b, g1, .inl ⟨rfl, _, SqL.of g2⟩, B, Z, ρ, ob, R, (LandS.bind q).imp fun d Z1 H1 ρ1 R1 z1 k1 s1 h1 v hv => ?_⟩
    have hv : Fz C H1 Z1 v d := hv
    cases e1 : getC ρ1 i with
    | no => rw [e1] at h1; exact h1.elim
    | v d => rw [e1] at h1; exact h1.elim
    | o ds =>
      rw [e1] at h1
      obtain ⟨b', ys, n1, n2, n3, _⟩ := R1.own i ds e1
      rw [g1] at n1; cases n1
      replace h1 : LandS C W fr σ B Z1 H1 (if ds.length < sizeLine then .ok .nx (setC ρ1 i (.o (ds ++ [d]))) else .bad) D := h1
      split at h1
      · rename_i hz
        obtain ⟨R2, k2⟩ := R1.updO e1 g1 (n3.append (.one hv))
        exact ⟨b, ys, v, rfl, rfl, n2, by rw [n3.length]; exact hz, h1 σ Z1 _ R2 rfl (fun _ m => m) k2⟩
      · exact h1.elim
theorem s_ext {x : Str} {p apos cpos pos : Pos} {e : Expr} {i n : Nat} {c : Ex} (K : Ctx S M C L X W) (hl : (apos.endLine == cpos.line) = true) (hx : slotOf S x = some i) (h : cE n S false e = some c) :
    PS X (.Expr (.Call (.Attribute (.Name x p) "extend" apos) [e] [] cpos) pos) (tS M C W S.io fr (.ext i c)) := by
  refine PS.weak (ps_expr (pe_bm F.plainAttrs_list F.slot_list_extend F.type_list_extend mt_extend (own_var K.G hx) (pa_cons (expr_ok M L n C S false e c h X W K.G K.tk) pa_nil (star_of h [] X.env)) rfl (by rw [star_of h [] X.env]; rfl) hl (star_of h [] X.env) rfl) rfl) fun D σ H q => ?_
  obtain ⟨B, Z, ρ, ob, R, q⟩ := q
  have q : LandS C W fr σ B Z H (match getC ρ i with
    | .o _ => (ev M c ρ).bind fun d ρ => (match getC ρ i, d with
      | .o xs, .lst ys => if xs.length + ys.length ≤ sizeLine then .ok .nx (setC ρ i (.o (xs ++ ys))) else .bad
      | _, _ => .bad)
    | _ => .bad) D := q
  cases e0 : getC ρ i with
  | no => rw [e0] at q; exact q.elim
  | v d => rw [e0] at q; exact q.elim
  | o ds0 =>
    rw [e0] at q
    obtain ⟨b, ys0, g1, g2, _⟩ := R.own i ds0 e0
    replace q : LandS C W fr σ B Z H ((ev M c ρ).bind fun d ρ => (match getC ρ i, d with
      | .o xs, .lst ys => if xs.length + ys.length ≤ sizeLine then .ok .nx (setC ρ i (.o (xs ++ ys))) else .bad
      | _, _ => .bad)) D := q
    refine ⟨.ref b, g1, .inl ⟨rfl, _, SqL.of g2⟩, B, Z, ρ, ob, R, (LandS.bind q).imp fun d Z1 H1 ρ1 R1 z1 k1 s1 h1 v hv => ?_⟩
    have hv : Fz C H1 Z1 v d := hv
    cases e1 : getC ρ1 i with
    | no => rw [e1] at h1; exact h1.elim
    | v d => rw [e1] at h1; exact h1.elim
    | o ds =>
      rw [e1] at h1
      obtain ⟨b', ys, n1, n2, n3, _⟩ := R1.own i ds e1
      rw [g1] at n1; cases n1
      cases d with
      | lst fs =>
        replace h1 : LandS C W fr σ B Z1 H1 (if ds.length + fs.length ≤ sizeLine then .ok .nx (setC ρ1 i (.o (ds ++ fs))) else .bad) D := h1
        split at h1
        · rename_i hz
          obtain ⟨a2, ws, rfl, m1, m2⟩ := Rv.lst (.inl hv)
          obtain ⟨R2, k2⟩ := R1.updO e1 g1 (n3.append m2)
          exact ⟨b, a2, ys, ws, rfl, rfl, n2, m1, by rw [n3.length, m2.length]; exact hz, h1 σ Z1 _ R2 rfl (fun _ m => m) k2⟩
        · exact h1.elim
      | _ => exact h1.elim
theorem s_aug {x : Str} {p pos : Pos} {op : Operator} {e : Expr} {i n : Nat} {o : Op} {c : Ex} (K : Ctx S M C L X W) (hx : slotW S x = some i) (ho : binOp op = some o) (h : cE n S true e = some c) :
    PS X (.AugAssign (.Name x p) op e pos) (tS M C W S.io fr (.aug i o c)) := by
  obtain ⟨w1, w2, w3, w4⟩ := slotW_ok hx
  have hf : X.fn x = true ∨ X.env.scope.names.lookup x = some .local := by
    rcases w3 with w3 | w3
    · exact .inr (by rw [K.G.sc]; exact w3)
    · exact .inl (K.G.fn x w3)
  have base : ∀ {ti : TIp}, PIp X op ti → PS X (.AugAssign (.Name x p) op e pos) (tAug i (tX M C W S.io true c) ti) := fun hp =>
    ps_aug (by rw [K.G.N]; exact K.G.nd) (by rw [K.G.N]; exact w1) (by rw [K.G.sc]; exact w2) (expr_ok M L n C S true e c h X W K.G K.tk) hp hf
  have go : ∀ {ti : TIp}, PIp X op ti → (∀ {x d r : D} {v w : V} {H : Hp} {Z : Addr → Prop} {Q : VK}, augD o x d = some r → Rv C H Z v x → Rv C H Z w d → (∀ u, Fz C H Z u r → Q u H) → ti v w H Q) → PS X (.AugAssign (.Name x p) op e pos) (tS M C W S.io fr (.aug i o c)) := fun {ti} hp rule => by
    refine PS.weak (base hp) fun D σ H q => ?_
    obtain ⟨B, Z, ρ, ob, R, q⟩ := q
    have q : LandS C W fr σ B Z H (match getC ρ i with
      | .v x => (ev M c ρ).bind fun d ρ => (match augD o x d with
        | some r => .ok .nx (setC ρ i (.v r))
        | none => .bad)
      | _ => .bad) D := q
    cases e0 : getC ρ i with
    | no => rw [e0] at q; exact q.elim
    | o ds => rw [e0] at q; exact q.elim
    | v d =>
      rw [e0] at q
      obtain ⟨v, h1, h2⟩ := R.val i d e0
      replace q : LandS C W fr σ B Z H ((ev M c ρ).bind fun b ρ => (match augD o d b with
        | some r => .ok .nx (setC ρ i (.v r))
        | none => .bad)) D := q
      refine ⟨v, h1, B, Z, ρ, ob, R, (LandS.bind q).imp fun b Z1 H1 ρ1 R1 z1 k1 s1 h3 w hw => ?_⟩
      cases er : augD o d b with
      | none => rw [er] at h3; exact h3.elim
      | some r =>
        rw [er] at h3
        exact rule er (.inl (h2.keep k1 z1)) hw fun u hu => LandS.stay h3 (R1.setV hu (io_ne ob w4)) (List.length_set ..)
  have iop : ∀ {f : Int → Int → Int}, PIp X op (ipI f) → (∀ {x d r : D}, augD o x d = some r → ∃ a b, x = .int a ∧ d = .int b ∧ r = .int (f a b)) → PS X (.AugAssign (.Name x p) op e pos) (tS M C W S.io fr (.aug i o c)) := fun {f} hp hf =>
    go hp fun {x d r v w H Z Q} er hv hw hq => by
      obtain ⟨a, b, rfl, rfl, rfl⟩ := hf er
      have := Rv.int hv; subst this
      have := Rv.int hw; subst this
      exact ⟨a, b, rfl, rfl, hq _ (.int _)⟩
  have aint : ∀ {x d r : D}, augD o x d = some r → ∃ a b, x = .int a ∧ d = .int b ∧ augI o a b = some r := fun {x d r} h => by
    unfold augD at h
    split at h
    · exact ⟨_, _, rfl, rfl, h⟩
    · cases h
  cases op with
  | Add =>
    cases ho
    exact iop ip_add fun {x d r} h => by
      obtain ⟨a, b, rfl, rfl, h⟩ := aint h
      cases h
      exact ⟨a, b, rfl, rfl, rfl⟩
  | Sub =>
    cases ho
    exact iop ip_sub fun {x d r} h => by
      obtain ⟨a, b, rfl, rfl, h⟩ := aint h
      cases h
      exact ⟨a, b, rfl, rfl, rfl⟩
  | _ =>
    cases ho <;> exact go (ti := fun _ _ _ _ => False) (fun _ _ _ _ _ _ _ _ _ _ _ _ z => z.elim) fun {x d r v w H Z Q} er hv hw hq => by
      obtain ⟨a, b, _, _, h⟩ := aint er
      cases h
end
end PF

set_option Elab.async false
set_option linter.all false
set_option maxRecDepth 100000
set_option maxHeartbeats 2000000
/-! PF19: try with several clauses, some of which name the exception. -/
namespace PF
open PySem PySem.Spec PyProof.Rows L2
abbrev Clause := Value × Option Nat × (Addr → Value → Option Addr → TS)
/-- the ends of a suite whose name goes -/
def Ends.drop (D : Ends) (i : Nat) : Ends where
  nx τ G := D.nx (τ.set i none) G
  rt := D.rt
  bk τ G := D.bk (τ.set i none) G
  ct τ G := D.ct (τ.set i none) G
def inSuite (ts : Addr → Value → Option Addr → TS) (a : Addr) (cls : Value) (d : Option Addr) (D : Ends) (τ : L2.St) (G : Hp) : Option Nat → Prop
  | none => ts a cls d D τ G
  | some i => ts a cls d (Ends.drop D i) (τ.set i (some (.ref a))) G
/-- what the clauses wish of the body's exception -/
def wCl (K : PySem.W.Frag) (Wout : WX) (D : Ends) : List Clause → WX
  | [] => Wout
  | (c, oi, ts) :: r => fun cls d τ G => ∃ b, PySem.W.exmOne K cls c = some b ∧ (b = true → ∀ a, G a = none → inSuite ts a cls d D τ G oi) ∧ (b = false → wCl K Wout D r cls d τ G)
inductive ClOk (X : Cx) : List ExceptHandler → List Clause → Prop
  | nil : ClOk X [] []
  | cons {x : Str} {c : Value} {on : Option Str} {oi : Option Nat} {ts : Addr → Value → Option Addr → TS} {st : Stmt} {suite : List Stmt} {np hp : Pos} {hds : List ExceptHandler} {l : List Clause} (hc : Names X x c)
      (hn : (on = none ∧ oi = none) ∨ ∃ n i, on = some n ∧ oi = some i ∧ X.N[i]? = some n ∧ X.env.kindOf n = some .local)
      (hsu : ∀ (a : Addr) (oe : Obj) (cls : Value) (d : Option Addr) (pn : List (Addr × Obj)), Zc cls d oe → (∃ vs, oe.data = .fields vs) → PSs (X.suite a ((a, oe) :: pn)) (st :: suite) (ts a cls d)) (r : ClOk X hds l) :
      ClOk X (.ExceptHandler (some (.Name x np)) on (st :: suite) hp :: hds) ((c, oi, ts) :: l)
section
variable {X : Cx} {body : List Stmt} {h₀ : ExceptHandler} {hds : List ExceptHandler} {l : List Clause} {pos : Pos} {tb : WX → TS} {Wout : WX}
theorem ps_tryN (hs : X.stack = X.env :: X.outer) (hf : X.env.frame = some X.env.locals) (hN : X.N.Nodup) (tk : L2.Takes X Wout)
    (hb : ∀ (W : WX) (pn : List (Addr × Obj)) (xe : Value → Shared → Prop), L2.Takes (X.tr pn xe) W → PassesOwn (model X.prog X.w) X.A X.env xe → PSs (X.tr pn xe) body (tb W))
    (hh : ClOk X (h₀ :: hds) l) : PS X (.Try body (h₀ :: hds) [] [] pos) (fun D τ G => tb (wCl X.K Wout D l) D τ G) := by
  refine ⟨fun pins s τ G D I run => ?_⟩
  have okx := I.ok
  have frx : X.A.frames = some (X.env :: X.outer) := by rw [okx.frames, hs]
  refine wpAny_Try_except (wpAny_mono ((hb (wCl X.K Wout D l) (X.pn ++ pins) (fun e t1 => wpAny (model X.prog X.w) X.A (noteFrame e X.env) (fun _ t2 => wpAny (model X.prog X.w) X.A (setFlight e none) (fun _ t3 =>
    wpAny (model X.prog X.w) X.A (handleBy e X.env (h₀ :: hds)) (SP X pins D) X.xe t3) X.xe t2) X.xe t1) (fun u t caught => ?_) PassesOwn.looking).run [] s τ G D (I.toTry _) run) (fun f t hq => ?_) (fun _ _ z => z))
  · obtain ⟨a, B, sI, pins2, τ2, G2, cls, d, rfl, J0, nb, up, sky, na, os, ag, w⟩ := caught
    have J := J0.ofTry (pins := pins) okx
    rw [hs] at sky
    show wpAny (model X.prog X.w) X.A (noteFrame (.ref a) X.env) _ _ _
    refine Sky.land Zc.steady frx hf sky fun g3 fly3 up3 => ?_
    have J3 : Inv X pins τ2 G2 { t with heap := g3 } := J.landed nb fly3.1 (up.trans up3) os ag
    obtain ⟨o3, v3, at3, z3, d3⟩ := fly3.there
    have nfr : a ∉ frs (X.env :: X.outer) := fun hm => by
      obtain ⟨_, o, e, n⟩ := fly3.2.2.1.mem hm
      rw [at3] at e; cases e
      exact n _ d3
    have nL : a ≠ X.env.locals := fun z => nfr (List.mem_filterMap.mpr ⟨X.env, List.mem_cons_self, by rw [hf, z]⟩)
    have nF : a ∉ X.fs := fun hm => by
      obtain ⟨e, me, q⟩ := List.mem_filterMap.mp hm
      exact nfr (List.mem_filterMap.mpr ⟨e, List.mem_cons_of_mem _ me, q⟩)
    have S3 := J3.suite at3 d3 na nL nF
    have go : ∀ {hs' : List ExceptHandler} {l' : List Clause}, ClOk X hs' l' → wCl X.K Wout D l' cls d τ2 G2 → wpAny (model X.prog X.w) X.A (handleBy (.ref a) X.env hs') (SP X pins D) X.xe { t with heap := g3 } := by
      intro hs' l' hk
      induction hk with
      | nil =>
        intro w
        refine wpAny_handleBy_nil ?_
        obtain ⟨_, _, _, oe, vs, T, oT, _, ae, _, de, e1, _⟩ := id fly3
        have fin : wpAny (model X.prog X.w) X.A (setFlight (.ref a) X.env.frame) (fun _ t4 => wpAny (model X.prog X.w) X.A (throw (.ref a) : Sem Flow) (SP X pins D) X.xe t4) X.xe { t with heap := g3 } := by
          rw [hf]
          exact HandSPX.setFlight_upZ fly3 fun g4 held4 up4 => wpAny_throw (tk _ _ ⟨a, B, sI, pins, τ2, G2, cls, d, rfl, J, nb, (up.trans up3).trans up4, .inr (.inr (by rw [hs]; exact held4)), na, os, ag, w⟩)
        unfold PySem.passOn
        refine wpAny_bind (wpAny_field ae de e1 ?_)
        rw [if_neg (by simp : ¬ ((Value.ref T == Value.none) = true))]
        first
          | exact wpAny_bind (wpAny_pure (wpAny_bind fin))
          | exact wpAny_bind fin
      | @cons x c on oi ts st suite np hp hds2 l2 hc hn hsu r ih =>
        intro w
        obtain ⟨b, eb, yes, no⟩ := w
        refine wpAny_handleBy_cons (codeAny_handlers_test ?_) (fun q => nomatch q)
        have LM := PySem.W.exm_one (M := model X.prog X.w) J3.kIn (fun A Q E s k q => wpAny_typeOf_ref (k _ _ at3) (by rw [z3.1]; exact q)) eb
        have test : ∀ {Q : Value → Shared → Prop} {E : Value → Shared → Prop}, Q c { t with heap := g3 } → wpAny (model X.prog X.w) (X.A.mark (some (.ref a))) (eval (.Name x np) X.env) Q E { t with heap := g3 } := fun {Q E} q => by
          obtain ⟨c1, c2, m | ⟨m, c3, c4⟩⟩ := hc
          · exact ld_glob (X := X.suite a ((a, o3) :: (X.pn ++ pins))) S3 c1 m q c2
          · exact ld_blt (X := X.suite a ((a, o3) :: (X.pn ++ pins))) S3 c1 m c3 q c4 c2
        refine test (LM.here ?_)
        cases b with
        | false => exact ih (no rfl)
        | true =>
          have hyes := yes rfl a na
          rcases hn with ⟨rfl, rfl⟩ | ⟨n, i, rfl, rfl, hi, hln⟩
          · refine codeAny_handlers_suite (HandSPX.lands_againZ fly3 fun g4 fly4 up4 => ?_)
            have J4 : Inv X pins τ2 G2 { t with heap := g4 } := J.landed nb fly4.1 ((up.trans up3).trans up4) os ag
            obtain ⟨o4, v4, at4, z4, d4⟩ := fly4.there
            refine wpAny_mono ((hsu a o4 cls d (X.pn ++ pins) z4 ⟨_, d4⟩).run [] _ _ G2 _ (J4.suite at4 d4 na nL nF) hyes) (fun f t6 hq => ?_) (fun _ _ z => z.elim)
            cases f with
            | next => obtain ⟨τ6, G6, S6, q⟩ := hq; exact ⟨_, _, S6.unsuite okx, q⟩
            | brk => obtain ⟨τ6, G6, S6, q⟩ := hq; exact ⟨_, _, S6.unsuite okx, q⟩
            | cont => obtain ⟨τ6, G6, S6, q⟩ := hq; exact ⟨_, _, S6.unsuite okx, q⟩
            | ret u => obtain ⟨v6, τ6, G6, S6, r6, q⟩ := hq; exact ⟨_, _, _, S6.unsuite okx, r6, q⟩
          · refine codeAny_handlers_suite_as (HandSPX.lands_againZ fly3 fun g4 fly4 up4 => ?_)
            have J4 : Inv X pins τ2 G2 { t with heap := g4 } := J.landed nb fly4.1 ((up.trans up3).trans up4) os ag
            obtain ⟨o4, v4, at4, z4, d4⟩ := fly4.there
            refine store_ok (X := X.suite a ((a, o4) :: (X.pn ++ pins))) (v := .ref a) (J4.suite at4 d4 na nL nF) hN hi (.inl hln) rfl (fun t5 S5 => ?_) (.inr hln)
            refine wpAny_mono ((hsu a o4 cls d (X.pn ++ pins) z4 ⟨_, d4⟩).run [] t5 _ G2 _ S5 hyes) (fun f t6 hq => ?_) (fun _ _ z => z.elim)
            have gone : ∀ {τ6 : L2.St} {G6 : Hp} {Q : Shared → Prop}, Inv (X.suite a ((a, o4) :: (X.pn ++ pins))) [] τ6 G6 t6 → (∀ t7, Inv X pins (τ6.set i none) G6 t7 → Q t7) →
                wpAny (model X.prog X.w) X.A (do bindName X.env n .none; unbindBehindTheSuite X.env n hp) (fun _ t7 => Q t7) X.xe t6 := fun {τ6 G6 Q} S6 k => gone_ok (S6.unsuite okx) hN hi hln k
            cases f with
            | next => obtain ⟨τ6, G6, S6, q⟩ := hq; exact gone S6 fun t7 J7 => ⟨_, _, J7, q⟩
            | brk => obtain ⟨τ6, G6, S6, q⟩ := hq; exact gone S6 fun t7 J7 => ⟨_, _, J7, q⟩
            | cont => obtain ⟨τ6, G6, S6, q⟩ := hq; exact gone S6 fun t7 J7 => ⟨_, _, J7, q⟩
            | ret u => obtain ⟨v6, τ6, G6, S6, r6, q⟩ := hq; exact gone S6 fun t7 J7 => ⟨_, _, _, J7, r6, q⟩
    exact go hh w
  · cases f with
    | next => obtain ⟨τ2, G2, J0, q⟩ := hq; exact wpAny_execs_nil ⟨τ2, G2, J0.ofTry okx, q⟩
    | brk => obtain ⟨τ2, G2, J0, q⟩ := hq; exact ⟨τ2, G2, J0.ofTry okx, q⟩
    | cont => obtain ⟨τ2, G2, J0, q⟩ := hq; exact ⟨τ2, G2, J0.ofTry okx, q⟩
    | ret u => obtain ⟨v, τ2, G2, J0, r, q⟩ := hq; exact ⟨v, τ2, G2, J0.ofTry okx, r, q⟩
end
end PF

set_option Elab.async false
set_option linter.all false
set_option maxRecDepth 100000
set_option maxHeartbeats 2000000
/-! PF20: raise. -/
namespace PF
open PySem PySem.Spec PyProof.Rows L2
section
variable {S : SC} {M : Mo} {C : Cn} {L : Nat} {X : Cx} {W : WX} {fr : Bool}
theorem s_raise0 {x m : Str} {j : Nat} {p p2 p3 pos : Pos} (hh : S.hot = false) (K : Ctx S M C L X W) (hx : excOf S x = some 0) :
    PS X (.Raise (some (.Call (.Name x p) [.Constant (.str m) j p2] [] p3)) none pos) (tS M C W S.io fr (.raise 0 (.cst .non))) := by
  unfold excOf at hx
  split at hx
  · rename_i hg
    obtain ⟨B, newId, initId, bmB, F, q, kp, r1, r2⟩ := (K.G.mkx x hx).ex
    obtain ⟨k1, _, _⟩ := okName_and (isGl_ok hg).2
    refine PS.weak (ps_raise (K.G.calm hh) K.tk (pmk_own F q (K.G.exs x 0 hx) kp (raises_own r1 r2) (K.G.gl hg) k1)) fun D σ H q => ?_
    obtain ⟨B, Z, ρ, ob, R, q⟩ := q
    exact q σ Z H _ _ R rfl (fun _ m => m) (Keep.refl _ _) ⟨rfl, K.G.exq x 0 hx, .inl ⟨rfl, rfl⟩⟩
  · cases hx
end
end PF

set_option Elab.async false
set_option linter.all false
set_option maxRecDepth 100000
set_option maxHeartbeats 2000000
/-! PF21: try, and all statements. -/
namespace PF
open PySem PySem.Spec PyProof.Rows L2
section
variable {S : SC} {M : Mo} {C : Cn} {L : Nat} {X : Cx} {W : WX} {fr : Bool}
theorem s_bad {st : Stmt} : PS X st (tS M C W S.io fr .bad) := ⟨fun _ _ _ _ _ _ q => by
  obtain ⟨_, _, _, _, _, q⟩ := q
  exact q.elim⟩
theorem ss_bad {st : List Stmt} {W : WX} : PSs X st (tSs M C W S.io fr (.cons .bad .nil)) := ⟨fun _ _ _ _ _ _ q => by
  obtain ⟨_, _, _, _, _, q⟩ := q
  exact q.elim⟩
theorem Good.suite (G : Good S M C L X) (hh : S.hot = false) (a : Addr) (pn : List (Addr × Obj)) : Good { S with hot := true } M C L (X.suite a pn) where
  N := G.N
  nd := G.nd
  sc := G.sc
  calm h := nomatch h
  K := G.K
  room h := nomatch h
  units := G.units
  fn := G.fn
  free := G.free
  cst := G.cst
  fns h := nomatch h
  exs := G.exs
  mkx := G.mkx
  exq := G.exq
  exm := G.exm
  px a cls dd h := by
    have := (G.px a cls dd h).1
    rw [hh] at this; cases this
theorem Good.tr (G : Good S M C L X) (hh : S.hot = false) (pn : List (Addr × Obj)) (xe : Value → Shared → Prop) : Good S M C L (X.tr pn xe) where
  N := G.N
  nd := G.nd
  sc := G.sc
  calm := G.calm
  K := G.K
  room := G.room
  units := G.units
  fn := G.fn
  free := G.free
  cst := G.cst
  fns _ x f io hf := by
    obtain ⟨k, a, fd, ps, h1, h2, h3, h4, h5, h6⟩ := (G.fns hh x f io hf).ex
    exact ⟨k, a, fd, ps, h1, h2, h3, h4, h5, h6⟩
  exs := G.exs
  mkx := G.mkx
  exq := G.exq
  exm := G.exm
  px a cls dd h := by
    have := (G.px a cls dd h).1
    rw [hh] at this; cases this
theorem exc_names (G : Good S M C L X) {x : Str} {c : Nat} (h : excOf S x = some c) : Names X x (.ref (C.ea c)) ∧ S.exs.lookup x = some c := by
  unfold excOf at h
  split at h
  · rename_i hg
    obtain ⟨k1, _, _⟩ := okName_and (isGl_ok hg).2
    exact ⟨⟨G.gl hg, k1, .inl (G.exs x c h)⟩, h⟩
  · cases h
/-- the statements' promise at a depth -/
def SsOk (M : Mo) (L n : Nat) : Prop := ∀ (C : Cn) (S : SC) (fr : Bool) (b : List Stmt) (c : Sms), cSs n S fr b = some c → M.wh = whileS → ∀ (X : Cx) (W : WX), Ctx S M C L X W → X.stack = X.env :: X.outer → X.env.frame = some X.env.locals → PSs X b (tSs M C W S.io fr c)
theorem LandS.exc {W : WX} {σ : L2.St} {B : Bs} {Z : Addr → Prop} {H : Hp} {D : Ends} {r : Rs Fl} {k : Exn → En → Rs Fl} {W' : WX} (q : LandS C W fr σ B Z H (match r with
    | .exc x ρ' => k x ρ'
    | r => r) D)
    (hk : ∀ x ρ', LandS C W fr σ B Z H (k x ρ') D → ∀ σ' Z' H' cls dd, Rel C B Z' H' σ' ρ' → σ'.length = σ.length → (∀ a, Z a → Z' a) → Keep Z H H' → exv C H' cls dd x.c x.a → W' cls dd σ' H') : LandS C W' fr σ B Z H r D := by
  cases r with
  | ok f ρ =>
    cases f with
    | nx => exact q
    | ct => exact q
    | rt d => exact q
  | exc x ρ' => exact hk x ρ' q
  | bad => exact q.elim
theorem LandS.swapW {W W' : WX} {σ : L2.St} {B : Bs} {Z : Addr → Prop} {H : Hp} {D : Ends} {r : Rs Fl} (q : LandS C W fr σ B Z H (match r with
    | .exc _ _ => .bad
    | r => r) D) : LandS C W' fr σ B Z H r D := by
  cases r with
  | ok f ρ =>
    cases f with
    | nx => exact q
    | ct => exact q
    | rt d => exact q
  | exc x ρ' => exact q.elim
  | bad => exact q.elim
theorem cl_ok {n : Nat} (ih : ∀ m, m ≤ n → SsOk M L m) (hM : M.wh = whileS) (hh : S.hot = false) (K : Ctx S M C L X W) (hs : X.stack = X.env :: X.outer) (hf : X.env.frame = some X.env.locals) :
    ∀ (k : Nat), k ≤ n → ∀ (l : List ExceptHandler) (y : Hds), cHs k S fr l = some y → ∃ cl : List Clause, ClOk X l cl ∧
      ∀ (D : Ends) (σ : L2.St) (B : Bs) (Z : Addr → Prop) (H : Hp) (x : Exn) (ρ : En), BOk S.io B → LandS C W fr σ B Z H (handle M y x ρ) D →
        ∀ σ' Z' H' cls dd, Rel C B Z' H' σ' ρ → σ'.length = σ.length → (∀ a, Z a → Z' a) → Keep Z H H' → exv C H' cls dd x.c x.a → wCl X.K W D cl cls dd σ' H' := by
  intro k
  induction k with
  | zero => intro _ l y h; cases h
  | succ k ihk =>
    intro hk l y h
    unfold cHs at h
    split at h
    · cases h
    · cases h
      exact ⟨[], .nil, fun D σ B Z H x ρ ob q σ' Z' H' cls dd R l z kp ex => q σ' Z' H' cls dd R l z kp ex⟩
    · rename_i S fr _ _ _ _ k' x np on b hp r e
      cases e
      split at h
      · cases h
      · rename_i hb
        obtain ⟨c, hc, h⟩ := Option.bind_eq_some_iff.mp h
        obtain ⟨p, hp, h⟩ := Option.bind_eq_some_iff.mp h
        obtain ⟨d, hd, rfl⟩ := Option.map_eq_some_iff.mp h
        obtain ⟨cl, h1, h2⟩ := ihk (Nat.le_of_succ_le hk) r d hd
        obtain ⟨nm, hx⟩ := exc_names K.G hc
        have hne : ∃ st su, b = st :: su := by
          cases b with
          | nil => exact (hb rfl).elim
          | cons st su => exact ⟨st, su, rfl⟩
        obtain ⟨st, su, rfl⟩ := hne
        have cOf : ∀ {H : Hp} {cls : Value} {dd : Option Addr} {e : Exn}, exv C H cls dd e.c e.a → PySem.W.exmOne X.K cls (.ref (C.ea c)) = some (hits c e.c) := fun {H cls dd e} ex => by
          obtain ⟨rfl, eq, ex⟩ := ex
          refine K.G.exm x c hx e.c ?_ eq
          rcases ex with ⟨e, _⟩ | ⟨_, _, _, e | e, _⟩ <;> omega
        cases on with
        | none =>
          cases hp
          refine ⟨(_, none, fun _ _ _ => tSs M C WF S.io fr ((cSs k { S with hot := true } fr (st :: su)).getD (.cons .bad .nil))) :: cl, .cons nm (.inl ⟨rfl, rfl⟩) (fun a oe cls d pn z v => ?_) h1, ?_⟩
          · cases e : cSs k { S with hot := true } fr (st :: su) with
            | none => exact ss_bad
            | some c' => exact ih k (Nat.le_of_succ_le hk) C { S with hot := true } fr (st :: su) c' e hM _ WF ⟨K.G.suite hh a _, takesF, .never⟩ hs hf
          · intro D σ B Z H x ρ ob q σ' Z' H' cls dd R l z kp ex
            refine ⟨_, cOf ex, fun hb a ha => ⟨B, Z', ρ, ob, R, ?_⟩, fun hb => h2 D σ B Z H x ρ ob ?_ σ' Z' H' cls dd R l z kp ex⟩
            · have q : LandS C W fr σ B Z H (match hits c x.c with
                | true => (match execs M ((cSs k { S with hot := true } fr (st :: su)).getD (.cons .bad .nil)) ρ with
                  | .exc _ _ => .bad
                  | r => r)
                | false => handle M d x ρ) D := q
              rw [hb] at q
              exact LandS.shift (LandS.swapW q) l z kp
            · have q : LandS C W fr σ B Z H (match hits c x.c with
                | true => (match execs M ((cSs k { S with hot := true } fr (st :: su)).getD (.cons .bad .nil)) ρ with
                  | .exc _ _ => .bad
                  | r => r)
                | false => handle M d x ρ) D := q
              rw [hb] at q
              exact q
        | some y =>
          have hp : (if S.sc.names.lookup y == some NameKind.local then S.N.findIdx? (· == y) else none).map (fun i => (some i, Sms.cons .bad .nil)) = some p := hp
          obtain ⟨i, hi, rfl⟩ := Option.map_eq_some_iff.mp hp
          split at hi
          · rename_i hl
            have hl := eq_of_beq hl
            refine ⟨(_, some i, fun _ _ _ _ _ _ => False) :: cl, .cons nm (.inr ⟨y, i, rfl, rfl, by rw [K.G.N]; exact findIdx_get hi, ?_⟩) (fun a oe cls d pn z v => ⟨fun _ _ _ _ _ _ q => q.elim⟩) h1, ?_⟩
            · show X.env.scope.names.lookup y = _
              rw [K.G.sc]; exact hl
            · intro D σ B Z H x ρ ob q σ' Z' H' cls dd R l z kp ex
              refine ⟨_, cOf ex, fun hb a ha => ?_, fun hb => h2 D σ B Z H x ρ ob ?_ σ' Z' H' cls dd R l z kp ex⟩
              · have q : LandS C W fr σ B Z H (match hits c x.c with
                  | true => (.bad : Rs Fl)
                  | false => handle M d x ρ) D := q
                rw [hb] at q
                exact q.elim
              · have q : LandS C W fr σ B Z H (match hits c x.c with
                  | true => (.bad : Rs Fl)
                  | false => handle M d x ρ) D := q
                rw [hb] at q
                exact q
          · cases hi
    · cases h
theorem s_try {b : List Stmt} {h₀ : ExceptHandler} {hds : List ExceptHandler} {pos : Pos} {n : Nat} {x : Sms} {y : Hds} (ih : ∀ m, m ≤ n → SsOk M L m) (hM : M.wh = whileS) (hh : S.hot = false) (K : Ctx S M C L X W) (hs : X.stack = X.env :: X.outer)
    (hf : X.env.frame = some X.env.locals) (hb : cSs n S fr b = some x) (hy : cHs n S fr (h₀ :: hds) = some y) : PS X (.Try b (h₀ :: hds) [] [] pos) (tS M C W S.io fr (.try_ x y)) := by
  obtain ⟨cl, h1, h2⟩ := cl_ok ih hM hh K hs hf n (Nat.le_refl n) _ y hy
  refine PS.weak (ps_tryN hs hf (by rw [K.G.N]; exact K.G.nd) K.tk (tb := fun W' => tSs M C W' S.io fr x) (fun W' pn xe tk own => ih n (Nat.le_refl n) C S fr b x hb hM _ W' ⟨K.G.tr hh pn xe, tk, own⟩ hs hf) h1) fun D σ H q => ?_
  obtain ⟨B, Z, ρ, ob, R, q⟩ := q
  exact ⟨B, Z, ρ, ob, R, LandS.exc (k := fun x ρ' => handle M y x ρ') q fun e ρ' q' => h2 D σ B Z H e ρ' ob q'⟩
end
end PF

set_option Elab.async false
set_option linter.all false
set_option maxRecDepth 100000
set_option maxHeartbeats 4000000
/-! PF22: every statement that the compiler takes. -/
namespace PF
open PySem PySem.Spec PyProof.Rows L2
def SOk (M : Mo) (L n : Nat) : Prop := ∀ (C : Cn) (S : SC) (fr : Bool) (b : Stmt) (c : Sm), cS n S fr b = some c → M.wh = whileS → ∀ (X : Cx) (W : WX), Ctx S M C L X W → X.stack = X.env :: X.outer → X.env.frame = some X.env.locals → PS X b (tS M C W S.io fr c)
theorem hotF {S : SC} {α : Type} {a : Option α} {c : α} (h : (if S.hot = true then none else a) = some c) : S.hot = false ∧ a = some c := by
  split at h
  · cases h
  · rename_i hh; exact ⟨Bool.eq_false_iff.mpr hh, h⟩
theorem st_step {M : Mo} {L n : Nat} (ih : ∀ m, m ≤ n → SOk M L m ∧ SsOk M L m) : SOk M L (n + 1) := by
  intro C S fr st c h hM X W K hs hf
  have ss := fun b d (hb : cSs n S fr b = some d) => (ih n (Nat.le_refl n)).2 C S fr b d hb hM X W K hs hf
  unfold cS at h
  split at h
  · obtain ⟨i, hi, h⟩ := Option.bind_eq_some_iff.mp h
    obtain ⟨c, hc, rfl⟩ := Option.map_eq_some_iff.mp h
    exact s_asg K hi hc
  · split at h
    · cases h
    · rename_i hh
      simp only [Bool.or_eq_true, Bool.not_eq_true', not_or, Bool.not_eq_true, Bool.not_eq_false] at hh
      obtain ⟨is, hi, h⟩ := Option.bind_eq_some_iff.mp h
      obtain ⟨r, hr, rfl⟩ := Option.map_eq_some_iff.mp h
      exact s_par hh.1 K hh.2 hi hr
  · rename_i hne
    split at h
    · cases h
    · rename_i hh
      simp only [Bool.or_eq_true, not_or, Bool.not_eq_true] at hh
      obtain ⟨t, ht, h⟩ := Option.bind_eq_some_iff.mp h
      obtain ⟨c, hc, rfl⟩ := Option.map_eq_some_iff.mp h
      exact s_unp hh.1 K (fun es k p e => hne es k p e) ht hc
  · obtain ⟨i, hi, h⟩ := Option.bind_eq_some_iff.mp h
    obtain ⟨c, hc, h⟩ := Option.bind_eq_some_iff.mp h
    obtain ⟨j, hj, rfl⟩ := Option.map_eq_some_iff.mp h
    exact s_setIx K hi hc hj
  · obtain ⟨i, hi, h⟩ := Option.bind_eq_some_iff.mp h
    obtain ⟨o, ho, h⟩ := Option.bind_eq_some_iff.mp h
    obtain ⟨c, hc, rfl⟩ := Option.map_eq_some_iff.mp h
    exact s_aug K hi ho hc
  · split at h
    · cases h
    · rename_i hl
      simp only [Bool.not_eq_true', Bool.not_eq_false] at hl
      split at h
      · rename_i hm
        subst hm
        obtain ⟨i, hi, h⟩ := Option.bind_eq_some_iff.mp h
        obtain ⟨c, hc, rfl⟩ := Option.map_eq_some_iff.mp h
        exact s_app K hl hi hc
      · split at h
        · rename_i hm
          subst hm
          obtain ⟨i, hi, h⟩ := Option.bind_eq_some_iff.mp h
          obtain ⟨c, hc, rfl⟩ := Option.map_eq_some_iff.mp h
          exact s_ext K hl hi hc
        · cases h
  · split at h
    · cases h
    · rename_i hc
      obtain ⟨c, hc', rfl⟩ := Option.map_eq_some_iff.mp h
      exact s_expr K (Bool.eq_false_iff.mpr hc) hc'
  · split at h
    · cases h
    · rename_i hfr
      have hfr := Bool.eq_false_iff.mpr hfr
      subst hfr
      cases h
      exact s_retN
  · split at h
    · rename_i hfr
      subst hfr
      split at h
      · split at h
        · cases h
        · rename_i hio
          obtain ⟨i, hi, rfl⟩ := Option.map_eq_some_iff.mp h
          exact s_retO K (Bool.eq_false_iff.mpr hio) hi
      · split at h
        · rename_i hm
          obtain ⟨c, hc', rfl⟩ := Option.map_eq_some_iff.mp h
          exact s_retF K hm hc'
        · cases h
    · rename_i hfr
      have hfr := Bool.eq_false_iff.mpr hfr
      subst hfr
      obtain ⟨c, hc', rfl⟩ := Option.map_eq_some_iff.mp h
      exact s_ret K hc'
  · obtain ⟨t, ht, h⟩ := Option.bind_eq_some_iff.mp h
    obtain ⟨x, hx, h⟩ := Option.bind_eq_some_iff.mp h
    obtain ⟨y, hy, rfl⟩ := Option.map_eq_some_iff.mp h
    exact s_if K ht (ss _ _ hx) (ss _ _ hy)
  · obtain ⟨t, ht, h⟩ := Option.bind_eq_some_iff.mp h
    obtain ⟨x, hx, rfl⟩ := Option.map_eq_some_iff.mp h
    exact s_while hM K ht (ss _ _ hx)
  · obtain ⟨hh, h⟩ := hotF h
    obtain ⟨t, ht, h⟩ := Option.bind_eq_some_iff.mp h
    obtain ⟨i, hi, h⟩ := Option.bind_eq_some_iff.mp h
    obtain ⟨x, hx, rfl⟩ := Option.map_eq_some_iff.mp h
    exact s_for hh K ht hi (ss _ _ hx)
  · obtain ⟨hh, h⟩ := hotF h
    obtain ⟨c, hc, h⟩ := Option.bind_eq_some_iff.mp h
    split at h
    · cases h
      exact s_raise0 hh K hc
    · cases h
  · obtain ⟨hh, h⟩ := hotF h
    obtain ⟨x, hx, h⟩ := Option.bind_eq_some_iff.mp h
    obtain ⟨y, hy, rfl⟩ := Option.map_eq_some_iff.mp h
    exact s_try (fun m hm => (ih m hm).2) hM hh K hs hf hx hy
  · cases h; exact s_pass
  · cases h; exact s_cont
  · cases h
theorem all_ok (M : Mo) (L : Nat) : ∀ n, SOk M L n ∧ SsOk M L n := by
  intro n
  induction n using Nat.strongRecOn with
  | _ n ih =>
    cases n with
    | zero => exact ⟨fun C S fr b c h => (by unfold cS at h; cases h), fun C S fr b c h => (by unfold cSs at h; cases h)⟩
    | succ n =>
      refine ⟨st_step fun m hm => ih m (Nat.lt_succ_of_le hm), fun C S fr b c h hM X W K hs hf => ?_⟩
      unfold cSs at h
      cases b with
      | nil => cases h; exact ss_nil
      | cons st r =>
        obtain ⟨x, hx, h⟩ := Option.bind_eq_some_iff.mp h
        obtain ⟨y, hy, rfl⟩ := Option.map_eq_some_iff.mp h
        exact ss_cons ((ih n (Nat.lt_succ_self n)).1 C S fr st x hx hM X W K hs hf) ((ih n (Nat.lt_succ_self n)).2 C S fr r y hy hM X W K hs hf)
end PF

set_option Elab.async false
set_option linter.all false
set_option maxRecDepth 100000
set_option maxHeartbeats 2000000
/-! PF23: a def's promise. -/
namespace PF
open PySem PySem.Spec PyProof.Rows L2
theorem getC_args {ds : List D} {k i : Nat} : getC (argCells ds ++ List.replicate k .no) i = match ds[i]? with | some d => .v d | none => .no := by
  induction ds generalizing i with
  | nil =>
    show (List.replicate k Cell.no).getD i .no = .no
    rw [List.getD_eq_getElem?_getD, List.getElem?_replicate]
    split <;> rfl
  | cons d ds ih =>
    cases i with
    | zero => rfl
    | succ i => exact ih
theorem argCells_len {ds : List D} : (argCells ds).length = ds.length := by
  induction ds with
  | nil => rfl
  | cons d ds ih => exact congrArg Nat.succ ih
theorem start_get {N : List Str} {vs : List V} {i : Nat} {v : V} (h : vs[i]? = some v) : (L2.start N vs)[i]? = some (some v) := by
  obtain ⟨hi, e⟩ := List.getElem?_eq_some_iff.mp h
  unfold L2.start
  rw [List.getElem?_append_left (by rw [List.length_map]; exact hi), List.getElem?_map, h]
  rfl
theorem start_len {N : List Str} {vs : List V} (h : vs.length ≤ N.length) : (L2.start N vs).length = N.length := by
  unfold L2.start
  rw [List.length_append, List.length_map, List.length_replicate]
  omega
/-- what a def's name table says of the module -/
structure Stat (S : SC) (M : Mo) (C : Cn) (L : Nat) (P : Program) (w : World) (mg : Str → Option Value) (base : Heap) : Prop where
  nd : S.N.Nodup
  free : ∀ x, S.free.contains x = true → mg x = none
  cst : ∀ x d, S.cst.lookup x = some d → ∃ u v, mg x = some u ∧ RelV v u ∧ ∀ H Z, Fz C H Z v d
  fns : ∀ (X : Cx), X.prog = P → X.w = w → X.K = C.K → X.mg = mg → X.base = base → ∀ x f io, S.fns.lookup x = some (f, io) → Callee C X M L S.fresh S.ar f io x
  exs : ∀ x c, S.exs.lookup x = some c → mg x = some (.ref (C.ea c))
  mkx : ∀ x, S.exs.lookup x = some 0 → ExcFacts C.K (C.ea 0)
  exq : ∀ x c, S.exs.lookup x = some c → C.ex c = true
  exm : ∀ y h, S.exs.lookup y = some h → ∀ c, c < 3 → C.ex c = true → PySem.W.exmOne C.K (.ref (C.ea c)) (.ref (C.ea h)) = some (hits h c)
  px : ∀ a cls dd, ¬ C.px a cls dd
  hot : S.hot = false
section
variable {S : SC} {M : Mo} {C : Cn} {L : Nat} {P : Program} {w : World} {mg : Str → Option Value} {base : Heap} {fr : Bool} {x qual : Str} {params : Arguments} {body : List Stmt} {f : Addr} {fd : FuncData} {ps : List Str} {code : Sms}
theorem Stat.good (T : Stat S M C L P w mg base) {CX : CXT} {cdv : Value} {A : Around} {outer : List Env} {s : Shared} {H : Hp} {E : XK} (hr : Room (L + 1) (A.deeper (envOfC qual S.sc s.heap.objs.size f cdv))) :
    Good S M C L (cxOf CX P w C.K mg base S.N qual S.sc f cdv A outer s H E) where
  N := rfl
  nd := T.nd
  sc := rfl
  calm _ := rfl
  K := rfl
  room _ := hr
  units := by
    have := hr.un
    show (A.deeper (envOfC qual S.sc s.heap.objs.size f cdv)).units + 66 < cLine
    omega
  fn _ _ := rfl
  free := T.free
  cst := T.cst
  fns _ x f io h := T.fns _ rfl rfl rfl rfl rfl x f io h
  exs := T.exs
  mkx := T.mkx
  exq := T.exq
  exm := T.exm
  px a cls dd h := (T.px a cls dd h).elim
theorem def_ok (hM : M.wh = whileS) (T : Stat S M C L P w mg base) (F : FunD C.K x qual params body S.sc [] [] f fd) (Sc : FnScope S.N ps S.sc) {n : Nat} (hc : cSs n S fr body = some code) (hio : S.io = true → fr = false) :
    FnOk P w C.K mg base (L2.CX P w) (L + 2) f fd ps (spOf C (runFn M S.N.length S.io fr code) ps.length S.io fr) := by
  refine F.ok Sc (fun vs H Q E h => h.1) fun cdv A outer s H vs Q E hr h => ⟨tSs M C (fun cls d _ H => E cls d H) S.io fr code, ?_, ?_⟩
  · exact (all_ok M L n).2 C S fr body code hc hM _ _ ⟨T.good hr, takes_of rfl rfl rfl rfl, passes_of rfl⟩ rfl rfl
  · obtain ⟨hl, Z, hz, h⟩ := h
    have hN : ps.length ≤ S.N.length := by have := congrArg List.length Sc.pre; rw [List.length_take] at this; omega
    cases io : S.io with
    | false =>
      rw [io] at h
      obtain ⟨ds, fz, h⟩ := h
      have hd : ds.length = ps.length := fz.length.symm.trans hl
      refine ⟨⟨H, Z, none, hz⟩, Z, argCells ds ++ List.replicate (S.N.length - ds.length) .no, fun z => (z rfl).elim, ?_, ?_⟩
      · refine ⟨?_, fun i d e => ?_, fun i ds' e => ?_, fun i j a ds' es _ e => ?_, fun a o e _ => e, fun a h => .inl h, hz, fun a e => nomatch e⟩
        · rw [start_len (by omega), List.length_append, List.length_replicate, argCells_len]; omega
        · rw [getC_args] at e
          split at e
          · rename_i d' e'
            cases e
            obtain ⟨v, h1, h2⟩ := fz.get e'
            exact ⟨v, start_get h1, h2⟩
          · cases e
        · rw [getC_args] at e; split at e <;> cases e
        · rw [getC_args] at e; split at e <;> cases e
      · have h : (match (match execs M code (argCells ds ++ List.replicate (S.N.length - ds.length) .no) with
          | .ok (.rt d) _ => Fr.ok d []
          | .ok .nx _ => if fr then .bad else .ok .non []
          | .exc x _ => .exc x
          | _ => .bad) with
          | .ok d _ => ∀ v Z' H', After C none Z H Z' H' → (if fr then ∃ a xs es, v = .ref a ∧ d = .lst es ∧ H' a = some (.lst xs) ∧ FzAll C H' Z' xs es ∧ ¬ Z' a ∧ H a = none else Fz C H' Z' v d) → Q v H'
          | .exc x => ∀ Z' H' cls dd, After C none Z H Z' H' → exv C H' cls dd x.c x.a → E cls dd H'
          | .bad => False) := h
        have af : ∀ {σ' Z' H' ρ'}, Rel C ⟨H, Z, none, hz⟩ Z' H' σ' ρ' → (∀ a, Z a → Z' a) → After C none Z H Z' H' := fun R z => ⟨z, R.zin, R.ztr, fun a o e n => R.frm a o e n⟩
        cases er : execs M code (argCells ds ++ List.replicate (S.N.length - ds.length) .no) with
        | bad => rw [er] at h; exact h.elim
        | exc e ρ' =>
          rw [er] at h
          exact fun σ' Z' H' cls dd R l z k ex => h Z' H' cls dd (af R z) ex
        | ok fl ρ' =>
          rw [er] at h
          cases fl with
          | ct => exact h.elim
          | nx =>
            intro σ' Z' H' R l z k
            cases fr with
            | true => exact h.elim
            | false => exact h .non Z' H' (af R z) .non
          | rt d =>
            intro σ' Z' H' v R l z k q
            refine h v Z' H' (af R z) ?_
            cases fr with
            | true => exact q
            | false => exact q
    | true =>
      have hfr := hio io
      subst hfr
      rw [io] at h
      obtain ⟨p, wz, xs, es, ds, rfl, hp, fe, np, fz, h⟩ := h
      have hd : ds.length + 1 = ps.length := by rw [← fz.length]; exact hl
      refine ⟨⟨H, Z, some p, hz⟩, Z, .o es :: (argCells ds ++ List.replicate (S.N.length - (ds.length + 1)) .no), fun _ => rfl, ?_, ?_⟩
      · refine ⟨?_, fun i d e => ?_, fun i ds' e => ?_, fun i j a ds' es' ne e e' => ?_, fun a o e _ => e, fun a h => .inl h, hz, fun a e => ?_⟩
        · rw [start_len (by omega), List.length_cons, List.length_append, List.length_replicate, argCells_len]; omega
        · cases i with
          | zero => cases e
          | succ i =>
            have e : getC (argCells ds ++ List.replicate (S.N.length - (ds.length + 1)) .no) i = .v d := e
            rw [getC_args] at e
            split at e
            · rename_i d' e'
              cases e
              obtain ⟨v, h1, h2⟩ := fz.get e'
              exact ⟨v, start_get (vs := V.ref p :: wz) (i := i + 1) h1, h2⟩
            · cases e
        · cases i with
          | zero => cases e; exact ⟨p, xs, rfl, hp, fe, np, .inr rfl⟩
          | succ i =>
            have e : getC (argCells ds ++ List.replicate (S.N.length - (ds.length + 1)) .no) i = .o ds' := e
            rw [getC_args] at e; split at e <;> cases e
        · have cc : ∀ i d, getC (argCells ds ++ List.replicate (S.N.length - (ds.length + 1)) .no) i ≠ .o d := fun i d e => by
            rw [getC_args] at e; split at e <;> cases e
          cases i with
          | succ i => exact (cc i _ e).elim
          | zero =>
            cases j with
            | zero => exact (ne rfl).elim
            | succ j => exact (cc j _ e').elim
        · cases e; exact ⟨rfl, es, rfl⟩
      · have h : (match (match execs M code (.o es :: (argCells ds ++ List.replicate (S.N.length - (ds.length + 1)) .no)) with
          | .ok (.rt d) ρ => (match getC ρ 0 with | .o ys => Fr.ok d ys | _ => .bad)
          | .ok .nx ρ => (match getC ρ 0 with | .o ys => .ok .non ys | _ => .bad)
          | _ => .bad) with
          | .ok d m => ∀ v xs' Z' H', After C (some p) Z H Z' H' → Fz C H' Z' v d → H' p = some (.lst xs') → FzAll C H' Z' xs' m → ¬ Z' p → Q v H'
          | _ => False) := h
        have af : ∀ {σ' Z' H' ρ'}, Rel C ⟨H, Z, some p, hz⟩ Z' H' σ' ρ' → (∀ a, Z a → Z' a) → After C (some p) Z H Z' H' := fun R z => ⟨z, R.zin, R.ztr, fun a o e n => R.frm a o e n⟩
        have own : ∀ {σ' Z' H' ρ' ys}, Rel C ⟨H, Z, some p, hz⟩ Z' H' σ' ρ' → getC ρ' 0 = .o ys → ∃ xs', H' p = some (.lst xs') ∧ FzAll C H' Z' xs' ys ∧ ¬ Z' p := fun R e => by
          obtain ⟨a, xs', h1, h2, h3, h4, _⟩ := R.own 0 _ e
          rw [(R.io0 p rfl).1] at h1
          cases h1
          exact ⟨xs', h2, h3, h4⟩
        cases er : execs M code (.o es :: (argCells ds ++ List.replicate (S.N.length - (ds.length + 1)) .no)) with
        | bad => rw [er] at h; exact h.elim
        | exc e ρ' => rw [er] at h; exact h.elim
        | ok fl ρ' =>
          rw [er] at h
          cases fl with
          | ct => exact h.elim
          | nx =>
            intro σ' Z' H' R l z k
            replace h : (match (match getC ρ' 0 with | .o ys => Fr.ok .non ys | _ => .bad) with
              | .ok d m => ∀ v xs' Z' H', After C (some p) Z H Z' H' → Fz C H' Z' v d → H' p = some (.lst xs') → FzAll C H' Z' xs' m → ¬ Z' p → Q v H'
              | _ => False) := h
            cases e0 : getC ρ' 0 with
            | o ys =>
              rw [e0] at h
              obtain ⟨xs', h1, h2, h3⟩ := own R e0
              exact h .non xs' Z' H' (af R z) .non h1 h2 h3
            | no => rw [e0] at h; exact h.elim
            | v d => rw [e0] at h; exact h.elim
          | rt d =>
            intro σ' Z' H' v R l z k q
            replace h : (match (match getC ρ' 0 with | .o ys => Fr.ok d ys | _ => .bad) with
              | .ok d m => ∀ v xs' Z' H', After C (some p) Z H Z' H' → Fz C H' Z' v d → H' p = some (.lst xs') → FzAll C H' Z' xs' m → ¬ Z' p → Q v H'
              | _ => False) := h
            cases e0 : getC ρ' 0 with
            | o ys =>
              rw [e0] at h
              obtain ⟨xs', h1, h2, h3⟩ := own R e0
              exact h v xs' Z' H' (af R z) q h1 h2 h3
            | no => rw [e0] at h; exact h.elim
            | v d => rw [e0] at h; exact h.elim
end
end PF

set_option Elab.async false
set_option linter.all false
set_option maxRecDepth 100000
set_option maxHeartbeats 2000000
/-! PF24: the module's facts, all defs together. -/
namespace PF
open PySem PySem.Spec PyProof.Rows L2
/-! ### constants -/
def cB (K : PySem.W.Frag) : Nat → Value → D → Bool
  | _, .none, .non => true
  | _, .bool b, .bl c => b == c
  | _, .int i _, .int j => decide (i = j)
  | _, .str x _, .str y => decide (x = y)
  | n + 1, .ref a, .tup ds => (match K.lookup a with
    | some ⟨.type c, _, .seq its _, _⟩ => decide (c = "tuple") && decide (its.size ≤ sizeLine) && its.toList.length == ds.length && (its.toList.zip ds).all fun p => cB K n p.1 p.2
    | _ => false)
  | _, _, _ => false
theorem cB_ok {C : Cn} : ∀ (n : Nat) (u : Value) (d : D), cB C.K n u d = true → ∃ v, RelV v u ∧ ∀ H Z, Fz C H Z v d := by
  intro n
  induction n with
  | zero =>
    intro u d h
    cases u <;> cases d <;> first
      | (cases h; done)
      | exact ⟨.non, rfl, fun _ _ => .non⟩
      | exact ⟨.bl _, rfl, fun _ _ => (eq_of_beq (show (_ == _) = true from h)) ▸ .bl _⟩
      | exact ⟨.int _, ⟨_, rfl⟩, fun _ _ => (of_decide_eq_true h) ▸ .int _⟩
      | exact ⟨.str _, ⟨_, rfl⟩, fun _ _ => (of_decide_eq_true h) ▸ .str _⟩
  | succ n ih =>
    intro u d h
    cases u <;> cases d <;> first
      | (cases h; done)
      | exact ⟨.non, rfl, fun _ _ => .non⟩
      | exact ⟨.bl _, rfl, fun _ _ => (eq_of_beq (show (_ == _) = true from h)) ▸ .bl _⟩
      | exact ⟨.int _, ⟨_, rfl⟩, fun _ _ => (of_decide_eq_true h) ▸ .int _⟩
      | exact ⟨.str _, ⟨_, rfl⟩, fun _ _ => (of_decide_eq_true h) ▸ .str _⟩
      | skip
    rename_i a ds
    unfold cB at h
    split at h
    · rename_i c od its m sl hk
      simp only [Bool.and_eq_true, decide_eq_true_eq, beq_iff_eq] at h
      obtain ⟨⟨⟨rfl, hz⟩, hl⟩, ha⟩ := h
      have key : ∀ (us : List Value) (ds : List D), us.length = ds.length → ((us.zip ds).all fun p => cB C.K n p.1 p.2) = true → ∃ vs, Vals vs us ∧ ∀ H Z, FzAll C H Z vs ds := by
        intro us
        induction us with
        | nil =>
          intro ds hl _
          cases ds with
          | nil => exact ⟨[], .nil, fun _ _ => .nil⟩
          | cons d ds => cases hl
        | cons u us ihu =>
          intro ds hl ha
          cases ds with
          | nil => cases hl
          | cons d ds =>
            have ha : (cB C.K n u d && (us.zip ds).all fun p => cB C.K n p.1 p.2) = true := ha
            rw [Bool.and_eq_true] at ha
            obtain ⟨v, r, f⟩ := ih u d ha.1
            obtain ⟨vs, rs, fs⟩ := ihu ds (Nat.succ.inj hl) ha.2
            exact ⟨v :: vs, .cons r rs, fun H Z => .cons (f H Z) (fs H Z)⟩
      obtain ⟨vs, rs, fs⟩ := key its.toList ds hl ha
      exact ⟨.ref a, rfl, fun H Z => .tup (.inr ⟨_, its, m, hk, rfl, rfl, hz, rs⟩) (fs H Z)⟩
    · cases h
/-! ### the hook -/
def cstB (K : PySem.W.Frag) (p : Str × D) : Bool := match PySem.W.nsIn K mainGlobals p.1 with
  | some (some u) => cB K 8 u p.2
  | _ => false
abbrev AlP : Type := Bool × List He.FnW
def obsP (cs : List (Str × D)) (fa : List He.Fa) (fn : List He.DefD) (K : PySem.W.Frag) : AlP := ((cs.all (cstB K) && fa.all fun f => f.ok K) && fn.all fun d => d.ok K, fn.map fun d => He.fnW K d.at_)
def valP (fn : List He.DefD) : AlP := (true, fn.map He.DefD.val)
def SaysP (cs : List (Str × D)) (fa : List He.Fa) (fn : List He.DefD) (K : PySem.W.Frag) : Prop := obsP cs fa fn K = valP fn
def obsPG (n : Nat) (cs : List (Str × D)) (fa : List He.Fa) (fn : List He.DefD) (g : Addr → Option Obj) : AlP := obsP cs fa fn (He.frG g (He.asD g n))
def hookP (n : Nat) (cs : List (Str × D)) (fa : List He.Fa) (fn : List He.DefD) : PySem.W.Hook where
  α := AlP
  obs s := obsPG n cs fa fn s.heap.get?
  val _ := valP fn
  says _ h := ∃ K : PySem.W.Frag, K.In h ∧ SaysP cs fa fn K
  of _ _ e := ⟨_, He.frG_in, e⟩
  keeps := by
    rintro _ _ _ ⟨K, hK, c⟩ k
    exact ⟨K, PySem.W.Frag.In.keeps hK k, c⟩
theorem obsPG_eq {n : Nat} {cs : List (Str × D)} {fa : List He.Fa} {fn : List He.DefD} {g : Addr → Option Obj} {s : Shared} (h : ∀ a, g a = s.heap.get? a) : obsPG n cs fa fn g = (hookP n cs fa fn).obs s := by
  obtain rfl : g = s.heap.get? := funext h
  rfl
section
variable {cs : List (Str × D)} {fa : List He.Fa} {fn : List He.DefD} {K : PySem.W.Frag}
theorem SaysP.parts (c : SaysP cs fa fn K) : (cs.all (cstB K) = true ∧ (fa.all fun f => f.ok K) = true) ∧ (fn.all fun d => d.ok K) = true ∧ fn.map (fun d => He.fnW K d.at_) = fn.map He.DefD.val := by
  have c1 := congrArg Prod.fst c
  have c2 := congrArg Prod.snd c
  have c1 : ((cs.all (cstB K) && fa.all fun f => f.ok K) && fn.all fun d => d.ok K) = true := c1
  rw [Bool.and_eq_true, Bool.and_eq_true] at c1
  exact ⟨c1.1, c1.2, c2⟩
theorem SaysP.fact (c : SaysP cs fa fn K) {f : He.Fa} (h : f ∈ fa) : f.ok K = true := List.all_eq_true.mp c.parts.1.2 f h
theorem SaysP.cst (c : SaysP cs fa fn K) {p : Str × D} (h : p ∈ cs) : cstB K p = true := List.all_eq_true.mp c.parts.1.1 p h
theorem SaysP.fun_ (c : SaysP cs fa fn K) {d : He.DefD} (h : d ∈ fn) : ∃ fd, FunD K d.name d.qual d.params d.body d.scope (d.dvs K) (d.kws K) (He.fAd K d.at_) fd := by
  obtain ⟨_, c1, c2⟩ := c.parts
  refine He.DefD.funD ?_ (List.all_eq_true.mp c1 d h)
  exact (List.map_inj_left.mp c2) d h
end
/-! ### all defs -/
structure PDef where
  x : Str
  i : Nat
  st : Stmt
  S : SC
  ps : List Str
  fr : Bool
  code : Sms
  lv : Nat
def semC (wh : (En → Rs Bool) → (En → Rs Fl) → En → Rs Fl) (code : Nat → Option (Nat × Bool × Bool × Sms)) : Nat → Mo
  | 0 => ⟨fun _ _ => .bad, wh⟩
  | n + 1 => ⟨fun f args => (match code f with
    | some (m, io, fr, b) => runFn (semC wh code n) m io fr b args
    | none => .bad), wh⟩
theorem semC_wh {wh : (En → Rs Bool) → (En → Rs Fl) → En → Rs Fl} {code : Nat → Option (Nat × Bool × Bool × Sms)} (n : Nat) : (semC wh code n).wh = wh := by cases n <;> rfl
def BindsP (params : Arguments) (ps : List Str) : Prop := ∀ (x qual : Str) (body : List Stmt) (scope : Scope) (kV doc pm : Value) (an : Option Addr) (cdv ct : Value) (us : List Value), us.length = ps.length →
  bindArgs (PySem.W.fnOf x qual params body scope .none kV doc pm an cdv ct) ⟨us, []⟩ = pure (ps.zip us)
def exName : Nat → Str
  | 0 => "Malformed"
  | 1 => "Refused"
  | 2 => "NoText"
  | _ => "Fault"
def eaOf (K : PySem.W.Frag) (c : Nat) : Addr := He.ga K (exName c)
/-- what is looked at of all names: defs, free ones, the error classes -/
def exHas (exs : List (Str × Nat)) (c : Nat) : Bool := exs.any fun p => p.2 == c
def faP (defs : List PDef) (free : List Str) (exs : List (Str × Nat)) : List He.Fa := defs.map (fun d => .glo d.x) ++ free.map .free ++ exs.map (fun p => .glo p.1) ++ (if exHas exs 0 then [.exc "Malformed"] else []) ++
  exs.flatMap fun h => ([0, 1, 2].filter (exHas exs)).map fun c => .exm (exName c) h.1 (hits h.2 c)
def ddP (d : PDef) : He.DefD := ⟨(d.x, none), stName d.st, stName d.st, L2.defArgs d.st, L2.defBody d.st, L2.defScope d.st, [], []⟩
where stName : Stmt → Str
  | .FunctionDef n _ _ _ _ _ _ _ _ _ => n
  | _ => ""
/-- what is checked of a def by computation -/
def PDef.chk (defs : List PDef) (free : List Str) (exs : List (Str × Nat)) (d : PDef) : Bool :=
  d.S.free.all (fun x => free.contains x) && d.S.exs.all (fun p => exs.contains p && exName p.2 == p.1) && !d.S.hot && (!d.S.io || !d.fr) &&
  d.S.fns.all fun p => defs.any fun e => e.x == p.1 && e.i == p.2.1 && e.S.io == p.2.2 && decide (e.lv < d.lv) && d.S.fresh.contains e.i == e.fr && d.S.ar.lookup e.i == some e.ps.length
structure PDef.Ok (defs : List PDef) (free : List Str) (exs : List (Str × Nat)) (cst : List (Str × D)) (code : Nat → Option (Nat × Bool × Bool × Sms)) (d : PDef) : Prop where
  Sc : FnScope d.S.N d.ps d.S.sc
  sc : d.S.sc = L2.defScope d.st
  hc : ∃ n, cSs n d.S d.fr (L2.defBody d.st) = some d.code
  bd : BindsP (L2.defArgs d.st) d.ps
  co : code d.i = some (d.S.N.length, d.S.io, d.fr, d.code)
  cs : d.S.cst = cst
  ck : d.chk defs free exs = true
theorem lookup_mem' {α β : Type} [BEq α] [LawfulBEq α] {a : α} {b : β} : ∀ {l : List (α × β)}, l.lookup a = some b → (a, b) ∈ l
  | [], h => by cases h
  | (c, d) :: r, h => by
    rw [List.lookup_cons] at h
    split at h
    · rename_i e
      cases h
      rw [eq_of_beq e]; exact List.mem_cons_self
    · exact List.mem_cons_of_mem _ (lookup_mem' h)
section
variable {defs : List PDef} {free : List Str} {exs : List (Str × Nat)} {cst : List (Str × D)} {code : Nat → Option (Nat × Bool × Bool × Sms)} {K : PySem.W.Frag} {P : Program} {w : World} {mg : Str → Option Value} {base : Heap}
theorem fact_glo (c : SaysP cst (faP defs free exs) (defs.map ddP) K) {d : PDef} (h : d ∈ defs) : (He.Fa.glo d.x).ok K = true := c.fact (by
  unfold faP
  simp only [List.mem_append, List.mem_map]
  exact .inl (.inl (.inl (.inl ⟨d, h, rfl⟩))))
theorem fact_free (c : SaysP cst (faP defs free exs) (defs.map ddP) K) {x : Str} (h : x ∈ free) : (He.Fa.free x).ok K = true := c.fact (by
  unfold faP
  simp only [List.mem_append, List.mem_map]
  exact .inl (.inl (.inl (.inr ⟨x, h, rfl⟩))))
theorem fact_exn (c : SaysP cst (faP defs free exs) (defs.map ddP) K) {p : Str × Nat} (h : p ∈ exs) : (He.Fa.glo p.1).ok K = true := c.fact (by
  unfold faP
  simp only [List.mem_append, List.mem_map]
  exact .inl (.inl (.inr ⟨p, h, rfl⟩)))
theorem fact_exc (c : SaysP cst (faP defs free exs) (defs.map ddP) K) (h : exHas exs 0 = true) : (He.Fa.exc "Malformed").ok K = true := c.fact (by
  unfold faP
  rw [if_pos h]
  simp only [List.mem_append, List.mem_singleton]
  exact .inl (.inr trivial))
theorem fact_exm (c : SaysP cst (faP defs free exs) (defs.map ddP) K) {p : Str × Nat} (h : p ∈ exs) {n : Nat} (hn : n < 3) (hx : exHas exs n = true) : (He.Fa.exm (exName n) p.1 (hits p.2 n)).ok K = true := c.fact (by
  unfold faP
  simp only [List.mem_append, List.mem_flatMap, List.mem_map, List.mem_filter]
  refine .inr ⟨p, h, n, ⟨?_, hx⟩, rfl⟩
  match n, hn with
  | 0, _ => exact List.mem_cons_self
  | 1, _ => exact List.mem_cons_of_mem _ List.mem_cons_self
  | 2, _ => exact List.mem_cons_of_mem _ (List.mem_cons_of_mem _ List.mem_cons_self))
abbrev cn0 (K : PySem.W.Frag) (exs : List (Str × Nat)) : Cn := ⟨K, fun _ _ _ => False, eaOf K, exHas exs⟩
/-- every def keeps its promise -/
theorem prog_ok (hd : ∀ d ∈ defs, d.Ok defs free exs cst code) (lv1 : ∀ d ∈ defs, 0 < d.lv) (KB : K.In base) (G : base.Ns mainGlobals mg) (c : SaysP cst (faP defs free exs) (defs.map ddP) K) :
    ∀ n, ∀ d ∈ defs, d.lv ≤ n → ∀ fd, FunD K (ddP d).name (ddP d).qual (L2.defArgs d.st) (L2.defBody d.st) (L2.defScope d.st) [] [] (He.ga K d.x) fd →
      FnOk P w K mg base (L2.CX P w) (2 * n) (He.ga K d.x) fd d.ps (spOf (cn0 K exs) ((semC whileS code n).fn d.i) d.ps.length d.S.io d.fr) := by
  intro n
  induction n with
  | zero => intro d hdm hl; have := lv1 d hdm; omega
  | succ n ih =>
    intro d hdm hl fd F
    have O := hd d hdm
    obtain ⟨m, hc⟩ := O.hc
    have ck := O.ck
    unfold PDef.chk at ck
    simp only [Bool.and_eq_true, Bool.or_eq_true, Bool.not_eq_true', List.all_eq_true] at ck
    obtain ⟨⟨⟨⟨k1, k2⟩, k3⟩, k4⟩, k5⟩ := ck
    replace k2 : ∀ p ∈ d.S.exs, p ∈ exs ∧ exName p.2 = p.1 := fun p hp => by
      have q := k2 p hp
      exact ⟨List.contains_iff_mem.mp q.1, eq_of_beq q.2⟩
    have T : Stat d.S (semC whileS code n) (cn0 K exs) (2 * n) P w mg base := {
      nd := O.Sc.nd
      free := fun x hx => He.free_ok KB G (fact_free c (List.contains_iff_mem.mp (k1 x (List.contains_iff_mem.mp hx))))
      cst := fun x dd hx => by
        rw [O.cs] at hx
        have q := c.cst (lookup_mem' hx)
        unfold cstB at q
        split at q
        · rename_i u hu
          obtain ⟨v, r, f⟩ := cB_ok (C := cn0 K exs) 8 u dd q
          exact ⟨u, v, PySem.W.mg_of KB G hu, r, f⟩
        · cases q
      fns := fun X e1 e2 e3 e4 e5 x f io hx => by
        have q := k5 _ (lookup_mem' hx)
        rw [List.any_eq_true] at q
        obtain ⟨e, he, q⟩ := q
        simp only [Bool.and_eq_true, beq_iff_eq, decide_eq_true_eq] at q
        obtain ⟨⟨⟨⟨⟨q1, q2⟩, q3⟩, q4⟩, q5⟩, q6⟩ := q
        subst q1 q2 q3
        obtain ⟨fd', F'⟩ := c.fun_ (List.mem_map_of_mem (f := ddP) he)
        have B := FunD.bindsN (ps := e.ps) F' fun kV doc pm an cdv ct us hl => (hd e he).bd _ _ _ _ kV doc pm an cdv ct us hl
        have R := ih e he (by omega) fd' F'
        subst e1 e2 e4 e5
        refine ⟨2 * n, He.ga K e.x, fd', e.ps, Nat.le_refl _, q6, ?_, ?_, ?_, ?_⟩
        · exact He.glo_ok KB G (fact_glo c he)
        · rw [e3]; exact F'.kp
        · rw [e3]; exact B
        · rw [e3, q5]; exact R
      exs := fun x k hx => by
        have q := k2 _ (lookup_mem' hx)
        show mg x = some (.ref (He.ga K (exName k)))
        rw [q.2]
        exact He.glo_ok KB G (fact_exn c q.1)
      exq := fun x k hx => List.any_eq_true.mpr ⟨_, (k2 _ (lookup_mem' hx)).1, by simp⟩
      mkx := fun x hx => by
        obtain ⟨h1, h2, h3, h4⟩ := He.exc_ok (fact_exc c (List.any_eq_true.mpr ⟨_, (k2 _ (lookup_mem' hx)).1, by simp⟩))
        exact ⟨_, _, _, _, PySem.F.excBase_ValueError, h1, h2, h3, h4⟩
      exm := fun y h hx k hk hq => by
        have q := k2 _ (lookup_mem' hx)
        have e := He.exm_ok (fact_exm c q.1 hk hq)
        show PySem.W.exmOne K (.ref (He.ga K (exName k))) (.ref (He.ga K (exName h))) = _
        rw [q.2]
        exact e
      px := fun _ _ _ h => h
      hot := k3 }
    rw [← O.sc] at F
    have R := def_ok (P := P) (w := w) (mg := mg) (base := base) (semC_wh n) T F O.Sc hc (fun h => by
      rcases k4 with k4 | k4
      · rw [h] at k4; cases k4
      · exact k4)
    have e : (semC whileS code (n + 1)).fn d.i = runFn (semC whileS code n) d.S.N.length d.S.io d.fr d.code := by
      funext args
      show (match code d.i with
        | some (m, io, fr, b) => runFn (semC whileS code n) m io fr b args
        | none => .bad) = _
      rw [O.co]
    rw [e]
    exact R
end
/-! ### the law -/
theorem script_fz {C : Cn} {H : Hp} {Z : Addr → Prop} : ∀ ns : List Int, FzAll C H Z (ns.map V.int) (ns.map D.int)
  | [] => .nil
  | n :: ns => .cons (.int n) (script_fz ns)
theorem law_walk {l : PySem.W.OpenLaw} {q : Program} {loose : List Str} {XP : (Str → Option Value) → Heap → Prop} {d : DefRec} {n k g : Nat} {x : Str} {defs : List PDef} {free : List Str} {exs : List (Str × Nat)} {cst : List (Str × D)} {code : Nat → Option (Nat × Bool × Bool × Sms)} {dl : PDef}
    (hn : l.most = some n) (hz : n ≤ sizeLine) (hdf : d.params.defaults = []) (hr : Room (2 * k) callerA) (hd : ∀ d ∈ defs, d.Ok defs free exs cst code) (lv1 : ∀ d ∈ defs, 0 < d.lv) (hm : dl ∈ defs) (hlv : dl.lv ≤ k) (hps : dl.ps = [x]) (hx : dl.x = d.name)
    (hio : dl.S.io = false) (hfr : dl.fr = false)
    (pure : ∀ ns : List Int, ns.length ≤ n → ∃ m, (semC whileS code k).fn dl.i [.scr (ns.map D.int)] = .ok (.bl true) m) :
    PySem.W.WalkO q loose XP (hookP g cst (faP defs free exs) (defs.map ddP)).says l.row.toRowW d [] (fun f vs => PySem.call f vs) := by
  refine Att.attach_call hn hdf ?_
  intro w s₀ s₁ mg mb fa o pm cd doc a vs ns Gr Y ho hdt hcd hmg hobj hints hlen hg
  obtain ⟨K, KX, c⟩ := Y
  obtain ⟨fd, F⟩ := c.fun_ (List.mem_map_of_mem (f := ddP) hm)
  have efa : fa = He.ga K dl.x := by
    have z := He.glo_ok KX Gr.T.g (fact_glo c hm)
    rw [hx, hmg] at z
    rw [hx]
    injection z with z; injection z
  subst efa
  have B := FunD.bindsA (ps := dl.ps) F fun kV doc pm an cdv ct us hl => (hd dl hm).bd _ _ _ _ kV doc pm an cdv ct us hl
  refine law_call (fd := fd) (CX := L2.CX l.prog w) (k := 2 * k) (x := x) (sp := spOf (cn0 K exs) ((semC whileS code k).fn dl.i) 1 false false) KX Gr.T.g Gr.T.b Gr.T.builtins Gr.T.nolimit hg hobj hints (Nat.le_trans hlen hz) hr (fun base KB GB => ?_) (fun s u => ?_) (fun H hO hS => ?_) (fun H e s' h => ?_)
  · have R := prog_ok (P := l.prog) (w := w) hd lv1 KB GB c k dl hm hlv fd F
    rw [hps, hio, hfr] at R
    exact R
  · have b := B s [u] (by rw [hps]; rfl)
    rw [hps] at b
    exact b
  · refine ⟨rfl, fun _ => False, fun _ h => h.elim, [.scr (ns.map D.int)], .cons ?_ .nil, ?_⟩
    · rcases hS with (h | ⟨o, h⟩) | h
      · rcases hO a with e | ⟨o, xs, e⟩
        · rw [h] at e; cases e
        · rw [h] at e; cases e
      · exact .scrF h (script_fz ns)
      · exact .scrK h (script_fz ns)
    · obtain ⟨m, e⟩ := pure ns hlen
      rw [e]
      intro v Z' H' _ f
      have f : Fz (cn0 K exs) H' Z' v (.bl true) := f
      cases f
      rfl
  · obtain ⟨_, _, _, _, _, _, _, _, _, _, _, _, z⟩ := h
    exact z
end PF

set_option Elab.async false
set_option linter.all false
set_option maxRecDepth 100000
set_option maxHeartbeats 0
namespace PF.PG
open PySem PySem.Spec PyProof.Rows PF
def top (i : Nat) : Stmt := PySem.Challenge.pw_mapkinds_k05_arrows_of_kinds.main.body.getD i (.Pass ⟨0, 0, 0, 0⟩)
def k_WORDS : D := .tup [.str "ident", .str "const", .str "mono", .str "anti", .str "infl", .str "defl", .str "idem", .str "inj", .str "invol", .str "conv", .str "fix", .str "onefix", .str "join", .str "meet", .str "embed", .str "chain", .str "flat", .str "lat", .str "least", .str "great"]
def k_ARROWS : D := .tup [.tup [.str "ident", .str "infl"], .tup [.str "ident", .str "defl"], .tup [.str "ident", .str "idem"], .tup [.str "ident", .str "invol"], .tup [.str "ident", .str "embed"], .tup [.str "const", .str "anti"], .tup [.str "const", .str "idem"], .tup [.str "const", .str "onefix"], .tup [.str "const", .str "join"], .tup [.str "const", .str "meet"], .tup [.str "infl", .str "conv"], .tup [.str "defl", .str "conv"], .tup [.str "idem", .str "conv"], .tup [.str "invol", .str "inj"], .tup [.str "conv", .str "fix"], .tup [.str "onefix", .str "fix"], .tup [.str "join", .str "mono"], .tup [.str "meet", .str "mono"], .tup [.str "embed", .str "inj"], .tup [.str "embed", .str "join"], .tup [.str "embed", .str "meet"], .tup [.str "chain", .str "lat"], .tup [.str "flat", .str "anti"], .tup [.str "flat", .str "join"], .tup [.str "flat", .str "meet"], .tup [.str "lat", .str "least"], .tup [.str "lat", .str "great"]]
def k_JOINT_ARROWS : D := .tup [.tup [.str "const", .str "ident", .str "chain"], .tup [.str "const", .str "ident", .str "flat"], .tup [.str "anti", .str "ident", .str "flat"], .tup [.str "ident", .str "onefix", .str "const"], .tup [.str "const", .str "infl", .str "great"], .tup [.str "const", .str "defl", .str "least"], .tup [.str "const", .str "inj", .str "ident"], .tup [.str "anti", .str "mono", .str "join"], .tup [.str "anti", .str "mono", .str "meet"], .tup [.str "inj", .str "mono", .str "embed"], .tup [.str "chain", .str "mono", .str "conv"], .tup [.str "chain", .str "mono", .str "join"], .tup [.str "chain", .str "mono", .str "meet"], .tup [.str "least", .str "mono", .str "fix"], .tup [.str "great", .str "mono", .str "fix"], .tup [.str "anti", .str "infl", .str "mono"], .tup [.str "anti", .str "infl", .str "idem"], .tup [.str "anti", .str "defl", .str "mono"], .tup [.str "anti", .str "defl", .str "idem"], .tup [.str "anti", .str "idem", .str "mono"], .tup [.str "anti", .str "embed", .str "flat"], .tup [.str "defl", .str "infl", .str "ident"], .tup [.str "infl", .str "onefix", .str "great"], .tup [.str "defl", .str "onefix", .str "least"], .tup [.str "flat", .str "infl", .str "ident"], .tup [.str "defl", .str "flat", .str "ident"], .tup [.str "conv", .str "inj", .str "ident"], .tup [.str "idem", .str "onefix", .str "const"], .tup [.str "flat", .str "least", .str "const"], .tup [.str "flat", .str "least", .str "ident"], .tup [.str "flat", .str "great", .str "const"], .tup [.str "flat", .str "great", .str "ident"]]
def csts_0 : List (Str × D) := [("WORDS", k_WORDS), ("ARROWS", k_ARROWS), ("JOINT_ARROWS", k_JOINT_ARROWS)]
def csts : List (Str × D) := csts_0
def exs_0 : List (Str × Nat) := [("Fault", 3), ("Malformed", 0)]
def exs : List (Str × Nat) := exs_0
def free_0 : List Str := ["abs", "all", "bool", "int", "isinstance", "len", "list", "range", "sorted", "str", "tuple"]
def free : List Str := free_0
/-- check_word -/
def sc5 : SC := { N := ["word"], sc := L2.defScope (top 5), fns := [], ar := [], cst := csts, exs := exs, free := free, mu := [], fresh := [17], io := false, wc := cellsOf (L2.defScope (top 5)) }
/-- arrows -/
def sc9 : SC := { N := [], sc := L2.defScope (top 9), fns := [], ar := [], cst := csts, exs := exs, free := free, mu := [], fresh := [17], io := false, wc := cellsOf (L2.defScope (top 9)) }
/-- joint_arrows -/
def sc10 : SC := { N := [], sc := L2.defScope (top 10), fns := [], ar := [], cst := csts, exs := exs, free := free, mu := [], fresh := [17], io := false, wc := cellsOf (L2.defScope (top 10)) }
/-- check_words -/
def sc11 : SC := { N := ["words", "word"], sc := L2.defScope (top 11), fns := [("check_word", 5, false)], ar := [(5, 1)], cst := csts, exs := exs, free := free, mu := [], fresh := [17], io := false, wc := cellsOf (L2.defScope (top 11)) }
/-- ways_to -/
def sc12 : SC := { N := ["words", "word", "step", "one"], sc := L2.defScope (top 12), fns := [], ar := [], cst := csts, exs := exs, free := free, mu := [], fresh := [17], io := false, wc := cellsOf (L2.defScope (top 12)) }
/-- derived -/
def sc13 : SC := { N := ["words", "found", "steps", "more", "word", "step"], sc := L2.defScope (top 13), fns := [("ways_to", 12, false)], ar := [(12, 2)], cst := csts, exs := exs, free := free, mu := [1, 2], fresh := [17], io := false, wc := cellsOf (L2.defScope (top 13)) }
/-- all_forced -/
def sc14 : SC := { N := ["words", "found", "word"], sc := L2.defScope (top 14), fns := [("check_words", 11, false), ("derived", 13, false)], ar := [(11, 1), (13, 1)], cst := csts, exs := exs, free := free, mu := [], fresh := [17], io := false, wc := cellsOf (L2.defScope (top 14)) }
/-- does_force -/
def sc15 : SC := { N := ["words", "word"], sc := L2.defScope (top 15), fns := [("check_word", 5, false), ("all_forced", 14, false)], ar := [(5, 1), (14, 1)], cst := csts, exs := exs, free := free, mu := [], fresh := [17], io := false, wc := cellsOf (L2.defScope (top 15)) }
/-- _law_draw -/
def sc17 : SC := { N := ["script", "seed", "cell"], sc := L2.defScope (top 17), fns := [], ar := [], cst := csts, exs := exs, free := free, mu := [], fresh := [17], io := false, wc := cellsOf (L2.defScope (top 17)) }
/-- _law_take -/
def sc18 : SC := { N := ["draw", "many", "found"], sc := L2.defScope (top 18), fns := [], ar := [], cst := csts, exs := exs, free := free, mu := [0], fresh := [17], io := true, wc := cellsOf (L2.defScope (top 18)) }
/-- _law_says -/
def sc19 : SC := { N := ["value", "due"], sc := L2.defScope (top 19), fns := [], ar := [], cst := csts, exs := exs, free := free, mu := [], fresh := [17], io := false, wc := cellsOf (L2.defScope (top 19)) }
/-- _law_words -/
def sc20 : SC := { N := [], sc := L2.defScope (top 20), fns := [], ar := [], cst := csts, exs := exs, free := free, mu := [], fresh := [17], io := false, wc := cellsOf (L2.defScope (top 20)) }
/-- _law_arrows -/
def sc21 : SC := { N := ["text", "words", "k"], sc := L2.defScope (top 21), fns := [], ar := [], cst := csts, exs := exs, free := free, mu := [], fresh := [17], io := false, wc := cellsOf (L2.defScope (top 21)) }
/-- _law_joint -/
def sc22 : SC := { N := ["text", "words", "k"], sc := L2.defScope (top 22), fns := [], ar := [], cst := csts, exs := exs, free := free, mu := [], fresh := [17], io := false, wc := cellsOf (L2.defScope (top 22)) }
/-- _law_led -/
def sc23 : SC := { N := ["words", "found", "turn", "step", "one"], sc := L2.defScope (top 23), fns := [("_law_arrows", 21, false), ("_law_joint", 22, false)], ar := [(21, 0), (22, 0)], cst := csts, exs := exs, free := free, mu := [1], fresh := [17], io := false, wc := cellsOf (L2.defScope (top 23)) }
/-- _law_ask -/
def sc24 : SC := { N := ["which", "words", "word"], sc := L2.defScope (top 24), fns := [("all_forced", 14, false), ("does_force", 15, false)], ar := [(14, 1), (15, 2)], cst := csts, exs := exs, free := free, mu := [], fresh := [17], io := false, wc := cellsOf (L2.defScope (top 24)) }
/-- law -/
def sc25 : SC := { N := ["script", "draw", "turn", "words", "found", "bad", "k", "word", "which"], sc := L2.defScope (top 25), fns := [("_law_draw", 17, false), ("_law_led", 23, false), ("arrows", 9, false), ("joint_arrows", 10, false), ("_law_ask", 24, false), ("_law_arrows", 21, false), ("_law_joint", 22, false), ("_law_words", 20, false), ("_law_take", 18, true), ("_law_says", 19, false)], ar := [(9, 0), (10, 0), (17, 1), (18, 2), (19, 2), (20, 0), (21, 0), (22, 0), (23, 1), (24, 3)], cst := csts, exs := exs, free := free, mu := [1], fresh := [17], io := false, wc := cellsOf (L2.defScope (top 25)) }
def co5 : Sms := (.cons (.ite (.or (.not (.val (.prim (.isinst .str) (.cons (.vr 0) .nil)))) (.val (.prim .nin (.cons (.vr 0) (.cons (.cst k_WORDS) .nil))))) (.cons (.raise 0 (.cst .non)) .nil) .nil) .nil)
def co9 : Sms := (.cons (.ret (.prim .tuple (.cons (.prim .sorted (.cons (.cst k_ARROWS) .nil)) .nil))) .nil)
def co10 : Sms := (.cons (.ret (.prim .tuple (.cons (.prim .sorted (.cons (.cst k_JOINT_ARROWS) .nil)) .nil))) .nil)
def co11 : Sms := (.cons (.ite (.or (.not (.val (.prim (.isinst .tuple) (.cons (.vr 0) .nil)))) (.not (.val (.chain .le .le (.cst (.int 1)) (.prim .len (.cons (.vr 0) .nil)) (.cst (.int 2)))))) (.cons (.raise 0 (.cst .non)) .nil) .nil) (.cons (.for_ [1] true (.seq (.vr 0)) (.cons (.expr (.call 5 (.cons (.vr 1) .nil))) .nil)) .nil))
def co12 : Sms := (.cons (.for_ [2] true (.seq (.prim .add (.cons (.cst k_ARROWS) (.cons (.cst k_JOINT_ARROWS) .nil)))) (.cons (.ite (.and (.val (.prim .eq (.cons (.prim .ix (.cons (.vr 2) (.cons (.prim .neg (.cons (.cst (.int 1)) .nil)) .nil))) (.cons (.vr 1) .nil)))) (.val (.prim .all (.cons (.lc (.prim .inn (.cons (.vr 3) (.cons (.vr 0) .nil))) [3] true (.seq (.prim (.slice false true) (.cons (.vr 2) (.cons (.prim .neg (.cons (.cst (.int 1)) .nil)) .nil)))) .yes [3]) .nil)))) (.cons (.ret (.vr 2)) .nil) .nil) .nil)) (.cons (.ret (.cst .non)) .nil))
def co13 : Sms := (.cons (.par [(1, true), (2, true), (3, false)] (.cons (.prim .list (.cons (.vr 0) .nil)) (.cons (.prim .lst .nil) (.cons (.cst (.bl true)) .nil)))) (.cons (.whl (.val (.vr 3)) (.cons (.asg 3 false (.cst (.bl false))) (.cons (.for_ [4] true (.seq (.cst k_WORDS)) (.cons (.asg 5 false (.callB 12 (.cons (.rd 1) (.cons (.vr 4) .nil)))) (.cons (.ite (.and (.val (.prim .nin (.cons (.vr 4) (.cons (.rd 1) .nil)))) (.val (.prim .notN (.cons (.vr 5) (.cons (.cst .non) .nil))))) (.cons (.app 1 (.vr 4)) (.cons (.app 2 (.vr 5)) (.cons (.asg 3 false (.cst (.bl true))) .nil))) .nil) .nil))) .nil))) (.cons (.ret (.prim .tup (.cons (.var 1) (.cons (.var 2) .nil)))) .nil)))
def co14 : Sms := (.cons (.expr (.call 11 (.cons (.vr 0) .nil))) (.cons (.asg 1 false (.prim .ix (.cons (.call 13 (.cons (.vr 0) .nil)) (.cons (.cst (.int 0)) .nil)))) (.cons (.ret (.prim .tuple (.cons (.lc (.vr 2) [2] true (.seq (.cst k_WORDS)) (.val (.prim .inn (.cons (.vr 2) (.cons (.vr 1) .nil)))) [2]) .nil))) .nil)))
def co15 : Sms := (.cons (.expr (.call 5 (.cons (.vr 1) .nil))) (.cons (.ret (.prim .inn (.cons (.vr 1) (.cons (.call 14 (.cons (.vr 0) .nil)) .nil)))) .nil))
def co17 : Sms := (.cons (.asg 1 false (.cst (.int 7))) (.cons (.for_ [2] true (.seq (.vr 0)) (.cons (.asg 1 false (.prim .mod (.cons (.prim .int (.cons (.prim .add (.cons (.prim .add (.cons (.prim .mul (.cons (.vr 1) (.cons (.cst (.int 48271)) .nil))) (.cons (.prim .mod (.cons (.prim .abs (.cons (.prim .int (.cons (.vr 2) .nil)) .nil)) (.cons (.cst (.int 65521)) .nil))) .nil))) (.cons (.cst (.int 1)) .nil))) .nil)) (.cons (.cst (.int 2147483647)) .nil)))) .nil)) (.cons (.retF (.prim .lst (.cons (.lc (.prim .abs (.cons (.prim .int (.cons (.vr 2) .nil)) .nil)) [2] true (.seq (.vr 0)) .yes [2]) (.cons (.prim .neg (.cons (.cst (.int 1)) .nil)) (.cons (.cst (.int 0)) (.cons (.vr 1) .nil)))))) .nil)))
def co18 : Sms := (.cons (.ite (.val (.prim .eq (.cons (.prim .ix (.cons (.rd 0) (.cons (.cst (.int 2)) .nil))) (.cons (.cst (.int 0)) .nil)))) (.cons (.setIx 0 (.cst (.int 1)) (.prim .add (.cons (.prim .ix (.cons (.rd 0) (.cons (.cst (.int 1)) .nil))) (.cons (.cst (.int 1)) .nil)))) (.cons (.ite (.val (.prim .lt (.cons (.prim .ix (.cons (.rd 0) (.cons (.cst (.int 1)) .nil))) (.cons (.prim .len (.cons (.prim .ix (.cons (.rd 0) (.cons (.cst (.int 0)) .nil))) .nil)) .nil)))) (.cons (.setIx 0 (.cst (.int 2)) (.prim .ix (.cons (.prim .ix (.cons (.rd 0) (.cons (.cst (.int 0)) .nil))) (.cons (.prim .ix (.cons (.rd 0) (.cons (.cst (.int 1)) .nil))) .nil)))) .nil) .nil) (.cons (.ite (.val (.prim .eq (.cons (.prim .ix (.cons (.rd 0) (.cons (.cst (.int 2)) .nil))) (.cons (.cst (.int 0)) .nil)))) (.cons (.setIx 0 (.cst (.int 3)) (.prim .mod (.cons (.prim .int (.cons (.prim .add (.cons (.prim .mul (.cons (.prim .ix (.cons (.rd 0) (.cons (.cst (.int 3)) .nil))) (.cons (.cst (.int 48271)) .nil))) (.cons (.cst (.int 11)) .nil))) .nil)) (.cons (.cst (.int 2147483647)) .nil)))) (.cons (.setIx 0 (.cst (.int 2)) (.prim .ix (.cons (.rd 0) (.cons (.cst (.int 3)) .nil)))) .nil)) .nil) .nil))) .nil) (.cons (.asg 2 false (.prim .mod (.cons (.prim .int (.cons (.prim .ix (.cons (.rd 0) (.cons (.cst (.int 2)) .nil))) .nil)) (.cons (.vr 1) .nil)))) (.cons (.setIx 0 (.cst (.int 2)) (.prim .fdiv (.cons (.prim .ix (.cons (.rd 0) (.cons (.cst (.int 2)) .nil))) (.cons (.vr 1) .nil)))) (.cons (.ret (.vr 2)) .nil))))
def co19 : Sms := (.cons (.ret (.andV (.prim (.isinst .bool) (.cons (.vr 0) .nil)) (.prim .eq (.cons (.vr 0) (.cons (.vr 1) .nil))))) .nil)
def co20 : Sms := (.cons (.ret (.meth .split (.cst (.str "ident const mono anti infl defl idem inj invol conv fix onefix join meet embed chain flat lat least great")) (.cst (.str " ")))) .nil)
def co21 : Sms := (.cons (.asg 0 false (.cst (.str "ident infl ident defl ident idem ident invol ident embed const anti const idem const onefix const join const meet infl conv defl conv idem conv invol inj"))) (.cons (.asg 1 false (.meth .split (.prim .add (.cons (.vr 0) (.cons (.cst (.str " conv fix onefix fix join mono meet mono embed inj embed join embed meet chain lat flat anti flat join flat meet lat least lat great")) .nil))) (.cst (.str " ")))) (.cons (.ret (.lc (.prim .tup (.cons (.prim .ix (.cons (.vr 1) (.cons (.prim .mul (.cons (.cst (.int 2)) (.cons (.vr 2) .nil))) .nil))) (.cons (.prim .ix (.cons (.vr 1) (.cons (.prim .add (.cons (.prim .mul (.cons (.cst (.int 2)) (.cons (.vr 2) .nil))) (.cons (.cst (.int 1)) .nil))) .nil))) .nil))) [2] true (.rng1 (.prim .fdiv (.cons (.prim .len (.cons (.vr 1) .nil)) (.cons (.cst (.int 2)) .nil)))) .yes [2])) .nil)))
def co22 : Sms := (.cons (.asg 0 false (.cst (.str "const ident chain const ident flat anti ident flat ident onefix const const infl great const defl least const inj ident anti mono join"))) (.cons (.asg 0 false (.prim .add (.cons (.vr 0) (.cons (.cst (.str " anti mono meet inj mono embed chain mono conv chain mono join chain mono meet least mono fix great mono fix anti infl mono")) .nil)))) (.cons (.asg 0 false (.prim .add (.cons (.vr 0) (.cons (.cst (.str " anti infl idem anti defl mono anti defl idem anti idem mono anti embed flat defl infl ident infl onefix great defl onefix least")) .nil)))) (.cons (.asg 1 false (.meth .split (.prim .add (.cons (.vr 0) (.cons (.cst (.str " flat infl ident defl flat ident conv inj ident idem onefix const flat least const flat least ident flat great const flat great ident")) .nil))) (.cst (.str " ")))) (.cons (.ret (.lc (.prim .tup (.cons (.prim .ix (.cons (.vr 1) (.cons (.prim .mul (.cons (.cst (.int 3)) (.cons (.vr 2) .nil))) .nil))) (.cons (.prim .ix (.cons (.vr 1) (.cons (.prim .add (.cons (.prim .mul (.cons (.cst (.int 3)) (.cons (.vr 2) .nil))) (.cons (.cst (.int 1)) .nil))) .nil))) (.cons (.prim .ix (.cons (.vr 1) (.cons (.prim .add (.cons (.prim .mul (.cons (.cst (.int 3)) (.cons (.vr 2) .nil))) (.cons (.cst (.int 2)) .nil))) .nil))) .nil)))) [2] true (.rng1 (.prim .fdiv (.cons (.prim .len (.cons (.vr 1) .nil)) (.cons (.cst (.int 3)) .nil)))) .yes [2])) .nil)))))
def co23 : Sms := (.cons (.asg 1 true (.prim .list (.cons (.vr 0) .nil))) (.cons (.for_ [2] true (.rng1 (.cst (.int 20))) (.cons (.for_ [3] true (.seq (.prim .add (.cons (.call 21 .nil) (.cons (.call 22 .nil) .nil)))) (.cons (.ite (.and (.val (.prim .nin (.cons (.prim .ix (.cons (.vr 3) (.cons (.prim .neg (.cons (.cst (.int 1)) .nil)) .nil))) (.cons (.rd 1) .nil)))) (.val (.prim .all (.cons (.lc (.prim .inn (.cons (.vr 4) (.cons (.rd 1) .nil))) [4] true (.seq (.prim (.slice false true) (.cons (.vr 3) (.cons (.prim .neg (.cons (.cst (.int 1)) .nil)) .nil)))) .yes [4]) .nil)))) (.cons (.app 1 (.prim .ix (.cons (.vr 3) (.cons (.prim .neg (.cons (.cst (.int 1)) .nil)) .nil)))) .nil) .nil) .nil)) .nil)) (.cons (.ret (.var 1)) .nil)))
def co24 : Sms := (.cons (.try_ (.cons (.ret (.ite (.val (.prim .eq (.cons (.vr 0) (.cons (.cst (.int 0)) .nil)))) (.call 14 (.cons (.vr 1) .nil)) (.call 15 (.cons (.vr 1) (.cons (.vr 2) .nil))))) .nil) (.cons 0 none (.cons (.ret (.cst (.str "<malformed>"))) .nil) .nil)) .nil)
def co25 : Sms := (.cons (.asg 1 true (.call 17 (.cons (.vr 0) .nil))) (.cons (.ite (.or (.val (.prim .ne (.cons (.call 9 .nil) (.cons (.prim .tuple (.cons (.prim .sorted (.cons (.call 21 .nil) .nil)) .nil)) .nil)))) (.val (.prim .ne (.cons (.call 10 .nil) (.cons (.prim .tuple (.cons (.prim .sorted (.cons (.call 22 .nil) .nil)) .nil)) .nil))))) (.cons (.ret (.cst (.bl false))) .nil) .nil) (.cons (.for_ [2] true (.rng1 (.cst (.int 4))) (.cons (.asg 3 false (.prim .tuple (.cons (.lc (.prim .ix (.cons (.call 20 .nil) (.cons (.callM 18 1 (.cons (.cst (.int 20)) .nil)) .nil))) [6] true (.rng1 (.prim .add (.cons (.cst (.int 1)) (.cons (.callM 18 1 (.cons (.cst (.int 2)) .nil)) .nil)))) .yes [6]) .nil))) (.cons (.asg 4 false (.call 23 (.cons (.vr 3) .nil))) (.cons (.ite (.val (.prim .ne (.cons (.call 24 (.cons (.cst (.int 0)) (.cons (.vr 3) (.cons (.cst (.str "")) .nil)))) (.cons (.prim .tuple (.cons (.lc (.vr 7) [7] true (.seq (.call 20 .nil)) (.val (.prim .inn (.cons (.vr 7) (.cons (.vr 4) .nil)))) [7]) .nil)) .nil)))) (.cons (.ret (.cst (.bl false))) .nil) .nil) (.cons (.ite (.not (.val (.prim .all (.cons (.lc (.call 19 (.cons (.call 24 (.cons (.cst (.int 1)) (.cons (.vr 3) (.cons (.vr 7) .nil)))) (.cons (.prim .inn (.cons (.vr 7) (.cons (.vr 4) .nil))) .nil))) [7] true (.seq (.call 20 .nil)) .yes [7]) .nil)))) (.cons (.ret (.cst (.bl false))) .nil) .nil) .nil))))) (.cons (.for_ [5] true (.seq (.prim .lst (.cons (.prim .tup .nil) (.cons (.prim .tup (.cons (.cst (.str "mono")) (.cons (.cst (.str "fix")) (.cons (.cst (.str "lat")) .nil)))) (.cons (.prim .lst (.cons (.cst (.str "mono")) .nil)) (.cons (.cst (.str "mono")) (.cons (.cst .non) (.cons (.prim .tup (.cons (.cst (.str "MONO")) .nil)) (.cons (.prim .tup (.cons (.cst (.str "")) .nil)) (.cons (.prim .tup (.cons (.cst .non) .nil)) (.cons (.prim .tup (.cons (.cst (.str "mono")) (.cons (.cst (.int 3)) .nil))) (.cons (.prim .tup (.cons (.prim .tup (.cons (.cst (.str "mono")) .nil)) .nil)) .nil)))))))))))) (.cons (.ite (.val (.prim .ne (.cons (.lc (.call 24 (.cons (.vr 8) (.cons (.vr 5) (.cons (.cst (.str "mono")) .nil)))) [8] true (.seq (.prim .lst (.cons (.cst (.int 0)) (.cons (.cst (.int 1)) .nil)))) .yes [8]) (.cons (.prim .mul (.cons (.prim .lst (.cons (.cst (.str "<malformed>")) .nil)) (.cons (.cst (.int 2)) .nil))) .nil)))) (.cons (.ret (.cst (.bl false))) .nil) .nil) .nil)) (.cons (.ret (.prim .all (.cons (.lc (.prim .eq (.cons (.call 24 (.cons (.cst (.int 1)) (.cons (.prim .tup (.cons (.cst (.str "mono")) .nil)) (.cons (.vr 5) .nil)))) (.cons (.cst (.str "<malformed>")) .nil))) [5] true (.seq (.prim .lst (.cons (.cst (.str "")) (.cons (.cst (.str "MONO")) (.cons (.cst .non) (.cons (.cst (.int 3)) (.cons (.prim .tup (.cons (.cst (.str "mono")) .nil)) (.cons (.cst (.bl true)) .nil)))))))) .yes [5]) .nil))) .nil)))))
def code (f : Nat) : Option (Nat × Bool × Bool × Sms) :=
  bif f == 5 then some (1, false, false, co5) else
  bif f == 9 then some (0, false, false, co9) else
  bif f == 10 then some (0, false, false, co10) else
  bif f == 11 then some (2, false, false, co11) else
  bif f == 12 then some (4, false, false, co12) else
  bif f == 13 then some (6, false, false, co13) else
  bif f == 14 then some (3, false, false, co14) else
  bif f == 15 then some (2, false, false, co15) else
  bif f == 17 then some (3, false, true, co17) else
  bif f == 18 then some (3, true, false, co18) else
  bif f == 19 then some (2, false, false, co19) else
  bif f == 20 then some (0, false, false, co20) else
  bif f == 21 then some (3, false, false, co21) else
  bif f == 22 then some (3, false, false, co22) else
  bif f == 23 then some (5, false, false, co23) else
  bif f == 24 then some (3, false, false, co24) else
  bif f == 25 then some (9, false, false, co25) else
  none
noncomputable abbrev Sn (n : Nat) : Mo := semC whileS code n
theorem fn5 (n : Nat) (args : List D) : (Sn (n + 1)).fn 5 args = runFn (Sn n) 1 false false co5 args := by kernel_rfl
theorem fn9 (n : Nat) (args : List D) : (Sn (n + 1)).fn 9 args = runFn (Sn n) 0 false false co9 args := by kernel_rfl
theorem fn10 (n : Nat) (args : List D) : (Sn (n + 1)).fn 10 args = runFn (Sn n) 0 false false co10 args := by kernel_rfl
theorem fn11 (n : Nat) (args : List D) : (Sn (n + 1)).fn 11 args = runFn (Sn n) 2 false false co11 args := by kernel_rfl
theorem fn12 (n : Nat) (args : List D) : (Sn (n + 1)).fn 12 args = runFn (Sn n) 4 false false co12 args := by kernel_rfl
theorem fn13 (n : Nat) (args : List D) : (Sn (n + 1)).fn 13 args = runFn (Sn n) 6 false false co13 args := by kernel_rfl
theorem fn14 (n : Nat) (args : List D) : (Sn (n + 1)).fn 14 args = runFn (Sn n) 3 false false co14 args := by kernel_rfl
theorem fn15 (n : Nat) (args : List D) : (Sn (n + 1)).fn 15 args = runFn (Sn n) 2 false false co15 args := by kernel_rfl
theorem fn17 (n : Nat) (args : List D) : (Sn (n + 1)).fn 17 args = runFn (Sn n) 3 false true co17 args := by kernel_rfl
theorem fn18 (n : Nat) (args : List D) : (Sn (n + 1)).fn 18 args = runFn (Sn n) 3 true false co18 args := by kernel_rfl
theorem fn19 (n : Nat) (args : List D) : (Sn (n + 1)).fn 19 args = runFn (Sn n) 2 false false co19 args := by kernel_rfl
theorem fn20 (n : Nat) (args : List D) : (Sn (n + 1)).fn 20 args = runFn (Sn n) 0 false false co20 args := by kernel_rfl
theorem fn21 (n : Nat) (args : List D) : (Sn (n + 1)).fn 21 args = runFn (Sn n) 3 false false co21 args := by kernel_rfl
theorem fn22 (n : Nat) (args : List D) : (Sn (n + 1)).fn 22 args = runFn (Sn n) 3 false false co22 args := by kernel_rfl
theorem fn23 (n : Nat) (args : List D) : (Sn (n + 1)).fn 23 args = runFn (Sn n) 5 false false co23 args := by kernel_rfl
theorem fn24 (n : Nat) (args : List D) : (Sn (n + 1)).fn 24 args = runFn (Sn n) 3 false false co24 args := by kernel_rfl
theorem fn25 (n : Nat) (args : List D) : (Sn (n + 1)).fn 25 args = runFn (Sn n) 9 false false co25 args := by kernel_rfl
def pd0 : PDef := ⟨"check_word", 5, top 5, sc5, ["word"], false, co5, 1⟩
def pd1 : PDef := ⟨"arrows", 9, top 9, sc9, [], false, co9, 1⟩
def pd2 : PDef := ⟨"joint_arrows", 10, top 10, sc10, [], false, co10, 1⟩
def pd3 : PDef := ⟨"check_words", 11, top 11, sc11, ["words"], false, co11, 2⟩
def pd4 : PDef := ⟨"ways_to", 12, top 12, sc12, ["words", "word"], false, co12, 1⟩
def pd5 : PDef := ⟨"derived", 13, top 13, sc13, ["words"], false, co13, 2⟩
def pd6 : PDef := ⟨"all_forced", 14, top 14, sc14, ["words"], false, co14, 3⟩
def pd7 : PDef := ⟨"does_force", 15, top 15, sc15, ["words", "word"], false, co15, 4⟩
def pd8 : PDef := ⟨"_law_draw", 17, top 17, sc17, ["script"], true, co17, 1⟩
def pd9 : PDef := ⟨"_law_take", 18, top 18, sc18, ["draw", "many"], false, co18, 1⟩
def pd10 : PDef := ⟨"_law_says", 19, top 19, sc19, ["value", "due"], false, co19, 1⟩
def pd11 : PDef := ⟨"_law_words", 20, top 20, sc20, [], false, co20, 1⟩
def pd12 : PDef := ⟨"_law_arrows", 21, top 21, sc21, [], false, co21, 1⟩
def pd13 : PDef := ⟨"_law_joint", 22, top 22, sc22, [], false, co22, 1⟩
def pd14 : PDef := ⟨"_law_led", 23, top 23, sc23, ["words"], false, co23, 2⟩
def pd15 : PDef := ⟨"_law_ask", 24, top 24, sc24, ["which", "words", "word"], false, co24, 5⟩
def pd16 : PDef := ⟨"law", 25, top 25, sc25, ["script"], false, co25, 6⟩
def defs_0 : List PDef := [pd0, pd1, pd2, pd3, pd4, pd5, pd6, pd7, pd8, pd9, pd10, pd11, pd12, pd13, pd14]
def defs_1 : List PDef := [pd15, pd16]
def defs : List PDef := defs_0 ++ defs_1
theorem hc0 : cSs 80 sc5 false (L2.defBody (top 5)) = some co5 := by kernel_rfl
theorem ok0 : pd0.Ok defs free exs csts code := ⟨⟨rfl, rfl, rfl, by decide +kernel, rfl, by decide +kernel, by decide +kernel⟩, rfl, ⟨80, hc0⟩, fun _ _ _ _ _ _ _ _ _ _ us hl => (match us, hl with | [_], _ => rfl), rfl, rfl, by decide +kernel⟩
theorem hc1 : cSs 80 sc9 false (L2.defBody (top 9)) = some co9 := by kernel_rfl
theorem ok1 : pd1.Ok defs free exs csts code := ⟨⟨rfl, rfl, rfl, by decide +kernel, rfl, by decide +kernel, by decide +kernel⟩, rfl, ⟨80, hc1⟩, fun _ _ _ _ _ _ _ _ _ _ us hl => (match us, hl with | [], _ => rfl), rfl, rfl, by decide +kernel⟩
theorem hc2 : cSs 80 sc10 false (L2.defBody (top 10)) = some co10 := by kernel_rfl
theorem ok2 : pd2.Ok defs free exs csts code := ⟨⟨rfl, rfl, rfl, by decide +kernel, rfl, by decide +kernel, by decide +kernel⟩, rfl, ⟨80, hc2⟩, fun _ _ _ _ _ _ _ _ _ _ us hl => (match us, hl with | [], _ => rfl), rfl, rfl, by decide +kernel⟩
theorem hc3 : cSs 80 sc11 false (L2.defBody (top 11)) = some co11 := by kernel_rfl
theorem ok3 : pd3.Ok defs free exs csts code := ⟨⟨rfl, rfl, rfl, by decide +kernel, rfl, by decide +kernel, by decide +kernel⟩, rfl, ⟨80, hc3⟩, fun _ _ _ _ _ _ _ _ _ _ us hl => (match us, hl with | [_], _ => rfl), rfl, rfl, by decide +kernel⟩
theorem hc4 : cSs 80 sc12 false (L2.defBody (top 12)) = some co12 := by kernel_rfl
theorem ok4 : pd4.Ok defs free exs csts code := ⟨⟨rfl, rfl, rfl, by decide +kernel, rfl, by decide +kernel, by decide +kernel⟩, rfl, ⟨80, hc4⟩, fun _ _ _ _ _ _ _ _ _ _ us hl => (match us, hl with | [_, _], _ => rfl), rfl, rfl, by decide +kernel⟩
theorem hc5 : cSs 80 sc13 false (L2.defBody (top 13)) = some co13 := by kernel_rfl
theorem ok5 : pd5.Ok defs free exs csts code := ⟨⟨rfl, rfl, rfl, by decide +kernel, rfl, by decide +kernel, by decide +kernel⟩, rfl, ⟨80, hc5⟩, fun _ _ _ _ _ _ _ _ _ _ us hl => (match us, hl with | [_], _ => rfl), rfl, rfl, by decide +kernel⟩
theorem hc6 : cSs 80 sc14 false (L2.defBody (top 14)) = some co14 := by kernel_rfl
theorem ok6 : pd6.Ok defs free exs csts code := ⟨⟨rfl, rfl, rfl, by decide +kernel, rfl, by decide +kernel, by decide +kernel⟩, rfl, ⟨80, hc6⟩, fun _ _ _ _ _ _ _ _ _ _ us hl => (match us, hl with | [_], _ => rfl), rfl, rfl, by decide +kernel⟩
theorem hc7 : cSs 80 sc15 false (L2.defBody (top 15)) = some co15 := by kernel_rfl
theorem ok7 : pd7.Ok defs free exs csts code := ⟨⟨rfl, rfl, rfl, by decide +kernel, rfl, by decide +kernel, by decide +kernel⟩, rfl, ⟨80, hc7⟩, fun _ _ _ _ _ _ _ _ _ _ us hl => (match us, hl with | [_, _], _ => rfl), rfl, rfl, by decide +kernel⟩
theorem hc8 : cSs 80 sc17 true (L2.defBody (top 17)) = some co17 := by kernel_rfl
theorem ok8 : pd8.Ok defs free exs csts code := ⟨⟨rfl, rfl, rfl, by decide +kernel, rfl, by decide +kernel, by decide +kernel⟩, rfl, ⟨80, hc8⟩, fun _ _ _ _ _ _ _ _ _ _ us hl => (match us, hl with | [_], _ => rfl), rfl, rfl, by decide +kernel⟩
theorem hc9 : cSs 80 sc18 false (L2.defBody (top 18)) = some co18 := by kernel_rfl
theorem ok9 : pd9.Ok defs free exs csts code := ⟨⟨rfl, rfl, rfl, by decide +kernel, rfl, by decide +kernel, by decide +kernel⟩, rfl, ⟨80, hc9⟩, fun _ _ _ _ _ _ _ _ _ _ us hl => (match us, hl with | [_, _], _ => rfl), rfl, rfl, by decide +kernel⟩
theorem hc10 : cSs 80 sc19 false (L2.defBody (top 19)) = some co19 := by kernel_rfl
theorem ok10 : pd10.Ok defs free exs csts code := ⟨⟨rfl, rfl, rfl, by decide +kernel, rfl, by decide +kernel, by decide +kernel⟩, rfl, ⟨80, hc10⟩, fun _ _ _ _ _ _ _ _ _ _ us hl => (match us, hl with | [_, _], _ => rfl), rfl, rfl, by decide +kernel⟩
theorem hc11 : cSs 80 sc20 false (L2.defBody (top 20)) = some co20 := by kernel_rfl
theorem ok11 : pd11.Ok defs free exs csts code := ⟨⟨rfl, rfl, rfl, by decide +kernel, rfl, by decide +kernel, by decide +kernel⟩, rfl, ⟨80, hc11⟩, fun _ _ _ _ _ _ _ _ _ _ us hl => (match us, hl with | [], _ => rfl), rfl, rfl, by decide +kernel⟩
theorem hc12 : cSs 80 sc21 false (L2.defBody (top 21)) = some co21 := by kernel_rfl
theorem ok12 : pd12.Ok defs free exs csts code := ⟨⟨rfl, rfl, rfl, by decide +kernel, rfl, by decide +kernel, by decide +kernel⟩, rfl, ⟨80, hc12⟩, fun _ _ _ _ _ _ _ _ _ _ us hl => (match us, hl with | [], _ => rfl), rfl, rfl, by decide +kernel⟩
theorem hc13 : cSs 80 sc22 false (L2.defBody (top 22)) = some co22 := by kernel_rfl
theorem ok13 : pd13.Ok defs free exs csts code := ⟨⟨rfl, rfl, rfl, by decide +kernel, rfl, by decide +kernel, by decide +kernel⟩, rfl, ⟨80, hc13⟩, fun _ _ _ _ _ _ _ _ _ _ us hl => (match us, hl with | [], _ => rfl), rfl, rfl, by decide +kernel⟩
theorem hc14 : cSs 80 sc23 false (L2.defBody (top 23)) = some co23 := by kernel_rfl
theorem ok14 : pd14.Ok defs free exs csts code := ⟨⟨rfl, rfl, rfl, by decide +kernel, rfl, by decide +kernel, by decide +kernel⟩, rfl, ⟨80, hc14⟩, fun _ _ _ _ _ _ _ _ _ _ us hl => (match us, hl with | [_], _ => rfl), rfl, rfl, by decide +kernel⟩
theorem hc15 : cSs 80 sc24 false (L2.defBody (top 24)) = some co24 := by kernel_rfl
theorem ok15 : pd15.Ok defs free exs csts code := ⟨⟨rfl, rfl, rfl, by decide +kernel, rfl, by decide +kernel, by decide +kernel⟩, rfl, ⟨80, hc15⟩, fun _ _ _ _ _ _ _ _ _ _ us hl => (match us, hl with | [_, _, _], _ => rfl), rfl, rfl, by decide +kernel⟩
theorem hc16 : cSs 80 sc25 false (L2.defBody (top 25)) = some co25 := by kernel_rfl
theorem ok16 : pd16.Ok defs free exs csts code := ⟨⟨rfl, rfl, rfl, by decide +kernel, rfl, by decide +kernel, by decide +kernel⟩, rfl, ⟨80, hc16⟩, fun _ _ _ _ _ _ _ _ _ _ us hl => (match us, hl with | [_], _ => rfl), rfl, rfl, by decide +kernel⟩
theorem oks : ∀ d ∈ defs, d.Ok defs free exs csts code := by
  intro d h; simp only [defs, defs_0, defs_1, List.cons_append, List.nil_append, List.mem_cons, List.not_mem_nil, or_false] at h
  rcases h with rfl | rfl | rfl | rfl | rfl | rfl | rfl | rfl | rfl | rfl | rfl | rfl | rfl | rfl | rfl | rfl | rfl
  · exact ok0
  · exact ok1
  · exact ok2
  · exact ok3
  · exact ok4
  · exact ok5
  · exact ok6
  · exact ok7
  · exact ok8
  · exact ok9
  · exact ok10
  · exact ok11
  · exact ok12
  · exact ok13
  · exact ok14
  · exact ok15
  · exact ok16
theorem lvs : ∀ d ∈ defs, 0 < d.lv := by decide +kernel
end PF.PG

set_option Elab.async false
set_option linter.all false
set_option maxRecDepth 100000
set_option maxHeartbeats 2000000
/-! PQ1: running the evaluator by hand: equations, loops. -/
namespace PF
open PySem PySem.Spec PyProof.Rows
section
variable {tg : List Nat} {one : Bool} {b : En → Rs Fl}
/-- a loop, by an invariant of what is left and the environment; O: how it may end -/
theorem forS_gen (I : List D → En → Prop) (O : Rs Fl → Prop) (fin : ∀ ρ, I [] ρ → O (.ok .nx ρ))
    (step : ∀ x xs ρ, I (x :: xs) ρ → ∃ ρ1, bindTg tg one x ρ = some ρ1 ∧ ((∃ ρ2, (b ρ1 = .ok .nx ρ2 ∨ b ρ1 = .ok .ct ρ2) ∧ I xs (mask ρ ρ2)) ∨ (∃ d ρ2, b ρ1 = .ok (.rt d) ρ2 ∧ O (.ok (.rt d) ρ2)) ∨ ∃ y ρ2, b ρ1 = .exc y ρ2 ∧ O (.exc y ρ2))) :
    ∀ (xs : List D) (ρ : En), I xs ρ → O (forS tg one b xs ρ) := by
  intro xs
  induction xs with
  | nil => intro ρ h; exact fin ρ h
  | cons x xs ih =>
    intro ρ h
    obtain ⟨ρ1, h1, h2⟩ := step x xs ρ h
    unfold forS
    rw [h1]
    show O (match b ρ1 with
      | .ok .nx ρ2 => forS tg one b xs (mask ρ ρ2)
      | .ok .ct ρ2 => forS tg one b xs (mask ρ ρ2)
      | .ok (.rt d) ρ2 => .ok (.rt d) ρ2
      | .exc x ρ2 => .exc x ρ2
      | .bad => .bad)
    rcases h2 with ⟨ρ2, e | e, i⟩ | ⟨d, ρ2, e, o⟩ | ⟨y, ρ2, e, o⟩
    · rw [e]; exact ih _ i
    · rw [e]; exact ih _ i
    · rw [e]; exact o
    · rw [e]; exact o
theorem forS_inv (I : List D → En → Prop)
    (step : ∀ x xs ρ, I (x :: xs) ρ → ∃ ρ1, bindTg tg one x ρ = some ρ1 ∧ ∃ ρ2, (b ρ1 = .ok .nx ρ2 ∨ b ρ1 = .ok .ct ρ2) ∧ I xs (mask ρ ρ2)) {xs : List D} {ρ : En} (h : I xs ρ) : ∃ ρ', forS tg one b xs ρ = .ok .nx ρ' ∧ I [] ρ' := by
  refine forS_gen I (fun r => ∃ ρ', r = .ok .nx ρ' ∧ I [] ρ') (fun ρ h => ⟨ρ, rfl, h⟩) (fun x xs ρ h => ?_) xs ρ h
  obtain ⟨ρ1, h1, ρ2, h2, h3⟩ := step x xs ρ h
  exact ⟨ρ1, h1, .inl ⟨ρ2, h2, h3⟩⟩
end
section
variable {vs tg : List Nat} {one : Bool} {c : En → Rs Bool} {e : En → Rs D}
theorem lcS_inv (I : List D → List D → En → Prop)
    (step : ∀ x xs acc ρ, I (x :: xs) acc ρ → ∃ ρ1, bindTg tg one x (wipeC ρ vs) = some ρ1 ∧ ∃ b ρ2, c ρ1 = .ok b ρ2 ∧ (b = false → I xs acc ρ2) ∧ (b = true → ∃ d ρ3, e ρ2 = .ok d ρ3 ∧ acc.length < sizeLine ∧ I xs (acc ++ [d]) ρ3)) :
    ∀ (xs acc : List D) (ρ : En), I xs acc ρ → ∃ acc' ρ', lcS vs tg one c e xs acc ρ = .ok acc' ρ' ∧ I [] acc' ρ' := by
  intro xs
  induction xs with
  | nil => intro acc ρ h; exact ⟨acc, ρ, rfl, h⟩
  | cons x xs ih =>
    intro acc ρ h
    obtain ⟨ρ1, h1, b, ρ2, h2, h3, h4⟩ := step x xs acc ρ h
    unfold lcS
    rw [h1]
    simp only [h2, nox_ok, bind_ok]
    cases b with
    | false => exact ih acc ρ2 (h3 rfl)
    | true =>
      obtain ⟨d, ρ3, h5, h6, h7⟩ := h4 rfl
      simp only [h5, nox_ok, bind_ok, if_pos h6]
      exact ih _ ρ3 h7
theorem set_set' (ρ : En) (i : Nat) (c d : Cell) : (ρ.set i c).set i d = ρ.set i d := List.set_set ..
/-- a comprehension over one name, whose parts change nothing -/
theorem lcS_map {i : Nat} {p : D → Bool} {g : D → D} {ρ : En} : ∀ (xs acc : List D) (ρ1 : En), (∀ d, ρ1.set i d = ρ.set i d) →
    (∀ x ∈ xs, c (ρ.set i (.v x)) = .ok (p x) (ρ.set i (.v x)) ∧ (p x = true → e (ρ.set i (.v x)) = .ok (g x) (ρ.set i (.v x)))) → acc.length + xs.length ≤ sizeLine →
    ∃ ρ', lcS [i] [i] true c e xs acc ρ1 = .ok (acc ++ (xs.filter p).map g) ρ' ∧ ∀ d, ρ'.set i d = ρ.set i d := by
  intro xs
  induction xs with
  | nil => intro acc ρ1 h1 _ _; exact ⟨ρ1, by simp [lcS], h1⟩
  | cons x xs ih =>
    intro acc ρ1 h1 h hl
    obtain ⟨hc, he⟩ := h x List.mem_cons_self
    have hb : bindTg [i] true x (wipeC ρ1 [i]) = some (ρ.set i (.v x)) := by
      show some ((ρ1.set i .no).set i (.v x)) = _
      rw [set_set', h1]
    unfold lcS
    rw [hb]
    simp only [hc, nox_ok, bind_ok]
    have hs : ∀ d, (ρ.set i (.v x)).set i d = ρ.set i d := fun d => set_set' ..
    rw [List.length_cons] at hl
    cases hp : p x with
    | false =>
      obtain ⟨ρ', e1, e2⟩ := ih acc (ρ.set i (.v x)) hs (fun y hy => h y (List.mem_cons_of_mem _ hy)) (by omega)
      refine ⟨ρ', ?_, e2⟩
      rw [e1, List.filter_cons_of_neg (by rw [hp]; exact Bool.false_ne_true)]
    | true =>
      simp only [he hp, nox_ok, bind_ok]
      rw [if_pos (by omega)]
      obtain ⟨ρ', e1, e2⟩ := ih (acc ++ [g x]) (ρ.set i (.v x)) hs (fun y hy => h y (List.mem_cons_of_mem _ hy)) (by simp; omega)
      refine ⟨ρ', ?_, e2⟩
      rw [e1, List.filter_cons_of_pos hp, List.map_cons, List.append_assoc]
      rfl
theorem back_one {ρ ρ' : En} {i : Nat} (e2 : ∀ d, ρ'.set i d = ρ.set i d) (hi : i < ρ.length) (h : ∀ ys, getC ρ i ≠ .o ys) : backC ρ ρ' [i] = ρ := by
  have e : getC ρ i = ρ[i] := by
    show ρ.getD i .no = ρ[i]
    rw [List.getD_eq_getElem?_getD, List.getElem?_eq_getElem hi]; rfl
  unfold backC
  unfold backC
  rw [e2]
  refine List.ext_getElem? fun j => ?_
  rw [List.getElem?_set]
  split
  · rename_i hj; subst hj
    rw [List.getElem?_eq_getElem hi, e]
    rw [e] at h
    cases q : ρ[i] with
    | no => simp
    | v d => simp
    | o ys => exact (h ys q).elim
  · rfl
end
theorem ev_lc {M : Mo} {it : It} {c : Tx} {e : Ex} {i : Nat} {p : D → Bool} {g : D → D} {xs : List D} {ρ ρ0 : En} (hi : evI M it ρ0 = .ok xs ρ)
    (h : ∀ x ∈ xs, evT M c (ρ.set i (.v x)) = .ok (p x) (ρ.set i (.v x)) ∧ (p x = true → ev M e (ρ.set i (.v x)) = .ok (g x) (ρ.set i (.v x)))) (hl : xs.length ≤ sizeLine) (hb : i < ρ.length) (ho : ∀ ys, getC ρ i ≠ .o ys) :
    ev M (.lc e [i] true it c [i]) ρ0 = .ok (.lst ((xs.filter p).map g)) ρ := by
  obtain ⟨ρ', e1, e2⟩ := lcS_map (c := evT M c) (e := ev M e) (ρ := ρ) xs [] ρ (fun _ => rfl) h (by simpa using hl)
  show (evI M it ρ0).bind _ = _
  rw [hi, bind_ok, e1, bind_ok]
  rw [back_one e2 hb ho]
  rfl
/-- the same, the items told by an index -/
theorem ev_lcI {ι : Type} {M : Mo} {it : It} {c : Tx} {e : Ex} {i : Nat} {p : ι → Bool} {g : ι → D} {φ : ι → D} {is : List ι} {ρ ρ0 : En} (hi : evI M it ρ0 = .ok (is.map φ) ρ)
    (h : ∀ x ∈ is, evT M c (ρ.set i (.v (φ x))) = .ok (p x) (ρ.set i (.v (φ x))) ∧ (p x = true → ev M e (ρ.set i (.v (φ x))) = .ok (g x) (ρ.set i (.v (φ x))))) (hl : is.length ≤ sizeLine) (hb : i < ρ.length) (ho : ∀ ys, getC ρ i ≠ .o ys) :
    ev M (.lc e [i] true it c [i]) ρ0 = .ok (.lst ((is.filter p).map g)) ρ := by
  have core : ∀ (is : List ι) (acc : List D) (ρ1 : En), (∀ d, ρ1.set i d = ρ.set i d) →
      (∀ x ∈ is, evT M c (ρ.set i (.v (φ x))) = .ok (p x) (ρ.set i (.v (φ x))) ∧ (p x = true → ev M e (ρ.set i (.v (φ x))) = .ok (g x) (ρ.set i (.v (φ x))))) → acc.length + is.length ≤ sizeLine →
      ∃ ρ', lcS [i] [i] true (evT M c) (ev M e) (is.map φ) acc ρ1 = .ok (acc ++ (is.filter p).map g) ρ' ∧ ∀ d, ρ'.set i d = ρ.set i d := by
    intro is
    induction is with
    | nil => intro acc ρ1 h1 _ _; exact ⟨ρ1, by simp [lcS], h1⟩
    | cons x xs ih =>
      intro acc ρ1 h1 h hl
      obtain ⟨hc, he⟩ := h x List.mem_cons_self
      have hb : bindTg [i] true (φ x) (wipeC ρ1 [i]) = some (ρ.set i (.v (φ x))) := by
        show some ((ρ1.set i .no).set i (.v (φ x))) = _
        rw [set_set', h1]
      rw [List.map_cons]
      unfold lcS
      rw [hb]
      simp only [hc, nox_ok, bind_ok]
      have hs : ∀ d, (ρ.set i (.v (φ x))).set i d = ρ.set i d := fun d => set_set' ..
      rw [List.length_cons] at hl
      cases hp : p x with
      | false =>
        obtain ⟨ρ', e1, e2⟩ := ih acc (ρ.set i (.v (φ x))) hs (fun y hy => h y (List.mem_cons_of_mem _ hy)) (by omega)
        refine ⟨ρ', ?_, e2⟩
        rw [e1, List.filter_cons_of_neg (by rw [hp]; exact Bool.false_ne_true)]
      | true =>
        simp only [he hp, nox_ok, bind_ok]
        rw [if_pos (by omega)]
        obtain ⟨ρ', e1, e2⟩ := ih (acc ++ [g x]) (ρ.set i (.v (φ x))) hs (fun y hy => h y (List.mem_cons_of_mem _ hy)) (by simp; omega)
        refine ⟨ρ', ?_, e2⟩
        rw [e1, List.filter_cons_of_pos hp, List.map_cons, List.append_assoc]
        rfl
  obtain ⟨ρ', e1, e2⟩ := core is [] ρ (fun _ => rfl) h (by simpa using hl)
  show (evI M it ρ0).bind _ = _
  rw [hi, bind_ok, e1, bind_ok]
  rw [back_one e2 hb ho]
  rfl
theorem ev_lcI0 {ι : Type} {M : Mo} {it : It} {e : Ex} {i : Nat} {g : ι → D} {φ : ι → D} {is : List ι} {ρ ρ0 : En} (hi : evI M it ρ0 = .ok (is.map φ) ρ)
    (h : ∀ x ∈ is, ev M e (ρ.set i (.v (φ x))) = .ok (g x) (ρ.set i (.v (φ x)))) (hl : is.length ≤ sizeLine) (hb : i < ρ.length) (ho : ∀ ys, getC ρ i ≠ .o ys) :
    ev M (.lc e [i] true it .yes [i]) ρ0 = .ok (.lst (is.map g)) ρ := by
  have := ev_lcI (M := M) (c := .yes) (e := e) (p := fun _ => true) (g := g) hi (fun x hx => ⟨rfl, fun _ => h x hx⟩) hl hb ho
  rw [List.filter_eq_self.mpr fun _ _ => rfl] at this
  exact this
/-- the same without a test -/
theorem ev_lc0 {M : Mo} {it : It} {e : Ex} {i : Nat} {g : D → D} {xs : List D} {ρ ρ0 : En} (hi : evI M it ρ0 = .ok xs ρ)
    (h : ∀ x ∈ xs, ev M e (ρ.set i (.v x)) = .ok (g x) (ρ.set i (.v x))) (hl : xs.length ≤ sizeLine) (hb : i < ρ.length) (ho : ∀ ys, getC ρ i ≠ .o ys) :
    ev M (.lc e [i] true it .yes [i]) ρ0 = .ok (.lst (xs.map g)) ρ := by
  have := ev_lc (M := M) (c := .yes) (e := e) (p := fun _ => true) (g := g) hi (fun x hx => ⟨rfl, fun _ => h x hx⟩) hl hb ho
  rw [List.filter_eq_self.mpr fun _ _ => rfl] at this
  exact this
/-- a while loop -/
theorem whileS_some {t : En → Rs Bool} {b : En → Rs Fl} {ρ : En} {r : Rs Fl} {n : Nat} (h : whileF t b n ρ = some r) : whileS t b ρ = r := by
  have mono : ∀ (n m : Nat) (ρ : En) (r : Rs Fl), whileF t b n ρ = some r → whileF t b (n + m) ρ = some r := by
    intro n
    induction n with
    | zero => intro m ρ r h; cases h
    | succ n ih =>
      intro m ρ r h
      rw [Nat.add_right_comm]
      unfold whileF at h ⊢
      cases e : t ρ with
      | bad => rw [e] at h; exact h
      | exc x ρ1 => rw [e] at h; exact h
      | ok c ρ1 =>
        rw [e] at h
        cases c with
        | false => exact h
        | true =>
          simp only at h ⊢
          cases e2 : b ρ1 with
          | bad => rw [e2] at h; exact h
          | exc x ρ2 => rw [e2] at h; exact h
          | ok f ρ2 =>
            rw [e2] at h
            cases f with
            | rt d => exact h
            | nx => exact ih m _ _ h
            | ct => exact ih m _ _ h
  have ex : ∃ (n : Nat) (r : Rs Fl), whileF t b n ρ = some r := ⟨n, r, h⟩
  unfold whileS
  rw [dif_pos ex]
  have h2 := ex.choose_spec.choose_spec
  have a := mono _ n _ _ h2
  have b' := mono _ ex.choose _ _ h
  rw [Nat.add_comm] at b'
  rw [a] at b'
  exact Option.some.inj b'
/-! ### equations for a written environment -/
theorem get0 (c : Cell) (ρ : En) : getC (c :: ρ) 0 = c := rfl
theorem getS (c : Cell) (ρ : En) (n : Nat) : getC (c :: ρ) (n + 1) = getC ρ n := rfl
theorem set0 (c d : Cell) (ρ : En) : setC (c :: ρ) 0 d = d :: ρ := rfl
theorem setS (c d : Cell) (ρ : En) (n : Nat) : setC (c :: ρ) (n + 1) d = c :: setC ρ n d := rfl
def kVar (i : Nat) : Cell → En → Rs D
  | .no, _ => .bad
  | .v d, ρ => .ok d ρ
  | .o xs, ρ => .ok (.lst xs) (setC ρ i (.v (.lst xs)))
def kRd : Cell → En → Rs D
  | .no, _ => .bad
  | .v d, ρ => .ok d ρ
  | .o xs, ρ => .ok (.lst xs) ρ
def kVr : Cell → En → Rs D
  | .v d, ρ => .ok d ρ
  | _, _ => .bad
def kBl {α : Type} : Option Bool → Rs α → Rs α → Rs α
  | some true, a, _ => a
  | some false, _, b => b
  | none, _, _ => .bad
def kCh : Option D → Rs D → En → Rs D
  | some (.bl true), a, _ => a
  | some (.bl false), _, ρ => .ok (.bl false) ρ
  | _, _, _ => .bad
def kB : Fr → En → Rs D
  | .ok d _, ρ => if nol 9 d then .ok d ρ else .bad
  | .exc x, ρ => .exc x ρ
  | .bad, _ => .bad
def kM (i : Nat) : Fr → En → Rs D
  | .ok d m, ρ => .ok d (setC ρ i (.o m))
  | _, _ => .bad
def kO {α : Type} : Cell → (List D → Rs α) → Rs α
  | .o xs, f => f xs
  | _, _ => .bad
def kV {α : Type} : Cell → (D → Rs α) → Rs α
  | .v x, f => f x
  | _, _ => .bad
def kSq : Rs Fl → (En → Rs Fl) → Rs Fl
  | .ok .nx ρ, f => f ρ
  | r, _ => r
def kIx (i : Nat) (d : D) (xs : List D) (ρ : En) : D → Rs Fl
  | .int j => (match L2.ixN xs.length j with
    | some m => .ok .nx (setC ρ i (.o (xs.set m d)))
    | none => .bad)
  | _ => .bad
def kEx (i : Nat) (xs : List D) (ρ : En) : D → Rs Fl
  | .lst ys => if xs.length + ys.length ≤ sizeLine then .ok .nx (setC ρ i (.o (xs ++ ys))) else .bad
  | _ => .bad
def kUn (is : List Nat) (ρ : En) : D → Rs Fl
  | .tup xs => (match setAll is xs ρ with
    | some ρ' => .ok .nx ρ'
    | none => .bad)
  | _ => .bad
def kOp : Option En → Rs Fl
  | some ρ' => .ok .nx ρ'
  | none => .bad
def kAu (i : Nat) (ρ : En) : Option D → Rs Fl
  | some r => .ok .nx (setC ρ i (.v r))
  | none => .bad
def kRF (ρ : En) : D → Rs Fl
  | .lst xs => .ok (.rt (.lst xs)) ρ
  | _ => .bad
def kTr : Rs Fl → (Exn → En → Rs Fl) → Rs Fl
  | .exc x ρ, f => f x ρ
  | r, _ => r
def kNe : Rs Fl → Rs Fl
  | .exc _ _ => .bad
  | r => r
section
variable {M : Mo} {c : Cell} {ρ : En}
theorem ev_cst (d : D) (ρ : En) : ev M (.cst d) ρ = .ok d ρ := rfl
theorem ev_var (i : Nat) : ev M (.var i) (c :: ρ) = kVar i (getC (c :: ρ) i) (c :: ρ) := by
  show ((match getC (c :: ρ) i with
    | .no => .bad
    | .v d => .ok d (c :: ρ)
    | .o xs => .ok (.lst xs) (setC (c :: ρ) i (.v (.lst xs)))) : Rs D) = _
  cases getC (c :: ρ) i <;> rfl
theorem ev_rd (i : Nat) : ev M (.rd i) (c :: ρ) = kRd (getC (c :: ρ) i) (c :: ρ) := by
  show ((match getC (c :: ρ) i with
    | .no => .bad
    | .v d => .ok d (c :: ρ)
    | .o xs => .ok (.lst xs) (c :: ρ)) : Rs D) = _
  cases getC (c :: ρ) i <;> rfl
theorem ev_vr (i : Nat) : ev M (.vr i) (c :: ρ) = kVr (getC (c :: ρ) i) (c :: ρ) := by
  show ((match getC (c :: ρ) i with
    | .v d => .ok d (c :: ρ)
    | _ => .bad) : Rs D) = _
  cases getC (c :: ρ) i <;> rfl
theorem ev_prim (o : Op) (es : Exs) : ev M (.prim o es) (c :: ρ) = (evs M es (c :: ρ)).bind fun ds ρ => rOf (prim o ds) ρ := rfl
theorem ev_chain (o1 o2 : Op) (x y z : Ex) : ev M (.chain o1 o2 x y z) (c :: ρ) = (ev M x (c :: ρ)).bind fun x ρ => (ev M y ρ).bind fun y ρ => kCh (prim o1 [x, y]) ((ev M z ρ).bind fun z ρ => rOf (prim o2 [y, z]) ρ) ρ := by
  show (ev M x (c :: ρ)).bind _ = _
  cases ev M x (c :: ρ) with
  | ok x ρ1 =>
    show (ev M y ρ1).bind _ = (ev M y ρ1).bind _
    cases ev M y ρ1 with
    | ok y ρ2 =>
      rw [bind_ok, bind_ok]
      cases prim o1 [x, y] with
      | none => rfl
      | some d => cases d <;> first
          | rfl
          | (rename_i b; cases b <;> rfl)
    | exc _ _ => rfl
    | bad => rfl
  | exc _ _ => rfl
  | bad => rfl
theorem ev_tst (t : Tx) : ev M (.tst t) (c :: ρ) = (evT M t (c :: ρ)).bind fun b ρ => .ok (.bl b) ρ := rfl
theorem ev_meth (o : Op) (x y : Ex) : ev M (.meth o x y) (c :: ρ) = (ev M x (c :: ρ)).bind fun x ρ => kBl (some (mtTy o x)) ((ev M y ρ).bind fun y ρ => rOf (prim o [x, y]) ρ) .bad := by
  show (ev M x (c :: ρ)).bind _ = _
  cases ev M x (c :: ρ) with
  | ok x ρ1 =>
    rw [bind_ok, bind_ok]
    cases mtTy o x <;> rfl
  | exc _ _ => rfl
  | bad => rfl
theorem ev_orV (x y : Ex) : ev M (.orV x y) (c :: ρ) = (ev M x (c :: ρ)).bind fun x ρ => kBl (truth x) (.ok x ρ) (ev M y ρ) := by
  show (ev M x (c :: ρ)).bind _ = _
  cases ev M x (c :: ρ) with
  | ok x ρ1 =>
    rw [bind_ok, bind_ok]
    cases truth x with
    | none => rfl
    | some b => cases b <;> rfl
  | exc _ _ => rfl
  | bad => rfl
theorem ev_andV (x y : Ex) : ev M (.andV x y) (c :: ρ) = (ev M x (c :: ρ)).bind fun x ρ => kBl (truth x) (ev M y ρ) (.ok x ρ) := by
  show (ev M x (c :: ρ)).bind _ = _
  cases ev M x (c :: ρ) with
  | ok x ρ1 =>
    rw [bind_ok, bind_ok]
    cases truth x with
    | none => rfl
    | some b => cases b <;> rfl
  | exc _ _ => rfl
  | bad => rfl
theorem ev_ite (t : Tx) (x y : Ex) : ev M (.ite t x y) (c :: ρ) = (evT M t (c :: ρ)).bind fun b ρ => kBl (some b) (ev M x ρ) (ev M y ρ) := by
  show (evT M t (c :: ρ)).bind _ = _
  cases evT M t (c :: ρ) with
  | ok b ρ1 => cases b <;> rfl
  | exc _ _ => rfl
  | bad => rfl
theorem ev_call (f : Nat) (es : Exs) : ev M (.call f es) (c :: ρ) = (evs M es (c :: ρ)).bind fun ds ρ => frV (M.fn f ds) ρ := rfl
theorem ev_callB (f : Nat) (es : Exs) : ev M (.callB f es) (c :: ρ) = (evs M es (c :: ρ)).bind fun ds ρ => kB (M.fn f ds) ρ := by
  show (evs M es (c :: ρ)).bind _ = _
  cases evs M es (c :: ρ) with
  | ok ds ρ1 =>
    rw [bind_ok, bind_ok]
    cases M.fn f ds <;> rfl
  | exc _ _ => rfl
  | bad => rfl
theorem ev_callM (f i : Nat) (es : Exs) : ev M (.callM f i es) (c :: ρ) = kO (getC (c :: ρ) i) fun _ => (evs M es (c :: ρ)).bind fun ds ρ => kO (getC ρ i) fun xs => kM i (M.fn f (.lst xs :: ds)) ρ := by
  show ((match getC (c :: ρ) i with
    | .o _ => (evs M es (c :: ρ)).bind fun ds ρ => (match getC ρ i with
      | .o xs => (match M.fn f (.lst xs :: ds) with
        | .ok d m => .ok d (setC ρ i (.o m))
        | _ => .bad)
      | _ => .bad)
    | _ => .bad) : Rs D) = _
  cases getC (c :: ρ) i with
  | o _ =>
    show (evs M es (c :: ρ)).bind _ = (evs M es (c :: ρ)).bind _
    cases evs M es (c :: ρ) with
    | ok ds ρ1 =>
      rw [bind_ok, bind_ok]
      cases getC ρ1 i with
      | o xs =>
        show ((match M.fn f (.lst xs :: ds) with
          | .ok d m => .ok d (setC ρ1 i (.o m))
          | _ => .bad) : Rs D) = kM i (M.fn f (.lst xs :: ds)) ρ1
        cases M.fn f (.lst xs :: ds) <;> rfl
      | _ => rfl
    | exc _ _ => rfl
    | bad => rfl
  | _ => rfl
theorem evs_nil (ρ : En) : evs M .nil ρ = .ok [] ρ := rfl
theorem evs_cons (e : Ex) (es : Exs) : evs M (.cons e es) (c :: ρ) = (ev M e (c :: ρ)).bind fun d ρ => (evs M es ρ).bind fun ds ρ => .ok (d :: ds) ρ := rfl
theorem evT_yes (ρ : En) : evT M .yes ρ = .ok true ρ := rfl
theorem evT_val (e : Ex) : evT M (.val e) (c :: ρ) = (ev M e (c :: ρ)).bind fun d ρ => rOf (truth d) ρ := rfl
theorem evT_not (t : Tx) : evT M (.not t) (c :: ρ) = (evT M t (c :: ρ)).bind fun b ρ => .ok (!b) ρ := rfl
theorem evT_and (x y : Tx) : evT M (.and x y) (c :: ρ) = (evT M x (c :: ρ)).bind fun b ρ => kBl (some b) (evT M y ρ) (.ok false ρ) := by
  show (evT M x (c :: ρ)).bind _ = _
  cases evT M x (c :: ρ) with
  | ok b ρ1 => cases b <;> rfl
  | exc _ _ => rfl
  | bad => rfl
theorem evT_or (x y : Tx) : evT M (.or x y) (c :: ρ) = (evT M x (c :: ρ)).bind fun b ρ => kBl (some b) (.ok true ρ) (evT M y ρ) := by
  show (evT M x (c :: ρ)).bind _ = _
  cases evT M x (c :: ρ) with
  | ok b ρ1 => cases b <;> rfl
  | exc _ _ => rfl
  | bad => rfl
theorem evI_seq (e : Ex) : evI M (.seq e) (c :: ρ) = (ev M e (c :: ρ)).bind fun d ρ => rOf (itemsD d) ρ := rfl
def kR1 : D → En → Rs (List D)
  | .int n, ρ => if okRng 0 n then .ok (rngD 0 n) ρ else .bad
  | _, _ => .bad
theorem evI_rng1 (e : Ex) : evI M (.rng1 e) (c :: ρ) = (ev M e (c :: ρ)).bind fun d ρ => kR1 d ρ := by
  show (ev M e (c :: ρ)).bind _ = _
  cases ev M e (c :: ρ) with
  | ok d ρ1 => cases d <;> rfl
  | exc _ _ => rfl
  | bad => rfl
theorem exec_asg (i : Nat) (own : Bool) (e : Ex) : exec M (.asg i own e) (c :: ρ) = (ev M e (c :: ρ)).bind fun d ρ => .ok .nx (setC ρ i (ownC own d)) := rfl
theorem exec_unp (is : List Nat) (e : Ex) : exec M (.unp is e) (c :: ρ) = (ev M e (c :: ρ)).bind fun d ρ => kUn is ρ d := by
  show (ev M e (c :: ρ)).bind _ = _
  cases ev M e (c :: ρ) with
  | ok d ρ1 =>
    cases d <;> rfl
  | exc _ _ => rfl
  | bad => rfl
theorem exec_par (is : List (Nat × Bool)) (es : Exs) : exec M (.par is es) (c :: ρ) = (evs M es (c :: ρ)).bind fun ds ρ => kOp (setPar is ds ρ) := by
  show (evs M es (c :: ρ)).bind _ = _
  cases evs M es (c :: ρ) with
  | ok ds ρ1 =>
    rw [bind_ok, bind_ok]
    cases setPar is ds ρ1 <;> rfl
  | exc _ _ => rfl
  | bad => rfl
theorem exec_setIx (i : Nat) (k e : Ex) : exec M (.setIx i k e) (c :: ρ) = (ev M e (c :: ρ)).bind fun d ρ => kO (getC ρ i) fun _ => (ev M k ρ).bind fun j ρ => kO (getC ρ i) fun xs => kIx i d xs ρ j := by
  show (ev M e (c :: ρ)).bind _ = _
  cases ev M e (c :: ρ) with
  | ok d ρ1 =>
    rw [bind_ok, bind_ok]
    cases getC ρ1 i with
    | o ys =>
      show (ev M k ρ1).bind _ = (ev M k ρ1).bind _
      cases ev M k ρ1 with
      | ok j ρ2 =>
        rw [bind_ok, bind_ok]
        cases getC ρ2 i with
        | o xs =>
          cases j <;> rfl
        | _ => cases j <;> rfl
      | exc _ _ => rfl
      | bad => rfl
    | _ => rfl
  | exc _ _ => rfl
  | bad => rfl
theorem exec_app (i : Nat) (e : Ex) : exec M (.app i e) (c :: ρ) = kO (getC (c :: ρ) i) fun _ => (ev M e (c :: ρ)).bind fun d ρ => kO (getC ρ i) fun xs => if xs.length < sizeLine then .ok .nx (setC ρ i (.o (xs ++ [d]))) else .bad := by
  show ((match getC (c :: ρ) i with
    | .o _ => (ev M e (c :: ρ)).bind fun d ρ => (match getC ρ i with
      | .o xs => if xs.length < sizeLine then .ok .nx (setC ρ i (.o (xs ++ [d]))) else .bad
      | _ => .bad)
    | _ => .bad) : Rs Fl) = _
  cases getC (c :: ρ) i with
  | o _ =>
    show (ev M e (c :: ρ)).bind _ = (ev M e (c :: ρ)).bind _
    cases ev M e (c :: ρ) with
    | ok d ρ1 =>
      rw [bind_ok, bind_ok]
      cases getC ρ1 i <;> rfl
    | exc _ _ => rfl
    | bad => rfl
  | _ => rfl
theorem exec_ext (i : Nat) (e : Ex) : exec M (.ext i e) (c :: ρ) = kO (getC (c :: ρ) i) fun _ => (ev M e (c :: ρ)).bind fun d ρ => kO (getC ρ i) fun xs => kEx i xs ρ d := by
  show ((match getC (c :: ρ) i with
    | .o _ => (ev M e (c :: ρ)).bind fun d ρ => (match getC ρ i, d with
      | .o xs, .lst ys => if xs.length + ys.length ≤ sizeLine then .ok .nx (setC ρ i (.o (xs ++ ys))) else .bad
      | _, _ => .bad)
    | _ => .bad) : Rs Fl) = _
  cases getC (c :: ρ) i with
  | o _ =>
    show (ev M e (c :: ρ)).bind _ = (ev M e (c :: ρ)).bind _
    cases ev M e (c :: ρ) with
    | ok d ρ1 =>
      rw [bind_ok, bind_ok]
      cases getC ρ1 i <;> cases d <;> rfl
    | exc _ _ => rfl
    | bad => rfl
  | _ => rfl
theorem exec_aug (i : Nat) (o : Op) (e : Ex) : exec M (.aug i o e) (c :: ρ) = kV (getC (c :: ρ) i) fun x => (ev M e (c :: ρ)).bind fun d ρ => kAu i ρ (augD o x d) := by
  show ((match getC (c :: ρ) i with
    | .v x => (ev M e (c :: ρ)).bind fun d ρ => (match augD o x d with
      | some r => .ok .nx (setC ρ i (.v r))
      | none => .bad)
    | _ => .bad) : Rs Fl) = _
  cases getC (c :: ρ) i with
  | v x =>
    show (ev M e (c :: ρ)).bind _ = (ev M e (c :: ρ)).bind _
    cases ev M e (c :: ρ) with
    | ok d ρ1 =>
      rw [bind_ok, bind_ok]
      cases augD o x d <;> rfl
    | exc _ _ => rfl
    | bad => rfl
  | _ => rfl
theorem exec_expr (e : Ex) : exec M (.expr e) (c :: ρ) = (ev M e (c :: ρ)).bind fun _ ρ => .ok .nx ρ := rfl
theorem exec_ret (e : Ex) : exec M (.ret e) (c :: ρ) = (ev M e (c :: ρ)).bind fun d ρ => .ok (.rt d) ρ := rfl
theorem exec_retF (e : Ex) : exec M (.retF e) (c :: ρ) = (ev M e (c :: ρ)).bind fun d ρ => kRF ρ d := by
  show (ev M e (c :: ρ)).bind _ = _
  cases ev M e (c :: ρ) with
  | ok d ρ1 => cases d <;> rfl
  | exc _ _ => rfl
  | bad => rfl
theorem exec_retN (ρ : En) : exec M .retN ρ = .ok (.rt .non) ρ := rfl
theorem exec_ite (t : Tx) (x y : Sms) : exec M (.ite t x y) (c :: ρ) = (evT M t (c :: ρ)).bind fun b ρ => kBl (some b) (execs M x ρ) (execs M y ρ) := by
  show (evT M t (c :: ρ)).bind _ = _
  cases evT M t (c :: ρ) with
  | ok b ρ1 => cases b <;> rfl
  | exc _ _ => rfl
  | bad => rfl
theorem exec_for (tg : List Nat) (one : Bool) (it : It) (b : Sms) : exec M (.for_ tg one it b) (c :: ρ) = (evI M it (c :: ρ)).bind fun xs ρ => forS tg one (execs M b) xs ρ := rfl
theorem exec_raise (k : Nat) (e : Ex) : exec M (.raise k e) (c :: ρ) = (ev M e (c :: ρ)).bind fun d ρ => .exc ⟨k, d⟩ ρ := rfl
theorem exec_try (b : Sms) (hs : Hds) : exec M (.try_ b hs) (c :: ρ) = kTr (execs M b (c :: ρ)) fun x ρ' => handle M hs x ρ' := by
  show ((match execs M b (c :: ρ) with
    | .exc x ρ' => handle M hs x ρ'
    | r => r) : Rs Fl) = _
  cases execs M b (c :: ρ) <;> rfl
theorem exec_pass (ρ : En) : exec M .pass ρ = .ok .nx ρ := rfl
theorem exec_cont (ρ : En) : exec M .cont ρ = .ok .ct ρ := rfl
theorem execs_nil (ρ : En) : execs M .nil ρ = .ok .nx ρ := rfl
theorem execs_cons (s : Sm) (r : Sms) : execs M (.cons s r) (c :: ρ) = kSq (exec M s (c :: ρ)) fun ρ => execs M r ρ := by
  show ((match exec M s (c :: ρ) with
    | .ok .nx ρ => execs M r ρ
    | x => x) : Rs Fl) = _
  cases exec M s (c :: ρ) with
  | ok f ρ1 => cases f <;> rfl
  | exc _ _ => rfl
  | bad => rfl
theorem handle_hit (h : Nat) (b : Sms) (r : Hds) (x : Exn) (hx : hits h x.c = true) : handle M (.cons h none b r) x ρ = kNe (execs M b ρ) := by
  show ((match hits h x.c with
    | true => (match execs M b ρ with
      | .exc _ _ => .bad
      | r => r)
    | false => handle M r x ρ) : Rs Fl) = _
  rw [hx]
  show ((match execs M b ρ with
      | .exc _ _ => .bad
      | r => r) : Rs Fl) = _
  cases execs M b ρ <;> rfl
end
theorem shal_int (n : Nat) (i : Int) : shal n (.int i) = true := by cases n <;> rfl
theorem shal_bl (n : Nat) (i : Bool) : shal n (.bl i) = true := by cases n <;> rfl
theorem shal_non (n : Nat) : shal n .non = true := by cases n <;> rfl
theorem p_add (a b : Int) : prim .add [.int a, .int b] = some (.int (a + b)) := rfl
theorem p_sub (a b : Int) : prim .sub [.int a, .int b] = some (.int (a - b)) := rfl
theorem p_mul (a b : Int) : prim .mul [.int a, .int b] = if mulOk a b then some (.int (a * b)) else none := rfl
theorem p_mod (a b : Int) : prim .mod [.int a, .int b] = if 0 < b then some (.int (a % b)) else if b ≠ 0 then some (.int (a.fmod b)) else none := rfl
theorem p_div (a b : Int) : prim .fdiv [.int a, .int b] = if divOk b then some (.int (a / b)) else if divOkN b then some (.int (a.fdiv b)) else none := rfl
theorem p_neg (a : Int) : prim .neg [.int a] = some (.int (-a)) := rfl
theorem p_eq (a b : Int) : prim .eq [.int a, .int b] = some (.bl (a == b)) := rfl
theorem p_ne (a b : Int) : prim .ne [.int a, .int b] = some (.bl (!(a == b))) := rfl
theorem p_lt (a b : Int) : prim .lt [.int a, .int b] = some (.bl (decide (a < b))) := rfl
theorem p_le (a b : Int) : prim .le [.int a, .int b] = some (.bl (decide (a ≤ b))) := rfl
theorem p_gt (a b : Int) : prim .gt [.int a, .int b] = some (.bl (decide (b < a))) := rfl
theorem p_ge (a b : Int) : prim .ge [.int a, .int b] = some (.bl (decide (b ≤ a))) := rfl
theorem p_ixL (xs : List D) (i : Int) : prim .ix [.lst xs, .int i] = L2.atI xs i := rfl
theorem p_ixT (xs : List D) (i : Int) : prim .ix [.tup xs, .int i] = L2.atI xs i := rfl
theorem p_lenL (xs : List D) : prim .len [.lst xs] = some (.int xs.length) := rfl
theorem p_lenT (xs : List D) : prim .len [.tup xs] = some (.int xs.length) := rfl
theorem p_lenS (xs : List D) : prim .len [.scr xs] = some (.int xs.length) := rfl
theorem p_abs (i : Int) : prim .abs [.int i] = some (.int (if i < 0 then -i else i)) := rfl
theorem p_int (i : Int) : prim .int [.int i] = some (.int i) := rfl
theorem p_tup (xs : List D) : prim .tup xs = if xs.length ≤ sizeLine then some (.tup xs) else none := rfl
theorem p_lst (xs : List D) : prim .lst xs = if xs.length ≤ sizeLine then some (.lst xs) else none := rfl
theorem p_tupleL (xs : List D) : prim .tuple [.lst xs] = some (.tup xs) := rfl
theorem p_tupleT (xs : List D) : prim .tuple [.tup xs] = some (.tup xs) := rfl
theorem p_listL (xs : List D) : prim .list [.lst xs] = some (.lst xs) := rfl
theorem p_listT (xs : List D) : prim .list [.tup xs] = some (.lst xs) := rfl
theorem p_all (bs : List Bool) : prim .all [.lst (bs.map D.bl)] = some (.bl (bs.all id)) := by
  show (boolL (bs.map D.bl)).map (fun bs => D.bl (bs.all id)) = _
  have : boolL (bs.map D.bl) = some bs := by
    induction bs with
    | nil => rfl
    | cons b bs ih => show (boolL (bs.map D.bl)).map (b :: ·) = _; rw [ih]; rfl
  rw [this]; rfl
theorem sz_ok {n : Nat} (h : n ≤ 1000) : n ≤ sizeLine := by rw [sizeLine_eq]; omega
theorem len_ok {α : Type} {xs : List α} (h : xs.length ≤ 1000) : xs.length ≤ sizeLine := sz_ok h
section
variable {α : Type} (M : Mo) (i : Nat) (d : D) (xs ys : List D) (ρ : En) (x : Exn) (a b : Rs α) (f : En → Rs Fl) (g : List D → Rs α) (h : D → Rs α) (r : Fr) (k : Exn → En → Rs Fl)
theorem kVar_v : kVar i (.v d) ρ = .ok d ρ := rfl
theorem kVar_o : kVar i (.o xs) ρ = .ok (.lst xs) (setC ρ i (.v (.lst xs))) := rfl
theorem kRd_v : kRd (.v d) ρ = .ok d ρ := rfl
theorem kRd_o : kRd (.o xs) ρ = .ok (.lst xs) ρ := rfl
theorem kVr_v : kVr (.v d) ρ = .ok d ρ := rfl
theorem kBl_t : kBl (some true) a b = a := rfl
theorem kBl_f : kBl (some false) a b = b := rfl
theorem kCh_t (a : Rs D) : kCh (some (.bl true)) a ρ = a := rfl
theorem kCh_f (a : Rs D) : kCh (some (.bl false)) a ρ = .ok (.bl false) ρ := rfl
theorem kB_ok : kB (.ok d xs) ρ = if nol 9 d then .ok d ρ else .bad := rfl
theorem kB_exc : kB (.exc x) ρ = .exc x ρ := rfl
theorem kM_ok : kM i (.ok d xs) ρ = .ok d (setC ρ i (.o xs)) := rfl
theorem kO_o : kO (.o xs) g = g xs := rfl
theorem kV_v : kV (.v d) h = h d := rfl
theorem kSq_nx : kSq (.ok .nx ρ) f = f ρ := rfl
theorem kSq_ct : kSq (.ok .ct ρ) f = .ok .ct ρ := rfl
theorem kSq_rt : kSq (.ok (.rt d) ρ) f = .ok (.rt d) ρ := rfl
theorem kSq_exc : kSq (.exc x ρ) f = .exc x ρ := rfl
def kN (i : Nat) (d : D) (xs : List D) (ρ : En) : Option Nat → Rs Fl
  | some m => .ok .nx (setC ρ i (.o (xs.set m d)))
  | none => .bad
theorem kIx_int (j : Int) : kIx i d xs ρ (.int j) = kN i d xs ρ (L2.ixN xs.length j) := by
  show ((match L2.ixN xs.length j with
    | some m => .ok .nx (setC ρ i (.o (xs.set m d)))
    | none => .bad) : Rs Fl) = _
  cases L2.ixN xs.length j <;> rfl
theorem kN_some (m : Nat) : kN i d xs ρ (some m) = .ok .nx (setC ρ i (.o (xs.set m d))) := rfl
theorem kEx_lst : kEx i xs ρ (.lst ys) = if xs.length + ys.length ≤ sizeLine then .ok .nx (setC ρ i (.o (xs ++ ys))) else .bad := rfl
theorem kUn_tup (ys' : List Nat) : kUn ys' ρ (.tup xs) = kOp (setAll ys' xs ρ) := by
  show ((match setAll ys' xs ρ with
    | some ρ' => .ok .nx ρ'
    | none => .bad) : Rs Fl) = _
  cases setAll ys' xs ρ <;> rfl
theorem kOp_some : kOp (some ρ) = .ok .nx ρ := rfl
theorem kAu_some : kAu i ρ (some d) = .ok .nx (setC ρ i (.v d)) := rfl
theorem kRF_lst : kRF ρ (.lst xs) = .ok (.rt (.lst xs)) ρ := rfl
theorem kTr_ok (fl : Fl) : kTr (.ok fl ρ) k = .ok fl ρ := rfl
theorem kTr_exc : kTr (.exc x ρ) k = k x ρ := rfl
theorem kNe_ok (fl : Fl) : kNe (.ok fl ρ) = .ok fl ρ := rfl
theorem kR1_int (n : Int) : kR1 (.int n) ρ = if okRng 0 n then .ok (rngD 0 n) ρ else .bad := rfl
theorem frV_ok : frV (.ok d xs) ρ = .ok d ρ := rfl
theorem frV_exc : frV (.exc x) ρ = .exc x ρ := rfl
theorem tr_bl (b : Bool) : truth (.bl b) = some b := rfl
theorem tr_int (n : Int) : truth (.int n) = some (n != 0) := rfl
theorem tr_non : truth .non = some false := rfl
theorem tr_lst : truth (.lst xs) = some (!xs.isEmpty) := rfl
theorem tr_tup : truth (.tup xs) = some (!xs.isEmpty) := rfl
theorem own_f : ownC false d = .v d := by cases d <;> rfl
theorem own_t : ownC true (.lst xs) = .o xs := rfl
theorem own_int (n : Int) (b : Bool) : ownC b (.int n) = .v (.int n) := by cases b <;> rfl
theorem own_tup (b : Bool) : ownC b (.tup xs) = .v (.tup xs) := by cases b <;> rfl
theorem it_lst : itemsD (.lst xs) = some xs := rfl
theorem it_tup : itemsD (.tup xs) = some xs := rfl
theorem it_scr : itemsD (.scr xs) = some xs := rfl
theorem bt_one : bindTg [i] true d ρ = some (setC ρ i (.v d)) := rfl
theorem bt_row (is : List Nat) : bindTg is false (.tup xs) ρ = setAll is xs ρ := rfl
theorem sa_nil : setAll [] [] ρ = some ρ := rfl
theorem sa_cons (is : List Nat) : setAll (i :: is) (d :: xs) ρ = setAll is xs (setC ρ i (.v d)) := rfl
theorem sp_nil : setPar [] [] ρ = some ρ := rfl
theorem sp_cons (is : List (Nat × Bool)) (b : Bool) : setPar ((i, b) :: is) (d :: xs) ρ = setPar is xs (setC ρ i (ownC b d)) := rfl
theorem mk_no (c : Cell) (ρ' : En) : mask (.no :: ρ) (c :: ρ') = .no :: mask ρ ρ' := rfl
theorem mk_v (c : Cell) (ρ' : En) : mask (.v d :: ρ) (c :: ρ') = c :: mask ρ ρ' := rfl
theorem mk_o (c : Cell) (ρ' : En) : mask (.o xs :: ρ) (c :: ρ') = c :: mask ρ ρ' := rfl
theorem mk_nil : mask [] [] = [] := rfl
end
section
variable {α : Type} (a b c d : D) (xs : List D)
theorem at_0 (a : α) (xs : List α) : L2.atI (a :: xs) 0 = some a := by
  unfold L2.atI L2.ixN
  rw [if_pos (by decide), if_pos (by rw [List.length_cons]; omega)]; rfl
theorem at_1 (a b : α) (xs : List α) : L2.atI (a :: b :: xs) 1 = some b := by
  unfold L2.atI L2.ixN
  rw [if_pos (by decide), if_pos (by rw [List.length_cons, List.length_cons]; omega)]; rfl
theorem at_2 (a b c : α) (xs : List α) : L2.atI (a :: b :: c :: xs) 2 = some c := by
  unfold L2.atI L2.ixN
  rw [if_pos (by decide), if_pos (by rw [List.length_cons, List.length_cons, List.length_cons]; omega)]; rfl
theorem at_3 (a b c d : α) (xs : List α) : L2.atI (a :: b :: c :: d :: xs) 3 = some d := by
  unfold L2.atI L2.ixN
  rw [if_pos (by decide), if_pos (by rw [List.length_cons, List.length_cons, List.length_cons, List.length_cons]; omega)]; rfl
theorem ix_0 (a : α) (xs : List α) : L2.ixN (a :: xs).length 0 = some 0 := by
  unfold L2.ixN
  rw [if_pos (by decide), if_pos (by rw [List.length_cons]; omega)]; rfl
theorem ix_1 (a b : α) (xs : List α) : L2.ixN (a :: b :: xs).length 1 = some 1 := by
  unfold L2.ixN
  rw [if_pos (by decide), if_pos (by rw [List.length_cons, List.length_cons]; omega)]; rfl
theorem ix_2 (a b c : α) (xs : List α) : L2.ixN (a :: b :: c :: xs).length 2 = some 2 := by
  unfold L2.ixN
  rw [if_pos (by decide), if_pos (by rw [List.length_cons, List.length_cons, List.length_cons]; omega)]; rfl
theorem ix_3 (a b c d : α) (xs : List α) : L2.ixN (a :: b :: c :: d :: xs).length 3 = some 3 := by
  unfold L2.ixN
  rw [if_pos (by decide), if_pos (by rw [List.length_cons, List.length_cons, List.length_cons, List.length_cons]; omega)]; rfl
theorem t_0 : prim .tup [] = some (.tup []) := rfl
theorem t_1 : prim .tup [a] = some (.tup [a]) := (if_pos (len_ok (xs := [a]) (by simp)) : (if [a].length ≤ sizeLine then some (D.tup [a]) else none) = _)
theorem t_2 : prim .tup [a, b] = some (.tup [a, b]) := (if_pos (len_ok (xs := [a, b]) (by simp)) : (if [a, b].length ≤ sizeLine then some (D.tup [a, b]) else none) = _)
theorem t_3 : prim .tup [a, b, c] = some (.tup [a, b, c]) := (if_pos (len_ok (xs := [a, b, c]) (by simp)) : (if [a, b, c].length ≤ sizeLine then some (D.tup [a, b, c]) else none) = _)
theorem t_4 : prim .tup [a, b, c, d] = some (.tup [a, b, c, d]) := (if_pos (len_ok (xs := [a, b, c, d]) (by simp)) : (if [a, b, c, d].length ≤ sizeLine then some (D.tup [a, b, c, d]) else none) = _)
theorem l_0 : prim .lst [] = some (.lst []) := rfl
theorem l_1 : prim .lst [a] = some (.lst [a]) := (if_pos (len_ok (xs := [a]) (by simp)) : (if [a].length ≤ sizeLine then some (D.lst [a]) else none) = _)
theorem l_2 : prim .lst [a, b] = some (.lst [a, b]) := (if_pos (len_ok (xs := [a, b]) (by simp)) : (if [a, b].length ≤ sizeLine then some (D.lst [a, b]) else none) = _)
theorem l_3 : prim .lst [a, b, c] = some (.lst [a, b, c]) := (if_pos (len_ok (xs := [a, b, c]) (by simp)) : (if [a, b, c].length ≤ sizeLine then some (D.lst [a, b, c]) else none) = _)
theorem l_4 : prim .lst [a, b, c, d] = some (.lst [a, b, c, d]) := (if_pos (len_ok (xs := [a, b, c, d]) (by simp)) : (if [a, b, c, d].length ≤ sizeLine then some (D.lst [a, b, c, d]) else none) = _)
theorem p_muls {a b : Int} (h : mulOk a b = true) : prim .mul [.int a, .int b] = some (.int (a * b)) := if_pos h
end
theorem p_addT {a b : List D} (h : a.length + b.length ≤ sizeLine) : prim .add [.tup a, .tup b] = some (.tup (a ++ b)) := by
  show (if a.length + b.length ≤ sizeLine then some (D.tup (a ++ b)) else none) = _
  rw [if_pos h]
theorem p_addL {a b : List D} (h : a.length + b.length ≤ sizeLine) : prim .add [.lst a, .lst b] = some (.lst (a ++ b)) := by
  show (if a.length + b.length ≤ sizeLine then some (D.lst (a ++ b)) else none) = _
  rw [if_pos h]
/-- a def's end -/
theorem run_io {M : Mo} {m : Nat} {b : Sms} {xs ys ds : List D} {d : D} {ρ : En} (h : execs M b (.o xs :: (argCells ds ++ List.replicate (m - (ds.length + 1)) .no)) = .ok (.rt d) (.o ys :: ρ)) : runFn M m true false b (.lst xs :: ds) = .ok d ys := by
  unfold runFn
  simp only [List.length_cons]
  rw [h]
  rfl
theorem run_rt {M : Mo} {m : Nat} {fr : Bool} {b : Sms} {ds : List D} {d : D} {ρ : En} (h : execs M b (argCells ds ++ List.replicate (m - ds.length) .no) = .ok (.rt d) ρ) : runFn M m false fr b ds = .ok d [] := by
  unfold runFn
  simp only []
  rw [h]
theorem run_nx {M : Mo} {m : Nat} {b : Sms} {ds : List D} {ρ : En} (h : execs M b (argCells ds ++ List.replicate (m - ds.length) .no) = .ok .nx ρ) : runFn M m false false b ds = .ok .non [] := by
  unfold runFn
  simp only []
  rw [h]
  rfl
theorem run_exc {M : Mo} {m : Nat} {fr : Bool} {b : Sms} {ds : List D} {x : Exn} {ρ : En} (h : execs M b (argCells ds ++ List.replicate (m - ds.length) .no) = .exc x ρ) : runFn M m false fr b ds = .exc x := by
  unfold runFn
  simp only []
  rw [h]
/-- the evaluator's steps at a written environment -/
local macro_rules | `(tactic| walk_at "pe") => `(tactic| simp only [ev_cst, ev_var, ev_rd, ev_vr, ev_prim, ev_chain, ev_tst, ev_meth, ev_orV, ev_andV, ev_ite, ev_call, ev_callB, ev_callM, evs_nil, evs_cons, evT_yes, evT_val, evT_not, evT_and, evT_or, evI_seq, evI_rng1,
  exec_asg, exec_unp, exec_par, exec_setIx, exec_app, exec_ext, exec_aug, exec_expr, exec_ret, exec_retF, exec_retN, exec_ite, exec_for, exec_raise, exec_try, exec_pass, exec_cont, execs_nil, execs_cons,
  get0, getS, set0, setS, kVar_v, kVar_o, kRd_v, kRd_o, kVr_v, kBl_t, kBl_f, kCh_t, kCh_f, kB_ok, kB_exc, kM_ok, kO_o, kV_v, kSq_nx, kSq_ct, kSq_rt, kSq_exc, kIx_int, kN_some, kEx_lst, kUn_tup, kOp_some, kAu_some, kRF_lst, kTr_ok, kTr_exc, kNe_ok, kR1_int, frV_ok, frV_exc, tr_bl, tr_int, tr_non, tr_lst, tr_tup, own_f, own_t, own_int, own_tup, it_lst, it_tup, it_scr, bt_one, bt_row, sa_nil, sa_cons, sp_nil, sp_cons, mk_no, mk_v, mk_o, mk_nil, bind_ok, bind_exc, bind_bad, rOf_some, rOf_none,
  p_add, p_sub, p_mod, p_neg, p_eq, p_ne, p_lt, p_le, p_gt, p_ge, p_ixL, p_ixT, p_lenL, p_lenT, p_lenS, p_abs, p_int, t_0, t_1, t_2, t_3, t_4, l_0, l_1, l_2, l_3, l_4, at_0, at_1, at_2, at_3, ix_0, ix_1, ix_2, ix_3, List.set_cons_zero, List.set_cons_succ, p_tupleL, p_tupleT, p_listL, p_listT, if_true, if_false, reduceIte, Int.reduceLT, Bool.not_true, Bool.not_false, argCells, List.cons_append, List.nil_append])
end PF

set_option Elab.async false
set_option linter.all false
set_option maxRecDepth 100000
set_option maxHeartbeats 4000000
/-! PQ2: the laws' drawing. -/
namespace PF
open PySem PySem.Spec PyProof.Rows
local macro_rules | `(tactic| walk_at "pe") => `(tactic| simp only [ev_cst, ev_var, ev_rd, ev_vr, ev_prim, ev_chain, ev_tst, ev_meth, ev_orV, ev_andV, ev_ite, ev_call, ev_callB, ev_callM, evs_nil, evs_cons, evT_yes, evT_val, evT_not, evT_and, evT_or, evI_seq, evI_rng1,
  exec_asg, exec_unp, exec_par, exec_setIx, exec_app, exec_ext, exec_aug, exec_expr, exec_ret, exec_retF, exec_retN, exec_ite, exec_for, exec_raise, exec_try, exec_pass, exec_cont, execs_nil, execs_cons,
  get0, getS, set0, setS, kVar_v, kVar_o, kRd_v, kRd_o, kVr_v, kBl_t, kBl_f, kCh_t, kCh_f, kB_ok, kB_exc, kM_ok, kO_o, kV_v, kSq_nx, kSq_ct, kSq_rt, kSq_exc, kIx_int, kN_some, kEx_lst, kUn_tup, kOp_some, kAu_some, kRF_lst, kTr_ok, kTr_exc, kNe_ok, kR1_int, frV_ok, frV_exc, tr_bl, tr_int, tr_non, tr_lst, tr_tup, own_f, own_t, own_int, own_tup, it_lst, it_tup, it_scr, bt_one, bt_row, sa_nil, sa_cons, sp_nil, sp_cons, mk_no, mk_v, mk_o, mk_nil, bind_ok, bind_exc, bind_bad, rOf_some, rOf_none,
  p_add, p_sub, p_mod, p_neg, p_eq, p_ne, p_lt, p_le, p_gt, p_ge, p_ixL, p_ixT, p_lenL, p_lenT, p_lenS, p_abs, p_int, t_0, t_1, t_2, t_3, t_4, l_0, l_1, l_2, l_3, l_4, at_0, at_1, at_2, at_3, ix_0, ix_1, ix_2, ix_3, List.set_cons_zero, List.set_cons_succ, p_tupleL, p_tupleT, p_listL, p_listT, if_true, if_false, reduceIte, Int.reduceLT, Bool.not_true, Bool.not_false, argCells, List.cons_append, List.nil_append])
def coDraw : Sms := (.cons (.asg 1 false (.cst (.int 7))) (.cons (.for_ [2] true (.seq (.vr 0)) (.cons (.asg 1 false (.prim .mod (.cons (.prim .int (.cons (.prim .add (.cons (.prim .add (.cons (.prim .mul (.cons (.vr 1) (.cons (.cst (.int 48271)) .nil))) (.cons (.prim .mod (.cons (.prim .abs (.cons (.prim .int (.cons (.vr 2) .nil)) .nil)) (.cons (.cst (.int 65521)) .nil))) .nil))) (.cons (.cst (.int 1)) .nil))) .nil)) (.cons (.cst (.int 2147483647)) .nil)))) .nil)) (.cons (.retF (.prim .lst (.cons (.lc (.prim .abs (.cons (.prim .int (.cons (.vr 2) .nil)) .nil)) [2] true (.seq (.vr 0)) .yes [2]) (.cons (.prim .neg (.cons (.cst (.int 1)) .nil)) (.cons (.cst (.int 0)) (.cons (.vr 1) .nil)))))) .nil)))
def coTake : Sms := (.cons (.ite (.val (.prim .eq (.cons (.prim .ix (.cons (.rd 0) (.cons (.cst (.int 2)) .nil))) (.cons (.cst (.int 0)) .nil)))) (.cons (.setIx 0 (.cst (.int 1)) (.prim .add (.cons (.prim .ix (.cons (.rd 0) (.cons (.cst (.int 1)) .nil))) (.cons (.cst (.int 1)) .nil)))) (.cons (.ite (.val (.prim .lt (.cons (.prim .ix (.cons (.rd 0) (.cons (.cst (.int 1)) .nil))) (.cons (.prim .len (.cons (.prim .ix (.cons (.rd 0) (.cons (.cst (.int 0)) .nil))) .nil)) .nil)))) (.cons (.setIx 0 (.cst (.int 2)) (.prim .ix (.cons (.prim .ix (.cons (.rd 0) (.cons (.cst (.int 0)) .nil))) (.cons (.prim .ix (.cons (.rd 0) (.cons (.cst (.int 1)) .nil))) .nil)))) .nil) .nil) (.cons (.ite (.val (.prim .eq (.cons (.prim .ix (.cons (.rd 0) (.cons (.cst (.int 2)) .nil))) (.cons (.cst (.int 0)) .nil)))) (.cons (.setIx 0 (.cst (.int 3)) (.prim .mod (.cons (.prim .int (.cons (.prim .add (.cons (.prim .mul (.cons (.prim .ix (.cons (.rd 0) (.cons (.cst (.int 3)) .nil))) (.cons (.cst (.int 48271)) .nil))) (.cons (.cst (.int 11)) .nil))) .nil)) (.cons (.cst (.int 2147483647)) .nil)))) (.cons (.setIx 0 (.cst (.int 2)) (.prim .ix (.cons (.rd 0) (.cons (.cst (.int 3)) .nil)))) .nil)) .nil) .nil))) .nil) (.cons (.asg 2 false (.prim .mod (.cons (.prim .int (.cons (.prim .ix (.cons (.rd 0) (.cons (.cst (.int 2)) .nil))) .nil)) (.cons (.vr 1) .nil)))) (.cons (.setIx 0 (.cst (.int 2)) (.prim .fdiv (.cons (.prim .ix (.cons (.rd 0) (.cons (.cst (.int 2)) .nil))) (.cons (.vr 1) .nil)))) (.cons (.ret (.vr 2)) .nil))))

/-- a drawing -/
def Dr (xs : List D) : Prop := ∃ (cs : List Int) (a b s : Int), xs = [.lst (cs.map .int), .int a, .int b, .int s] ∧ (∀ c ∈ cs, 0 ≤ c) ∧ -1 ≤ a ∧ 0 ≤ b ∧ 0 ≤ s ∧ s < 2147483647 ∧ cs.length ≤ sizeLine
theorem at_map {cs : List Int} {i : Int} (h0 : 0 ≤ i) (h1 : i < cs.length) : ∃ x ∈ cs, L2.atI (cs.map D.int) i = some (.int x) := by
  refine ⟨cs[i.toNat]'(by omega), List.getElem_mem _, ?_⟩
  unfold L2.atI L2.ixN
  rw [if_pos h0, List.length_map, if_pos h1]
  show (cs.map D.int)[i.toNat]? = _
  rw [List.getElem?_map, List.getElem?_eq_getElem (by omega)]
  rfl
theorem log_lt {n k : Nat} (h : n < 2 ^ k) : n = 0 ∨ n.log2 < k := by
  rcases Nat.eq_zero_or_pos n with z | z
  · exact .inl z
  · exact .inr ((Nat.log2_lt (by omega)).mpr h)
theorem mul_seed {s : Int} (h0 : 0 ≤ s) (h1 : s < 2147483647) : mulOk s 48271 = true := by
  have : s.natAbs.log2 < 32 := by
    rcases log_lt (n := s.natAbs) (k := 31) (by omega) with z | z
    · rw [z]; decide
    · omega
  have e : (48271 : Int).natAbs.log2 = 15 := by decide +kernel
  unfold mulOk
  rw [e]
  exact decide_eq_true (by omega)
theorem take_ex (M : Mo) {cs : List Int} {a b s many : Int} (hm : 0 < many) (hm2 : divOk many = true) (hc : ∀ c ∈ cs, 0 ≤ c) (ha : -1 ≤ a) (hb : 0 ≤ b) (hs : 0 ≤ s) (hs2 : s < 2147483647) :
    ∃ a' b' s' c1 c2, execs M coTake [.o [.lst (cs.map .int), .int a, .int b, .int s], .v (.int many), .no] = .ok (.rt (.int (b' % many))) [.o [.lst (cs.map .int), .int a', .int (b' / many), .int s'], c1, c2] ∧ -1 ≤ a' ∧ 0 ≤ b' ∧ 0 ≤ s' ∧ s' < 2147483647 := by
  unfold coTake
  have z0 : 0 ≤ (s * 48271 + 11) % 2147483647 := Int.emod_nonneg _ (by decide)
  have z1 : (s * 48271 + 11) % 2147483647 < 2147483647 := Int.emod_lt_of_pos _ (by decide)
  have mu := mul_seed hs hs2
  have pd : ∀ x, prim .fdiv [.int x, .int many] = some (.int (x / many)) := fun x => if_pos hm2
  by_cases e : b = 0
  · subst e
    have e0 : ((0 : Int) == 0) = true := rfl
    by_cases hl : a + 1 < (cs.map D.int).length
    · obtain ⟨x, hx, hat⟩ := at_map (i := a + 1) (cs := cs) (by omega) (by simpa using hl)
      by_cases ex : x = 0
      · subst ex
        iterate 4 (try walk_at "pe"); (try simp only [e0, hl, hm, pd, hat, p_muls mu, decide_true, if_true, if_pos])
        exact ⟨_, _, _, _, _, rfl, by omega, z0, z0, z1⟩
      · have ex' : (x == 0) = false := by simpa using ex
        iterate 4 (try walk_at "pe"); (try simp only [e0, ex', hl, hm, pd, hat, decide_true, if_true, if_pos])
        exact ⟨_, _, _, _, _, rfl, by omega, hc x hx, hs, hs2⟩
    · iterate 4 (try walk_at "pe"); (try simp only [e0, hl, hm, pd, p_muls mu, decide_false, if_true, if_pos])
      exact ⟨_, _, _, _, _, rfl, by omega, z0, z0, z1⟩
  · have e' : (b == 0) = false := by simpa using e
    iterate 3 (try walk_at "pe"); (try simp only [e', hm, pd, if_true, if_pos])
    exact ⟨_, _, _, _, _, rfl, ha, hb, hs, hs2⟩
theorem take_spec (M : Mo) {xs : List D} {many : Int} (h : Dr xs) (hm : 0 < many) (hm2 : divOk many = true) : ∃ r xs', runFn M 3 true false coTake [.lst xs, .int many] = .ok (.int r) xs' ∧ 0 ≤ r ∧ r < many ∧ Dr xs' := by
  obtain ⟨cs, a, b, s, rfl, hc, ha, hb, hs, hs2, hl⟩ := h
  obtain ⟨a', b', s', c1, c2, e, h1, h2, h3, h4⟩ := take_ex M hm hm2 hc ha hb hs hs2
  exact ⟨_, _, run_io e, Int.emod_nonneg _ (by omega), Int.emod_lt_of_pos _ hm, cs, a', b' / many, s', rfl, hc, h1, Int.ediv_nonneg h2 (by omega), h3, h4, hl⟩
theorem draw_spec (M : Mo) (ns : List Int) (hn : ns.length ≤ 63) : ∃ xs, runFn M 3 false true coDraw [.scr (ns.map D.int)] = .ok (.lst xs) [] ∧ Dr xs := by
  have body : ∀ (b : Sms), b = (.cons (.asg 1 false (.prim .mod (.cons (.prim .int (.cons (.prim .add (.cons (.prim .add (.cons (.prim .mul (.cons (.vr 1) (.cons (.cst (.int 48271)) .nil))) (.cons (.prim .mod (.cons (.prim .abs (.cons (.prim .int (.cons (.vr 2) .nil)) .nil)) (.cons (.cst (.int 65521)) .nil))) .nil))) (.cons (.cst (.int 1)) .nil))) .nil)) (.cons (.cst (.int 2147483647)) .nil)))) .nil) →
      ∀ (L : D) (ms : List Int) (ρ : En), (∃ s : Int, 0 ≤ s ∧ s < 2147483647 ∧ ρ = [.v L, .v (.int s), .no]) → ∃ ρ', forS [2] true (execs M b) (ms.map D.int) ρ = .ok .nx ρ' ∧ ∃ s : Int, 0 ≤ s ∧ s < 2147483647 ∧ ρ' = [.v L, .v (.int s), .no] := by
    intro b hb L ms ρ h
    refine (fun (z : ∃ ρ', forS [2] true (execs M b) (ms.map D.int) ρ = .ok .nx ρ' ∧ ((∀ x ∈ ([] : List D), ∃ i, x = D.int i) ∧ ∃ s : Int, 0 ≤ s ∧ s < 2147483647 ∧ ρ' = [.v L, .v (.int s), .no])) => ?_)
      (forS_inv (fun xs ρ => (∀ x ∈ xs, ∃ i, x = D.int i) ∧ ∃ s : Int, 0 ≤ s ∧ s < 2147483647 ∧ ρ = [.v L, .v (.int s), .no]) (fun x xs ρ h => ?_) ⟨fun x hx => ?_, h⟩)
    · obtain ⟨ρ', e, _, h'⟩ := z
      exact ⟨ρ', e, h'⟩
    · obtain ⟨h1, s, hs, hs2, rfl⟩ := h
      obtain ⟨i, rfl⟩ := h1 x List.mem_cons_self
      have mu := mul_seed hs hs2
      refine ⟨_, rfl, [.v L, .v (.int ((s * 48271 + (if i < 0 then -i else i) % 65521 + 1) % 2147483647)), .v (.int i)], .inl ?_, fun y hy => h1 y (List.mem_cons_of_mem _ hy), (s * 48271 + (if i < 0 then -i else i) % 65521 + 1) % 2147483647, Int.emod_nonneg _ (by decide), Int.emod_lt_of_pos _ (by decide), rfl⟩
      subst hb
      show execs M _ [.v L, .v (.int s), .v (.int i)] = _
      iterate 2 (try walk_at "pe"); (try simp only [p_muls mu])
    · obtain ⟨i, _, e⟩ := List.mem_map.mp hx; exact ⟨i, e.symm⟩
  have hlen : (ns.map D.int).length ≤ sizeLine := len_ok (by rw [List.length_map]; omega)
  obtain ⟨ρ', e1, s, hs, hs2, rfl⟩ := body _ rfl (.scr (ns.map D.int)) ns [.v (.scr (ns.map D.int)), .v (.int 7), .no] ⟨7, by decide, by decide, rfl⟩
  have lc : ev M (.lc (.prim .abs (.cons (.prim .int (.cons (.vr 2) .nil)) .nil)) [2] true (.seq (.vr 0)) .yes [2]) [.v (.scr (ns.map D.int)), .v (.int s), .no] = .ok (.lst ((ns.map fun i => if i < 0 then -i else i).map D.int)) [.v (.scr (ns.map D.int)), .v (.int s), .no] := by
    rw [ev_lc0 (g := fun x => match x with | .int i => .int (if i < 0 then -i else i) | d => d) (xs := ns.map D.int) (ρ := [.v (.scr (ns.map D.int)), .v (.int s), .no]) (by walk_at "pe") (fun x hx => ?_) hlen (by simp) (fun ys e => by cases (show Cell.no = Cell.o ys from e))]
    · rw [List.map_map, List.map_map]; rfl
    · obtain ⟨i, _, rfl⟩ := List.mem_map.mp hx
      walk_at "pe"
  refine ⟨[.lst ((ns.map fun i => if i < 0 then -i else i).map D.int), .int (-1), .int 0, .int s], ?_, _, -1, 0, s, rfl, fun c hc => ?_, by decide, by decide, hs, hs2, by rw [List.length_map]; exact len_ok (by omega)⟩
  · refine run_rt (ρ := [.v (.scr (ns.map D.int)), .v (.int s), .no]) ?_
    show execs M coDraw [.v (.scr (ns.map D.int)), .no, .no] = _
    unfold coDraw
    iterate 3 (try walk_at "pe"); (try simp only [e1, lc])
  · obtain ⟨i, _, rfl⟩ := List.mem_map.mp hc
    split <;> omega
end PF

set_option Elab.async false
set_option linter.all false
set_option maxRecDepth 100000
set_option maxHeartbeats 4000000
/-! PK05a: words and rules of the law of arrows. -/
namespace PF.PG
open PySem PySem.Spec PyProof.Rows PF
def wl : List Str := ["ident", "const", "mono", "anti", "infl", "defl", "idem", "inj", "invol", "conv", "fix", "onefix", "join", "meet", "embed", "chain", "flat", "lat", "least", "great"]
def RA : List (List (Fin 20) × Fin 20) := [([0], 4), ([0], 5), ([0], 6), ([0], 8), ([0], 14), ([1], 3), ([1], 6), ([1], 11), ([1], 12), ([1], 13), ([4], 9), ([5], 9), ([6], 9), ([8], 7), ([9], 10), ([11], 10), ([12], 2), ([13], 2), ([14], 7), ([14], 12), ([14], 13), ([15], 17), ([16], 3), ([16], 12), ([16], 13), ([17], 18), ([17], 19)]
def RJ : List (List (Fin 20) × Fin 20) := [([1, 0], 15), ([1, 0], 16), ([3, 0], 16), ([0, 11], 1), ([1, 4], 19), ([1, 5], 18), ([1, 7], 0), ([3, 2], 12), ([3, 2], 13), ([7, 2], 14), ([15, 2], 9), ([15, 2], 12), ([15, 2], 13), ([18, 2], 10), ([19, 2], 10), ([3, 4], 2), ([3, 4], 6), ([3, 5], 2), ([3, 5], 6), ([3, 6], 2), ([3, 14], 16), ([5, 4], 0), ([4, 11], 19), ([5, 11], 18), ([16, 4], 0), ([5, 16], 0), ([9, 7], 0), ([6, 11], 1), ([16, 18], 1), ([16, 18], 0), ([16, 19], 1), ([16, 19], 0)]
def RR2 : List (List (Fin 20) × Fin 20) := RA ++ RJ
def wS (i : Fin 20) : Str := wl.getD i.val ""
def wD (i : Fin 20) : D := .str (wS i)
def rD (r : List (Fin 20) × Fin 20) : D := .tup (r.1.map wD ++ [wD r.2])
def all20 : List (Fin 20) := List.finRange 20
theorem words_eq : k_WORDS = .tup (all20.map wD) := by kernel_rfl
theorem arrows_eq : k_ARROWS = .tup (RA.map rD) := by kernel_rfl
theorem joint_eq : k_JOINT_ARROWS = .tup (RJ.map rD) := by kernel_rfl
theorem wS_eq : ∀ i j : Fin 20, (wS i == wS j) = (i == j) := by decide +kernel
theorem wS_ok : ∀ i : Fin 20, ((wS i).cps.all fun c => decide (c < 0x110000)) = true := by decide +kernel
theorem wD_eq (i j : Fin 20) : deq (wD i) (wD j) = (i == j) := wS_eq i j
theorem wD_sh (n : Nat) (i : Fin 20) : shal n (wD i) = true := by cases n <;> exact wS_ok i
theorem all_sh (n : Nat) (f : List (Fin 20)) : (f.map wD).all (shal n) = true := by
  rw [List.all_eq_true]
  intro x hx
  obtain ⟨i, _, rfl⟩ := List.mem_map.mp hx
  exact wD_sh n i
theorem any_w (f : List (Fin 20)) (i : Fin 20) : ((f.map wD).any fun y => deq y (wD i)) = f.contains i := by
  rw [List.any_map]
  induction f with
  | nil => rfl
  | cons j f ih =>
    rw [List.any_cons, ih, List.contains_cons]
    show (deq (wD j) (wD i) || _) = _
    rw [wD_eq, Bool.beq_comm]
theorem in_l (f : List (Fin 20)) (i : Fin 20) : prim .inn [wD i, .lst (f.map wD)] = some (.bl (f.contains i)) := by
  show (if shal 60 (wD i) && (f.map wD).all (shal 58) then some (D.bl (if false then _ else (f.map wD).any fun y => deq y (wD i))) else none) = _
  rw [wD_sh, all_sh, any_w]; rfl
theorem in_t (f : List (Fin 20)) (i : Fin 20) : prim .inn [wD i, .tup (f.map wD)] = some (.bl (f.contains i)) := by
  show (if shal 60 (wD i) && (f.map wD).all (shal 58) then some (D.bl (if false then _ else (f.map wD).any fun y => deq y (wD i))) else none) = _
  rw [wD_sh, all_sh, any_w]; rfl
theorem ni_l (f : List (Fin 20)) (i : Fin 20) : prim .nin [wD i, .lst (f.map wD)] = some (.bl (!f.contains i)) := by
  show (if shal 60 (wD i) && (f.map wD).all (shal 58) then some (D.bl (if true then !((f.map wD).any fun y => deq y (wD i)) else _)) else none) = _
  rw [wD_sh, all_sh, any_w]; rfl
theorem ni_t (f : List (Fin 20)) (i : Fin 20) : prim .nin [wD i, .tup (f.map wD)] = some (.bl (!f.contains i)) := by
  show (if shal 60 (wD i) && (f.map wD).all (shal 58) then some (D.bl (if true then !((f.map wD).any fun y => deq y (wD i)) else _)) else none) = _
  rw [wD_sh, all_sh, any_w]; rfl
theorem eq_w (i j : Fin 20) : prim .eq [wD i, wD j] = some (.bl (i == j)) := by
  show (if shal 60 (wD i) && shal 60 (wD j) then some (D.bl (if false then _ else deq (wD i) (wD j))) else none) = _
  rw [wD_sh, wD_sh, wD_eq]; rfl
theorem last_r (r : List (Fin 20) × Fin 20) : prim .ix [rD r, .int (-1)] = some (wD r.2) := by
  show L2.atI (r.1.map wD ++ [wD r.2]) (-1) = _
  unfold L2.atI L2.ixN
  rw [if_neg (by decide), if_pos (by rw [List.length_append, List.length_singleton]; omega)]
  have : (-1 + (((r.1.map wD ++ [wD r.2]).length : Nat) : Int)).toNat = (r.1.map wD).length := by
    rw [List.length_append, List.length_singleton]; omega
  show (r.1.map wD ++ [wD r.2])[(-1 + (((r.1.map wD ++ [wD r.2]).length : Nat) : Int)).toNat]? = _
  rw [this, List.getElem?_append_right (Nat.le_refl _), Nat.sub_self]
  rfl
theorem init_r (r : List (Fin 20) × Fin 20) : prim (.slice false true) [rD r, .int (-1)] = some (.tup (r.1.map wD)) := by
  have l : (r.1.map wD ++ [wD r.2]).length = (r.1.map wD).length + 1 := by rw [List.length_append, List.length_singleton]
  have e : PF.cutD (r.1.map wD ++ [wD r.2]) none (some (-1)) = r.1.map wD := by
    have e1 : HT.sIx (r.1.map wD ++ [wD r.2]).length 0 none = 0 := rfl
    have e2 : HT.sIx (r.1.map wD ++ [wD r.2]).length (r.1.map wD ++ [wD r.2]).length (some (-1)) = (r.1.map wD).length := by
      show (if (-1 : Int) < 0 then ((-1 : Int) + ((r.1.map wD ++ [wD r.2]).length : Nat)).toNat else min (-1 : Int).toNat (r.1.map wD ++ [wD r.2]).length) = _
      rw [if_pos (by decide), l]; omega
    unfold PF.cutD
    rw [e1, e2, List.drop_zero, Nat.sub_zero, List.take_left]
  show some (D.tup (PF.cutD (r.1.map wD ++ [wD r.2]) none (some (-1)))) = _
  rw [e]
end PF.PG

set_option Elab.async false
set_option linter.all false
set_option maxRecDepth 100000
set_option maxHeartbeats 4000000
/-! PK05b: what the program's defs do. -/
namespace PF.PG
open PySem PySem.Spec PyProof.Rows PF
local macro_rules | `(tactic| walk_at "pe") => `(tactic| simp only [ev_cst, ev_var, ev_rd, ev_vr, ev_prim, ev_chain, ev_tst, ev_meth, ev_orV, ev_andV, ev_ite, ev_call, ev_callB, ev_callM, evs_nil, evs_cons, evT_yes, evT_val, evT_not, evT_and, evT_or, evI_seq, evI_rng1,
  exec_asg, exec_unp, exec_par, exec_setIx, exec_app, exec_ext, exec_aug, exec_expr, exec_ret, exec_retF, exec_retN, exec_ite, exec_for, exec_raise, exec_try, exec_pass, exec_cont, execs_nil, execs_cons,
  get0, getS, set0, setS, kVar_v, kVar_o, kRd_v, kRd_o, kVr_v, kBl_t, kBl_f, kCh_t, kCh_f, kB_ok, kB_exc, kM_ok, kO_o, kV_v, kSq_nx, kSq_ct, kSq_rt, kSq_exc, kIx_int, kN_some, kEx_lst, kUn_tup, kOp_some, kAu_some, kRF_lst, kTr_ok, kTr_exc, kNe_ok, kR1_int, frV_ok, frV_exc, tr_bl, tr_int, tr_non, tr_lst, tr_tup, own_f, own_t, own_int, own_tup, it_lst, it_tup, it_scr, bt_one, bt_row, sa_nil, sa_cons, sp_nil, sp_cons, mk_no, mk_v, mk_o, mk_nil, bind_ok, bind_exc, bind_bad, rOf_some, rOf_none,
  p_add, p_sub, p_mod, p_neg, p_eq, p_ne, p_lt, p_le, p_gt, p_ge, p_ixL, p_ixT, p_lenL, p_lenT, p_lenS, p_abs, p_int, t_0, t_1, t_2, t_3, t_4, l_0, l_1, l_2, l_3, l_4, at_0, at_1, at_2, at_3, ix_0, ix_1, ix_2, ix_3, List.set_cons_zero, List.set_cons_succ, p_tupleL, p_tupleT, p_listL, p_listT, if_true, if_false, reduceIte, Int.reduceLT, Bool.not_true, Bool.not_false, argCells, List.cons_append, List.nil_append])
/-! ### the pure side -/
abbrev Rule : Type := List (Fin 20) × Fin 20
def prem (f : List (Fin 20)) (r : Rule) : Bool := r.1.all fun i => f.contains i
def way (f : List (Fin 20)) (w : Fin 20) : Option Rule := RR2.find? fun r => (r.2 == w) && prem f r
def wayD (f : List (Fin 20)) (w : Fin 20) : D := match way f w with
  | some r => rD r
  | none => .non
theorem str_w (i : Fin 20) : prim (.isinst .str) [wD i] = some (.bl true) := rfl
/-- check_word -/
theorem word_ok (n : Nat) (i : Fin 20) : (Sn (n + 1)).fn 5 [wD i] = .ok .non [] := by
  have e : execs (Sn n) co5 [.v (wD i)] = .ok .nx [.v (wD i)] := by
    unfold co5
    have hm : all20.contains i = true := by revert i; decide
    have ni := ni_t all20 i
    rw [hm] at ni
    iterate 5 (try walk_at "pe"); (try simp only [words_eq, str_w, ni, Bool.not_true])
  rw [fn5]
  exact run_nx e
theorem tup_is (xs : List D) : prim (.isinst .tuple) [.tup xs] = some (.bl true) := rfl
/-- check_words -/
theorem words_ok (n : Nat) (ws : List (Fin 20)) (h1 : 1 ≤ ws.length) (h2 : ws.length ≤ 2) : (Sn (n + 2)).fn 11 [.tup (ws.map wD)] = .ok .non [] := by
  have loop : ∃ ρ', forS [1] true (execs (Sn (n + 1)) (.cons (.expr (.call 5 (.cons (.vr 1) .nil))) .nil)) (ws.map wD) [.v (.tup (ws.map wD)), .no] = .ok .nx ρ' ∧ (∃ is : List (Fin 20), [] = is.map wD) ∧ ρ' = [.v (.tup (ws.map wD)), .no] := by
    refine forS_inv (fun xs ρ => (∃ is : List (Fin 20), xs = is.map wD) ∧ ρ = [.v (.tup (ws.map wD)), .no]) (fun x xs ρ h => ?_) ⟨⟨ws, rfl⟩, rfl⟩
    obtain ⟨⟨is, h⟩, rfl⟩ := h
    cases is with
    | nil => cases h
    | cons i is =>
      cases h
      refine ⟨_, rfl, [.v (.tup (ws.map wD)), .v (wD i)], .inl ?_, ⟨is, rfl⟩, rfl⟩
      show execs _ _ [.v (.tup (ws.map wD)), .v (wD i)] = _
      iterate 5 (try walk_at "pe"); (try simp only [word_ok])
  obtain ⟨ρ', e1, _, rfl⟩ := loop
  have e : execs (Sn (n + 1)) co11 [.v (.tup (ws.map wD)), .no] = .ok .nx [.v (.tup (ws.map wD)), .no] := by
    unfold co11
    have c1 : decide ((1 : Int) ≤ ((ws.map wD).length : Nat)) = true := by rw [List.length_map]; exact decide_eq_true (by omega)
    have c2 : decide ((((ws.map wD).length : Nat) : Int) ≤ 2) = true := by rw [List.length_map]; exact decide_eq_true (by omega)
    iterate 5 (try walk_at "pe"); (try simp only [tup_is, c1, c2, e1, Bool.not_true])
  exact run_nx e

theorem sz20 {f : List (Fin 20)} (h : f.length ≤ 1000) : f.length ≤ sizeLine := sz_ok h
theorem r_len : ∀ r ∈ RR2, r.1.length ≤ 2 := by decide +kernel
theorem all_b (f : List (Fin 20)) (r : Rule) : prim .all [.lst (r.1.map fun i => D.bl (f.contains i))] = some (.bl (prem f r)) := by
  have : (r.1.map fun i => D.bl (f.contains i)) = (r.1.map fun i => f.contains i).map D.bl := by rw [List.map_map]; rfl
  rw [this, p_all]
  unfold prem
  rw [List.all_map]; rfl
theorem rules_add : prim .add [k_ARROWS, k_JOINT_ARROWS] = some (.tup (RR2.map rD)) := by
  rw [arrows_eq, joint_eq]
  have : RR2.map rD = RA.map rD ++ RJ.map rD := List.map_append
  rw [this]
  exact p_addT (sz_ok (by decide +kernel))
/-- ways_to -/
theorem way_ok (n : Nat) (f : List (Fin 20)) (w : Fin 20) : (Sn (n + 1)).fn 12 [.lst (f.map wD), wD w] = .ok (wayD f w) [] := by
  have body : ∀ (b : Sms), b = (.cons (.ite (.and (.val (.prim .eq (.cons (.prim .ix (.cons (.vr 2) (.cons (.prim .neg (.cons (.cst (.int 1)) .nil)) .nil))) (.cons (.vr 1) .nil)))) (.val (.prim .all (.cons (.lc (.prim .inn (.cons (.vr 3) (.cons (.vr 0) .nil))) [3] true (.seq (.prim (.slice false true) (.cons (.vr 2) (.cons (.prim .neg (.cons (.cst (.int 1)) .nil)) .nil)))) .yes [3]) .nil)))) (.cons (.ret (.vr 2)) .nil) .nil) .nil) →
      ∀ (rs : List Rule) (ρ : En), (∀ r ∈ rs, r.1.length ≤ 2) → ρ = [.v (.lst (f.map wD)), .v (wD w), .no, .no] →
        (match rs.find? (fun r => (r.2 == w) && prem f r) with
          | some r => ∃ ρ', forS [2] true (execs (Sn n) b) (rs.map rD) ρ = .ok (.rt (rD r)) ρ'
          | none => forS [2] true (execs (Sn n) b) (rs.map rD) ρ = .ok .nx ρ) := by
    intro b hb rs
    induction rs with
    | nil => intro ρ _ _; rfl
    | cons r rs ih =>
      intro ρ hr hρ
      have ih := ih ρ (fun q hq => hr q (List.mem_cons_of_mem _ hq)) hρ
      subst hρ
      have lc : ev (Sn n) (.lc (.prim .inn (.cons (.vr 3) (.cons (.vr 0) .nil))) [3] true (.seq (.prim (.slice false true) (.cons (.vr 2) (.cons (.prim .neg (.cons (.cst (.int 1)) .nil)) .nil)))) .yes [3]) [.v (.lst (f.map wD)), .v (wD w), .v (rD r), .no] = .ok (.lst (r.1.map fun i => D.bl (f.contains i))) [.v (.lst (f.map wD)), .v (wD w), .v (rD r), .no] := by
        refine ev_lcI0 (φ := wD) ?_ (fun i _ => ?_) (sz_ok (by have := hr r List.mem_cons_self; omega)) (by simp) (fun ys e => by cases (show Cell.no = Cell.o ys from e))
        · iterate 5 (try walk_at "pe"); (try simp only [init_r])
        · iterate 5 (try walk_at "pe"); (try simp only [in_l])
      rw [List.find?_cons, List.map_cons]
      unfold forS
      have bt : bindTg [2] true (rD r) [.v (.lst (f.map wD)), .v (wD w), .no, .no] = some [.v (.lst (f.map wD)), .v (wD w), .v (rD r), .no] := rfl
      rw [bt]
      cases c1 : (r.2 == w) with
      | false =>
        have ex : execs (Sn n) b [.v (.lst (f.map wD)), .v (wD w), .v (rD r), .no] = .ok .nx [.v (.lst (f.map wD)), .v (wD w), .v (rD r), .no] := by
          subst hb
          iterate 5 (try walk_at "pe"); (try simp only [last_r, eq_w, c1])
        simp only [ex, Bool.false_and]
        exact ih
      | true =>
        cases c2 : prem f r with
        | false =>
          have ex : execs (Sn n) b [.v (.lst (f.map wD)), .v (wD w), .v (rD r), .no] = .ok .nx [.v (.lst (f.map wD)), .v (wD w), .v (rD r), .no] := by
            subst hb
            iterate 5 (try walk_at "pe"); (try simp only [last_r, eq_w, c1, lc, all_b, c2])
          simp only [ex, Bool.and_false]
          exact ih
        | true =>
          have ex : execs (Sn n) b [.v (.lst (f.map wD)), .v (wD w), .v (rD r), .no] = .ok (.rt (rD r)) [.v (.lst (f.map wD)), .v (wD w), .v (rD r), .no] := by
            subst hb
            iterate 5 (try walk_at "pe"); (try simp only [last_r, eq_w, c1, lc, all_b, c2])
          simp only [ex, Bool.and_self]
          exact ⟨_, rfl⟩
  have go := body _ rfl RR2 _ r_len rfl
  rw [fn12]
  unfold wayD way
  cases hw : RR2.find? (fun r => (r.2 == w) && prem f r) with
  | none =>
    rw [hw] at go
    refine run_rt (ρ := [.v (.lst (f.map wD)), .v (wD w), .no, .no]) ?_
    show execs (Sn n) co12 [.v (.lst (f.map wD)), .v (wD w), .no, .no] = _
    unfold co12
    have go : _ = _ := go
    iterate 5 (try walk_at "pe"); (try simp only [rules_add, go])
  | some r =>
    rw [hw] at go
    obtain ⟨ρ', go⟩ := go
    refine run_rt (ρ := ρ') ?_
    show execs (Sn n) co12 [.v (.lst (f.map wD)), .v (wD w), .no, .no] = _
    unfold co12
    iterate 5 (try walk_at "pe"); (try simp only [rules_add, go])
end PF.PG

set_option Elab.async false
set_option linter.all false
set_option maxRecDepth 100000
set_option maxHeartbeats 4000000
/-! PK05c: what the program's defs do, on. -/
namespace PF.PG
open PySem PySem.Spec PyProof.Rows PF
local macro_rules | `(tactic| walk_at "pe") => `(tactic| simp only [ev_cst, ev_var, ev_rd, ev_vr, ev_prim, ev_chain, ev_tst, ev_meth, ev_orV, ev_andV, ev_ite, ev_call, ev_callB, ev_callM, evs_nil, evs_cons, evT_yes, evT_val, evT_not, evT_and, evT_or, evI_seq, evI_rng1,
  exec_asg, exec_unp, exec_par, exec_setIx, exec_app, exec_ext, exec_aug, exec_expr, exec_ret, exec_retF, exec_retN, exec_ite, exec_for, exec_raise, exec_try, exec_pass, exec_cont, execs_nil, execs_cons,
  get0, getS, set0, setS, kVar_v, kVar_o, kRd_v, kRd_o, kVr_v, kBl_t, kBl_f, kCh_t, kCh_f, kB_ok, kB_exc, kM_ok, kO_o, kV_v, kSq_nx, kSq_ct, kSq_rt, kSq_exc, kIx_int, kN_some, kEx_lst, kUn_tup, kOp_some, kAu_some, kRF_lst, kTr_ok, kTr_exc, kNe_ok, kR1_int, frV_ok, frV_exc, tr_bl, tr_int, tr_non, tr_lst, tr_tup, own_f, own_t, own_int, own_tup, it_lst, it_tup, it_scr, bt_one, bt_row, sa_nil, sa_cons, sp_nil, sp_cons, mk_no, mk_v, mk_o, mk_nil, bind_ok, bind_exc, bind_bad, rOf_some, rOf_none,
  p_add, p_sub, p_mod, p_neg, p_eq, p_ne, p_lt, p_le, p_gt, p_ge, p_ixL, p_ixT, p_lenL, p_lenT, p_lenS, p_abs, p_int, t_0, t_1, t_2, t_3, t_4, l_0, l_1, l_2, l_3, l_4, at_0, at_1, at_2, at_3, ix_0, ix_1, ix_2, ix_3, List.set_cons_zero, List.set_cons_succ, p_tupleL, p_tupleT, p_listL, p_listT, if_true, if_false, reduceIte, Int.reduceLT, Bool.not_true, Bool.not_false, argCells, List.cons_append, List.nil_append])

def addW (f : List (Fin 20)) (w : Fin 20) : List (Fin 20) := if !(f.contains w) && (way f w).isSome then f ++ [w] else f
def turnP (f : List (Fin 20)) : List (Fin 20) := all20.foldl addW f
/-- a list of words as a row of bits -/
def msk : List (Fin 20) → Nat
  | [] => 0
  | i :: f => (1 <<< i.val) ||| msk f
theorem msk_app : ∀ (f g : List (Fin 20)), msk (f ++ g) = msk f ||| msk g
  | [], g => (Nat.zero_or _).symm
  | i :: f, g => by
    show (1 <<< i.val) ||| msk (f ++ g) = ((1 <<< i.val) ||| msk f) ||| msk g
    rw [msk_app f g, Nat.or_assoc]
theorem bit1 (i j : Fin 20) : (1 <<< j.val : Nat).testBit i.val = (i == j) := by
  rw [Nat.one_shiftLeft, Nat.testBit_two_pow]
  by_cases e : i = j
  · subst e; simp
  · have : ¬ j.val = i.val := fun h => e (Fin.ext h.symm)
    simp [e, this]
theorem msk_bit (f : List (Fin 20)) (i : Fin 20) : (msk f).testBit i.val = f.contains i := by
  induction f with
  | nil => exact Nat.zero_testBit _
  | cons j f ih =>
    show ((1 <<< j.val) ||| msk f).testBit i.val = _
    rw [Nat.testBit_or, ih, bit1, List.contains_cons]
def progRun : Nat → List (Fin 20) → Option (List (Fin 20))
  | 0, _ => none
  | k + 1, f => if msk (turnP f) == msk f then some (turnP f) else progRun k (turnP f)
theorem addW_msk (f : List (Fin 20)) (w : Fin 20) : msk f ≤ msk (addW f w) := by
  unfold addW
  split
  · rw [msk_app]; exact Nat.left_le_or
  · exact Nat.le_refl _
theorem app_msk {f : List (Fin 20)} {w : Fin 20} (h : f.contains w = false) : (msk (f ++ [w]) != msk f) = true := by
  rw [bne_iff_ne]
  intro e
  have a := congrArg (fun m => m.testBit w.val) e
  simp only [msk_bit, h] at a
  have b : (f ++ [w]).contains w = true := List.contains_iff_mem.mpr (by simp)
  rw [a] at b; cases b
theorem fold_msk : ∀ (ws f : List (Fin 20)), msk f ≤ msk (ws.foldl addW f)
  | [], _ => Nat.le_refl _
  | w :: ws, f => Nat.le_trans (addW_msk f w) (fold_msk ws (addW f w))
theorem addW_len (f : List (Fin 20)) (w : Fin 20) : f.length ≤ (addW f w).length ∧ (addW f w).length ≤ f.length + 1 := by
  unfold addW
  split
  · rw [List.length_append, List.length_singleton]; omega
  · omega
theorem fold_len : ∀ (ws f : List (Fin 20)), f.length ≤ (ws.foldl addW f).length ∧ (ws.foldl addW f).length ≤ f.length + ws.length := by
  intro ws
  induction ws with
  | nil => intro f; exact ⟨Nat.le_refl _, Nat.le_refl _⟩
  | cons w ws ih =>
    intro f
    have a := addW_len f w
    have b := ih (addW f w)
    rw [List.foldl_cons, List.length_cons]
    omega
theorem turn_len (f : List (Fin 20)) : f.length ≤ (turnP f).length ∧ (turnP f).length ≤ f.length + 20 := fold_len all20 f
theorem nol_way (f : List (Fin 20)) (w : Fin 20) : nol 9 (wayD f w) = true := by
  unfold wayD
  cases way f w with
  | none => rfl
  | some r =>
    show (r.1.map wD ++ [wD r.2]).all (nol 8) = true
    rw [List.all_eq_true]
    intro x hx
    rcases List.mem_append.mp hx with h | h
    · obtain ⟨i, _, rfl⟩ := List.mem_map.mp h; rfl
    · rw [List.mem_singleton.mp h]; rfl
theorem notN_way (f : List (Fin 20)) (w : Fin 20) : prim .notN [wayD f w, .non] = some (.bl (way f w).isSome) := by
  unfold wayD
  cases way f w with
  | none => rfl
  | some r => rfl
theorem map_app (f : List (Fin 20)) (w : Fin 20) : f.map wD ++ [wD w] = (f ++ [w]).map wD := by rw [List.map_append]; rfl
/-- one word of a turn -/
theorem turn1 (n : Nat) (W : D) (f : List (Fin 20)) (st : List D) (m : Bool) (w : Fin 20) (hf : f.length ≤ 900) (hs : st.length ≤ 900) (b : Sms)
    (hb : b = (.cons (.asg 5 false (.callB 12 (.cons (.rd 1) (.cons (.vr 4) .nil)))) (.cons (.ite (.and (.val (.prim .nin (.cons (.vr 4) (.cons (.rd 1) .nil)))) (.val (.prim .notN (.cons (.vr 5) (.cons (.cst .non) .nil))))) (.cons (.app 1 (.vr 4)) (.cons (.app 2 (.vr 5)) (.cons (.asg 3 false (.cst (.bl true))) .nil))) .nil) .nil))) :
    ∃ st' m' , execs (Sn (n + 1)) b [.v W, .o (f.map wD), .o st, .v (.bl m), .v (wD w), .no] = .ok .nx [.v W, .o ((addW f w).map wD), .o st', .v (.bl m'), .v (wD w), .v (wayD f w)] ∧ m' = (m || msk (addW f w) != msk f) ∧ st'.length ≤ st.length + 1 := by
  have h1 : (f.map wD).length < sizeLine := by
    rw [List.length_map, sizeLine_eq]; omega
  have h2 : st.length < sizeLine := by rw [sizeLine_eq]; omega
  have nw := nol_way f w
  unfold addW
  cases c1 : f.contains w with
  | true =>
    refine ⟨st, m, ?_, by simp, by omega⟩
    subst hb
    iterate 9 (try walk_at "pe"); (try simp only [way_ok, nw, ni_l, notN_way, c1, Bool.not_true, Bool.false_and, Bool.false_eq_true])
  | false =>
    cases c2 : (way f w).isSome with
    | false =>
      refine ⟨st, m, ?_, by simp, by omega⟩
      subst hb
      iterate 9 (try walk_at "pe"); (try simp only [way_ok, nw, ni_l, notN_way, c1, c2, Bool.not_true, Bool.not_false, Bool.and_false, Bool.false_eq_true])
    | true =>
      refine ⟨st ++ [wayD f w], true, ?_, ?_, by rw [List.length_append]; exact Nat.le_refl _⟩
      case refine_2 => simp only [Bool.not_false, Bool.and_self, if_true, app_msk c1, Bool.or_true]
      subst hb
      iterate 9 (try walk_at "pe"); (try simp only [way_ok, nw, ni_l, notN_way, c1, c2, h1, h2, map_app, Bool.not_true, Bool.not_false, Bool.and_self])
theorem turn_for (n : Nat) (W : D) (b : Sms)
    (hb : b = (.cons (.asg 5 false (.callB 12 (.cons (.rd 1) (.cons (.vr 4) .nil)))) (.cons (.ite (.and (.val (.prim .nin (.cons (.vr 4) (.cons (.rd 1) .nil)))) (.val (.prim .notN (.cons (.vr 5) (.cons (.cst .non) .nil))))) (.cons (.app 1 (.vr 4)) (.cons (.app 2 (.vr 5)) (.cons (.asg 3 false (.cst (.bl true))) .nil))) .nil) .nil))) :
    ∀ (ws f : List (Fin 20)) (st : List D) (m : Bool), f.length + ws.length ≤ 900 → st.length + ws.length ≤ 900 → ∃ st' m', forS [4] true (execs (Sn (n + 1)) b) (ws.map wD) [.v W, .o (f.map wD), .o st, .v (.bl m), .no, .no] =
      .ok .nx [.v W, .o ((ws.foldl addW f).map wD), .o st', .v (.bl m'), .no, .no] ∧ m' = (m || msk (ws.foldl addW f) != msk f) ∧ st'.length ≤ st.length + ws.length := by
  intro ws
  induction ws with
  | nil => intro f st m _ _; exact ⟨st, m, rfl, by simp, Nat.le_refl _⟩
  | cons w ws ih =>
    intro f st m hf hs
    rw [List.length_cons] at hf hs
    obtain ⟨st1, m1, e1, hm1, hs1⟩ := turn1 n W f st m w (by omega) (by omega) b hb
    have al := addW_len f w
    obtain ⟨st2, m2, e2, hm2, hs2⟩ := ih (addW f w) st1 m1 (by omega) (by omega)
    refine ⟨st2, m2, ?_, ?_, by rw [List.length_cons]; omega⟩
    · rw [List.map_cons]
      unfold forS
      have bt : bindTg [4] true (wD w) [.v W, .o (f.map wD), .o st, .v (.bl m), .no, .no] = some [.v W, .o (f.map wD), .o st, .v (.bl m), .v (wD w), .no] := rfl
      rw [bt]
      simp only [e1]
      exact e2
    · rw [hm2, hm1, List.foldl_cons]
      have fl := fold_len ws (addW f w)
      cases m with
      | true => simp
      | false =>
        simp only [Bool.false_or]
        by_cases c : msk (addW f w) = msk f
        · rw [c]; simp
        · have h1 : (msk (addW f w) != msk f) = true := by simpa using c
          have h2 : (msk (ws.foldl addW (addW f w)) != msk f) = true := by
            have a := addW_msk f w
            have b := fold_msk ws (addW f w)
            have : msk (ws.foldl addW (addW f w)) ≠ msk f := by omega
            simpa using this
          rw [h1, h2, Bool.true_or]
theorem add_WORDS : itemsD k_WORDS = some (all20.map wD) := by rw [words_eq]; rfl
/-- the rounds -/
theorem rounds (n : Nat) (W : D) (b : Sms)
    (hb : b = (.cons (.asg 3 false (.cst (.bl false))) (.cons (.for_ [4] true (.seq (.cst k_WORDS)) (.cons (.asg 5 false (.callB 12 (.cons (.rd 1) (.cons (.vr 4) .nil)))) (.cons (.ite (.and (.val (.prim .nin (.cons (.vr 4) (.cons (.rd 1) .nil)))) (.val (.prim .notN (.cons (.vr 5) (.cons (.cst .non) .nil))))) (.cons (.app 1 (.vr 4)) (.cons (.app 2 (.vr 5)) (.cons (.asg 3 false (.cst (.bl true))) .nil))) .nil) .nil))) .nil))) :
    ∀ (k : Nat) (f g : List (Fin 20)) (st : List D), progRun k f = some g → f.length + 20 * k ≤ 900 → st.length + 20 * k ≤ 900 →
      ∃ st', whileF (evT (Sn (n + 1)) (.val (.vr 3))) (execs (Sn (n + 1)) b) (k + 1) [.v W, .o (f.map wD), .o st, .v (.bl true), .no, .no] = some (.ok .nx [.v W, .o (g.map wD), .o st', .v (.bl false), .no, .no]) ∧ st'.length ≤ 900 := by
  intro k
  induction k with
  | zero => intro f g st h; cases h
  | succ k ih =>
    intro f g st h hf hs
    unfold progRun at h
    have l20 : all20.length = 20 := rfl
    obtain ⟨st1, m1, e1, hm1, hs1⟩ := turn_for n W _ rfl all20 f st false (by rw [l20]; omega) (by rw [l20]; omega)
    have ex : execs (Sn (n + 1)) b [.v W, .o (f.map wD), .o st, .v (.bl true), .no, .no] = .ok .nx [.v W, .o ((turnP f).map wD), .o st1, .v (.bl m1), .no, .no] := by
      subst hb
      iterate 9 (try walk_at "pe"); (try simp only [add_WORDS, e1])
      rfl
    have te : ∀ m F S, evT (Sn (n + 1)) (.val (.vr 3)) [.v W, .o F, .o S, .v (.bl m), .no, .no] = .ok m [.v W, .o F, .o S, .v (.bl m), .no, .no] := fun m F S => by walk_at "pe"
    have fl := turn_len f
    have tf : all20.foldl addW f = turnP f := rfl
    rw [tf] at hm1
    unfold whileF
    simp only [te, ex]
    have mk : mask [.v W, .o (f.map wD), .o st, .v (.bl true), .no, .no] [.v W, .o ((turnP f).map wD), .o st1, .v (.bl m1), .no, .no] = [.v W, .o ((turnP f).map wD), .o st1, .v (.bl m1), .no, .no] := rfl
    rw [mk]
    rw [l20] at hs1
    split at h
    · rename_i c
      have hg : turnP f = g := Option.some.inj h
      subst hg
      have : m1 = false := by rw [hm1, eq_of_beq c]; simp
      subst this
      refine ⟨st1, ?_, by omega⟩
      unfold whileF
      simp only [te]
    · rename_i c
      have : m1 = true := by
        rw [hm1]
        simp only [Bool.false_or]
        simpa using c
      subst this
      exact ih (turnP f) g st1 h (by omega) (by omega)
/-- derived -/
theorem derived_ok (n : Nat) (ws g : List (Fin 20)) (hw : ws.length ≤ 2) (hg : progRun 25 ws = some g) : ∃ st, (Sn (n + 2)).fn 13 [.tup (ws.map wD)] = .ok (.tup [.lst (g.map wD), .lst st]) [] := by
  obtain ⟨st, e, hs⟩ := rounds n (.tup (ws.map wD)) _ rfl 25 ws g [] hg (by omega) (by decide)
  have e := whileS_some e
  rw [fn13]
  refine ⟨st, run_rt (ρ := [.v (.tup (ws.map wD)), .v (.lst (g.map wD)), .v (.lst st), .v (.bl false), .no, .no]) ?_⟩
  show execs (Sn (n + 1)) co13 [.v (.tup (ws.map wD)), .no, .no, .no, .no, .no] = _
  have wl : ∀ t b ρ, exec (Sn (n + 1)) (.whl t b) ρ = whileS (evT (Sn (n + 1)) t) (execs (Sn (n + 1)) b) ρ := fun t b ρ => rfl
  unfold co13
  iterate 9 (try walk_at "pe"); (try simp only [wl, e, own_t])
/-- what words force -/
def forced (g : List (Fin 20)) : List (Fin 20) := all20.filter fun i => g.contains i
/-- all_forced -/
theorem forced_ok (n : Nat) (ws g : List (Fin 20)) (h1 : 1 ≤ ws.length) (hw : ws.length ≤ 2) (hg : progRun 25 ws = some g) : (Sn (n + 3)).fn 14 [.tup (ws.map wD)] = .ok (.tup ((forced g).map wD)) [] := by
  obtain ⟨st, e⟩ := derived_ok n ws g hw hg
  have e0 := words_ok n ws h1 hw
  have lc : ev (Sn (n + 2)) (.lc (.vr 2) [2] true (.seq (.cst k_WORDS)) (.val (.prim .inn (.cons (.vr 2) (.cons (.vr 1) .nil)))) [2]) [.v (.tup (ws.map wD)), .v (.lst (g.map wD)), .no] = .ok (.lst ((forced g).map wD)) [.v (.tup (ws.map wD)), .v (.lst (g.map wD)), .no] := by
    refine ev_lcI (φ := wD) (p := fun i => g.contains i) (is := all20) ?_ (fun i _ => ⟨?_, fun _ => ?_⟩) (sz_ok (by decide)) (by simp) (fun ys e => by cases (show Cell.no = Cell.o ys from e))
    · iterate 9 (try walk_at "pe"); (try simp only [add_WORDS])
    · iterate 9 (try walk_at "pe"); (try simp only [in_l])
    · walk_at "pe"
  rw [fn14]
  refine run_rt (ρ := [.v (.tup (ws.map wD)), .v (.lst (g.map wD)), .no]) ?_
  show execs (Sn (n + 2)) co14 [.v (.tup (ws.map wD)), .no, .no] = _
  unfold co14
  iterate 9 (try walk_at "pe"); (try simp only [e0, e, lc])
theorem forced_has (g : List (Fin 20)) (i : Fin 20) : (forced g).contains i = g.contains i := by
  unfold forced
  cases c : g.contains i with
  | true =>
    rw [List.contains_iff_mem]
    exact List.mem_filter.mpr ⟨List.mem_finRange i, c⟩
  | false =>
    rw [Bool.eq_false_iff]
    intro h
    have := (List.mem_filter.mp (List.contains_iff_mem.mp h)).2
    rw [c] at this; cases this
/-- does_force -/
theorem force_ok (n : Nat) (ws g : List (Fin 20)) (h1 : 1 ≤ ws.length) (hw : ws.length ≤ 2) (hg : progRun 25 ws = some g) (i : Fin 20) : (Sn (n + 4)).fn 15 [.tup (ws.map wD), wD i] = .ok (.bl (g.contains i)) [] := by
  have e := forced_ok n ws g h1 hw hg
  have e0 := word_ok (n + 2) i
  rw [fn15]
  refine run_rt (ρ := [.v (.tup (ws.map wD)), .v (wD i)]) ?_
  show execs (Sn (n + 3)) co15 [.v (.tup (ws.map wD)), .v (wD i)] = _
  unfold co15
  iterate 9 (try walk_at "pe"); (try simp only [e0, e, in_t, forced_has])
end PF.PG

set_option Elab.async false
set_option linter.all false
set_option maxRecDepth 100000
set_option maxHeartbeats 4000000
/-! PK05w: written words. -/
namespace PF.PG
open PySem PySem.Spec PyProof.Rows PF
theorem lwords (n : Nat) : (Sn (n + 1)).fn 20 [] = .ok (.lst (all20.map wD)) [] := by kernel_rfl
theorem larrows (n : Nat) : (Sn (n + 1)).fn 21 [] = .ok (.lst (RA.map rD)) [] := by kernel_rfl
theorem ljoint (n : Nat) : (Sn (n + 1)).fn 22 [] = .ok (.lst (RJ.map rD)) [] := by kernel_rfl
end PF.PG

set_option Elab.async false
set_option linter.all false
set_option maxRecDepth 100000
set_option maxHeartbeats 4000000
/-! PK05d: the law's own defs. -/
namespace PF.PG
open PySem PySem.Spec PyProof.Rows PF
local macro_rules | `(tactic| walk_at "pe") => `(tactic| simp only [ev_cst, ev_var, ev_rd, ev_vr, ev_prim, ev_chain, ev_tst, ev_meth, ev_orV, ev_andV, ev_ite, ev_call, ev_callB, ev_callM, evs_nil, evs_cons, evT_yes, evT_val, evT_not, evT_and, evT_or, evI_seq, evI_rng1,
  exec_asg, exec_unp, exec_par, exec_setIx, exec_app, exec_ext, exec_aug, exec_expr, exec_ret, exec_retF, exec_retN, exec_ite, exec_for, exec_raise, exec_try, exec_pass, exec_cont, execs_nil, execs_cons,
  get0, getS, set0, setS, kVar_v, kVar_o, kRd_v, kRd_o, kVr_v, kBl_t, kBl_f, kCh_t, kCh_f, kB_ok, kB_exc, kM_ok, kO_o, kV_v, kSq_nx, kSq_ct, kSq_rt, kSq_exc, kIx_int, kN_some, kEx_lst, kUn_tup, kOp_some, kAu_some, kRF_lst, kTr_ok, kTr_exc, kNe_ok, kR1_int, frV_ok, frV_exc, tr_bl, tr_int, tr_non, tr_lst, tr_tup, own_f, own_t, own_int, own_tup, it_lst, it_tup, it_scr, bt_one, bt_row, sa_nil, sa_cons, sp_nil, sp_cons, mk_no, mk_v, mk_o, mk_nil, bind_ok, bind_exc, bind_bad, rOf_some, rOf_none,
  p_add, p_sub, p_mod, p_neg, p_eq, p_ne, p_lt, p_le, p_gt, p_ge, p_ixL, p_ixT, p_lenL, p_lenT, p_lenS, p_abs, p_int, t_0, t_1, t_2, t_3, t_4, l_0, l_1, l_2, l_3, l_4, at_0, at_1, at_2, at_3, ix_0, ix_1, ix_2, ix_3, List.set_cons_zero, List.set_cons_succ, p_tupleL, p_tupleT, p_listL, p_listT, if_true, if_false, reduceIte, Int.reduceLT, Bool.not_true, Bool.not_false, argCells, List.cons_append, List.nil_append])

/-! ### led -/
def fire (f : List (Fin 20)) (r : Rule) : List (Fin 20) := if !(f.contains r.2) && prem f r then f ++ [r.2] else f
def passL (f : List (Fin 20)) : List (Fin 20) := RR2.foldl fire f
def passN : Nat → List (Fin 20) → List (Fin 20)
  | 0, f => f
  | k + 1, f => passN k (passL f)
theorem passN_succ (k : Nat) (f : List (Fin 20)) : passN (k + 1) f = passN k (passL f) := rfl
theorem fire_len (f : List (Fin 20)) (r : Rule) : (fire f r).length ≤ f.length + 1 := by
  unfold fire
  split
  · rw [List.length_append, List.length_singleton]; omega
  · omega
theorem passF_len : ∀ (rs : List Rule) (f : List (Fin 20)), (rs.foldl fire f).length ≤ f.length + rs.length
  | [], f => Nat.le_refl _
  | r :: rs, f => by
    have a := fire_len f r
    have b := passF_len rs (fire f r)
    rw [List.foldl_cons, List.length_cons]; omega
theorem rr_len : RR2.length ≤ 60 := by decide +kernel
theorem rules_addL : prim .add [.lst (RA.map rD), .lst (RJ.map rD)] = some (.lst (RR2.map rD)) := by
  have : RR2.map rD = RA.map rD ++ RJ.map rD := List.map_append
  rw [this]
  exact p_addL (sz_ok (by decide +kernel))
theorem led1 (M : Mo) (W : D) (b : Sms)
    (hb : b = (.cons (.ite (.and (.val (.prim .nin (.cons (.prim .ix (.cons (.vr 3) (.cons (.prim .neg (.cons (.cst (.int 1)) .nil)) .nil))) (.cons (.rd 1) .nil)))) (.val (.prim .all (.cons (.lc (.prim .inn (.cons (.vr 4) (.cons (.rd 1) .nil))) [4] true (.seq (.prim (.slice false true) (.cons (.vr 3) (.cons (.prim .neg (.cons (.cst (.int 1)) .nil)) .nil)))) .yes [4]) .nil)))) (.cons (.app 1 (.prim .ix (.cons (.vr 3) (.cons (.prim .neg (.cons (.cst (.int 1)) .nil)) .nil)))) .nil) .nil) .nil))
    (f : List (Fin 20)) (r : Rule) (t : D) (hf : f.length ≤ 5000) (hr : r.1.length ≤ 2) :
    execs M b [.v W, .o (f.map wD), .v t, .v (rD r), .no] = .ok .nx [.v W, .o ((fire f r).map wD), .v t, .v (rD r), .no] := by
  have h1 : (f.map wD).length < sizeLine := by
    rw [List.length_map, sizeLine_eq]; omega
  have lc : ev M (.lc (.prim .inn (.cons (.vr 4) (.cons (.rd 1) .nil))) [4] true (.seq (.prim (.slice false true) (.cons (.vr 3) (.cons (.prim .neg (.cons (.cst (.int 1)) .nil)) .nil)))) .yes [4]) [.v W, .o (f.map wD), .v t, .v (rD r), .no] = .ok (.lst (r.1.map fun i => D.bl (f.contains i))) [.v W, .o (f.map wD), .v t, .v (rD r), .no] := by
    refine ev_lcI0 (φ := wD) ?_ (fun i _ => ?_) (sz_ok (by omega)) (by simp) (fun ys e => by cases (show Cell.no = Cell.o ys from e))
    · iterate 9 (try walk_at "pe"); (try simp only [init_r])
    · iterate 9 (try walk_at "pe"); (try simp only [in_l])
  unfold fire
  cases c1 : f.contains r.2 with
  | true =>
    subst hb
    iterate 9 (try walk_at "pe"); (try simp only [last_r, ni_l, c1, Bool.not_true, Bool.false_and, Bool.false_eq_true])
  | false =>
    cases c2 : prem f r with
    | false =>
      subst hb
      iterate 9 (try walk_at "pe"); (try simp only [last_r, ni_l, lc, all_b, c1, c2, Bool.not_false, Bool.and_false, Bool.false_eq_true])
    | true =>
      subst hb
      iterate 9 (try walk_at "pe"); (try simp only [last_r, ni_l, lc, all_b, c1, c2, h1, map_app, Bool.not_false, Bool.and_self])
theorem led_for (M : Mo) (W t : D) (b : Sms)
    (hb : b = (.cons (.ite (.and (.val (.prim .nin (.cons (.prim .ix (.cons (.vr 3) (.cons (.prim .neg (.cons (.cst (.int 1)) .nil)) .nil))) (.cons (.rd 1) .nil)))) (.val (.prim .all (.cons (.lc (.prim .inn (.cons (.vr 4) (.cons (.rd 1) .nil))) [4] true (.seq (.prim (.slice false true) (.cons (.vr 3) (.cons (.prim .neg (.cons (.cst (.int 1)) .nil)) .nil)))) .yes [4]) .nil)))) (.cons (.app 1 (.prim .ix (.cons (.vr 3) (.cons (.prim .neg (.cons (.cst (.int 1)) .nil)) .nil)))) .nil) .nil) .nil)) :
    ∀ (rs : List Rule) (f : List (Fin 20)), (∀ r ∈ rs, r.1.length ≤ 2) → f.length + rs.length ≤ 5000 →
      forS [3] true (execs M b) (rs.map rD) [.v W, .o (f.map wD), .v t, .no, .no] = .ok .nx [.v W, .o ((rs.foldl fire f).map wD), .v t, .no, .no] := by
  intro rs
  induction rs with
  | nil => intro f _ _; rfl
  | cons r rs ih =>
    intro f hr hf
    rw [List.length_cons] at hf
    rw [List.map_cons]
    unfold forS
    have bt : bindTg [3] true (rD r) [.v W, .o (f.map wD), .v t, .no, .no] = some [.v W, .o (f.map wD), .v t, .v (rD r), .no] := rfl
    rw [bt]
    simp only [led1 M W b hb f r t (by omega) (hr r List.mem_cons_self)]
    have a := fire_len f r
    exact ih (fire f r) (fun q hq => hr q (List.mem_cons_of_mem _ hq)) (by omega)
theorem led_core (M : Mo) (larrows : M.fn 21 [] = .ok (.lst (RA.map rD)) []) (ljoint : M.fn 22 [] = .ok (.lst (RJ.map rD)) []) (ws : List (Fin 20)) (hw : ws.length ≤ 2) : runFn M 5 false false co23 [.tup (ws.map wD)] = .ok (.lst ((passN 20 ws).map wD)) [] := by
  have out : ∀ (b : Sms), b = (.cons (.for_ [3] true (.seq (.prim .add (.cons (.call 21 .nil) (.cons (.call 22 .nil) .nil)))) (.cons (.ite (.and (.val (.prim .nin (.cons (.prim .ix (.cons (.vr 3) (.cons (.prim .neg (.cons (.cst (.int 1)) .nil)) .nil))) (.cons (.rd 1) .nil)))) (.val (.prim .all (.cons (.lc (.prim .inn (.cons (.vr 4) (.cons (.rd 1) .nil))) [4] true (.seq (.prim (.slice false true) (.cons (.vr 3) (.cons (.prim .neg (.cons (.cst (.int 1)) .nil)) .nil)))) .yes [4]) .nil)))) (.cons (.app 1 (.prim .ix (.cons (.vr 3) (.cons (.prim .neg (.cons (.cst (.int 1)) .nil)) .nil)))) .nil) .nil) .nil)) .nil) →
      ∀ (xs : List D) (f : List (Fin 20)), f.length + 60 * xs.length ≤ 5000 → forS [2] true (execs M b) xs [.v (.tup (ws.map wD)), .o (f.map wD), .no, .no, .no] = .ok .nx [.v (.tup (ws.map wD)), .o ((passN xs.length f).map wD), .no, .no, .no] := by
    intro b hb xs
    induction xs with
    | nil => intro f _; rfl
    | cons x xs ih =>
      intro f hf
      rw [List.length_cons] at hf
      have rl := rr_len
      have e := led_for M (.tup (ws.map wD)) x _ rfl RR2 f r_len (by omega)
      unfold forS
      have bt : bindTg [2] true x [.v (.tup (ws.map wD)), .o (f.map wD), .no, .no, .no] = some [.v (.tup (ws.map wD)), .o (f.map wD), .v x, .no, .no] := rfl
      rw [bt]
      have ex : execs M b [.v (.tup (ws.map wD)), .o (f.map wD), .v x, .no, .no] = .ok .nx [.v (.tup (ws.map wD)), .o ((passL f).map wD), .v x, .no, .no] := by
        subst hb
        have e : forS [3] true _ _ _ = Rs.ok Fl.nx [.v (.tup (ws.map wD)), .o ((passL f).map wD), .v x, .no, .no] := e
        generalize passL f = F at e ⊢
        iterate 9 (try walk_at "pe"); (try simp only [larrows, ljoint, rules_addL, e])
      have pl : (passL f).length ≤ f.length + RR2.length := passF_len RR2 f
      have ih := ih (passL f) (by omega)
      rw [List.length_cons, passN_succ]
      generalize passL f = F at ex ih ⊢
      simp only [ex]
      exact ih
  have r20 : (rngD 0 20).length = 20 := by decide +kernel
  have e := out _ rfl (rngD 0 20) ws (by rw [r20]; omega)
  rw [r20] at e
  generalize passN 20 ws = P at e ⊢
  refine run_rt (ρ := [.v (.tup (ws.map wD)), .v (.lst (P.map wD)), .no, .no, .no]) ?_
  show execs M co23 [.v (.tup (ws.map wD)), .no, .no, .no, .no] = _
  have ok20 : okRng 0 20 = true := by decide +kernel
  unfold co23
  iterate 9 (try walk_at "pe"); (try simp only [own_t, ok20, e])
theorem led_ok (n : Nat) (ws : List (Fin 20)) (hw : ws.length ≤ 2) : (Sn (n + 2)).fn 23 [.tup (ws.map wD)] = .ok (.lst ((passN 20 ws).map wD)) [] :=
  (fn23 (n + 1) _).trans (led_core (Sn (n + 1)) (larrows n) (ljoint n) ws hw)
end PF.PG

set_option Elab.async false
set_option linter.all false
set_option maxRecDepth 100000
set_option maxHeartbeats 4000000
/-! PK05d2: the two agree. -/
namespace PF.PG
open PySem PySem.Spec PyProof.Rows PF
/-! ### the two agree -/
def premM (m : Nat) (r : Rule) : Bool := r.1.all fun i => m.testBit i.val
def fireM (m : Nat) (r : Rule) : Nat := if !(m.testBit r.2.val) && premM m r then m ||| (1 <<< r.2.val) else m
def passM (m : Nat) : Nat := RR2.foldl fireM m
def passMN : Nat → Nat → Nat
  | 0, m => m
  | k + 1, m => if passM m == m then m else passMN k (passM m)
def addM (m : Nat) (w : Fin 20) : Nat := if !(m.testBit w.val) && (RR2.any fun r => (r.2 == w) && premM m r) then m ||| (1 <<< w.val) else m
def turnM (m : Nat) : Nat := all20.foldl addM m
def progM : Nat → Nat → Option Nat
  | 0, _ => none
  | k + 1, m => if turnM m == m then some (turnM m) else progM k (turnM m)
theorem prem_msk (f : List (Fin 20)) (r : Rule) : premM (msk f) r = prem f r := by
  unfold premM prem
  congr 1
  funext i
  exact msk_bit f i
theorem one_msk (f : List (Fin 20)) (w : Fin 20) : msk (f ++ [w]) = msk f ||| (1 <<< w.val) := by
  rw [msk_app]
  show msk f ||| ((1 <<< w.val) ||| 0) = _
  rw [Nat.or_zero]
theorem fire_msk (f : List (Fin 20)) (r : Rule) : msk (fire f r) = fireM (msk f) r := by
  unfold fire fireM
  rw [prem_msk, msk_bit]
  split
  · exact one_msk f r.2
  · rfl
theorem pass_msk (f : List (Fin 20)) : msk (passL f) = passM (msk f) := by
  unfold passL passM
  generalize RR2 = rs
  induction rs generalizing f with
  | nil => rfl
  | cons r rs ih => rw [List.foldl_cons, List.foldl_cons, ih, fire_msk]
theorem passMN_fix {m : Nat} (h : passM m = m) : ∀ k, passMN k m = m
  | 0 => rfl
  | k + 1 => by unfold passMN; rw [h]; simp
theorem passN_msk : ∀ (k : Nat) (f : List (Fin 20)), msk (passN k f) = passMN k (msk f)
  | 0, f => rfl
  | k + 1, f => by
    show msk (passN k (passL f)) = _
    rw [passN_msk k (passL f), pass_msk]
    show passMN k (passM (msk f)) = if passM (msk f) == msk f then msk f else passMN k (passM (msk f))
    split
    · rename_i h
      have h := eq_of_beq h
      rw [h]
      exact passMN_fix h k
    · rfl
theorem way_any (f : List (Fin 20)) (w : Fin 20) : (way f w).isSome = RR2.any fun r => (r.2 == w) && prem f r := by
  unfold way
  rw [Bool.eq_iff_iff, List.find?_isSome, List.any_eq_true]
theorem add_msk (f : List (Fin 20)) (w : Fin 20) : msk (addW f w) = addM (msk f) w := by
  unfold addW addM
  rw [way_any, msk_bit]
  have : (fun r : Rule => (r.2 == w) && premM (msk f) r) = fun r => (r.2 == w) && prem f r := by
    funext r; rw [prem_msk]
  rw [this]
  split
  · exact one_msk f w
  · rfl
theorem turn_msk (f : List (Fin 20)) : msk (turnP f) = turnM (msk f) := by
  unfold turnP turnM
  generalize all20 = rs
  induction rs generalizing f with
  | nil => rfl
  | cons r rs ih => rw [List.foldl_cons, List.foldl_cons, ih, add_msk]
theorem prog_msk : ∀ (k : Nat) (f : List (Fin 20)), (progRun k f).map msk = progM k (msk f)
  | 0, f => rfl
  | k + 1, f => by
    unfold progRun progM
    rw [← turn_msk]
    split
    · rfl
    · exact prog_msk k (turnP f)
end PF.PG

set_option Elab.async false
set_option linter.all false
set_option maxRecDepth 100000
set_option maxHeartbeats 4000000
namespace PF.PG
open PySem PySem.Spec PyProof.Rows PF
theorem ag0 : ∀ j : Fin 20, progM 25 ((1 <<< 0) ||| (1 <<< j.val)) = some (passMN 20 ((1 <<< 0) ||| (1 <<< j.val))) := by decide +kernel
theorem ag1 : ∀ j : Fin 20, progM 25 ((1 <<< 1) ||| (1 <<< j.val)) = some (passMN 20 ((1 <<< 1) ||| (1 <<< j.val))) := by decide +kernel
theorem ag2 : ∀ j : Fin 20, progM 25 ((1 <<< 2) ||| (1 <<< j.val)) = some (passMN 20 ((1 <<< 2) ||| (1 <<< j.val))) := by decide +kernel
theorem ag3 : ∀ j : Fin 20, progM 25 ((1 <<< 3) ||| (1 <<< j.val)) = some (passMN 20 ((1 <<< 3) ||| (1 <<< j.val))) := by decide +kernel
theorem ag4 : ∀ j : Fin 20, progM 25 ((1 <<< 4) ||| (1 <<< j.val)) = some (passMN 20 ((1 <<< 4) ||| (1 <<< j.val))) := by decide +kernel
theorem ag5 : ∀ j : Fin 20, progM 25 ((1 <<< 5) ||| (1 <<< j.val)) = some (passMN 20 ((1 <<< 5) ||| (1 <<< j.val))) := by decide +kernel
theorem ag6 : ∀ j : Fin 20, progM 25 ((1 <<< 6) ||| (1 <<< j.val)) = some (passMN 20 ((1 <<< 6) ||| (1 <<< j.val))) := by decide +kernel
theorem ag7 : ∀ j : Fin 20, progM 25 ((1 <<< 7) ||| (1 <<< j.val)) = some (passMN 20 ((1 <<< 7) ||| (1 <<< j.val))) := by decide +kernel
theorem ag8 : ∀ j : Fin 20, progM 25 ((1 <<< 8) ||| (1 <<< j.val)) = some (passMN 20 ((1 <<< 8) ||| (1 <<< j.val))) := by decide +kernel
theorem ag9 : ∀ j : Fin 20, progM 25 ((1 <<< 9) ||| (1 <<< j.val)) = some (passMN 20 ((1 <<< 9) ||| (1 <<< j.val))) := by decide +kernel
theorem ag10 : ∀ j : Fin 20, progM 25 ((1 <<< 10) ||| (1 <<< j.val)) = some (passMN 20 ((1 <<< 10) ||| (1 <<< j.val))) := by decide +kernel
theorem ag11 : ∀ j : Fin 20, progM 25 ((1 <<< 11) ||| (1 <<< j.val)) = some (passMN 20 ((1 <<< 11) ||| (1 <<< j.val))) := by decide +kernel
theorem ag12 : ∀ j : Fin 20, progM 25 ((1 <<< 12) ||| (1 <<< j.val)) = some (passMN 20 ((1 <<< 12) ||| (1 <<< j.val))) := by decide +kernel
theorem ag13 : ∀ j : Fin 20, progM 25 ((1 <<< 13) ||| (1 <<< j.val)) = some (passMN 20 ((1 <<< 13) ||| (1 <<< j.val))) := by decide +kernel
theorem ag14 : ∀ j : Fin 20, progM 25 ((1 <<< 14) ||| (1 <<< j.val)) = some (passMN 20 ((1 <<< 14) ||| (1 <<< j.val))) := by decide +kernel
theorem ag15 : ∀ j : Fin 20, progM 25 ((1 <<< 15) ||| (1 <<< j.val)) = some (passMN 20 ((1 <<< 15) ||| (1 <<< j.val))) := by decide +kernel
theorem ag16 : ∀ j : Fin 20, progM 25 ((1 <<< 16) ||| (1 <<< j.val)) = some (passMN 20 ((1 <<< 16) ||| (1 <<< j.val))) := by decide +kernel
theorem ag17 : ∀ j : Fin 20, progM 25 ((1 <<< 17) ||| (1 <<< j.val)) = some (passMN 20 ((1 <<< 17) ||| (1 <<< j.val))) := by decide +kernel
theorem ag18 : ∀ j : Fin 20, progM 25 ((1 <<< 18) ||| (1 <<< j.val)) = some (passMN 20 ((1 <<< 18) ||| (1 <<< j.val))) := by decide +kernel
theorem ag19 : ∀ j : Fin 20, progM 25 ((1 <<< 19) ||| (1 <<< j.val)) = some (passMN 20 ((1 <<< 19) ||| (1 <<< j.val))) := by decide +kernel
theorem agreeM (i j : Fin 20) : progM 25 ((1 <<< i.val) ||| (1 <<< j.val)) = some (passMN 20 ((1 <<< i.val) ||| (1 <<< j.val))) :=
  match i with
  | ⟨0, _⟩ => ag0 j
  | ⟨1, _⟩ => ag1 j
  | ⟨2, _⟩ => ag2 j
  | ⟨3, _⟩ => ag3 j
  | ⟨4, _⟩ => ag4 j
  | ⟨5, _⟩ => ag5 j
  | ⟨6, _⟩ => ag6 j
  | ⟨7, _⟩ => ag7 j
  | ⟨8, _⟩ => ag8 j
  | ⟨9, _⟩ => ag9 j
  | ⟨10, _⟩ => ag10 j
  | ⟨11, _⟩ => ag11 j
  | ⟨12, _⟩ => ag12 j
  | ⟨13, _⟩ => ag13 j
  | ⟨14, _⟩ => ag14 j
  | ⟨15, _⟩ => ag15 j
  | ⟨16, _⟩ => ag16 j
  | ⟨17, _⟩ => ag17 j
  | ⟨18, _⟩ => ag18 j
  | ⟨19, _⟩ => ag19 j
  | ⟨n + 20, h⟩ => absurd h (by omega)
theorem agree (ws : List (Fin 20)) (h1 : 1 ≤ ws.length) (h2 : ws.length ≤ 2) : ∃ g, progRun 25 ws = some g ∧ ∀ i, g.contains i = (passN 20 ws).contains i := by
  have key : ∃ i j : Fin 20, msk ws = (1 <<< i.val) ||| (1 <<< j.val) := by
    match ws, h1, h2 with
    | [i], _, _ => exact ⟨i, i, by show (1 <<< i.val) ||| 0 = _; rw [Nat.or_zero, Nat.or_self]⟩
    | [i, j], _, _ => exact ⟨i, j, by show (1 <<< i.val) ||| ((1 <<< j.val) ||| 0) = _; rw [Nat.or_zero]⟩
  obtain ⟨i, j, e⟩ := key
  have a := prog_msk 25 ws
  rw [e, agreeM i j, ← e, ← passN_msk] at a
  obtain ⟨g, hg, hm⟩ := Option.map_eq_some_iff.mp a
  exact ⟨g, hg, fun i => by rw [← msk_bit, hm, msk_bit]⟩
end PF.PG

set_option Elab.async false
set_option linter.all false
set_option maxRecDepth 100000
set_option maxHeartbeats 4000000
/-! PK05f: the law's run. -/
namespace PF.PG
open PySem PySem.Spec PyProof.Rows PF
local macro_rules | `(tactic| walk_at "pe") => `(tactic| simp only [ev_cst, ev_var, ev_rd, ev_vr, ev_prim, ev_chain, ev_tst, ev_meth, ev_orV, ev_andV, ev_ite, ev_call, ev_callB, ev_callM, evs_nil, evs_cons, evT_yes, evT_val, evT_not, evT_and, evT_or, evI_seq, evI_rng1,
  exec_asg, exec_unp, exec_par, exec_setIx, exec_app, exec_ext, exec_aug, exec_expr, exec_ret, exec_retF, exec_retN, exec_ite, exec_for, exec_raise, exec_try, exec_pass, exec_cont, execs_nil, execs_cons,
  get0, getS, set0, setS, kVar_v, kVar_o, kRd_v, kRd_o, kVr_v, kBl_t, kBl_f, kCh_t, kCh_f, kB_ok, kB_exc, kM_ok, kO_o, kV_v, kSq_nx, kSq_ct, kSq_rt, kSq_exc, kIx_int, kN_some, kEx_lst, kUn_tup, kOp_some, kAu_some, kRF_lst, kTr_ok, kTr_exc, kNe_ok, kR1_int, frV_ok, frV_exc, tr_bl, tr_int, tr_non, tr_lst, tr_tup, own_f, own_t, own_int, own_tup, it_lst, it_tup, it_scr, bt_one, bt_row, sa_nil, sa_cons, sp_nil, sp_cons, mk_no, mk_v, mk_o, mk_nil, bind_ok, bind_exc, bind_bad, rOf_some, rOf_none,
  p_add, p_sub, p_mod, p_neg, p_eq, p_ne, p_lt, p_le, p_gt, p_ge, p_ixL, p_ixT, p_lenL, p_lenT, p_lenS, p_abs, p_int, t_0, t_1, t_2, t_3, t_4, l_0, l_1, l_2, l_3, l_4, at_0, at_1, at_2, at_3, ix_0, ix_1, ix_2, ix_3, List.set_cons_zero, List.set_cons_succ, p_tupleL, p_tupleT, p_listL, p_listT, if_true, if_false, reduceIte, Int.reduceLT, Bool.not_true, Bool.not_false, argCells, List.cons_append, List.nil_append])
def cTurn : Sms := (.cons (.asg 3 false (.prim .tuple (.cons (.lc (.prim .ix (.cons (.call 20 .nil) (.cons (.callM 18 1 (.cons (.cst (.int 20)) .nil)) .nil))) [6] true (.rng1 (.prim .add (.cons (.cst (.int 1)) (.cons (.callM 18 1 (.cons (.cst (.int 2)) .nil)) .nil)))) .yes [6]) .nil))) (.cons (.asg 4 false (.call 23 (.cons (.vr 3) .nil))) (.cons (.ite (.val (.prim .ne (.cons (.call 24 (.cons (.cst (.int 0)) (.cons (.vr 3) (.cons (.cst (.str "")) .nil)))) (.cons (.prim .tuple (.cons (.lc (.vr 7) [7] true (.seq (.call 20 .nil)) (.val (.prim .inn (.cons (.vr 7) (.cons (.vr 4) .nil)))) [7]) .nil)) .nil)))) (.cons (.ret (.cst (.bl false))) .nil) .nil) (.cons (.ite (.not (.val (.prim .all (.cons (.lc (.call 19 (.cons (.call 24 (.cons (.cst (.int 1)) (.cons (.vr 3) (.cons (.vr 7) .nil)))) (.cons (.prim .inn (.cons (.vr 7) (.cons (.vr 4) .nil))) .nil))) [7] true (.seq (.call 20 .nil)) .yes [7]) .nil)))) (.cons (.ret (.cst (.bl false))) .nil) .nil) .nil))))
def cBad : Sms := (.cons (.ite (.val (.prim .ne (.cons (.lc (.call 24 (.cons (.vr 8) (.cons (.vr 5) (.cons (.cst (.str "mono")) .nil)))) [8] true (.seq (.prim .lst (.cons (.cst (.int 0)) (.cons (.cst (.int 1)) .nil)))) .yes [8]) (.cons (.prim .mul (.cons (.prim .lst (.cons (.cst (.str "<malformed>")) .nil)) (.cons (.cst (.int 2)) .nil))) .nil)))) (.cons (.ret (.cst (.bl false))) .nil) .nil) .nil)
def eWords : Ex := (.lc (.prim .ix (.cons (.call 20 .nil) (.cons (.callM 18 1 (.cons (.cst (.int 20)) .nil)) .nil))) [6] true (.rng1 (.prim .add (.cons (.cst (.int 1)) (.cons (.callM 18 1 (.cons (.cst (.int 2)) .nil)) .nil)))) .yes [6])
def eSame : Ex := (.lc (.vr 7) [7] true (.seq (.call 20 .nil)) (.val (.prim .inn (.cons (.vr 7) (.cons (.vr 4) .nil)))) [7])
def eSays : Ex := (.lc (.call 19 (.cons (.call 24 (.cons (.cst (.int 1)) (.cons (.vr 3) (.cons (.vr 7) .nil)))) (.cons (.prim .inn (.cons (.vr 7) (.cons (.vr 4) .nil))) .nil))) [7] true (.seq (.call 20 .nil)) .yes [7])
def eBad : Ex := (.lc (.call 24 (.cons (.vr 8) (.cons (.vr 5) (.cons (.cst (.str "mono")) .nil)))) [8] true (.seq (.prim .lst (.cons (.cst (.int 0)) (.cons (.cst (.int 1)) .nil)))) .yes [8])
def eLast : Ex := (.lc (.prim .eq (.cons (.call 24 (.cons (.cst (.int 1)) (.cons (.prim .tup (.cons (.cst (.str "mono")) .nil)) (.cons (.vr 5) .nil)))) (.cons (.cst (.str "<malformed>")) .nil))) [5] true (.seq (.prim .lst (.cons (.cst (.str "")) (.cons (.cst (.str "MONO")) (.cons (.cst .non) (.cons (.cst (.int 3)) (.cons (.prim .tup (.cons (.cst (.str "mono")) .nil)) (.cons (.cst (.bl true)) .nil)))))))) .yes [5])

structure Hyp (M : Mo) (L : D) (led : List (Fin 20) → List (Fin 20)) : Prop where
  draw : ∃ xs, M.fn 17 [L] = .ok (.lst xs) [] ∧ Dr xs
  take : ∀ xs many, Dr xs → 0 < many → divOk many = true → ∃ r xs', M.fn 18 [.lst xs, .int many] = .ok (.int r) xs' ∧ 0 ≤ r ∧ r < many ∧ Dr xs'
  words : M.fn 20 [] = .ok (.lst (all20.map wD)) []
  ledf : ∀ ws : List (Fin 20), 1 ≤ ws.length → ws.length ≤ 2 → M.fn 23 [.tup (ws.map wD)] = .ok (.lst ((led ws).map wD)) []
  ask0 : ∀ ws : List (Fin 20), 1 ≤ ws.length → ws.length ≤ 2 → M.fn 24 [.int 0, .tup (ws.map wD), .str ""] = .ok (.tup ((forced (led ws)).map wD)) []
  ask1 : ∀ (ws : List (Fin 20)) (i : Fin 20), 1 ≤ ws.length → ws.length ≤ 2 → M.fn 24 [.int 1, .tup (ws.map wD), wD i] = .ok (.bl ((led ws).contains i)) []
  says : ∀ b c : Bool, M.fn 19 [.bl b, .bl c] = .ok (.bl (b == c)) []
theorem at_w {r : Int} (h0 : 0 ≤ r) (h1 : r < 20) : ∃ i, L2.atI (all20.map wD) r = some (wD i) := by
  have hl : (all20.map wD).length = 20 := by rw [List.length_map]; rfl
  unfold L2.atI L2.ixN
  rw [if_pos h0, if_pos (by rw [hl]; omega)]
  show ∃ i, (all20.map wD)[r.toNat]? = some (wD i)
  rw [List.getElem?_map]
  have : r.toNat < all20.length := by show r.toNat < 20; omega
  rw [List.getElem?_eq_getElem this]
  exact ⟨_, rfl⟩
theorem ne_self {F : List (Fin 20)} : prim .ne [.tup (F.map wD), .tup (F.map wD)] = some (.bl false) := by
  have e : ∀ F : List (Fin 20), deqs (F.map wD) (F.map wD) = true := by
    intro F
    induction F with
    | nil => rfl
    | cons i F ih =>
      show (deq (wD i) (wD i) && deqs (F.map wD) (F.map wD)) = true
      rw [ih, wD_eq]; simp
  have a := all_sh 59 F
  show (if shal 60 (.tup (F.map wD)) && shal 60 (.tup (F.map wD)) then some (D.bl (if true then !deq (.tup (F.map wD)) (.tup (F.map wD)) else _)) else none) = _
  have s : shal 60 (.tup (F.map wD)) = true := a
  have d : deq (.tup (F.map wD)) (.tup (F.map wD)) = true := e F
  rw [s, d]; rfl
section
variable {M : Mo} {L : D} {led : List (Fin 20) → List (Fin 20)}
/-- the words drawn -/
theorem words_drawn (h : Hyp M L led) {xs : List D} (hx : Dr xs) (t : D) : ∃ (ws : List (Fin 20)) (xs' : List D), Dr xs' ∧ 1 ≤ ws.length ∧ ws.length ≤ 2 ∧ ev M eWords [.v L, .o xs, .v t, .no, .no, .no, .no, .no, .no] = .ok (.lst (ws.map wD)) [.v L, .o xs', .v t, .no, .no, .no, .no, .no, .no] := by
  obtain ⟨r, xs1, e1, r0, r1, hx1⟩ := h.take xs 2 hx (by decide) (by decide +kernel)
  have hn : ∃ n : Nat, (1 + r) = (n : Int) ∧ 1 ≤ n ∧ n ≤ 2 := ⟨(1 + r).toNat, by omega, by omega, by omega⟩
  obtain ⟨n, hn, n1, n2⟩ := hn
  have ok : okRng 0 (n : Int) = true := by
    match n, n1, n2 with
    | 1, _, _ => decide +kernel
    | 2, _, _ => decide +kernel
  have rl : (rngD 0 (n : Int)).length = n := by
    unfold rngD
    rw [List.length_map, List.length_range]; omega
  have it : evI M (.rng1 (.prim .add (.cons (.cst (.int 1)) (.cons (.callM 18 1 (.cons (.cst (.int 2)) .nil)) .nil)))) [.v L, .o xs, .v t, .no, .no, .no, .no, .no, .no] = .ok (rngD 0 (n : Int)) [.v L, .o xs1, .v t, .no, .no, .no, .no, .no, .no] := by
    iterate 9 (try walk_at "pe"); (try simp only [e1, hn, ok])
  obtain ⟨acc, ρ', e2, hI⟩ := lcS_inv (vs := [6]) (tg := [6]) (one := true) (c := evT M .yes) (e := ev M (.prim .ix (.cons (.call 20 .nil) (.cons (.callM 18 1 (.cons (.cst (.int 20)) .nil)) .nil))))
    (fun rem acc ρ => ∃ (ws : List (Fin 20)) (xs : List D) (c : Cell), acc = ws.map wD ∧ ws.length + rem.length = n ∧ Dr xs ∧ ρ = [.v L, .o xs, .v t, .no, .no, .no, c, .no, .no])
    (fun x rem acc ρ hI => (by
      obtain ⟨ws, xs, c, rfl, hl, hx, rfl⟩ := hI
      obtain ⟨r, xs', e1, r0, r1, hx1⟩ := h.take xs 20 hx (by decide) (by decide +kernel)
      obtain ⟨i, hi⟩ := at_w r0 r1
      have hw := h.words
      refine ⟨_, rfl, true, _, rfl, (fun e => by cases e), fun _ => ⟨wD i, [.v L, .o xs', .v t, .no, .no, .no, .v x, .no, .no], ?_, ?_, ws ++ [i], xs', .v x, map_app ws i, ?_, hx1, rfl⟩⟩
      · show ev M _ [.v L, .o xs, .v t, .no, .no, .no, .v x, .no, .no] = _
        iterate 9 (try walk_at "pe"); (try simp only [hw, e1, hi])
      · rw [List.length_map, sizeLine_eq]; rw [List.length_cons] at hl; omega
      · rw [List.length_append, List.length_singleton]; rw [List.length_cons] at hl; omega))
    (rngD 0 (n : Int)) [] [.v L, .o xs1, .v t, .no, .no, .no, .no, .no, .no] ⟨[], xs1, .no, rfl, by rw [rl]; simp, hx1, rfl⟩
  obtain ⟨ws, xs', c, rfl, hl, hx', rfl⟩ := hI
  rw [List.length_nil] at hl
  refine ⟨ws, xs', hx', by omega, by omega, ?_⟩
  unfold eWords
  show (evI M _ _).bind _ = _
  rw [it, bind_ok, e2, bind_ok]
  rfl
theorem same_run (h : Hyp M L led) (ws : List (Fin 20)) (xs : List D) (t : D) : ev M eSame [.v L, .o xs, .v t, .v (.tup (ws.map wD)), .v (.lst ((led ws).map wD)), .no, .no, .no, .no] = .ok (.lst ((forced (led ws)).map wD)) [.v L, .o xs, .v t, .v (.tup (ws.map wD)), .v (.lst ((led ws).map wD)), .no, .no, .no, .no] := by
  have hw := h.words
  unfold eSame forced
  refine ev_lcI (φ := wD) (p := fun i => (led ws).contains i) (is := all20) ?_ (fun i _ => ⟨?_, fun _ => ?_⟩) (sz_ok (by decide)) (by simp) (fun ys e => by cases (show Cell.no = Cell.o ys from e))
  · iterate 9 (try walk_at "pe"); (try simp only [hw])
  · iterate 9 (try walk_at "pe"); (try simp only [in_l])
  · walk_at "pe"
theorem says_run (h : Hyp M L led) (ws : List (Fin 20)) (w1 : 1 ≤ ws.length) (w2 : ws.length ≤ 2) (xs : List D) (t : D) : ev M eSays [.v L, .o xs, .v t, .v (.tup (ws.map wD)), .v (.lst ((led ws).map wD)), .no, .no, .no, .no] = .ok (.lst (all20.map fun _ => D.bl true)) [.v L, .o xs, .v t, .v (.tup (ws.map wD)), .v (.lst ((led ws).map wD)), .no, .no, .no, .no] := by
  have hw := h.words
  unfold eSays
  refine ev_lcI0 (φ := wD) (is := all20) ?_ (fun i _ => ?_) (sz_ok (by decide)) (by simp) (fun ys e => by cases (show Cell.no = Cell.o ys from e))
  · iterate 9 (try walk_at "pe"); (try simp only [hw])
  · have a := h.ask1 ws i w1 w2
    have b := h.says ((led ws).contains i) ((led ws).contains i)
    rw [beq_self_eq_true] at b
    iterate 9 (try walk_at "pe"); (try simp only [a, b, in_l])
theorem turn_run (h : Hyp M L led) {xs : List D} (hx : Dr xs) (t : D) : ∃ xs' c3 c4, Dr xs' ∧ execs M cTurn [.v L, .o xs, .v t, .no, .no, .no, .no, .no, .no] = .ok .nx [.v L, .o xs', .v t, c3, c4, .no, .no, .no, .no] := by
  obtain ⟨ws, xs', hx', w1, w2, e1⟩ := words_drawn h hx t
  have e2 := h.ledf ws w1 w2
  have e3 := h.ask0 ws w1 w2
  have e4 := same_run h ws xs' t
  have e5 := says_run h ws w1 w2 xs' t
  have e6 : prim .all [.lst (all20.map fun _ => D.bl true)] = some (.bl true) := rfl
  refine ⟨xs', .v (.tup (ws.map wD)), .v (.lst ((led ws).map wD)), hx', ?_⟩
  unfold eWords at e1
  unfold eSame at e4
  unfold eSays at e5
  unfold cTurn
  iterate 12 (try walk_at "pe"); (try simp only [e1, e2, e3, e4, e5, e6, ne_self, Bool.not_true])
end
end PF.PG

set_option Elab.async false
set_option linter.all false
set_option maxRecDepth 100000
set_option maxHeartbeats 4000000
/-! PK05g: the law's run, to its end. -/
namespace PF.PG
open PySem PySem.Spec PyProof.Rows PF
local macro_rules | `(tactic| walk_at "pe") => `(tactic| simp only [ev_cst, ev_var, ev_rd, ev_vr, ev_prim, ev_chain, ev_tst, ev_meth, ev_orV, ev_andV, ev_ite, ev_call, ev_callB, ev_callM, evs_nil, evs_cons, evT_yes, evT_val, evT_not, evT_and, evT_or, evI_seq, evI_rng1,
  exec_asg, exec_unp, exec_par, exec_setIx, exec_app, exec_ext, exec_aug, exec_expr, exec_ret, exec_retF, exec_retN, exec_ite, exec_for, exec_raise, exec_try, exec_pass, exec_cont, execs_nil, execs_cons,
  get0, getS, set0, setS, kVar_v, kVar_o, kRd_v, kRd_o, kVr_v, kBl_t, kBl_f, kCh_t, kCh_f, kB_ok, kB_exc, kM_ok, kO_o, kV_v, kSq_nx, kSq_ct, kSq_rt, kSq_exc, kIx_int, kN_some, kEx_lst, kUn_tup, kOp_some, kAu_some, kRF_lst, kTr_ok, kTr_exc, kNe_ok, kR1_int, frV_ok, frV_exc, tr_bl, tr_int, tr_non, tr_lst, tr_tup, own_f, own_t, own_int, own_tup, it_lst, it_tup, it_scr, bt_one, bt_row, sa_nil, sa_cons, sp_nil, sp_cons, mk_no, mk_v, mk_o, mk_nil, bind_ok, bind_exc, bind_bad, rOf_some, rOf_none,
  p_add, p_sub, p_mod, p_neg, p_eq, p_ne, p_lt, p_le, p_gt, p_ge, p_ixL, p_ixT, p_lenL, p_lenT, p_lenS, p_abs, p_int, t_0, t_1, t_2, t_3, t_4, l_0, l_1, l_2, l_3, l_4, at_0, at_1, at_2, at_3, ix_0, ix_1, ix_2, ix_3, List.set_cons_zero, List.set_cons_succ, p_tupleL, p_tupleT, p_listL, p_listT, if_true, if_false, reduceIte, Int.reduceLT, Bool.not_true, Bool.not_false, argCells, List.cons_append, List.nil_append])

def badD : List D := [.tup [], .tup [.str "mono", .str "fix", .str "lat"], .lst [.str "mono"], .str "mono", .non, .tup [.str "MONO"], .tup [.str ""], .tup [.non], .tup [.str "mono", .int 3], .tup [.tup [.str "mono"]]]
def bad2D : List D := [.str "", .str "MONO", .non, .int 3, .tup [.str "mono"], .bl true]
def mal : D := .str "<malformed>"
structure Hyp2 (M : Mo) : Prop where
  bad : ∀ d ∈ badD, ∀ k : Int, k = 0 ∨ k = 1 → M.fn 24 [.int k, d, .str "mono"] = .ok mal []
  bad2 : ∀ d ∈ bad2D, M.fn 24 [.int 1, .tup [.str "mono"], d] = .ok mal []
  arr : ∃ LA, M.fn 9 [] = .ok (.tup LA) [] ∧ prim .sorted [.lst (RA.map rD)] = some (.lst LA) ∧ prim .ne [.tup LA, .tup LA] = some (.bl false)
  jnt : ∃ LA, M.fn 10 [] = .ok (.tup LA) [] ∧ prim .sorted [.lst (RJ.map rD)] = some (.lst LA) ∧ prim .ne [.tup LA, .tup LA] = some (.bl false)
  larr : M.fn 21 [] = .ok (.lst (RA.map rD)) []
  ljnt : M.fn 22 [] = .ok (.lst (RJ.map rD)) []
section
variable {M : Mo} {L : D} {led : List (Fin 20) → List (Fin 20)}
theorem bad_run (h : Hyp2 M) (xs : List D) (c2 : Cell) {d : D} (hd : d ∈ badD) : ev M eBad [.v L, .o xs, c2, .no, .no, .v d, .no, .no, .no] = .ok (.lst [mal, mal]) [.v L, .o xs, c2, .no, .no, .v d, .no, .no, .no] := by
  have e := ev_lcI0 (M := M) (it := .seq (.prim .lst (.cons (.cst (.int 0)) (.cons (.cst (.int 1)) .nil)))) (e := .call 24 (.cons (.vr 8) (.cons (.vr 5) (.cons (.cst (.str "mono")) .nil)))) (i := 8) (g := fun _ : Int => mal) (φ := D.int) (is := [0, 1])
    (ρ := [.v L, .o xs, c2, .no, .no, .v d, .no, .no, .no]) (ρ0 := [.v L, .o xs, c2, .no, .no, .v d, .no, .no, .no]) (by iterate 9 (try walk_at "pe"); (try rfl)) (fun k hk => ?_) (sz_ok (by decide)) (by simp) (fun ys e => by cases (show Cell.no = Cell.o ys from e))
  · exact e
  · have b := h.bad d hd k (by simpa using hk)
    show ev M _ [.v L, .o xs, c2, .no, .no, .v d, .no, .no, .v (.int k)] = _
    iterate 9 (try walk_at "pe"); (try simp only [b])
theorem mal2 : prim .mul [.lst [mal], .int 2] = some (.lst [mal, mal]) := by kernel_rfl
theorem mal_ne : prim .ne [.lst [mal, mal], .lst [mal, mal]] = some (.bl false) := by kernel_rfl
theorem mal_eq : prim .eq [mal, mal] = some (.bl true) := by kernel_rfl
theorem bads_run (h : Hyp2 M) (xs : List D) : ∀ ds : List D, (∀ d ∈ ds, d ∈ badD) → forS [5] true (execs M cBad) ds [.v L, .o xs, .no, .no, .no, .no, .no, .no, .no] = .ok .nx [.v L, .o xs, .no, .no, .no, .no, .no, .no, .no] := by
  intro ds
  induction ds with
  | nil => intro _; rfl
  | cons d ds ih =>
    intro hd
    have e := bad_run (L := L) h xs .no (hd d List.mem_cons_self)
    unfold forS
    have bt : bindTg [5] true d [.v L, .o xs, .no, .no, .no, .no, .no, .no, .no] = some [.v L, .o xs, .no, .no, .no, .v d, .no, .no, .no] := rfl
    rw [bt]
    have ex : execs M cBad [.v L, .o xs, .no, .no, .no, .v d, .no, .no, .no] = .ok .nx [.v L, .o xs, .no, .no, .no, .v d, .no, .no, .no] := by
      unfold eBad at e
      have em : (D.str "<malformed>") = mal := rfl
      unfold cBad
      iterate 9 (try walk_at "pe"); (try simp only [e, em, mal2, mal_ne])
    simp only [ex]
    exact ih fun x hx => hd x (List.mem_cons_of_mem _ hx)
theorem last_run (h : Hyp2 M) (xs : List D) : ev M eLast [.v L, .o xs, .no, .no, .no, .no, .no, .no, .no] = .ok (.lst (bad2D.map fun _ => D.bl true)) [.v L, .o xs, .no, .no, .no, .no, .no, .no, .no] := by
  unfold eLast
  refine ev_lcI0 (φ := fun d : D => d) (is := bad2D) ?_ (fun d hd => ?_) (sz_ok (by decide)) (by simp) (fun ys e => by cases (show Cell.no = Cell.o ys from e))
  · have e : prim .lst bad2D = some (.lst bad2D) := (if_pos (len_ok (xs := bad2D) (by decide)) : (if bad2D.length ≤ sizeLine then some (D.lst bad2D) else none) = _)
    unfold bad2D at e ⊢
    iterate 9 (try walk_at "pe"); (try simp only [e, List.map_cons, List.map_nil])
  · have b := h.bad2 d hd
    have em : (D.str "<malformed>") = mal := rfl
    show ev M _ [.v L, .o xs, .no, .no, .no, .v d, .no, .no, .no] = _
    iterate 9 (try walk_at "pe"); (try simp only [b, em, mal_eq])
theorem turns_run (h : Hyp M L led) {xs : List D} (hx : Dr xs) : ∃ xs', forS [2] true (execs M cTurn) (rngD 0 4) [.v L, .o xs, .no, .no, .no, .no, .no, .no, .no] = .ok .nx [.v L, .o xs', .no, .no, .no, .no, .no, .no, .no] := by
  have z : ∃ ρ', forS [2] true (execs M cTurn) (rngD 0 4) [.v L, .o xs, .no, .no, .no, .no, .no, .no, .no] = .ok .nx ρ' ∧ ∃ xs', Dr xs' ∧ ρ' = [.v L, .o xs', .no, .no, .no, .no, .no, .no, .no] := by
    refine forS_inv (fun _ ρ => ∃ xs', Dr xs' ∧ ρ = [.v L, .o xs', .no, .no, .no, .no, .no, .no, .no]) (fun x rem ρ hI => ?_) ⟨xs, hx, rfl⟩
    obtain ⟨xs1, hx1, rfl⟩ := hI
    obtain ⟨xs2, c3, c4, hx2, e⟩ := turn_run h hx1 x
    exact ⟨_, rfl, _, .inl e, xs2, hx2, rfl⟩
  obtain ⟨ρ', e, xs', _, rfl⟩ := z
  exact ⟨xs', e⟩
theorem law_core (h : Hyp M L led) (h2 : Hyp2 M) : ∃ ρ, execs M co25 [.v L, .no, .no, .no, .no, .no, .no, .no, .no] = .ok (.rt (.bl true)) ρ := by
  obtain ⟨xs, ed, hx⟩ := h.draw
  obtain ⟨xs', e1⟩ := turns_run h hx
  obtain ⟨LA, a1, a2, a3⟩ := h2.arr
  obtain ⟨LJ, b1, b2, b3⟩ := h2.jnt
  have e2 := bads_run (L := L) h2 xs' badD fun _ hd => hd
  have e3 := last_run (L := L) h2 xs'
  have la := h2.larr
  have lj := h2.ljnt
  have eb : prim .lst badD = some (.lst badD) := (if_pos (len_ok (xs := badD) (by decide)) : (if badD.length ≤ sizeLine then some (D.lst badD) else none) = _)
  have e6 : prim .all [.lst (bad2D.map fun _ => D.bl true)] = some (.bl true) := rfl
  have ok4 : okRng 0 4 = true := by decide +kernel
  unfold badD at eb e2
  unfold cTurn at e1
  unfold cBad at e2
  unfold eLast at e3
  refine ⟨[.v L, .o xs', .no, .no, .no, .no, .no, .no, .no], ?_⟩
  unfold co25
  iterate 16 (try walk_at "pe"); (try simp only [ed, la, lj, a1, a2, a3, b1, b2, b3, ok4, e1, eb, e2, e3, e6])
end
end PF.PG

set_option Elab.async false
set_option linter.all false
set_option maxRecDepth 100000
set_option maxHeartbeats 4000000
/-! PK05h: the law holds of the evaluator. -/
namespace PF.PG
open PySem PySem.Spec PyProof.Rows PF
local macro_rules | `(tactic| walk_at "pe") => `(tactic| simp only [ev_cst, ev_var, ev_rd, ev_vr, ev_prim, ev_chain, ev_tst, ev_meth, ev_orV, ev_andV, ev_ite, ev_call, ev_callB, ev_callM, evs_nil, evs_cons, evT_yes, evT_val, evT_not, evT_and, evT_or, evI_seq, evI_rng1,
  exec_asg, exec_unp, exec_par, exec_setIx, exec_app, exec_ext, exec_aug, exec_expr, exec_ret, exec_retF, exec_retN, exec_ite, exec_for, exec_raise, exec_try, exec_pass, exec_cont, execs_nil, execs_cons,
  get0, getS, set0, setS, kVar_v, kVar_o, kRd_v, kRd_o, kVr_v, kBl_t, kBl_f, kCh_t, kCh_f, kB_ok, kB_exc, kM_ok, kO_o, kV_v, kSq_nx, kSq_ct, kSq_rt, kSq_exc, kIx_int, kN_some, kEx_lst, kUn_tup, kOp_some, kAu_some, kRF_lst, kTr_ok, kTr_exc, kNe_ok, kR1_int, frV_ok, frV_exc, tr_bl, tr_int, tr_non, tr_lst, tr_tup, own_f, own_t, own_int, own_tup, it_lst, it_tup, it_scr, bt_one, bt_row, sa_nil, sa_cons, sp_nil, sp_cons, mk_no, mk_v, mk_o, mk_nil, bind_ok, bind_exc, bind_bad, rOf_some, rOf_none,
  p_add, p_sub, p_mod, p_neg, p_eq, p_ne, p_lt, p_le, p_gt, p_ge, p_ixL, p_ixT, p_lenL, p_lenT, p_lenS, p_abs, p_int, t_0, t_1, t_2, t_3, t_4, l_0, l_1, l_2, l_3, l_4, at_0, at_1, at_2, at_3, ix_0, ix_1, ix_2, ix_3, List.set_cons_zero, List.set_cons_succ, p_tupleL, p_tupleT, p_listL, p_listT, if_true, if_false, reduceIte, Int.reduceLT, Bool.not_true, Bool.not_false, argCells, List.cons_append, List.nil_append])

theorem ask_c0 (M : Mo) (W F s : D) (h : M.fn 14 [W] = .ok F []) : runFn M 3 false false co24 [.int 0, W, s] = .ok F [] := by
  refine run_rt (ρ := [.v (.int 0), .v W, .v s]) ?_
  show execs M co24 [.v (.int 0), .v W, .v s] = _
  have z : ((0 : Int) == 0) = true := rfl
  unfold co24
  iterate 9 (try walk_at "pe"); (try simp only [h, z])
theorem ask_c1 (M : Mo) (W F s : D) (h : M.fn 15 [W, s] = .ok F []) : runFn M 3 false false co24 [.int 1, W, s] = .ok F [] := by
  refine run_rt (ρ := [.v (.int 1), .v W, .v s]) ?_
  show execs M co24 [.v (.int 1), .v W, .v s] = _
  have z : ((1 : Int) == 0) = false := rfl
  unfold co24
  iterate 9 (try walk_at "pe"); (try simp only [h, z])
theorem says_c (M : Mo) (b c : Bool) : runFn M 2 false false co19 [.bl b, .bl c] = .ok (.bl (b == c)) [] := by
  refine run_rt (ρ := [.v (.bl b), .v (.bl c)]) ?_
  show execs M co19 [.v (.bl b), .v (.bl c)] = _
  have z : prim (.isinst .bool) [.bl b] = some (.bl true) := rfl
  have z2 : prim .eq [.bl b, .bl c] = some (.bl (b == c)) := rfl
  unfold co19
  iterate 9 (try walk_at "pe"); (try simp only [z, z2])
theorem forced_eq {g f : List (Fin 20)} (h : ∀ i, g.contains i = f.contains i) : forced g = forced f := by
  unfold forced
  congr 1
  funext i
  exact h i
theorem hyp (ns : List Int) (hn : ns.length ≤ 63) : Hyp (Sn 5) (.scr (ns.map D.int)) (passN 20) where
  draw := by
    obtain ⟨xs, e, h⟩ := draw_spec (Sn 4) ns hn
    exact ⟨xs, (fn17 4 _).trans e, h⟩
  take xs many h1 h2 h3 := by
    obtain ⟨r, xs', e, h⟩ := take_spec (Sn 4) h1 h2 h3
    exact ⟨r, xs', (fn18 4 _).trans e, h⟩
  words := lwords 4
  ledf ws _ h2 := led_ok 3 ws h2
  ask0 ws h1 h2 := by
    obtain ⟨g, hg, he⟩ := agree ws h1 h2
    rw [← forced_eq he]
    exact (fn24 4 _).trans (ask_c0 (Sn 4) _ _ _ (forced_ok 1 ws g h1 h2 hg))
  ask1 ws i h1 h2 := by
    obtain ⟨g, hg, he⟩ := agree ws h1 h2
    rw [← he]
    exact (fn24 4 _).trans (ask_c1 (Sn 4) _ _ _ (force_ok 0 ws g h1 h2 hg i))
  says b c := (fn19 4 _).trans (says_c (Sn 4) b c)
def isMal : Fr → Bool
  | .ok (.str s) [] => s == ("<malformed>" : Str)
  | _ => false
theorem isMal_ok {r : Fr} (h : isMal r = true) : r = .ok mal [] := by
  unfold isMal at h
  split at h
  · rename_i s
    have := eq_of_beq h
    rw [this]; rfl
  · cases h
theorem bads : (badD.all fun d => [(0 : Int), 1].all fun k => isMal ((Sn 5).fn 24 [.int k, d, .str "mono"])) = true := by kernel_rfl
theorem bads2 : (bad2D.all fun d => isMal ((Sn 5).fn 24 [.int 1, .tup [.str "mono"], d])) = true := by kernel_rfl
theorem ret_ts (M : Mo) (d : D) (LA : List D) (h : prim .sorted [d] = some (.lst LA)) : runFn M 0 false false (.cons (.ret (.prim .tuple (.cons (.prim .sorted (.cons (.cst d) .nil)) .nil))) .nil) [] = .ok (.tup LA) [] := by
  have e : ev M (.prim .sorted (.cons (.cst d) .nil)) [] = .ok (.lst LA) [] := by
    show rOf (prim .sorted [d]) [] = _
    rw [h]; rfl
  have e2 : ev M (.prim .tuple (.cons (.prim .sorted (.cons (.cst d) .nil)) .nil)) [] = .ok (.tup LA) [] := by
    show (((ev M (.prim .sorted (.cons (.cst d) .nil)) []).bind fun d ρ => (evs M .nil ρ).bind fun ds ρ => .ok (d :: ds) ρ).bind fun ds ρ => rOf (prim .tuple ds) ρ) = _
    rw [e]; rfl
  have e3 : exec M (.ret (.prim .tuple (.cons (.prim .sorted (.cons (.cst d) .nil)) .nil))) [] = .ok (.rt (.tup LA)) [] := by
    show ((ev M (.prim .tuple (.cons (.prim .sorted (.cons (.cst d) .nil)) .nil)) []).bind fun d ρ => .ok (Fl.rt d) ρ) = _
    rw [e2]; rfl
  refine run_rt (ρ := []) ?_
  show (match exec M (.ret (.prim .tuple (.cons (.prim .sorted (.cons (.cst d) .nil)) .nil))) [] with
    | .ok .nx ρ => execs M .nil ρ
    | x => x) = _
  rw [e3]
theorem deqs_w (F : List (Fin 20)) : deqs (F.map wD) (F.map wD) = true := by
  induction F with
  | nil => rfl
  | cons i F ih =>
    show (deq (wD i) (wD i) && deqs (F.map wD) (F.map wD)) = true
    rw [ih, wD_eq]; simp
theorem rD_row (r : Rule) : rD r = .tup ((r.1 ++ [r.2]).map wD) := by
  unfold rD
  rw [List.map_append]; rfl
theorem ne_rules {xs : List D} (h : ∀ x ∈ xs, ∃ r : Rule, x = rD r) : prim .ne [.tup xs, .tup xs] = some (.bl false) := by
  have s : shal 60 (.tup xs) = true := by
    show xs.all (shal 59) = true
    rw [List.all_eq_true]
    intro x hx
    obtain ⟨r, rfl⟩ := h x hx
    rw [rD_row]
    exact all_sh 58 _
  have e : ∀ xs : List D, (∀ x ∈ xs, ∃ r : Rule, x = rD r) → deqs xs xs = true := by
    intro xs
    induction xs with
    | nil => intro _; rfl
    | cons x xs ih =>
      intro h
      show (deq x x && deqs xs xs) = true
      obtain ⟨r, rfl⟩ := h x List.mem_cons_self
      rw [ih fun y hy => h y (List.mem_cons_of_mem _ hy), rD_row]
      show (deqs ((r.1 ++ [r.2]).map wD) ((r.1 ++ [r.2]).map wD) && true) = true
      rw [deqs_w]; rfl
  have d : deq (.tup xs) (.tup xs) = true := e xs h
  show (if shal 60 (.tup xs) && shal 60 (.tup xs) then some (D.bl (if true then !deq (.tup xs) (.tup xs) else _)) else none) = _
  rw [s, d]; rfl
theorem srt_of {xs : List D} (h : (xs.all (shal 40) && (xs.all tupNe || xs.all flatNe) && (xs.all fun x => xs.all fun y => PySem.W.alike (toPy x) (toPy y))) = true) : srtD xs = some (.lst (xs.mergeSort leD)) := by
  unfold srtD
  rw [if_pos h]
theorem condA : ((RA.map rD).all (shal 40) && ((RA.map rD).all tupNe || (RA.map rD).all flatNe) && ((RA.map rD).all fun x => (RA.map rD).all fun y => PySem.W.alike (toPy x) (toPy y))) = true := by kernel_rfl
theorem condJ : ((RJ.map rD).all (shal 40) && ((RJ.map rD).all tupNe || (RJ.map rD).all flatNe) && ((RJ.map rD).all fun x => (RJ.map rD).all fun y => PySem.W.alike (toPy x) (toPy y))) = true := by kernel_rfl
theorem srt_rules (R : List Rule) : ∀ x ∈ (R.map rD).mergeSort leD, ∃ r : Rule, x = rD r := fun x hx => by
  obtain ⟨r, _, e⟩ := List.mem_map.mp (List.mem_mergeSort.mp hx)
  exact ⟨r, e.symm⟩
theorem hyp2 : Hyp2 (Sn 5) where
  bad d hd k hk := by
    have b := List.all_eq_true.mp (List.all_eq_true.mp bads d hd) k (by rcases hk with rfl | rfl <;> simp)
    exact isMal_ok b
  bad2 d hd := isMal_ok (List.all_eq_true.mp bads2 d hd)
  arr := by
    refine ⟨(RA.map rD).mergeSort leD, (fn9 4 _).trans ?_, srt_of condA, ne_rules (srt_rules RA)⟩
    refine ret_ts (Sn 4) k_ARROWS _ ?_
    rw [arrows_eq]
    exact srt_of condA
  jnt := by
    refine ⟨(RJ.map rD).mergeSort leD, (fn10 4 _).trans ?_, srt_of condJ, ne_rules (srt_rules RJ)⟩
    refine ret_ts (Sn 4) k_JOINT_ARROWS _ ?_
    rw [joint_eq]
    exact srt_of condJ
  larr := larrows 4
  ljnt := ljoint 4
theorem law_pure (ns : List Int) (hn : ns.length ≤ 63) : ∃ m, (semC whileS code 6).fn 25 [.scr (ns.map D.int)] = .ok (.bl true) m := by
  obtain ⟨ρ, e⟩ := law_core (hyp ns hn) hyp2
  exact ⟨[], (fn25 5 _).trans (run_rt (ρ := ρ) e)⟩
end PF.PG

set_option Elab.async false
set_option linter.all false
set_option maxRecDepth 100000
set_option maxHeartbeats 0
namespace PF.PG
open PySem PySem.Spec PyProof.Rows PF PySem.W PySem.Calls
def loose_0 : List Str := ["Fault", "Malformed", "WORDS", "check_word", "ARROWS", "JOINT_ARROWS", "arrows", "joint_arrows", "check_words", "ways_to", "derived", "all_forced", "does_force", "_law_draw", "_law_take", "_law_says", "_law_words", "_law_arrows", "_law_joint", "_law_led"]
def loose_1 : List Str := ["_law_ask"]
def loose : List Str := loose_0 ++ loose_1
abbrev RR : PySem.W.OpenRow := PySem.W.OpenLaw.row PySem.Challenge.rw_mapkinds_k05_arrows_of_kinds
abbrev hk : PySem.W.Hook := hookP 4 csts (faP defs free exs) (defs.map ddP)
def ob (s : PySem.W.SharedT) : AlP := obsPG 4 csts (faP defs free exs) (defs.map ddP) (HandSHeadRun.getT s)
theorem ob_eq (s : PySem.W.SharedT) : ob s = hk.obs s.abs := obsPG_eq (HandSHeadRun.getT_eq s)
theorem run (w : World) : HandSHeadRun.RunEq RR (PySem.W.view RR.prog [25]) hk ob 6000 loose w := by
  intro os; kernel_rfl
theorem law_is (pure : ∀ ns : List Int, ns.length ≤ 63 → ∃ m, (semC whileS code 6).fn 25 [.scr (ns.map D.int)] = .ok (.bl true) m) : PySem.Challenge.rw_mapkinds_k05_arrows_of_kinds.Holds := by
  w_on; o_law
  refine HandSHeadRun.head_any (r := RR) (H := hk) (ob := ob) (M := 6000) (loose := loose) (kwd := []) (q := PySem.W.view RR.prog [25]) (d := HandSHeadRun.topDef RR.prog 25)
    ob_eq (by kernel_rfl) (fun z => by kernel_rfl) run (by kernel_rfl) (by kernel_rfl) (by kernel_rfl) rfl (by first | assumption | decide +kernel)
    (by decide +kernel) ⟨rfl, rfl, rfl, rfl, rfl, by decide +kernel⟩ ?hw ?hc
  case hw => w_witness2
  case hc =>
    exact law_walk (l := PySem.Challenge.rw_mapkinds_k05_arrows_of_kinds) (n := 63) (k := 6) (x := "script") (dl := pd16) rfl (by decide) (by kernel_rfl) ⟨rfl, by decide, by decide⟩ oks lvs (by simp [defs, defs_0, defs_1]) (by decide) rfl (by kernel_rfl) rfl rfl pure
end PF.PG

set_option Elab.async false
set_option maxRecDepth 100000 in
theorem PySem.Challenge.cw_mapkinds_k05_arrows_of_kinds_holds : PySem.Challenge.rw_mapkinds_k05_arrows_of_kinds.Holds := by
  exact PF.PG.law_is PF.PG.law_pure
