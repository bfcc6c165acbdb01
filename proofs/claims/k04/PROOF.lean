import PyProof.Rows.All
import Wide.All
import OpenK.AllK
import Wide.FinOn
import KE.KStateDown
import Lean
import HandS.ForMost
import HandS.ForExc
import HandS.Style
import HandS.IsInst
import HandS.SetFor
import HandS.Base
import HandS.Call
import HandS.Ends
import HandS.More
import HandS.Words
import HandS.WordsExc
import HandS.Defaults
import HandS.Head0
import HandS.Head1
import HandS.Head2
import HandS.HeadEnd
import HandS.HeadHook1
import HandS.HeadHook2
import HandS.Conv
import HandS.TryOnly
import HandS.Zip
import HandS.Comp
import HandS.ExcInit
import HandS.ExcOwn
import HandS.ExcField
import HandS.ExcIs
import HandS.RaiseMore
import HandS.TupAny
import HandS.TupMul
import HandS.Deep
import PySem.Challenge.RW_stretchturns_k04_whole_turns
set_option Elab.async false
set_option linter.all false
/-! A small language with slots, its values (tuples, tracks and lists that nobody changes any more are values), a store of lists and dicts that may change, and a functional interpreter. -/
namespace Rf
open PySem

/-! ### values -/
inductive D where
  | non | bl (b : Bool) | int (i : Int) | str (s : Str)
  | tup (xs : List D) | lst (xs : List D)
  | scr (is : List Int)
  | trk (n k : Int) (r : Bool)
  | fn (f : Nat)
  | ref (i : Nat)
  deriving Inhabited

mutual
def D.beq : D → D → Bool
  | .non, .non => true
  | .bl a, .bl b => a == b
  | .int a, .int b => a == b
  | .str a, .str b => a == b
  | .tup a, .tup b => D.beqs a b
  | .lst a, .lst b => D.beqs a b
  | .scr a, .scr b => a == b
  | .trk a b c, .trk d e f => a == d && b == e && c == f
  | .fn a, .fn b => a == b
  | .ref a, .ref b => a == b
  | _, _ => false
def D.beqs : List D → List D → Bool
  | [], [] => true
  | x :: xs, y :: ys => D.beq x y && D.beqs xs ys
  | _, _ => false
end
mutual
theorem D.beq_ok : ∀ (a b : D), D.beq a b = true → a = b
  | .non, b, h => by cases b <;> simp_all [D.beq]
  | .bl x, b, h => by cases b <;> simp_all [D.beq]
  | .int x, b, h => by cases b <;> simp_all [D.beq]
  | .str x, b, h => by cases b <;> simp_all [D.beq]
  | .tup xs, b, h => by
    cases b <;> simp only [D.beq, Bool.false_eq_true] at h
    rename_i ys
    rw [D.beqs_ok xs ys h]
  | .lst xs, b, h => by
    cases b <;> simp only [D.beq, Bool.false_eq_true] at h
    rename_i ys
    rw [D.beqs_ok xs ys h]
  | .scr x, b, h => by cases b <;> simp_all [D.beq]
  | .trk n k r, b, h => by cases b <;> simp_all [D.beq]
  | .fn x, b, h => by cases b <;> simp_all [D.beq]
  | .ref x, b, h => by cases b <;> simp_all [D.beq]
theorem D.beqs_ok : ∀ (a b : List D), D.beqs a b = true → a = b
  | [], b, h => by cases b <;> simp_all [D.beqs]
  | x :: xs, b, h => by
    cases b with
    | nil => simp [D.beqs] at h
    | cons y ys =>
      simp only [D.beqs, Bool.and_eq_true] at h
      rw [D.beq_ok x y h.1, D.beqs_ok xs ys h.2]
end
mutual
theorem D.beq_self : ∀ (a : D), D.beq a a = true
  | .non => rfl
  | .bl x => by simp [D.beq]
  | .int x => by simp [D.beq]
  | .str x => by simp [D.beq]
  | .tup xs => by simp only [D.beq]; exact D.beqs_self xs
  | .lst xs => by simp only [D.beq]; exact D.beqs_self xs
  | .scr x => by simp [D.beq]
  | .trk n k r => by simp [D.beq]
  | .fn x => by simp [D.beq]
  | .ref x => by simp [D.beq]
theorem D.beqs_self : ∀ (a : List D), D.beqs a a = true
  | [] => rfl
  | x :: xs => by simp only [D.beqs, D.beq_self x, D.beqs_self xs, Bool.and_self]
end
instance : DecidableEq D := fun a b =>
  if h : D.beq a b = true then .isTrue (D.beq_ok a b h) else .isFalse fun e => h (e ▸ D.beq_self a)

/-! all references are below n -/
mutual
def D.lt (n : Nat) : D → Bool
  | .tup xs => D.lts n xs
  | .lst xs => D.lts n xs
  | .ref i => decide (i < n)
  | _ => true
def D.lts (n : Nat) : List D → Bool
  | [] => true
  | x :: xs => D.lt n x && D.lts n xs
end

/-! == as Python has it (of data) -/
mutual
def D.eqv : D → D → Bool
  | .non, .non => true
  | .bl a, .bl b => a == b
  | .bl a, .int b => (if a then 1 else 0) == b
  | .int a, .bl b => a == (if b then 1 else 0)
  | .int a, .int b => a == b
  | .str a, .str b => a == b
  | .tup a, .tup b => D.eqvs a b
  | .lst a, .lst b => D.eqvs a b
  | _, _ => false
def D.eqvs : List D → List D → Bool
  | [], [] => true
  | x :: xs, y :: ys => D.eqv x y && D.eqvs xs ys
  | _, _ => false
end
/-! plain data: what == looks through, nested at most k deep -/
def strOk (x : Str) : Bool := x.cps.all (· < 0x110000)
mutual
def D.shp : Nat → D → Bool
  | _, .non => true
  | _, .bl _ => true
  | _, .int _ => true
  | _, .str s => strOk s
  | 0, .tup _ => false
  | 0, .lst _ => false
  | k + 1, .tup xs => D.shps k xs
  | k + 1, .lst xs => D.shps k xs
  | _, _ => false
def D.shps : Nat → List D → Bool
  | _, [] => true
  | k, x :: xs => D.shp k x && D.shps k xs
end
def D.dat (d : D) : Bool := D.shp 8 d
def D.flat : D → Bool
  | .non => true
  | .bl _ => true
  | .int _ => true
  | .str _ => true
  | _ => false

/-! ### the store -/
inductive O where
  | lst (xs : List D) | fzl (xs : List D) | dct (kvs : List (D × D))
  deriving DecidableEq, Inhabited
abbrev Store := List O
def O.lt (n : Nat) : O → Bool
  | .lst xs => D.lts n xs
  | .fzl xs => D.lts 0 xs
  | .dct kvs => kvs.all fun p => D.lt n p.1 && D.lt n p.2

structure Ex where
  cls : Str
  fld : Option (Str × D)
  deriving DecidableEq, Inhabited

inductive R (α : Type) where
  | ok (a : α) (S : Store) | ex (e : Ex) (S : Store)
  deriving Inhabited

def bnd {α β : Type} (x : Option (R α)) (f : α → Store → Option (R β)) : Option (R β) :=
  match x with
  | some (.ok a S) => f a S
  | some (.ex e S) => some (.ex e S)
  | none => none
@[simp] theorem bnd_ok {α β : Type} (a : α) (S : Store) (f : α → Store → Option (R β)) : bnd (some (.ok a S)) f = f a S := rfl
@[simp] theorem bnd_ex {α β : Type} (e : Ex) (S : Store) (f : α → Store → Option (R β)) : bnd (some (.ex e S)) f = some (.ex e S) := rfl
@[simp] theorem bnd_none {α β : Type} (f : α → Store → Option (R β)) : bnd none f = none := rfl

/-- what a list or tuple holds, a list by its reference or as a value -/
def seqOf (S : Store) : D → Option (List D)
  | .tup xs => some xs
  | .lst xs => some xs
  | .ref i => match S[i]? with
    | some (.lst xs) => some xs
    | some (.fzl xs) => some xs
    | _ => none
  | _ => none
def lstOf (S : Store) : D → Option (List D)
  | .lst xs => some xs
  | .ref i => match S[i]? with
    | some (.lst xs) => some xs
    | some (.fzl xs) => some xs
    | _ => none
  | _ => none

/-- a list that goes into a tuple, a list or a dict: from now on a value, nobody changes it any more (where its items hold no references) -/
def frz (d : D) (S : Store) : D × Store :=
  match d with
  | .ref i => match S[i]? with
    | some (.lst xs) => if D.lts 0 xs then (.lst xs, S.set i (.fzl xs)) else (d, S)
    | some (.fzl xs) => (.lst xs, S)
    | _ => (d, S)
  | _ => (d, S)
def frzs : List D → Store → List D × Store
  | [], S => ([], S)
  | d :: ds, S =>
    let (x, S1) := frz d S
    let (xs, S2) := frzs ds S1
    (x :: xs, S2)

/-! what a value's data are, references looked up -/
mutual
def res0 (S : Store) : D → D
  | .tup xs => .tup (ress0 S xs)
  | .ref i => match S[i]? with
    | some (.lst xs) => .lst xs
    | some (.fzl xs) => .lst xs
    | _ => .ref i
  | d => d
def ress0 (S : Store) : List D → List D
  | [] => []
  | x :: xs => res0 S x :: ress0 S xs
end
def res (S : Store) (d : D) : Option D := if D.dat (res0 S d) then some (res0 S d) else none

/-- behind an expression that began with n objects: objects that nobody names go -/
def gc (n : Nat) (d : D) (S : Store) : D × Store :=
  if D.lt n d then (d, S.take n)
  else match d with
    | .ref i => match S[i]? with
      | some o => if O.lt n o then (.ref n, S.take n ++ [o]) else (d, S)
      | none => (d, S)
    | _ => (d, S)
def gcR (n : Nat) (r : Option (R D)) : Option (R D) :=
  match r with
  | some (.ok d S) => some (.ok (gc n d S).1 (gc n d S).2)
  | r => r

/-! ### operators -/
inductive Bop where | add | sub | mul | fdiv | mod | pow
  deriving DecidableEq, Inhabited
inductive Cop where | eq | ne | lt | le | gt | ge | is | isnot | isin | notin
  deriving DecidableEq, Inhabited
inductive Ty where | int | bool | str | tup | lst | track
  deriving DecidableEq, Inhabited

def maxLen : Nat := 1000000
/-- a new list -/
def newL (xs : List D) (S : Store) : Option (D × Store) := if xs.length ≤ maxLen then some (.ref S.length, S ++ [.lst xs]) else none
def newT (xs : List D) (S : Store) : Option (D × Store) := if xs.length ≤ maxLen then some (.tup xs, S) else none
def small64 (i : Int) : Bool := decide (-(2 ^ 64) < i) && decide (i < 2 ^ 64)

def binop : Bop → D → D → Store → Option (D × Store)
  | .add, .int a, .int b, S => some (.int (a + b), S)
  | .sub, .int a, .int b, S => some (.int (a - b), S)
  | .mul, .int a, .int b, S => if small64 a || small64 b then some (.int (a * b), S) else none
  | .fdiv, .int a, .int b, S => if decide (0 < b) && decide (b < 1073741824) then some (.int (a / b), S) else none
  | .mod, .int a, .int b, S => if decide (0 < b) then some (.int (a % b), S) else none
  | .pow, .int a, .int b, S => if decide (0 ≤ b) && decide (b ≤ 1000) && small64 a then some (.int (a ^ b.toNat), S) else none
  | .add, .str a, .str b, S => if a.length + b.length ≤ maxLen then some (.str (a ++ b), S) else none
  | .add, .tup a, .tup b, S => newT (a ++ b) S
  | .mul, .tup a, .int b, S => if decide (2 ≤ b) && decide (b ≤ 1000) && decide (a.length ≤ 1000) && !a.isEmpty then some (.tup (List.replicate b.toNat a).flatten, S) else none
  | .add, a, b, S => match lstOf S a, lstOf S b with
    | some xs, some ys => newL (xs ++ ys) S
    | _, _ => none
  | .mul, a, .int b, S => match lstOf S a with
    | some xs => if decide (0 ≤ b) && decide (b ≤ 1000) && decide (xs.length ≤ 1000) then newL (List.replicate b.toNat xs).flatten S else none
    | none => none
  | _, _, _, _ => none

/-- order of ints, texts, and of tuples and lists of ints -/
def intsOf : List D → Option (List Int)
  | [] => some []
  | .int i :: r => (intsOf r).map (i :: ·)
  | _ :: _ => none
def lexLt : List Int → List Int → Bool
  | [], [] => false
  | [], _ :: _ => true
  | _ :: _, [] => false
  | x :: xs, y :: ys => if x = y then lexLt xs ys else decide (x < y)
def ordLt : D → D → Option Bool
  | .int a, .int b => some (decide (a < b))
  | .tup a, .tup b => match intsOf a, intsOf b with
    | some x, some y => some (lexLt x y)
    | _, _ => none
  | _, _ => none
def ordLe : D → D → Option Bool
  | .int a, .int b => some (decide (a ≤ b))
  | _, _ => none

def isSing : D → Bool
  | .non => true
  | .bl _ => true
  | _ => false
def hasIn (x : D) (xs : List D) : Bool := xs.any fun y => D.eqv y x
def inop (S : Store) (a b : D) : Option Bool :=
  match b with
  | .tup xs => if D.flat a && xs.all D.flat then some (hasIn a xs) else none
  | _ => match res S b, res S a with
    | some (.lst ys), some x => some (hasIn x ys)
    | _, _ => none
def ordGt : D → D → Option Bool
  | .int a, .int b => some (decide (b < a))
  | _, _ => none
def ordGe : D → D → Option Bool
  | .int a, .int b => some (decide (b ≤ a))
  | _, _ => none
def cmpop (c : Cop) (a b : D) (S : Store) : Option D :=
  match c with
  | .eq => match res S a, res S b with
    | some x, some y => some (.bl (D.eqv x y))
    | _, _ => none
  | .ne => match res S a, res S b with
    | some x, some y => some (.bl (!D.eqv x y))
    | _, _ => none
  | .lt => (ordLt a b).map .bl
  | .gt => (ordGt a b).map .bl
  | .le => (ordLe a b).map .bl
  | .ge => (ordGe a b).map .bl
  | .is => match b with
    | .non => some (.bl (decide (a = .non)))
    | .bl k => match a with
      | .bl j => some (.bl (decide (j = k)))
      | _ => none
    | _ => none
  | .isnot => match b with
    | .non => some (.bl (!decide (a = .non)))
    | .bl k => match a with
      | .bl j => some (.bl (!decide (j = k)))
      | _ => none
    | _ => none
  | .isin => (inop S a b).map .bl
  | .notin => (inop S a b).map fun k => .bl (!k)

def isTy (S : Store) (d : D) (t : Ty) : Option Bool :=
  match d with
  | .non => some false
  | .bl _ => some (match t with | .bool => true | .int => true | _ => false)
  | .int _ => some (match t with | .int => true | _ => false)
  | .str _ => some (match t with | .str => true | _ => false)
  | .tup _ => some (match t with | .tup => true | _ => false)
  | .lst _ => some (match t with | .lst => true | _ => false)
  | .trk _ _ _ => some (match t with | .track => true | _ => false)
  | .ref i => match S[i]? with
    | some (.lst _) => some (match t with | .lst => true | _ => false)
    | some (.fzl _) => some (match t with | .lst => true | _ => false)
    | some (.dct _) => some false
    | none => none
  | .scr _ => some (match t with | .lst => true | _ => false)
  | .fn _ => none

def isTys (S : Store) (d : D) : List Ty → Option Bool
  | [] => some false
  | t :: ts => match isTy S d t, isTys S d ts with
    | some b, some c => some (b || c)
    | _, _ => none
/-- an index as Python has it -/
def ixOf (n : Nat) (i : Int) : Option Nat :=
  if 0 ≤ i then (if i < n then some i.toNat else none) else if -(n : Int) ≤ i then some (i + n).toNat else none
def index (a b : D) (S : Store) : Option D :=
  match b with
  | .int i => match seqOf S a with
    | some xs => (ixOf xs.length i).bind fun j => xs[j]?
    | none => none
  | _ => none
/-- the mutable list that a value is -/
def mutL (a : D) (S : Store) : Option (Nat × List D) := match a with
  | .ref r => match S[r]? with
    | some (.lst xs) => some (r, xs)
    | _ => none
  | _ => none
def setIndex (a b v : D) (S : Store) : Option Store :=
  match mutL a (frz v S).2, b with
  | some (r, xs), .int i => match ixOf xs.length i with
    | some j => if D.lt r (frz v S).1 then some ((frz v S).2.set r (.lst (xs.set j (frz v S).1))) else none
    | none => none
  | _, _ => none

def sIx (n d : Nat) : Option Int → Nat
  | none => d
  | some v => if v < 0 then (v + (n : Int)).toNat else min v.toNat n
/-- xs[lo:hi] -/
def cut (xs : List D) (lo hi : Option Int) : List D := (xs.drop (sIx xs.length 0 lo)).take (sIx xs.length xs.length hi - sIx xs.length 0 lo)
/-- xs[lo::2], lo ≥ 0 -/
def evenly : List D → List D
  | [] => []
  | [x] => [x]
  | x :: _ :: r => x :: evenly r
def slice (a : D) (lo hi : Option Int) (S : Store) : Option (D × Store) :=
  match a with
  | .tup xs => some (.tup (cut xs lo hi), S)
  | .scr is => newL (cut (is.map .int) lo hi) S
  | d => match lstOf S d with
    | some xs => newL (cut xs lo hi) S
    | none => none
def sliceRev (a : D) (S : Store) : Option (D × Store) :=
  match a with
  | .tup xs => some (.tup xs.reverse, S)
  | d => match lstOf S d with
    | some xs => newL xs.reverse S
    | none => none
def sliceTwo (a : D) (k : Nat) (S : Store) : Option (D × Store) :=
  match a with
  | .tup xs => some (.tup (evenly (xs.drop k)), S)
  | d => match lstOf S d with
    | some xs => newL (evenly (xs.drop k)) S
    | none => none

inductive Bi where | len | abs | int | max2 | min2 | list | tuple | all | any | sum | str
  deriving DecidableEq, Inhabited
def blsOf : List D → Option (List Bool)
  | [] => some []
  | .bl b :: r => (blsOf r).map (b :: ·)
  | _ :: _ => none
def un1 (f : D → Store → Option (D × Store)) : List D → Store → Option (D × Store)
  | [d], S => f d S
  | _, _ => none
def un2 (f : D → D → Store → Option (D × Store)) : List D → Store → Option (D × Store)
  | [a, b], S => f a b S
  | _, _ => none
def un0 (f : Store → Option (D × Store)) : List D → Store → Option (D × Store)
  | [], S => f S
  | _, _ => none
def bLen (d : D) (S : Store) : Option (D × Store) := match d with
  | .str s => if s.length ≤ maxLen then some (.int s.length, S) else none
  | d => (seqOf S d).map fun xs => (.int xs.length, S)
def bAbs (d : D) (S : Store) : Option (D × Store) := match d with
  | .int i => some (.int (if i < 0 then -i else i), S)
  | _ => none
def bInt (d : D) (S : Store) : Option (D × Store) := match d with
  | .int i => some (.int i, S)
  | .bl b => some (.int (if b then 1 else 0), S)
  | _ => none
def bMax (a b : D) (S : Store) : Option (D × Store) := match a, b with
  | .int i, .int j => some (.int (if j > i then j else i), S)
  | _, _ => none
def bMin (a b : D) (S : Store) : Option (D × Store) := match a, b with
  | .int i, .int j => some (.int (if j < i then j else i), S)
  | _, _ => none
def bList (d : D) (S : Store) : Option (D × Store) := match seqOf S d with
  | some xs => newL xs S
  | none => none
def bTuple (d : D) (S : Store) : Option (D × Store) := match d with
  | .tup xs => some (.tup xs, S)
  | d => match lstOf S d with
    | some xs => some (.tup xs, S)
    | none => none
def bAll (d : D) (S : Store) : Option (D × Store) := match lstOf S d with
  | some xs => (blsOf xs).map fun bs => (.bl (bs.all id), S)
  | none => none
def bAny (d : D) (S : Store) : Option (D × Store) := match lstOf S d with
  | some xs => (blsOf xs).map fun bs => (.bl (bs.any id), S)
  | none => none
def bSum (d : D) (S : Store) : Option (D × Store) := match lstOf S d with
  | some xs => (intsOf xs).map fun is => (.int is.sum, S)
  | none => none
def builtin (f : Bi) : List D → Store → Option (D × Store) := match f with
  | .len => un1 bLen
  | .abs => un1 bAbs
  | .int => un1 bInt
  | .max2 => un2 bMax
  | .min2 => un2 bMin
  | .list => un1 bList
  | .tuple => un1 bTuple
  | .all => un1 bAll
  | .any => un1 bAny
  | .sum => un1 bSum
  | .str => fun _ _ => none

inductive Mt where | append | pop | popAt | extend | remove | index | count | insert
  deriving DecidableEq, Inhabited
/-- what may be a list -/
def isL : D → Bool
  | .lst _ => true
  | .ref _ => true
  | _ => false
def findIx (x : D) : List D → Option Nat
  | [] => none
  | y :: ys => if D.eqv y x then some 0 else (findIx x ys).map (· + 1)
def mAppend (a v : D) (S : Store) : Option (D × Store) := match mutL a (frz v S).2 with
  | some (r, xs) => if D.lt r (frz v S).1 && decide (xs.length < maxLen) then some (.non, (frz v S).2.set r (.lst (xs ++ [(frz v S).1]))) else none
  | none => none
def mPopAt (a i : D) (S : Store) : Option (D × Store) := match i, mutL a S with
  | .int i, some (r, xs) => match ixOf xs.length i with
    | some j => match xs[j]? with
      | some x => some (x, S.set r (.lst (xs.eraseIdx j)))
      | none => none
    | none => none
  | _, _ => none
def mPop (a : D) (S : Store) : Option (D × Store) := match mutL a S with
  | some (r, xs) => match xs[xs.length - 1]? with
    | some x => some (x, S.set r (.lst xs.dropLast))
    | none => none
  | none => none
def mExtend (a d : D) (S : Store) : Option (D × Store) := match mutL a S, lstOf S d with
  | some (r, xs), some ys => if D.lts r ys = true ∧ xs.length + ys.length ≤ maxLen then some (.non, S.set r (.lst (xs ++ ys))) else none
  | _, _ => none
def mRemove (a x : D) (S : Store) : Option (D × Store) := match mutL a S, x with
  | some (r, xs), .int k => match intsOf xs with
    | some is => match is.idxOf? k with
      | some j => some (.non, S.set r (.lst ((is.eraseIdx j).map .int)))
      | none => none
    | none => none
  | _, _ => none
def mIndex (a x : D) (S : Store) : Option (D × Store) := match lstOf S a with
  | some xs => if xs.all D.flat && D.flat x then (findIx x xs).map fun (j : Nat) => (.int (j : Int), S) else none
  | none => none
def mCount (a x : D) (S : Store) : Option (D × Store) := match lstOf S a, x with
  | some xs, .int k => (intsOf xs).map fun is => (.int (is.count k : Nat), S)
  | _, _ => none
def method (f : Mt) (a : D) : List D → Store → Option (D × Store) := match f with
  | .append => un1 (mAppend a)
  | .popAt => un1 (mPopAt a)
  | .pop => un0 (mPop a)
  | .extend => un1 (mExtend a)
  | .remove => un1 (mRemove a)
  | .index => un1 (mIndex a)
  | .count => un1 (mCount a)
  | .insert => fun _ _ => none

/-! ### the language -/
mutual
inductive CE where
  | v (i : Nat)
  | k (d : D)
  | tup (es : CEs) | lst (es : CEs)
  | bin (o : Bop) (a b : CE)
  | neg (a : CE) | not (a : CE)
  | and (a b : CE) | or (a b : CE)
  | cmp (o : Cop) (a b : CE)
  | chn (o p : Cop) (a b c : CE)
  | ite (c a b : CE)
  | att (a : CE) (f : Nat)
  | idx (a b : CE)
  | sl (a : CE) (lo hi : CEo)
  | slr (a : CE)
  | sl2 (a : CE) (k : Nat)
  | call (f : Nat) (es : CEs)
  | bi (f : Bi) (es : CEs)
  | mt (f : Mt) (a : CE) (es : CEs)
  | isi (a : CE) (ts : List Ty)
  | mkT (es : CEs)
  | rngL (it : CI) | rngT (it : CI)
  | comp (it : CI) (tg : CT) (own : List Nat) (cnd : CEo) (elt : CE)
  | exIs (i : Nat) (b : Str) | exFld (i : Nat) (f : Str)
inductive CEs where
  | nil | cons (e : CE) (es : CEs)
inductive CEo where
  | none | some (e : CE)
/-- what is walked -/
inductive CI where
  | seq (e : CE)
  | rng1 (a : CE) | rng2 (a b : CE) | rng3 (a b c : CE)
  | zip (a b : CE)
  | enum (a : CE)
inductive CT where
  | n (i : Nat)
  | tup (ts : CTs)
inductive CTs where
  | nil | cons (t : CT) (ts : CTs)
end

/-- a target of an assignment -/
inductive CG where
  | t (t : CT)
  | ix (a b : CE)
  | ix2 (a b c d : CE)

inductive CS where
  | set (g : CG) (e : CE)
  | par (is : List Nat) (es : CEs)
  | ex (e : CE)
  | ret (e : CE)
  | retN
  | ite (c : CE) (a b : CS)
  | for (tg : CT) (it : CI) (b : CS)
  | while (c : CE) (b : CS)
  | brk | pass
  | raise (c : Str) (f : Option Str) (es : CEs)
  | tryAs (b : CS) (c : Str) (i : Nat) (h : CS)
  | tryOnly (b : CS) (c : Str) (h : CS)
  | seq (a b : CS)

/-! ### the interpreter -/
abbrev Env := List (Option D)
abbrev Calls := Nat → List D → Store → Option (R D)

/-- what an except clause takes, what isinstance tells of an error: all classes derive from TurnFault, that from ValueError -/
def subEx (c x : Str) : Bool := decide (c = x) || decide (x = "TurnFault") || decide (x = "ValueError")

def lift (x : Option (D × Store)) : Option (R D) := match x with
  | some (d, S) => some (.ok d S)
  | none => none
@[simp] theorem lift_some (d : D) (S : Store) : lift (some (d, S)) = some (.ok d S) := rfl
@[simp] theorem lift_none : lift none = none := rfl

mutual
def setT : CT → D → Env → Option Env
  | .n i, d, env => if i < env.length then some (env.set i (some d)) else none
  | .tup ts, .tup xs, env => setTs ts xs env
  | .tup ts, .lst xs, env => setTs ts xs env
  | _, _, _ => none
def setTs : CTs → List D → Env → Option Env
  | .nil, [], env => some env
  | .cons t ts, x :: xs, env => match setT t x env with
    | some env' => setTs ts xs env'
    | none => none
  | _, _, _ => none
end
/-- a value unpacked: a list by its reference is looked up -/
def unref (d : D) (S : Store) : D := match d with
  | .ref i => match S[i]? with
    | some (.lst xs) => .lst xs
    | some (.fzl xs) => .lst xs
    | _ => d
  | _ => d
def setG (t : CT) (d : D) (env : Env) (S : Store) : Option Env := match t with
  | .n _ => setT t d env
  | .tup _ => setT t (unref d S) env

def setAll : List Nat → List D → Env → Option Env
  | [], [], env => some env
  | i :: is, d :: ds, env => if i < env.length then setAll is ds (env.set i (some d)) else none
  | _, _, _ => none
def wipe (env : Env) : List Nat → Env
  | [] => env
  | i :: r => (wipe env r).set i none

/-- the track's attributes -/
def attr (d : D) (f : Nat) : Option D := match d with
  | .trk n k r => if f = 0 then some (.int n) else if f = 1 then some (.int k) else if f = 2 then some (.bl r) else none
  | _ => none
def isInt : D → Option Int
  | .int i => some i
  | _ => none
def within (d : D) (lo hi : Int) : Bool := match d with
  | .int i => decide (lo ≤ i) && decide (i ≤ hi)
  | _ => false
def isFn : D → Bool
  | .fn _ => true
  | _ => false
def mkTrack (ds : List D) (S : Store) : Option (R D) := match ds with
  | [a, b, c] =>
    if isFn a || isFn b || isFn c then none
    else if within a 1 20 = false then some (.ex ⟨"BadTrack", some ("what", .str "places")⟩ S)
    else if within b 1 20 = false then some (.ex ⟨"BadTrack", some ("what", .str "length")⟩ S)
    else match a, b, c with
      | .int n, .int k, .bl r => some (.ok (.trk n k r) S)
      | _, _, _ => some (.ex ⟨"BadTrack", some ("what", .str "is_ring")⟩ S)
  | _ => none

/-- the items of what is walked, and the lists that must stay while it is walked -/
abbrev Items := List D × List (Nat × O)
def pinOf (d : D) (S : Store) : List (Nat × O) := match d with
  | .ref i => match S[i]? with
    | some o => [(i, o)]
    | none => []
  | _ => []
def pinned (p : List (Nat × O)) (S : Store) : Bool := p.all fun q => decide (S[q.1]? = some q.2)
def rangeD (lo c : Int) (n : Nat) : List D := (List.range n).map fun (i : Nat) => .int (lo + i * c)
def okR (i : Int) : Bool := decide (-(2 ^ 62) ≤ i) && decide (i < 2 ^ 62)
/-- how many turns a range with a step has -/
def rgN (i j c : Int) : Nat := if 0 < c then ((j - i + c - 1) / c).toNat else ((i - j - c - 1) / (-c)).toNat
/-- a fresh list that is walked is a value from now on -/
def fresh (n : Nat) (d : D) (S : Store) : D × Store := match d with
  | .ref i => if n ≤ i then (if D.lt n (frz d S).1 then ((frz d S).1, (frz d S).2.take n) else (d, S)) else (d, S)
  | _ => (d, S)
/-- the same behind an expression that began with n objects -/
def freshR (n : Nat) (r : Option (R D)) : Option (R D) := match gcR n r with
  | some (.ok d S) => some (.ok (fresh n d S).1 (fresh n d S).2)
  | r => r

/-- the turns of a comprehension: the new list stands at n -/
def compGo (cnd : Env → Store → Option (R Bool)) (elt : Env → Store → Option (R D)) : List D → List (Nat × O) → CT → Env → Nat → List D → Store → Option (R Unit)
  | [], p, _, _, _, _, S => if pinned p S then some (.ok () S) else none
  | x :: xs, p, tg, env, n, acc, S =>
    if pinned p S then
      match setG tg x env S with
      | none => none
      | some env' =>
        match cnd env' S with
        | some (.ok true S1) => match gcR (n + 1) (elt env' S1) with
          | some (.ok y S2) =>
            if D.lt n (frz y S2).1 && decide ((frz y S2).2[n]? = some (.lst acc)) && decide (acc.length < maxLen) then
              compGo cnd elt xs p tg env n (acc ++ [(frz y S2).1]) (((frz y S2).2.take (n + 1)).set n (.lst (acc ++ [(frz y S2).1])))
            else none
          | _ => none
        | some (.ok false S1) => if decide (S1[n]? = some (.lst acc)) then compGo cnd elt xs p tg env n acc (S1.take (n + 1)) else none
        | _ => none
    else none

section
variable (cl : Calls) (ex : Option Ex)
mutual
def ev : CE → Env → Store → Option (R D)
  | .v i, env, S => match env[i]? with
    | some (some d) => some (.ok d S)
    | _ => none
  | .k d, _, S => some (.ok d S)
  | .tup es, env, S => bnd (evs es env S) fun ds S => lift (newT (frzs ds S).1 (frzs ds S).2)
  | .lst es, env, S => bnd (evs es env S) fun ds S => lift (newL (frzs ds S).1 (frzs ds S).2)
  | .bin o a b, env, S => bnd (ev a env S) fun x S => bnd (ev b env S) fun y S => lift (binop o x y S)
  | .neg a, env, S => bnd (ev a env S) fun x S => match x with
    | .int i => some (.ok (.int (-i)) S)
    | _ => none
  | .not a, env, S => bnd (ev a env S) fun x S => match x with
    | .bl b => some (.ok (.bl (!b)) S)
    | _ => none
  | .and a b, env, S => bnd (ev a env S) fun x S => match x with
    | .bl true => ev b env S
    | .bl false => some (.ok (.bl false) S)
    | _ => none
  | .or a b, env, S => bnd (ev a env S) fun x S => match x with
    | .bl false => ev b env S
    | .bl true => some (.ok (.bl true) S)
    | _ => none
  | .cmp o a b, env, S => bnd (ev a env S) fun x S => bnd (ev b env S) fun y S => match cmpop o x y S with
    | some d => some (.ok d S)
    | none => none
  | .chn o p a b c, env, S => bnd (ev a env S) fun x S => bnd (ev b env S) fun y S => match cmpop o x y S with
    | some (.bl true) => bnd (ev c env S) fun z S => match cmpop p y z S with
      | some d => some (.ok d S)
      | none => none
    | some (.bl false) => some (.ok (.bl false) S)
    | _ => none
  | .ite c a b, env, S => bnd (ev c env S) fun x S => match x with
    | .bl true => ev a env S
    | .bl false => ev b env S
    | _ => none
  | .att a f, env, S => bnd (ev a env S) fun x S => match attr x f with
    | some d => some (.ok d S)
    | none => none
  | .idx a b, env, S => bnd (ev a env S) fun x S => bnd (ev b env S) fun y S => match index x y S with
    | some d => some (.ok d S)
    | none => none
  | .sl a lo hi, env, S => bnd (ev a env S) fun x S => bnd (evo lo env S) fun l S => bnd (evo hi env S) fun h S => lift (slice x l h S)
  | .slr a, env, S => bnd (ev a env S) fun x S => lift (sliceRev x S)
  | .sl2 a k, env, S => bnd (ev a env S) fun x S => lift (sliceTwo x k S)
  | .call f es, env, S => bnd (evs es env S) fun ds S => cl f ds S
  | .bi f es, env, S => bnd (evs es env S) fun ds S => lift (builtin f ds S)
  | .mt f a es, env, S => bnd (ev a env S) fun x S => if isL x then bnd (evs es env S) fun ds S => lift (method f x ds S) else none
  | .isi a ts, env, S => bnd (ev a env S) fun x S => match isTys S x ts with
    | some b => some (.ok (.bl b) S)
    | none => none
  | .mkT es, env, S => bnd (evs es env S) fun ds S => cl 0 ds S
  | .rngL it, env, S => bnd (evI it env S) fun xs S => lift (newL xs.1 S)
  | .rngT it, env, S => bnd (evI it env S) fun xs S => lift (newT xs.1 S)
  | .comp it tg own cnd elt, env, S => bnd (evI it env S) fun xs S =>
    bnd (compGo (fun env S => evc cnd env S) (fun env S => ev elt env S) xs.1 xs.2 tg (wipe env own) S.length [] (S ++ [.lst []])) fun _ S' => some (.ok (.ref S.length) S')
  | .exIs i b, env, S => match ex, env[i]? with
    | some e, some none => some (.ok (.bl (subEx e.cls b)) S)
    | _, _ => none
  | .exFld i f, env, S => match ex, env[i]? with
    | some ⟨_, some (g, d)⟩, some none => if g = f then some (.ok d S) else none
    | _, _ => none
def evs : CEs → Env → Store → Option (R (List D))
  | .nil, _, S => some (.ok [] S)
  | .cons e es, env, S => bnd (ev e env S) fun d S => bnd (evs es env S) fun ds S => some (.ok (d :: ds) S)
def evo : CEo → Env → Store → Option (R (Option Int))
  | .none, _, S => some (.ok none S)
  | .some e, env, S => bnd (ev e env S) fun d S => match d with
    | .int i => some (.ok (some i) S)
    | _ => none
/-- a test of a comprehension -/
def evc : CEo → Env → Store → Option (R Bool)
  | .none, _, S => some (.ok true S)
  | .some e, env, S => bnd (ev e env S) fun d S => match d with
    | .bl b => some (.ok b S)
    | _ => none
def evI : CI → Env → Store → Option (R Items)
  | .seq e, env, S => bnd (freshR S.length (ev e env S)) fun d S' => match seqOf S' d with
    | some xs => some (.ok (xs, pinOf d S') S')
    | none => none
  | .rng1 a, env, S => bnd (ev a env S) fun d S => match d with
    | .int j => if okR j then some (.ok (rangeD 0 1 j.toNat, []) S) else none
    | _ => none
  | .rng2 a b, env, S => bnd (ev a env S) fun x S => bnd (ev b env S) fun y S => match x, y with
    | .int i, .int j => if okR i && okR j then some (.ok (rangeD i 1 (j - i).toNat, []) S) else none
    | _, _ => none
  | .rng3 a b c, env, S => bnd (ev a env S) fun x S => bnd (ev b env S) fun y S => bnd (ev c env S) fun z S => match x, y, z with
    | .int i, .int j, .int c => if okR i && okR j && (decide (c = 2) || decide (c = -1)) then some (.ok (rangeD i c (rgN i j c), []) S) else none
    | _, _, _ => none
  | .zip a b, env, S => bnd (freshR S.length (ev a env S)) fun x S1 => bnd (freshR S1.length (ev b env S1)) fun y S2 =>
    match seqOf S2 x, seqOf S2 y with
    | some xs, some ys => if isL x == isL y then some (.ok ((xs.zip ys).map fun p => .tup [p.1, p.2], pinOf x S2 ++ pinOf y S2) S2) else none
    | _, _ => none
  | .enum a, env, S => bnd (freshR S.length (ev a env S)) fun x S1 =>
    match seqOf S1 x with
    | some xs => if isL x then some (.ok ((List.range xs.length).zipWith (fun (i : Nat) x => .tup [.int i, x]) xs, pinOf x S1) S1) else none
    | none => none
end

/-! ### statements -/
inductive Fl where
  | nx (env : Env) | rt (d : D) | bk (env : Env) | xc (e : Ex) (env : Env)
  deriving Inhabited
abbrev Out := Option (Fl × Store)
/-- an expression's value, then what follows; an error is told with the slots as they are -/
def thn {α : Type} (x : Option (R α)) (env : Env) (f : α → Store → Out) : Out := match x with
  | some (.ok a S) => f a S
  | some (.ex e S) => some (.xc e env, S)
  | none => none
@[simp] theorem thn_ok {α : Type} (a : α) (S : Store) (env : Env) (f : α → Store → Out) : thn (some (.ok a S)) env f = f a S := rfl
@[simp] theorem thn_ex {α : Type} (e : Ex) (S : Store) (env : Env) (f : α → Store → Out) : thn (some (.ex e S)) env f = some (.xc e env, S) := rfl
@[simp] theorem thn_none {α : Type} (env : Env) (f : α → Store → Out) : thn none env f = none := rfl
/-- an expression as a statement has it -/
def evg (e : CE) (env : Env) (S : Store) : Option (R D) := gcR S.length (ev cl ex e env S)

def forGo (body : Env → Store → Out) : List D → List (Nat × O) → CT → Env → Store → Out
  | [], p, _, env, S => if pinned p S then some (.nx env, S) else none
  | x :: xs, p, tg, env, S =>
    if pinned p S then
      match setG tg x env S with
      | none => none
      | some env1 => match body env1 S with
        | some (.nx env2, S2) => forGo body xs p tg env2 S2
        | some (.bk env2, S2) => some (.nx env2, S2)
        | r => r
    else none
def whileGo (test : Env → Store → Option (R D)) (body : Env → Store → Out) : Nat → Env → Store → Out
  | 0, _, _ => none
  | n + 1, env, S => thn (test env S) env fun d S1 => match d with
    | .bl true => match body env S1 with
      | some (.nx env2, S2) => whileGo test body n env2 S2
      | some (.bk env2, S2) => some (.nx env2, S2)
      | r => r
    | .bl false => some (.nx env, S1)
    | _ => none
def FUEL : Nat := 2 ^ 64
end

section
variable (cl : Calls)
def exec (ex : Option Ex) : CS → Env → Store → Out
  | .set (.t t) e, env, S => thn (evg cl ex e env S) env fun d S1 => match setG t d env S1 with
    | some env1 => some (.nx env1, S1)
    | none => none
  | .set (.ix a b) e, env, S => thn (evg cl ex e env S) env fun d S1 => thn (ev cl ex a env S1) env fun x S2 => thn (ev cl ex b env S2) env fun y S3 => match setIndex x y d S3 with
    | some S4 => some (.nx env, S4)
    | none => none
  | .set (.ix2 a b c d) e, env, S => thn (evg cl ex e env S) env fun v S1 => match v with
    | .tup [p, q] => thn (ev cl ex a env S1) env fun x S2 => thn (ev cl ex b env S2) env fun y S3 => match setIndex x y p S3 with
      | some S4 => thn (ev cl ex c env S4) env fun z S5 => thn (ev cl ex d env S5) env fun w S6 => match setIndex z w q S6 with
        | some S7 => some (.nx env, S7)
        | none => none
      | none => none
    | _ => none
  | .par is es, env, S => thn (evs cl ex es env S) env fun ds S1 => match setAll is ds env with
    | some env1 => some (.nx env1, S1)
    | none => none
  | .ex e, env, S => thn (evg cl ex e env S) env fun _ S1 => some (.nx env, S1)
  | .ret e, env, S => thn (evg cl ex e env S) env fun d S1 => some (.rt d, S1)
  | .retN, _, S => some (.rt .non, S)
  | .ite c a b, env, S => thn (evg cl ex c env S) env fun d S1 => match d with
    | .bl true => exec ex a env S1
    | .bl false => exec ex b env S1
    | _ => none
  | .for tg it b, env, S => thn (evI cl ex it env S) env fun xs S1 => forGo (fun env S => exec ex b env S) xs.1 xs.2 tg env S1
  | .while c b, env, S => whileGo (fun env S => evg cl ex c env S) (fun env S => exec ex b env S) FUEL env S
  | .brk, env, S => some (.bk env, S)
  | .pass, env, S => some (.nx env, S)
  | .raise c f es, env, S => thn (evs cl ex es env S) env fun ds S1 => match f, ds with
    | none, [] => some (.xc ⟨c, none⟩ env, S1)
    | some g, [d] => if D.lt 0 (frz d S1).1 then some (.xc ⟨c, some (g, (frz d S1).1)⟩ env, (frz d S1).2) else none
    | _, _ => none
  | .tryAs b c i h, env, S => match exec ex b env S with
    | some (.xc e env1, S1) => if subEx e.cls c then
        match exec (some e) h (env1.set i none) S1 with
        | some (.nx env2, S2) => some (.nx (env2.set i none), S2)
        | some (.rt d, S2) => some (.rt d, S2)
        | _ => none
      else some (.xc e env1, S1)
    | r => r
  | .tryOnly b c h, env, S => match exec ex b env S with
    | some (.xc e env1, S1) => if subEx e.cls c then
        match exec (some e) h env1 S1 with
        | some (.nx env2, S2) => some (.nx env2, S2)
        | some (.rt d, S2) => some (.rt d, S2)
        | _ => none
      else some (.xc e env1, S1)
    | r => r
  | .seq a b, env, S => match exec ex a env S with
    | some (.nx env1, S1) => exec ex b env1 S1
    | r => r
end

/-! ### defs -/
structure FD where
  np : Nat
  ns : Nat
  body : CS
def atEnd (n : Nat) (r : Out) : Option (R D) := match r with
  | some (.nx _, S) => some (.ok .non (S.take n))
  | some (.rt d, S) => some (.ok (gc n d S).1 (gc n d S).2)
  | some (.xc e _, S) => some (.ex e (S.take n))
  | _ => none
def run (Ph : Nat → Option FD) : Nat → Calls
  | 0, f, ds, S => if f = 0 then mkTrack ds S else none
  | k + 1, f, ds, S => if f = 0 then mkTrack ds S else match Ph f with
    | some fd => if ds.length = fd.np then atEnd S.length (exec (run Ph k) none fd.body (ds.map some ++ List.replicate (fd.ns - fd.np) none) S) else none
    | none => none
end Rf
set_option Elab.async false
set_option linter.all false
set_option maxRecDepth 100000
/-! What a value, a store, the slots stand for in the abstract heap. -/
namespace Rf
open PySem PySem.Spec PyProof.Rows L2

/-- what the text tells: the class Track, the defs' addresses -/
structure Aux where
  CT : Addr
  fa : Nat → Addr
  xs : List Str
  xf : List (Str × Str)

def trkF (n k : Int) (r : Bool) : List (Str × V) := [("places", .int n), ("length", .int k), ("is_ring", .bl r)]
mutual
def RelD (K : PySem.W.Frag) (ax : Aux) (F : Hp) (m : Nat → Addr) (n : Nat) : D → V → Prop
  | .non, v => v = .non
  | .bl b, v => v = .bl b
  | .int i, v => v = .int i
  | .str s, v => v = .str s
  | .tup xs, v => ∃ a vs, v = .ref a ∧ SqT K F a vs ∧ RelDs K ax F m n xs vs
  | .lst xs, v => ∃ a vs, v = .ref a ∧ F a = some (.lst vs) ∧ RelDs K ax F m n xs vs
  | .scr is, v => ∃ a, v = .ref a ∧ SqL K F a (is.map V.int)
  | .trk p k r, v => ∃ a dx, v = .ref a ∧ F a = some (.ins ax.CT dx (trkF p k r))
  | .fn f, v => v = .ref (ax.fa f)
  | .ref i, v => i < n ∧ v = .ref (m i)
def RelDs (K : PySem.W.Frag) (ax : Aux) (F : Hp) (m : Nat → Addr) (n : Nat) : List D → List V → Prop
  | [], vs => vs = []
  | d :: ds, vs => ∃ v vs', vs = v :: vs' ∧ RelD K ax F m n d v ∧ RelDs K ax F m n ds vs'
end
variable {K : PySem.W.Frag} {ax : Aux}

/-- what was known stays known -/
structure Evo (n : Nat) (F : Hp) (m : Nat → Addr) (F' : Hp) (m' : Nat → Addr) : Prop where
  fr : ∀ a o, F a = some o → F' a = some o
  mm : ∀ i, i < n → m' i = m i
theorem Evo.refl {n : Nat} {F : Hp} {m : Nat → Addr} : Evo n F m F m := ⟨fun _ _ h => h, fun _ _ => rfl⟩
theorem Evo.trans {n n1 : Nat} {F F1 F2 : Hp} {m m1 m2 : Nat → Addr} (a : Evo n F m F1 m1) (h : n ≤ n1) (b : Evo n1 F1 m1 F2 m2) : Evo n F m F2 m2 :=
  ⟨fun x o e => b.fr x o (a.fr x o e), fun i hi => (b.mm i (Nat.lt_of_lt_of_le hi h)).trans (a.mm i hi)⟩
theorem Evo.le {n n' : Nat} {F F' : Hp} {m m' : Nat → Addr} (a : Evo n F m F' m') (h : n' ≤ n) : Evo n' F m F' m' := ⟨a.fr, fun i hi => a.mm i (Nat.lt_of_lt_of_le hi h)⟩

theorem SqT.evo {F F' : Hp} {a : Addr} {vs : List V} (h : SqT K F a vs) (e : ∀ a o, F a = some o → F' a = some o) : SqT K F' a vs := by
  rcases h with (h | ⟨o, h⟩) | h
  · exact .inl (.inl (e _ _ h))
  · exact .inl (.inr ⟨o, e _ _ h⟩)
  · exact .inr h
theorem SqL.evo {F F' : Hp} {a : Addr} {vs : List V} (h : SqL K F a vs) (e : ∀ a o, F a = some o → F' a = some o) : SqL K F' a vs := by
  rcases h with (h | ⟨o, h⟩) | h
  · exact .inl (.inl (e _ _ h))
  · exact .inl (.inr ⟨o, e _ _ h⟩)
  · exact .inr h
mutual
theorem RelD.evo {n n' : Nat} {F F' : Hp} {m m' : Nat → Addr} (e : Evo n F m F' m') (hn : n ≤ n') : ∀ {d : D} {v : V}, RelD K ax F m n d v → RelD K ax F' m' n' d v
  | .non, _, h => h
  | .bl _, _, h => h
  | .int _, _, h => h
  | .str _, _, h => h
  | .tup xs, _, h => by
    obtain ⟨a, vs, e1, h1, h2⟩ := h
    exact ⟨a, vs, e1, SqT.evo h1 e.fr, RelDs.evo e hn h2⟩
  | .lst xs, _, h => by
    obtain ⟨a, vs, e1, h1, h2⟩ := h
    exact ⟨a, vs, e1, e.fr _ _ h1, RelDs.evo e hn h2⟩
  | .scr _, _, h => by
    obtain ⟨a, e1, h1⟩ := h
    exact ⟨a, e1, SqL.evo h1 e.fr⟩
  | .trk _ _ _, _, h => by
    obtain ⟨a, dx, e1, h1⟩ := h
    exact ⟨a, dx, e1, e.fr _ _ h1⟩
  | .fn _, _, h => h
  | .ref i, _, h => ⟨Nat.lt_of_lt_of_le h.1 hn, by rw [e.mm i h.1]; exact h.2⟩
theorem RelDs.evo {n n' : Nat} {F F' : Hp} {m m' : Nat → Addr} (e : Evo n F m F' m') (hn : n ≤ n') : ∀ {ds : List D} {vs : List V}, RelDs K ax F m n ds vs → RelDs K ax F' m' n' ds vs
  | [], _, h => h
  | d :: ds, _, h => by
    obtain ⟨v, vs', e1, h1, h2⟩ := h
    exact ⟨v, vs', e1, RelD.evo e hn h1, RelDs.evo e hn h2⟩
end
mutual
/-- fewer references: a smaller bound, where all references lie below it -/
theorem RelD.low {n n' : Nat} {F : Hp} {m : Nat → Addr} : ∀ {d : D} {v : V}, RelD K ax F m n d v → D.lt n' d = true → RelD K ax F m n' d v
  | .non, _, h, _ => h
  | .bl _, _, h, _ => h
  | .int _, _, h, _ => h
  | .str _, _, h, _ => h
  | .tup xs, _, h, l => by
    obtain ⟨a, vs, e1, h1, h2⟩ := h
    exact ⟨a, vs, e1, h1, RelDs.low h2 l⟩
  | .lst xs, _, h, l => by
    obtain ⟨a, vs, e1, h1, h2⟩ := h
    exact ⟨a, vs, e1, h1, RelDs.low h2 l⟩
  | .scr _, _, h, _ => h
  | .trk _ _ _, _, h, _ => h
  | .fn _, _, h, _ => h
  | .ref i, _, h, l => ⟨of_decide_eq_true l, h.2⟩
theorem RelDs.low {n n' : Nat} {F : Hp} {m : Nat → Addr} : ∀ {ds : List D} {vs : List V}, RelDs K ax F m n ds vs → D.lts n' ds = true → RelDs K ax F m n' ds vs
  | [], _, h, _ => h
  | d :: ds, _, h, l => by
    obtain ⟨v, vs', e1, h1, h2⟩ := h
    have l' := Bool.and_eq_true_iff.mp (show (D.lt n' d && D.lts n' ds) = true from l)
    exact ⟨v, vs', e1, RelD.low h1 l'.1, RelDs.low h2 l'.2⟩
end
mutual
theorem D.lt_of {n n' : Nat} (h : n ≤ n') : ∀ {d : D}, D.lt n d = true → D.lt n' d = true
  | .non, _ => rfl
  | .bl _, _ => rfl
  | .int _, _ => rfl
  | .str _, _ => rfl
  | .tup xs, l => D.lts_of h (show D.lts n xs = true from l)
  | .lst xs, l => D.lts_of h (show D.lts n xs = true from l)
  | .scr _, _ => rfl
  | .trk _ _ _, _ => rfl
  | .fn _, _ => rfl
  | .ref i, l => decide_eq_true (Nat.lt_of_lt_of_le (of_decide_eq_true l) h)
theorem D.lts_of {n n' : Nat} (h : n ≤ n') : ∀ {ds : List D}, D.lts n ds = true → D.lts n' ds = true
  | [], _ => rfl
  | d :: ds, l => by
    have l' := Bool.and_eq_true_iff.mp (show (D.lt n d && D.lts n ds) = true from l)
    exact Bool.and_eq_true_iff.mpr ⟨D.lt_of h l'.1, D.lts_of h l'.2⟩
end
mutual
theorem RelD.isLt {n : Nat} {F : Hp} {m : Nat → Addr} : ∀ {d : D} {v : V}, RelD K ax F m n d v → D.lt n d = true
  | .non, _, _ => rfl
  | .bl _, _, _ => rfl
  | .int _, _, _ => rfl
  | .str _, _, _ => rfl
  | .tup xs, _, h => by
    obtain ⟨a, vs, e1, h1, h2⟩ := h
    exact RelDs.isLt h2
  | .lst xs, _, h => by
    obtain ⟨a, vs, e1, h1, h2⟩ := h
    exact RelDs.isLt h2
  | .scr _, _, _ => rfl
  | .trk _ _ _, _, _ => rfl
  | .fn _, _, _ => rfl
  | .ref i, _, h => decide_eq_true h.1
theorem RelDs.isLt {n : Nat} {F : Hp} {m : Nat → Addr} : ∀ {ds : List D} {vs : List V}, RelDs K ax F m n ds vs → D.lts n ds = true
  | [], _, _ => rfl
  | d :: ds, _, h => by
    obtain ⟨v, vs', e1, h1, h2⟩ := h
    exact Bool.and_eq_true_iff.mpr ⟨RelD.isLt h1, RelDs.isLt h2⟩
end
section
variable {n : Nat} {F : Hp} {m : Nat → Addr}
theorem RelDs.length : ∀ {ds : List D} {vs : List V}, RelDs K ax F m n ds vs → ds.length = vs.length
  | [], _, h => by
    have e : _ = [] := h
    rw [e]; rfl
  | d :: ds, _, h => by
    obtain ⟨v, vs', e1, h1, h2⟩ := h
    rw [e1, List.length_cons, List.length_cons, RelDs.length h2]
theorem RelDs.get : ∀ {ds : List D} {vs : List V} {i : Nat} {d : D}, RelDs K ax F m n ds vs → ds[i]? = some d → ∃ v, vs[i]? = some v ∧ RelD K ax F m n d v
  | [], _, _, _, _, e => by simp at e
  | d :: ds, _, 0, x, h, e => by
    obtain ⟨v, vs', e1, h1, h2⟩ := h
    subst e1
    have e' : d = x := by simpa using e
    subst e'
    exact ⟨v, rfl, h1⟩
  | d :: ds, _, i + 1, x, h, e => by
    obtain ⟨v, vs', e1, h1, h2⟩ := h
    subst e1
    obtain ⟨w, q1, q2⟩ := RelDs.get (i := i) (d := x) h2 (by simpa using e)
    exact ⟨w, by simpa using q1, q2⟩
theorem RelDs.get' : ∀ {ds : List D} {vs : List V} {i : Nat} {v : V}, RelDs K ax F m n ds vs → vs[i]? = some v → ∃ d, ds[i]? = some d ∧ RelD K ax F m n d v
  | [], _, _, _, h, e => by
    have q : _ = [] := h
    rw [q] at e; simp at e
  | d :: ds, _, 0, x, h, e => by
    obtain ⟨v, vs', e1, h1, h2⟩ := h
    subst e1
    have e' : v = x := by simpa using e
    subst e'
    exact ⟨d, rfl, h1⟩
  | d :: ds, _, i + 1, x, h, e => by
    obtain ⟨v, vs', e1, h1, h2⟩ := h
    subst e1
    obtain ⟨w, q1, q2⟩ := RelDs.get' (i := i) (v := x) h2 (by simpa using e)
    exact ⟨w, by simpa using q1, q2⟩
theorem RelDs.append : ∀ {xs ys : List D} {vs ws : List V}, RelDs K ax F m n xs vs → RelDs K ax F m n ys ws → RelDs K ax F m n (xs ++ ys) (vs ++ ws)
  | [], _, _, _, h, q => by
    have e : _ = [] := h
    rw [e]; exact q
  | d :: ds, _, _, _, h, q => by
    obtain ⟨v, vs', e1, h1, h2⟩ := h
    subst e1
    exact ⟨v, vs' ++ _, rfl, h1, RelDs.append h2 q⟩
theorem RelDs.set : ∀ {xs : List D} {vs : List V} {d : D} {v : V} (i : Nat), RelDs K ax F m n xs vs → RelD K ax F m n d v → RelDs K ax F m n (xs.set i d) (vs.set i v)
  | [], _, _, _, _, h, _ => by
    have e : _ = [] := h
    rw [e]; exact rfl
  | d :: ds, _, _, _, 0, h, q => by
    obtain ⟨v, vs', e1, h1, h2⟩ := h
    subst e1
    exact ⟨_, vs', rfl, q, h2⟩
  | d :: ds, _, _, _, i + 1, h, q => by
    obtain ⟨v, vs', e1, h1, h2⟩ := h
    subst e1
    exact ⟨v, _, rfl, h1, RelDs.set i h2 q⟩
theorem RelDs.take : ∀ {xs : List D} {vs : List V} (i : Nat), RelDs K ax F m n xs vs → RelDs K ax F m n (xs.take i) (vs.take i)
  | [], _, _, h => by
    have e : _ = [] := h
    rw [e, List.take_nil, List.take_nil]; exact rfl
  | d :: ds, _, 0, h => rfl
  | d :: ds, _, i + 1, h => by
    obtain ⟨v, vs', e1, h1, h2⟩ := h
    subst e1
    exact ⟨v, _, rfl, h1, RelDs.take i h2⟩
theorem RelDs.drop : ∀ {xs : List D} {vs : List V} (i : Nat), RelDs K ax F m n xs vs → RelDs K ax F m n (xs.drop i) (vs.drop i)
  | [], _, _, h => by
    have e : _ = [] := h
    rw [e, List.drop_nil, List.drop_nil]; exact rfl
  | d :: ds, _, 0, h => h
  | d :: ds, _, i + 1, h => by
    obtain ⟨v, vs', e1, h1, h2⟩ := h
    subst e1
    exact RelDs.drop i h2
theorem RelDs.erase : ∀ {xs : List D} {vs : List V} (i : Nat), RelDs K ax F m n xs vs → RelDs K ax F m n (xs.eraseIdx i) (vs.eraseIdx i)
  | [], _, _, h => by
    have e : _ = [] := h
    rw [e]; exact rfl
  | d :: ds, _, 0, h => by
    obtain ⟨v, vs', e1, h1, h2⟩ := h
    subst e1
    exact h2
  | d :: ds, _, i + 1, h => by
    obtain ⟨v, vs', e1, h1, h2⟩ := h
    subst e1
    exact ⟨v, _, rfl, h1, RelDs.erase i h2⟩
theorem RelDs.one {d : D} {v : V} (h : RelD K ax F m n d v) : RelDs K ax F m n [d] [v] := ⟨v, [], rfl, h, rfl⟩
theorem RelDs.cons {d : D} {v : V} {ds : List D} {vs : List V} (h : RelD K ax F m n d v) (q : RelDs K ax F m n ds vs) : RelDs K ax F m n (d :: ds) (v :: vs) := ⟨v, vs, rfl, h, q⟩
theorem RelDs.reverse : ∀ {xs : List D} {vs : List V}, RelDs K ax F m n xs vs → RelDs K ax F m n xs.reverse vs.reverse
  | [], _, h => by
    have e : _ = [] := h
    rw [e]; exact rfl
  | d :: ds, _, h => by
    obtain ⟨v, vs', e1, h1, h2⟩ := h
    subst e1
    rw [List.reverse_cons, List.reverse_cons]
    exact RelDs.append (RelDs.reverse h2) (RelDs.one h1)
theorem RelDs.replicate {xs : List D} {vs : List V} (h : RelDs K ax F m n xs vs) : ∀ k : Nat, RelDs K ax F m n (List.replicate k xs).flatten (List.replicate k vs).flatten
  | 0 => rfl
  | k + 1 => by
    rw [List.replicate_succ, List.replicate_succ, List.flatten_cons, List.flatten_cons]
    exact RelDs.append h (RelDs.replicate h k)
theorem RelDs.ints {is : List Int} : ∀ {ds : List D} {vs : List V}, RelDs K ax F m n ds vs → intsOf ds = some is → vs = is.map V.int := by
  induction is with
  | nil =>
    intro ds vs h e
    cases ds with
    | nil => exact h
    | cons d ds =>
      cases d <;> simp [intsOf] at e
  | cons i is ih =>
    intro ds vs h e
    cases ds with
    | nil => simp [intsOf] at e
    | cons d ds =>
      obtain ⟨v, vs', e1, h1, h2⟩ := h
      cases d <;> simp only [intsOf, Option.map_eq_some_iff, List.cons.injEq, reduceCtorEq] at e
      obtain ⟨r, e2, e3, e4⟩ := e
      subst e3; subst e4
      rw [e1, ih h2 e2, show v = V.int _ from h1]; rfl
theorem RelDs.bls {is : List Bool} : ∀ {ds : List D} {vs : List V}, RelDs K ax F m n ds vs → blsOf ds = some is → vs = is.map V.bl := by
  induction is with
  | nil =>
    intro ds vs h e
    cases ds with
    | nil => exact h
    | cons d ds =>
      cases d <;> simp [blsOf] at e
  | cons i is ih =>
    intro ds vs h e
    cases ds with
    | nil => simp [blsOf] at e
    | cons d ds =>
      obtain ⟨v, vs', e1, h1, h2⟩ := h
      cases d <;> simp only [blsOf, Option.map_eq_some_iff, List.cons.injEq, reduceCtorEq] at e
      obtain ⟨r, e2, e3, e4⟩ := e
      subst e3; subst e4
      rw [e1, ih h2 e2, show v = V.bl _ from h1]; rfl
theorem RelDs.of_ints : ∀ (is : List Int), RelDs K ax F m n (is.map D.int) (is.map V.int)
  | [] => rfl
  | i :: is => ⟨_, _, rfl, rfl, RelDs.of_ints is⟩
end

/-! ### the store -/
def RelO (K : PySem.W.Frag) (ax : Aux) (F H : Hp) (m : Nat → Addr) (i : Nat) : O → Prop
  | .lst xs => ∃ vs, H (m i) = some (.lst vs) ∧ F (m i) = none ∧ RelDs K ax F m i xs vs
  | .fzl xs => ∃ vs, F (m i) = some (.lst vs) ∧ RelDs K ax F m 0 xs vs
  | .dct _ => False
structure Rep (K : PySem.W.Frag) (ax : Aux) (F : Hp) (m : Nat → Addr) (S : Store) (H : Hp) : Prop where
  sub : ∀ a o, F a = some o → H a = some o
  at_ : ∀ i o, S[i]? = some o → RelO K ax F H m i o
  inj : ∀ i j, i < S.length → j < S.length → m i = m j → i = j

theorem lt_of_get {α : Type} {l : List α} {i : Nat} {x : α} (h : l[i]? = some x) : i < l.length := (List.getElem?_eq_some_iff.mp h).1

section
variable {F H : Hp} {m : Nat → Addr} {S : Store}
theorem Rep.there (r : Rep K ax F m S H) {i : Nat} (h : i < S.length) : ∃ o, H (m i) = some o := by
  have e : S[i]? = some S[i] := List.getElem?_eq_getElem h
  have q := r.at_ i _ e
  cases ho : S[i] with
  | lst xs => rw [ho] at q; obtain ⟨vs, h1, _⟩ := q; exact ⟨_, h1⟩
  | fzl xs => rw [ho] at q; obtain ⟨vs, h1, _⟩ := q; exact ⟨_, r.sub _ _ h1⟩
  | dct _ => rw [ho] at q; exact q.elim
theorem Rep.off (r : Rep K ax F m S H) {p : Addr} (hp : H p = none) {i : Nat} (h : i < S.length) : m i ≠ p := fun e => by
  obtain ⟨o, q⟩ := r.there h
  rw [e, hp] at q; cases q
theorem Rep.offF (r : Rep K ax F m S H) {p : Addr} (hp : H p = none) : F p = none := by
  cases e : F p with
  | none => rfl
  | some o => rw [r.sub _ _ e] at hp; cases hp
theorem RelO.evo {F' H' : Hp} {m' : Nat → Addr} {i : Nat} {o : O} (h : RelO K ax F H m i o) (e : Evo (i + 1) F m F' m') (hH : H' (m i) = H (m i)) (hF : F (m i) = none → F' (m i) = none) : RelO K ax F' H' m' i o := by
  cases o with
  | lst xs =>
    obtain ⟨vs, h1, h2, h3⟩ := h
    refine ⟨vs, ?_, ?_, h3.evo (e.le (Nat.le_succ i)) (Nat.le_refl _)⟩
    · rw [e.mm i (Nat.lt_succ_self i), hH]; exact h1
    · rw [e.mm i (Nat.lt_succ_self i)]; exact hF h2
  | fzl xs =>
    obtain ⟨vs, h1, h3⟩ := h
    refine ⟨vs, ?_, h3.evo (e.le (Nat.zero_le _)) (Nat.le_refl _)⟩
    rw [e.mm i (Nat.lt_succ_self i)]; exact e.fr _ _ h1
  | dct _ => exact h
/-- the heap grows by what the store does not hold -/
theorem Rep.grow (r : Rep K ax F m S H) {H' : Hp} (k : ∀ a o, H a = some o → H' a = some o) : Rep K ax F m S H' :=
  ⟨fun a o e => k a o (r.sub a o e), fun i o e => by
    obtain ⟨u, q⟩ := r.there (lt_of_get e)
    exact (r.at_ i o e).evo .refl (by rw [k _ _ q, q]) (fun z => z), r.inj⟩
theorem Rep.take (r : Rep K ax F m S H) (n : Nat) : Rep K ax F m (S.take n) H :=
  ⟨r.sub, fun i o e => by
    have hi : i < n := by
      have q := lt_of_get e
      rw [List.length_take] at q; omega
    rw [List.getElem?_take_of_lt hi] at e
    exact r.at_ i o e, fun i j hi hj => r.inj i j (by rw [List.length_take] at hi; omega) (by rw [List.length_take] at hj; omega)⟩
def put (m : Nat → Addr) (i : Nat) (p : Addr) : Nat → Addr := fun j => if j = i then p else m j
theorem put_same {i : Nat} {p : Addr} : put m i p i = p := if_pos rfl
theorem put_ne {i j : Nat} {p : Addr} (h : j ≠ i) : put m i p j = m j := if_neg h
theorem put_evo {p : Addr} {n : Nat} : Evo n F m F (put m n p) := ⟨fun _ _ h => h, fun i hi => put_ne (Nat.ne_of_lt hi)⟩
/-- a new list -/
theorem Rep.newL (r : Rep K ax F m S H) {p : Addr} {xs : List D} {vs : List V} (hp : H p = none) (hx : RelDs K ax F m S.length xs vs) :
    Rep K ax F (put m S.length p) (S ++ [.lst xs]) (upd H p (.lst vs)) := by
  have hF := r.offF hp
  refine ⟨fun a o e => ?_, fun i o e => ?_, fun i j hi hj q => ?_⟩
  · rw [upd_ne (fun z => by rw [z, hF] at e; cases e)]
    exact r.sub _ _ e
  · by_cases hi : i < S.length
    · rw [List.getElem?_append_left hi] at e
      have ne := r.off hp hi
      exact (r.at_ i o e).evo ⟨fun _ _ h => h, fun j hj => put_ne (by omega)⟩ (by rw [upd_ne ne]) (fun z => z)
    · have hi2 : i = S.length := by
        have q := lt_of_get e
        rw [List.length_append, List.length_singleton] at q
        omega
      subst hi2
      rw [List.getElem?_append_right (Nat.le_refl _), Nat.sub_self] at e
      have eo : O.lst xs = o := by simpa using e
      subst eo
      refine ⟨vs, ?_, ?_, hx.evo put_evo (Nat.le_refl _)⟩
      · rw [put_same, upd_same]
      · rw [put_same]; exact hF
  · rw [List.length_append, List.length_singleton] at hi hj
    by_cases h1 : i = S.length
    · by_cases h2 : j = S.length
      · omega
      · subst h1
        rw [put_same, put_ne h2] at q
        exact absurd q.symm (r.off hp (by omega))
    · by_cases h2 : j = S.length
      · subst h2
        rw [put_same, put_ne h1] at q
        exact absurd q (r.off hp (by omega))
      · rw [put_ne h1, put_ne h2] at q
        exact r.inj i j (by omega) (by omega) q
/-- a new thing that never changes -/
theorem Rep.newF (r : Rep K ax F m S H) {p : Addr} {o : HO} (hp : H p = none) : Rep K ax (upd F p o) m S (upd H p o) := by
  have hF := r.offF hp
  refine ⟨fun a u e => ?_, fun i u e => ?_, r.inj⟩
  · by_cases ha : a = p
    · subst ha; rw [upd_same] at e ⊢; exact e
    · rw [upd_ne ha] at e ⊢; exact r.sub _ _ e
  · have ne := r.off hp (lt_of_get e)
    refine (r.at_ i u e).evo ⟨fun a w q => ?_, fun _ _ => rfl⟩ (upd_ne ne) (fun z => by rw [upd_ne ne]; exact z)
    rw [upd_ne (fun z => by rw [z, hF] at q; cases q)]
    exact q
theorem evoF (r : Rep K ax F m S H) {p : Addr} {o : HO} (hp : H p = none) {n : Nat} : Evo n F m (upd F p o) m :=
  ⟨fun a w q => by
    rw [upd_ne (fun z => by rw [z, r.offF hp] at q; cases q)]
    exact q, fun _ _ => rfl⟩
/-- a list of the store changes -/
theorem Rep.setL (r : Rep K ax F m S H) {i : Nat} {xs ys : List D} {ws : List V} (h : S[i]? = some (.lst xs)) (hy : RelDs K ax F m i ys ws) : Rep K ax F m (S.set i (.lst ys)) (upd H (m i) (.lst ws)) := by
  have hi := lt_of_get h
  obtain ⟨vs, h1, h2, h3⟩ := r.at_ i _ h
  refine ⟨fun a o e => ?_, fun j o e => ?_, fun j l hj hl => r.inj j l (by simpa using hj) (by simpa using hl)⟩
  · rw [upd_ne (fun z => by rw [z, h2] at e; cases e)]
    exact r.sub _ _ e
  · by_cases hj : j = i
    · subst hj
      rw [List.getElem?_set_self hi] at e
      have eo : O.lst ys = o := by simpa using e
      subst eo
      exact ⟨ws, upd_same, h2, hy⟩
    · rw [List.getElem?_set_ne (Ne.symm hj)] at e
      have ne : m j ≠ m i := fun q => hj (r.inj j i (lt_of_get e) hi q)
      exact (r.at_ j o e).evo .refl (upd_ne ne) (fun z => z)
/-- a list of the store is frozen -/
theorem Rep.freeze (r : Rep K ax F m S H) {i : Nat} {xs : List D} (h : S[i]? = some (.lst xs)) (hx : D.lts 0 xs = true) :
    ∃ vs, H (m i) = some (.lst vs) ∧ F (m i) = none ∧ RelDs K ax (upd F (m i) (.lst vs)) m 0 xs vs ∧ Rep K ax (upd F (m i) (.lst vs)) m (S.set i (.fzl xs)) H ∧ ∀ n, Evo n F m (upd F (m i) (.lst vs)) m := by
  have hi := lt_of_get h
  obtain ⟨vs, h1, h2, h3⟩ := r.at_ i _ h
  have ev : ∀ n, Evo n F m (upd F (m i) (.lst vs)) m := fun n => ⟨fun a w q => by
    rw [upd_ne (fun z => by rw [z, h2] at q; cases q)]
    exact q, fun _ _ => rfl⟩
  have hx0 : RelDs K ax (upd F (m i) (.lst vs)) m 0 xs vs := (h3.low hx).evo (ev 0) (Nat.le_refl _)
  refine ⟨vs, h1, h2, hx0, ⟨fun a o e => ?_, fun j o e => ?_, fun j l hj hl => r.inj j l (by simpa using hj) (by simpa using hl)⟩, ev⟩
  · by_cases ha : a = m i
    · subst ha
      rw [upd_same] at e
      rw [h1]; exact e
    · rw [upd_ne ha] at e
      exact r.sub _ _ e
  · by_cases hj : j = i
    · subst hj
      rw [List.getElem?_set_self hi] at e
      have eo : O.fzl xs = o := by simpa using e
      subst eo
      exact ⟨vs, upd_same, hx0⟩
    · rw [List.getElem?_set_ne (Ne.symm hj)] at e
      have ne : m j ≠ m i := fun q => hj (r.inj j i (lt_of_get e) hi q)
      exact (r.at_ j o e).evo (ev _) rfl (fun z => by rw [upd_ne ne]; exact z)
/-- freezing by frz -/
theorem Rep.frz (r : Rep K ax F m S H) {d : D} {v : V} (hd : RelD K ax F m S.length d v) :
    ∃ F', Rep K ax F' m (frz d S).2 H ∧ RelD K ax F' m (frz d S).2.length (frz d S).1 v ∧ (frz d S).2.length = S.length ∧ ∀ n, Evo n F m F' m := by
  cases d with
  | ref i =>
    obtain ⟨hi, hv⟩ := hd
    cases e : S[i]? with
    | none =>
      have e2 : Rf.frz (.ref i) S = (.ref i, S) := by simp [Rf.frz, e]
      rw [e2]
      exact ⟨F, r, ⟨hi, hv⟩, rfl, fun _ => .refl⟩
    | some o =>
      cases o with
      | lst xs =>
        by_cases hx : D.lts 0 xs = true
        · have e2 : Rf.frz (.ref i) S = (.lst xs, S.set i (.fzl xs)) := by simp [Rf.frz, e, hx]
          rw [e2]
          obtain ⟨vs, h1, h2, h3, h4, h5⟩ := r.freeze e hx
          exact ⟨_, h4, ⟨m i, vs, hv, upd_same, h3.evo .refl (Nat.zero_le _)⟩, by simp, h5⟩
        · have e2 : Rf.frz (.ref i) S = (.ref i, S) := by simp [Rf.frz, e, hx]
          rw [e2]
          exact ⟨F, r, ⟨hi, hv⟩, rfl, fun _ => .refl⟩
      | fzl xs =>
        obtain ⟨vs, h1, h3⟩ := r.at_ i _ e
        have e2 : Rf.frz (.ref i) S = (.lst xs, S) := by simp [Rf.frz, e]
        rw [e2]
        exact ⟨F, r, ⟨m i, vs, hv, h1, h3.evo .refl (Nat.zero_le _)⟩, rfl, fun _ => .refl⟩
      | dct _ =>
        have e2 : Rf.frz (.ref i) S = (.ref i, S) := by simp [Rf.frz, e]
        rw [e2]
        exact ⟨F, r, ⟨hi, hv⟩, rfl, fun _ => .refl⟩
  | _ => exact ⟨F, r, hd, rfl, fun _ => .refl⟩
theorem Rep.frzs : ∀ {ds : List D} {vs : List V} {F : Hp} {S : Store}, Rep K ax F m S H → RelDs K ax F m S.length ds vs →
    ∃ F', Rep K ax F' m (frzs ds S).2 H ∧ RelDs K ax F' m (frzs ds S).2.length (frzs ds S).1 vs ∧ (frzs ds S).2.length = S.length ∧ ∀ n, Evo n F m F' m
  | [], _, F, S, r, h => ⟨F, r, h, rfl, fun _ => .refl⟩
  | d :: ds, _, F, S, r, h => by
    obtain ⟨v, vs', e1, h1, h2⟩ := h
    obtain ⟨F1, r1, d1, l1, e1'⟩ := r.frz h1
    obtain ⟨F2, r2, d2, l2, e2⟩ := Rep.frzs r1 ((l1 ▸ h2.evo (e1' S.length) (Nat.le_refl _) : RelDs K ax F1 m (Rf.frz d S).2.length ds vs'))
    refine ⟨F2, r2, ⟨v, vs', e1, ?_, d2⟩, l2.trans l1, fun n => (e1' n).trans (Nat.le_refl _) (e2 n)⟩
    exact d1.evo (e2 _) (by show (Rf.frz d S).2.length ≤ (Rf.frzs ds (Rf.frz d S).2).2.length; omega)
/-- objects that nobody names go -/
theorem Rep.gc (r : Rep K ax F m S H) {d : D} {v : V} {n : Nat} (hn : n ≤ S.length) (hd : RelD K ax F m S.length d v) :
    ∃ m', Rep K ax F m' (gc n d S).2 H ∧ RelD K ax F m' (gc n d S).2.length (gc n d S).1 v ∧ n ≤ (gc n d S).2.length ∧ Evo n F m F m' := by
  have same : Rep K ax F m S H ∧ RelD K ax F m S.length d v ∧ n ≤ S.length ∧ Evo n F m F m := ⟨r, hd, hn, .refl⟩
  unfold Rf.gc
  by_cases hl : D.lt n d = true
  · rw [if_pos hl]
    have e : (S.take n).length = n := by rw [List.length_take]; omega
    exact ⟨m, r.take n, by rw [e]; exact hd.low hl, by rw [e]; exact Nat.le_refl _, .refl⟩
  · rw [if_neg hl]
    cases d with
    | ref i =>
      obtain ⟨hi, hv⟩ := hd
      dsimp only
      cases e : S[i]? with
      | none => exact ⟨m, same⟩
      | some o =>
        dsimp only
        by_cases ho : O.lt n o = true
        · rw [if_pos ho]
          have hni : n ≤ i := by
            have q : ¬ i < n := fun q => hl (decide_eq_true q)
            omega
          have e0 : (S.take n).length = n := by rw [List.length_take]; omega
          have q := r.at_ i o e
          refine ⟨put m n (m i), ⟨r.sub, fun j u ej => ?_, fun j l hj hl' qq => ?_⟩, ⟨?_, ?_⟩, ?_, put_evo⟩
          · by_cases hj : j < n
            · rw [List.getElem?_append_left (by omega), List.getElem?_take_of_lt hj] at ej
              exact (r.at_ j u ej).evo ⟨fun _ _ h => h, fun l hl' => put_ne (by omega)⟩ rfl (fun z => z)
            · have hj2 : j = n := by
                have z := lt_of_get ej
                rw [List.length_append, List.length_singleton, e0] at z
                omega
              subst hj2
              rw [List.getElem?_append_right (by omega), e0, Nat.sub_self] at ej
              have eo : o = u := by simpa using ej
              subst eo
              cases o with
              | lst xs =>
                obtain ⟨vs, h1, h2, h3⟩ := q
                exact ⟨vs, by rw [put_same]; exact h1, by rw [put_same]; exact h2, (h3.low ho).evo put_evo (Nat.le_refl _)⟩
              | fzl xs =>
                obtain ⟨vs, h1, h3⟩ := q
                exact ⟨vs, by rw [put_same]; exact h1, h3.evo (put_evo.le (Nat.zero_le _)) (Nat.le_refl _)⟩
              | dct _ => exact q.elim
          · rw [List.length_append, List.length_singleton, e0] at hj hl'
            by_cases h1 : j = n
            · by_cases h2 : l = n
              · omega
              · subst h1
                rw [put_same, put_ne h2] at qq
                have := r.inj i l hi (by omega) qq
                omega
            · by_cases h2 : l = n
              · subst h2
                rw [put_same, put_ne h1] at qq
                have := r.inj j i (by omega) hi qq
                omega
              · rw [put_ne h1, put_ne h2] at qq
                exact r.inj j l (by omega) (by omega) qq
          · rw [List.length_append, List.length_singleton, e0]; exact Nat.lt_succ_self n
          · rw [put_same]; exact hv
          · rw [List.length_append, List.length_singleton, e0]; exact Nat.le_succ n
        · rw [if_neg ho]
          exact ⟨m, same⟩
    | _ => exact ⟨m, same⟩
theorem Rep.fresh (r : Rep K ax F m S H) {d : D} {v : V} {n : Nat} (hn : n ≤ S.length) (hd : RelD K ax F m S.length d v) :
    ∃ F', Rep K ax F' m (fresh n d S).2 H ∧ RelD K ax F' m (fresh n d S).2.length (fresh n d S).1 v ∧ n ≤ (fresh n d S).2.length ∧ Evo n F m F' m := by
  cases d with
  | ref i =>
    unfold Rf.fresh
    dsimp only
    by_cases hi : n ≤ i
    · rw [if_pos hi]
      obtain ⟨F1, r1, d1, l1, e1⟩ := r.frz hd
      by_cases hl : D.lt n (Rf.frz (.ref i) S).1 = true
      · rw [if_pos hl]
        have e0 : ((Rf.frz (.ref i) S).2.take n).length = n := by rw [List.length_take]; omega
        exact ⟨F1, r1.take n, by rw [e0]; exact d1.low hl, by rw [e0]; exact Nat.le_refl _, e1 n⟩
      · rw [if_neg hl]
        exact ⟨F, r, hd, hn, .refl⟩
    · rw [if_neg hi]
      exact ⟨F, r, hd, hn, .refl⟩
  | _ => exact ⟨F, r, hd, hn, .refl⟩
/-- what a list, a tuple holds -/
theorem Rep.seqOf (r : Rep K ax F m S H) {d : D} {v : V} {xs : List D} (hd : RelD K ax F m S.length d v) (h : seqOf S d = some xs) :
    ∃ a vs, v = .ref a ∧ (SqL K H a vs ∨ SqT K H a vs) ∧ RelDs K ax F m S.length xs vs := by
  cases d with
  | tup ys =>
    obtain ⟨a, vs, e1, h1, h2⟩ := hd
    have e : ys = xs := Option.some.inj h
    subst e
    exact ⟨a, vs, e1, .inr (SqT.evo h1 r.sub), h2⟩
  | lst ys =>
    obtain ⟨a, vs, e1, h1, h2⟩ := hd
    have e : ys = xs := Option.some.inj h
    subst e
    exact ⟨a, vs, e1, .inl (.inl (.inl (r.sub _ _ h1))), h2⟩
  | ref i =>
    obtain ⟨hi, hv⟩ := hd
    cases e : S[i]? with
    | none => simp [Rf.seqOf, e] at h
    | some o =>
      have q := r.at_ i o e
      cases o with
      | lst ys =>
        have e' : ys = xs := by simpa [Rf.seqOf, e] using h
        subst e'
        obtain ⟨vs, h1, h2, h3⟩ := q
        exact ⟨m i, vs, hv, .inl (.inl (.inl h1)), h3.evo .refl (Nat.le_of_lt hi)⟩
      | fzl ys =>
        have e' : ys = xs := by simpa [Rf.seqOf, e] using h
        subst e'
        obtain ⟨vs, h1, h3⟩ := q
        exact ⟨m i, vs, hv, .inl (.inl (.inl (r.sub _ _ h1))), h3.evo .refl (Nat.zero_le _)⟩
      | dct _ => simp [Rf.seqOf, e] at h
  | _ => cases h
theorem Rep.lstOf (r : Rep K ax F m S H) {d : D} {v : V} {xs : List D} (hd : RelD K ax F m S.length d v) (h : lstOf S d = some xs) :
    ∃ a vs, v = .ref a ∧ H a = some (.lst vs) ∧ RelDs K ax F m S.length xs vs := by
  cases d with
  | lst ys =>
    obtain ⟨a, vs, e1, h1, h2⟩ := hd
    have e : ys = xs := Option.some.inj h
    subst e
    exact ⟨a, vs, e1, r.sub _ _ h1, h2⟩
  | ref i =>
    obtain ⟨hi, hv⟩ := hd
    cases e : S[i]? with
    | none => simp [Rf.lstOf, e] at h
    | some o =>
      have q := r.at_ i o e
      cases o with
      | lst ys =>
        have e' : ys = xs := by simpa [Rf.lstOf, e] using h
        subst e'
        obtain ⟨vs, h1, h2, h3⟩ := q
        exact ⟨m i, vs, hv, h1, h3.evo .refl (Nat.le_of_lt hi)⟩
      | fzl ys =>
        have e' : ys = xs := by simpa [Rf.lstOf, e] using h
        subst e'
        obtain ⟨vs, h1, h3⟩ := q
        exact ⟨m i, vs, hv, r.sub _ _ h1, h3.evo .refl (Nat.zero_le _)⟩
      | dct _ => simp [Rf.lstOf, e] at h
  | _ => cases h
end
end Rf
set_option Elab.async false
set_option linter.all false
set_option maxRecDepth 100000
/-! Operations by values. -/
namespace Rf
open PySem PySem.Spec PyProof.Rows L2
variable {K : PySem.W.Frag} {ax : Aux}

/-- what is wanted of a value d that stands in the store S', begun with n objects -/
def Fin (K : PySem.W.Frag) (ax : Aux) (F : Hp) (m : Nat → Addr) (n : Nat) (S' : Store) (d : D) (Q : VK) : Prop :=
  ∀ F' m' H' v, Evo n F m F' m' → n ≤ S'.length → Rep K ax F' m' S' H' → RelD K ax F' m' S'.length d v → Q v H'
section
variable {F H : Hp} {m : Nat → Addr} {S : Store} {d : D} {v : V} {Q : VK} {xs : List D} {vs : List V}
theorem Fin.here (q : Fin K ax F m S.length S d Q) (r : Rep K ax F m S H) (h : RelD K ax F m S.length d v) : Q v H := q F m H v .refl (Nat.le_refl _) r h
theorem Fin.newT (q : Fin K ax F m S.length S (.tup xs) Q) (r : Rep K ax F m S H) (h : RelDs K ax F m S.length xs vs) : ∀ p, H p = none → Q (.ref p) (upd H p (.tup vs)) := fun p hp =>
  q _ m _ _ (evoF r hp) (Nat.le_refl _) (r.newF hp) ⟨p, vs, rfl, SqT.of upd_same, h.evo (evoF r hp) (Nat.le_refl _)⟩
theorem Fin.newL (q : Fin K ax F m S.length (S ++ [.lst xs]) (.ref S.length) Q) (r : Rep K ax F m S H) (h : RelDs K ax F m S.length xs vs) : ∀ p, H p = none → Q (.ref p) (upd H p (.lst vs)) := fun p hp =>
  q F (put m S.length p) _ _ put_evo (by simp) (r.newL hp h) ⟨by simp, by rw [put_same]⟩
theorem maxLen_le {n : Nat} (h : n ≤ maxLen) : n ≤ sizeLine := by
  have e : sizeLine = 16777216 := sizeLine_eq
  have e2 : maxLen = 1000000 := rfl
  omega
theorem maxLen_lt {n : Nat} (h : n < maxLen) : n < sizeLine := by
  have e : sizeLine = 16777216 := sizeLine_eq
  have e2 : maxLen = 1000000 := rfl
  omega
theorem newL_some {S' : Store} (h : newL xs S = some (d, S')) : xs.length ≤ maxLen ∧ d = .ref S.length ∧ S' = S ++ [.lst xs] := by
  unfold Rf.newL at h
  split at h
  · cases h; exact ⟨by assumption, rfl, rfl⟩
  · cases h
theorem newT_some {S' : Store} (h : newT xs S = some (d, S')) : xs.length ≤ maxLen ∧ d = .tup xs ∧ S' = S := by
  unfold Rf.newT at h
  split at h
  · cases h; exact ⟨by assumption, rfl, rfl⟩
  · cases h
end

/-- an operation on two values -/
def RV2 (K : PySem.W.Frag) (ax : Aux) (op : D → D → Store → Option (D × Store)) : R2 := fun x y H Q => ∃ F m S d1 d2 d S',
  Rep K ax F m S H ∧ RelD K ax F m S.length d1 x ∧ RelD K ax F m S.length d2 y ∧ op d1 d2 S = some (d, S') ∧ Fin K ax F m S.length S' d Q
/-- on a value -/
def RV1 (K : PySem.W.Frag) (ax : Aux) (op : D → Store → Option (D × Store)) : V → Hp → VK → Prop := fun x H Q => ∃ F m S d1 d S',
  Rep K ax F m S H ∧ RelD K ax F m S.length d1 x ∧ op d1 S = some (d, S') ∧ Fin K ax F m S.length S' d Q
/-- on a list of values -/
def RVs (K : PySem.W.Frag) (ax : Aux) (op : List D → Store → Option (D × Store)) : List V → Hp → VK → Prop := fun xs H Q => ∃ F m S ds d S',
  Rep K ax F m S H ∧ RelDs K ax F m S.length ds xs ∧ op ds S = some (d, S') ∧ Fin K ax F m S.length S' d Q
def RVm (K : PySem.W.Frag) (ax : Aux) (op : D → List D → Store → Option (D × Store)) : V → List V → Hp → VK → Prop := fun x xs H Q => ∃ F m S d0 ds d S',
  Rep K ax F m S H ∧ RelD K ax F m S.length d0 x ∧ RelDs K ax F m S.length ds xs ∧ op d0 ds S = some (d, S') ∧ Fin K ax F m S.length S' d Q

section
variable {X : Cx}
theorem small64_ok {i : Int} (h : small64 i = true) : -(2 ^ 64) < i ∧ i < 2 ^ 64 := by
  have := Bool.and_eq_true_iff.mp h
  exact ⟨of_decide_eq_true this.1, of_decide_eq_true this.2⟩
theorem lstOf_none {S : Store} {d : D} (h : ∀ xs, d ≠ .lst xs) (h2 : ∀ i, d ≠ .ref i) : lstOf S d = none := by
  cases d <;> first | rfl | exact absurd rfl (h _) | exact absurd rfl (h2 _)
theorem cat_lists {pins : List (Addr × Obj)} {s : Shared} {σ : L2.St} {H : Hp} {x y : V} {v u : Value} {Q : VK} {F : Hp} {m : Nat → Addr} {S S' : Store} {d1 d2 d : D}
    (I : Inv X pins σ H s) (rx : RelV x v) (ry : RelV y u) (r : Rep X.K ax F m S H) (h1 : RelD X.K ax F m S.length d1 x) (h2 : RelD X.K ax F m S.length d2 y)
    (e : (match lstOf S d1, lstOf S d2 with | some xs, some ys => newL (xs ++ ys) S | _, _ => none) = some (d, S')) (q : Fin X.K ax F m S.length S' d Q) :
    wpAny (model X.prog X.w) X.A (binaryOp .Add v u) (EP X pins σ Q) X.xe s := by
  cases e1 : lstOf S d1 with
  | none => rw [e1] at e; cases e
  | some xs =>
    cases e2 : lstOf S d2 with
    | none => rw [e1, e2] at e; cases e
    | some ys =>
      rw [e1, e2] at e
      obtain ⟨hl, rfl, rfl⟩ := newL_some e
      obtain ⟨a, vs, rfl, ha, ra⟩ := r.lstOf h1 e1
      obtain ⟨b, ws, rfl, hb, rb⟩ := r.lstOf h2 e2
      refine op_cat pins s σ H _ _ v u Q I rx ry ⟨a, b, vs, ws, rfl, rfl, ha, hb, ?_, q.newL r (ra.append rb)⟩
      have := ra.length
      have := rb.length
      rw [List.length_append] at hl
      exact maxLen_le (by omega)
theorem or_add : OpR X (binaryOp .Add) (RV2 X.K ax (binop .add)) := by
  intro pins s σ H x y v u Q I rx ry h
  obtain ⟨F, m, S, d1, d2, d, S', r, h1, h2, e, q⟩ := h
  have viaL : (binop .add d1 d2 S = match lstOf S d1, lstOf S d2 with | some xs, some ys => newL (xs ++ ys) S | _, _ => none) → wpAny (model X.prog X.w) X.A (binaryOp .Add v u) (EP X pins σ Q) X.xe s := fun z =>
    cat_lists I rx ry r h1 h2 (by rw [← z]; exact e) q
  cases d1 with
  | int a =>
    cases d2 with
    | int b =>
      cases e
      obtain rfl : x = .int a := h1
      obtain rfl : y = .int b := h2
      exact op_add pins s σ H _ _ v u Q I rx ry ⟨a, b, rfl, rfl, q.here r rfl⟩
    | _ => exact viaL rfl
  | str a =>
    cases d2 with
    | str b =>
      obtain rfl : x = .str a := h1
      obtain rfl : y = .str b := h2
      have e' : (if a.length + b.length ≤ maxLen then some (D.str (a ++ b), S) else none) = some (d, S') := e
      split at e'
      · rename_i hl
        cases e'
        exact op_add_str pins s σ H _ _ v u Q I rx ry ⟨a, b, rfl, rfl, maxLen_le hl, q.here r rfl⟩
      · cases e'
    | _ => exact viaL rfl
  | tup a =>
    cases d2 with
    | tup b =>
      obtain ⟨hl, rfl, rfl⟩ := newT_some (show newT (a ++ b) S = some (d, S') from e)
      obtain ⟨p, vs, rfl, ha, ra⟩ := h1
      obtain ⟨p2, ws, rfl, hb, rb⟩ := h2
      have l1 := ra.length
      have l2 := rb.length
      rw [List.length_append] at hl
      refine op_catA pins s σ H _ _ v u Q I rx ry ⟨p, p2, vs, ws, rfl, rfl, SqT.evo ha r.sub, SqT.evo hb r.sub, maxLen_le (by omega), fun e1 => ?_, fun _ e1 => ?_, fun _ _ => ?_⟩
      · have ea : a = [] := List.length_eq_zero_iff.mp (by rw [l1, e1]; rfl)
        refine q.here r ⟨p2, ws, rfl, hb, ?_⟩
        rw [ea]; exact rb
      · have ea : b = [] := List.length_eq_zero_iff.mp (by rw [l2, e1]; rfl)
        refine q.here r ⟨p, vs, rfl, ha, ?_⟩
        rw [ea, List.append_nil]; exact ra
      · exact q.newT r (ra.append rb)
    | _ => exact viaL rfl
  | _ => cases d2 <;> exact viaL rfl
theorem int2 {F : Hp} {m : Nat → Addr} {n : Nat} {d : D} {x : V} (h : RelD K ax F m n d x) {i : Int} (e : d = .int i) : x = .int i := by
  subst e; exact h
theorem or_sub : OpR X (binaryOp .Sub) (RV2 X.K ax (binop .sub)) := by
  intro pins s σ H x y v u Q I rx ry h
  obtain ⟨F, m, S, d1, d2, d, S', r, h1, h2, e, q⟩ := h
  cases d1 with
  | int a =>
    cases d2 with
    | int b =>
      cases e
      obtain rfl : x = .int a := h1
      obtain rfl : y = .int b := h2
      exact op_sub pins s σ H _ _ v u Q I rx ry ⟨a, b, rfl, rfl, q.here r rfl⟩
    | _ => cases e
  | _ => cases d2 <;> cases e
theorem mul_list {pins : List (Addr × Obj)} {s : Shared} {σ : L2.St} {H : Hp} {x y : V} {v u : Value} {Q : VK} {F : Hp} {m : Nat → Addr} {S S' : Store} {d1 d : D} {b : Int}
    (I : Inv X pins σ H s) (rx : RelV x v) (ry : RelV y u) (r : Rep X.K ax F m S H) (h1 : RelD X.K ax F m S.length d1 x) (h2 : y = .int b)
    (e : (match lstOf S d1 with | some xs => if decide (0 ≤ b) && decide (b ≤ 1000) && decide (xs.length ≤ 1000) then newL (List.replicate b.toNat xs).flatten S else none | none => none) = some (d, S')) (q : Fin X.K ax F m S.length S' d Q) :
    wpAny (model X.prog X.w) X.A (binaryOp .Mult v u) (EP X pins σ Q) X.xe s := by
  subst h2
  cases e1 : lstOf S d1 with
  | none => rw [e1] at e; cases e
  | some xs =>
    rw [e1] at e
    dsimp only at e
    split at e
    · rename_i hc
      simp only [Bool.and_eq_true, decide_eq_true_eq] at hc
      obtain ⟨hl, rfl, rfl⟩ := newL_some e
      obtain ⟨a, vs, rfl, ha, ra⟩ := r.lstOf h1 e1
      have l1 := ra.length
      refine op_rep pins s σ H _ _ v u Q I rx ry ⟨a, b, vs, rfl, rfl, ha, by omega, by omega, ?_, q.newL r (RelDs.replicate ra _)⟩
      have e2 : sizeLine = 16777216 := sizeLine_eq
      have h3 : vs.length * b.toNat ≤ 1000 * 1000 := Nat.mul_le_mul (by omega) (by omega)
      omega
    · cases e
theorem or_mul : OpR X (binaryOp .Mult) (RV2 X.K ax (binop .mul)) := by
  intro pins s σ H x y v u Q I rx ry h
  obtain ⟨F, m, S, d1, d2, d, S', r, h1, h2, e, q⟩ := h
  cases d2 with
  | int b =>
    obtain rfl : y = .int b := h2
    have viaL : (binop .mul d1 (.int b) S = match lstOf S d1 with | some xs => if decide (0 ≤ b) && decide (b ≤ 1000) && decide (xs.length ≤ 1000) then newL (List.replicate b.toNat xs).flatten S else none | none => none) →
        wpAny (model X.prog X.w) X.A (binaryOp .Mult v u) (EP X pins σ Q) X.xe s := fun z => mul_list I rx ry r h1 rfl (by rw [← z]; exact e) q
    cases d1 with
    | int a =>
      obtain rfl : x = .int a := h1
      have e' : (if small64 a || small64 b then some (D.int (a * b), S) else none) = some (d, S') := e
      split at e'
      · rename_i hc
        cases e'
        refine op_mul pins s σ H _ _ v u Q I rx ry ⟨a, b, rfl, rfl, ?_, q.here r rfl⟩
        rcases Bool.or_eq_true_iff.mp hc with z | z
        · exact .inl (small64_ok z)
        · exact .inr (small64_ok z)
      · cases e'
    | tup a =>
      have e' : (if decide (2 ≤ b) && decide (b ≤ 1000) && decide (a.length ≤ 1000) && !a.isEmpty then some (D.tup (List.replicate b.toNat a).flatten, S) else none) = some (d, S') := e
      split at e'
      · rename_i hc
        simp only [Bool.and_eq_true, decide_eq_true_eq, Bool.not_eq_true'] at hc
        cases e'
        obtain ⟨p, vs, rfl, ha, ra⟩ := h1
        have l1 := ra.length
        refine op_repT pins s σ H _ _ v u Q I rx ry ⟨p, b, vs, rfl, rfl, SqT.evo ha r.sub, ?_, hc.1.1.1, hc.1.1.2, by omega, q.newT r (RelDs.replicate ra _)⟩
        intro z
        rw [z] at l1
        have : a = [] := List.length_eq_zero_iff.mp l1
        rw [this] at hc
        simp at hc
      · cases e'
    | _ => exact viaL rfl
  | _ => cases d1 <;> cases e
theorem or_fdiv : OpR X (binaryOp .FloorDiv) (RV2 X.K ax (binop .fdiv)) := by
  intro pins s σ H x y v u Q I rx ry h
  obtain ⟨F, m, S, d1, d2, d, S', r, h1, h2, e, q⟩ := h
  cases d1 with
  | int a =>
    cases d2 with
    | int b =>
      obtain rfl : x = .int a := h1
      obtain rfl : y = .int b := h2
      have e' : (if decide (0 < b) && decide (b < 1073741824) then some (D.int (a / b), S) else none) = some (d, S') := e
      split at e'
      · rename_i hc
        simp only [Bool.and_eq_true, decide_eq_true_eq] at hc
        cases e'
        exact op_fdiv pins s σ H _ _ v u Q I rx ry ⟨a, b, rfl, rfl, hc, q.here r rfl⟩
      · cases e'
    | _ => cases e
  | _ => cases d2 <;> cases e
theorem or_mod : OpR X (binaryOp .Mod) (RV2 X.K ax (binop .mod)) := by
  intro pins s σ H x y v u Q I rx ry h
  obtain ⟨F, m, S, d1, d2, d, S', r, h1, h2, e, q⟩ := h
  cases d1 with
  | int a =>
    cases d2 with
    | int b =>
      obtain rfl : x = .int a := h1
      obtain rfl : y = .int b := h2
      have e' : (if decide (0 < b) then some (D.int (a % b), S) else none) = some (d, S') := e
      split at e'
      · rename_i hc
        simp only [decide_eq_true_eq] at hc
        cases e'
        exact op_mod pins s σ H _ _ v u Q I rx ry ⟨a, b, rfl, rfl, hc, q.here r rfl⟩
      · cases e'
    | _ => cases e
  | _ => cases d2 <;> cases e
theorem or_pow : OpR X (binaryOp .Pow) (RV2 X.K ax (binop .pow)) := by
  intro pins s σ H x y v u Q I rx ry h
  obtain ⟨F, m, S, d1, d2, d, S', r, h1, h2, e, q⟩ := h
  cases d1 with
  | int a =>
    cases d2 with
    | int b =>
      obtain rfl : x = .int a := h1
      obtain rfl : y = .int b := h2
      have e' : (if decide (0 ≤ b) && decide (b ≤ 1000) && small64 a then some (D.int (a ^ b.toNat), S) else none) = some (d, S') := e
      split at e'
      · rename_i hc
        simp only [Bool.and_eq_true, decide_eq_true_eq] at hc
        cases e'
        refine op_pow pins s σ H _ _ v u Q I rx ry ⟨a, b, rfl, rfl, ⟨hc.1.1, by omega, ?_⟩, q.here r rfl⟩
        have z := small64_ok hc.2
        omega
      · cases e'
    | _ => cases e
  | _ => cases d2 <;> cases e
def bopE : Bop → Operator
  | .add => .Add | .sub => .Sub | .mul => .Mult | .fdiv => .FloorDiv | .mod => .Mod | .pow => .Pow
theorem or_bin (o : Bop) : OpR X (binaryOp (bopE o)) (RV2 X.K ax (binop o)) := by
  cases o
  · exact or_add
  · exact or_sub
  · exact or_mul
  · exact or_fdiv
  · exact or_mod
  · exact or_pow
end

/-! ### data for == -/
mutual
def toP : D → PyData
  | .non => .none
  | .bl b => .bool b
  | .int i => .int i
  | .str s => .str s
  | .tup xs => .tuple (toPs xs)
  | .lst xs => .list (toPs xs)
  | _ => .none
def toPs : List D → List PyData
  | [] => []
  | x :: xs => toP x :: toPs xs
end
mutual
theorem eqv_toP : ∀ (k l : Nat) (a b : D), D.shp k a = true → D.shp l b = true → PyData.eqv (toP a) (toP b) = D.eqv a b
  | k, l, .non, b, _, hb => by cases b <;> first | rfl | (cases l <;> simp_all [toP, PyData.eqv, D.eqv, D.shp])
  | k, l, .bl x, b, _, hb => by cases b <;> first | rfl | (cases l <;> simp_all [toP, PyData.eqv, D.eqv, D.shp])
  | k, l, .int x, b, _, hb => by cases b <;> first | rfl | (cases l <;> simp_all [toP, PyData.eqv, D.eqv, D.shp])
  | k, l, .str x, b, _, hb => by cases b <;> first | rfl | (cases l <;> simp_all [toP, PyData.eqv, D.eqv, D.shp])
  | 0, _, .tup xs, _, ha, _ => by simp [D.shp] at ha
  | 0, _, .lst xs, _, ha, _ => by simp [D.shp] at ha
  | k + 1, 0, .tup xs, b, ha, hb => by cases b <;> simp_all [toP, PyData.eqv, D.eqv, D.shp]
  | k + 1, 0, .lst xs, b, ha, hb => by cases b <;> simp_all [toP, PyData.eqv, D.eqv, D.shp]
  | k + 1, l + 1, .tup xs, b, ha, hb => by
    cases b with
    | tup ys =>
      simp only [toP, PyData.eqv, D.eqv]
      exact eqvs_toP k l xs ys (by simpa [D.shp] using ha) (by simpa [D.shp] using hb)
    | _ => simp_all [toP, PyData.eqv, D.eqv, D.shp]
  | k + 1, l + 1, .lst xs, b, ha, hb => by
    cases b with
    | lst ys =>
      simp only [toP, PyData.eqv, D.eqv]
      exact eqvs_toP k l xs ys (by simpa [D.shp] using ha) (by simpa [D.shp] using hb)
    | _ => simp_all [toP, PyData.eqv, D.eqv, D.shp]
  | k, _, .scr _, _, ha, _ => by cases k <;> simp [D.shp] at ha
  | k, _, .trk _ _ _, _, ha, _ => by cases k <;> simp [D.shp] at ha
  | k, _, .fn _, _, ha, _ => by cases k <;> simp [D.shp] at ha
  | k, _, .ref _, _, ha, _ => by cases k <;> simp [D.shp] at ha
theorem eqvs_toP : ∀ (k l : Nat) (a b : List D), D.shps k a = true → D.shps l b = true → PyData.eqvAll (toPs a) (toPs b) = D.eqvs a b
  | k, l, [], [], _, _ => rfl
  | k, l, [], b :: bs, _, _ => by simp [toPs, PyData.eqvAll, D.eqvs]
  | k, l, a :: as, [], _, _ => by simp [toPs, PyData.eqvAll, D.eqvs]
  | k, l, a :: as, b :: bs, ha, hb => by
    simp only [D.shps, Bool.and_eq_true] at ha hb
    simp only [toPs, PyData.eqvAll, D.eqvs]
    rw [eqv_toP k l a b ha.1 hb.1, eqvs_toP k l as bs ha.2 hb.2]
end
mutual
theorem shp_lay : ∀ (k : Nat) (a : D), D.shp k a = true → (toP a).canLay0 = true ∧ (toP a).depth ≤ k
  | _, .non, _ => ⟨rfl, Nat.zero_le _⟩
  | _, .bl _, _ => ⟨rfl, Nat.zero_le _⟩
  | _, .int _, _ => ⟨rfl, Nat.zero_le _⟩
  | k, .str s, h => ⟨by cases k <;> exact h, Nat.zero_le _⟩
  | 0, .tup xs, h => by simp [D.shp] at h
  | 0, .lst xs, h => by simp [D.shp] at h
  | k + 1, .tup xs, h => by
    obtain ⟨h1, h2⟩ := shps_lay k xs (by simpa [D.shp] using h)
    exact ⟨by simpa [toP, PyData.canLay0] using h1, by simp only [toP, PyData.depth]; omega⟩
  | k + 1, .lst xs, h => by
    obtain ⟨h1, h2⟩ := shps_lay k xs (by simpa [D.shp] using h)
    exact ⟨by simpa [toP, PyData.canLay0] using h1, by simp only [toP, PyData.depth]; omega⟩
  | k, .scr _, h => by cases k <;> simp [D.shp] at h
  | k, .trk _ _ _, h => by cases k <;> simp [D.shp] at h
  | k, .fn _, h => by cases k <;> simp [D.shp] at h
  | k, .ref _, h => by cases k <;> simp [D.shp] at h
theorem shps_lay : ∀ (k : Nat) (a : List D), D.shps k a = true → PyData.canLayAll0 (toPs a) = true ∧ PyData.depthAll (toPs a) ≤ k
  | _, [], _ => ⟨rfl, Nat.zero_le _⟩
  | k, x :: xs, h => by
    simp only [D.shps, Bool.and_eq_true] at h
    obtain ⟨h1, h2⟩ := shp_lay k x h.1
    obtain ⟨h3, h4⟩ := shps_lay k xs h.2
    exact ⟨by simp [toPs, PyData.canLayAll0, h1, h3], by simp only [toPs, PyData.depthAll]; omega⟩
end
theorem shp_shaped {a : D} (h : D.dat a = true) : SeqAt.shaped (toP a) = true := by
  obtain ⟨h1, h2⟩ := shp_lay 8 a h
  unfold SeqAt.shaped
  rw [h1, Bool.true_and]
  exact decide_eq_true (by omega)
section
variable {F H : Hp} {m : Nat → Addr} {S : Store}
mutual
/-- a value's data in the heap, references looked up -/
theorem dp_res (r : Rep K ax F m S H) : ∀ (k : Nat) (d : D) (v : V) (n : Nat), n ≤ S.length → RelD K ax F m n d v → D.shp k (res0 S d) = true → Dp K H v (toP (res0 S d))
  | _, .non, _, _, _, h, _ => by
    obtain rfl : _ = V.non := h
    exact .non
  | _, .bl b, _, _, _, h, _ => by
    obtain rfl : _ = V.bl b := h
    exact .bl b
  | _, .int i, _, _, _, h, _ => by
    obtain rfl : _ = V.int i := h
    exact .int i
  | _, .str s, _, _, _, h, _ => by
    obtain rfl : _ = V.str s := h
    exact .str s
  | 0, .tup xs, _, _, _, _, g => by simp [res0, D.shp] at g
  | k + 1, .tup xs, _, n, hn, h, g => by
    obtain ⟨a, vs, rfl, h1, h2⟩ := h
    simp only [res0, toP]
    exact .tup (SqT.evo h1 r.sub) (dps_res r k xs vs n hn h2 (by simpa [res0, D.shp] using g))
  | 0, .lst xs, _, _, _, _, g => by simp [res0, D.shp] at g
  | k + 1, .lst xs, _, n, hn, h, g => by
    obtain ⟨a, vs, rfl, h1, h2⟩ := h
    simp only [res0, toP]
    exact .lst (SqL.of (r.sub _ _ h1)) (dps_pure r k xs vs n h2 (by simpa [res0, D.shp] using g))
  | k, .ref i, _, n, hn, h, g => by
    obtain ⟨hi, rfl⟩ := h
    cases e : S[i]? with
    | none => cases k <;> simp [res0, e, D.shp] at g
    | some o =>
      cases o with
      | lst xs =>
        obtain ⟨vs, h1, h2, h3⟩ := r.at_ i _ e
        have e2 : res0 S (.ref i) = .lst xs := by simp [res0, e]
        rw [e2] at g ⊢
        cases k with
        | zero => simp [D.shp] at g
        | succ k => exact .lst (SqL.of h1) (dps_pure r k xs vs i h3 (by simpa [D.shp] using g))
      | fzl xs =>
        obtain ⟨vs, h1, h3⟩ := r.at_ i _ e
        have e2 : res0 S (.ref i) = .lst xs := by simp [res0, e]
        rw [e2] at g ⊢
        cases k with
        | zero => simp [D.shp] at g
        | succ k => exact .lst (SqL.of (r.sub _ _ h1)) (dps_pure r k xs vs 0 h3 (by simpa [D.shp] using g))
      | dct _ => cases k <;> simp [res0, e, D.shp] at g
  | k, .scr _, _, _, _, _, g => by cases k <;> simp [res0, D.shp] at g
  | k, .trk _ _ _, _, _, _, _, g => by cases k <;> simp [res0, D.shp] at g
  | k, .fn _, _, _, _, _, g => by cases k <;> simp [res0, D.shp] at g
theorem dps_res (r : Rep K ax F m S H) : ∀ (k : Nat) (ds : List D) (vs : List V) (n : Nat), n ≤ S.length → RelDs K ax F m n ds vs → D.shps k (ress0 S ds) = true → DpAll K H vs (toPs (ress0 S ds))
  | _, [], _, _, _, h, _ => by
    obtain rfl : _ = [] := h
    exact .nil
  | k, d :: ds, _, n, hn, h, g => by
    obtain ⟨v, vs', rfl, h1, h2⟩ := h
    simp only [ress0, D.shps, Bool.and_eq_true] at g
    exact .cons (dp_res r k d v n hn h1 g.1) (dps_res r k ds vs' n hn h2 g.2)
theorem dp_pure (r : Rep K ax F m S H) : ∀ (k : Nat) (d : D) (v : V) (n : Nat), RelD K ax F m n d v → D.shp k d = true → Dp K H v (toP d)
  | _, .non, _, _, h, _ => by
    obtain rfl : _ = V.non := h
    exact .non
  | _, .bl b, _, _, h, _ => by
    obtain rfl : _ = V.bl b := h
    exact .bl b
  | _, .int i, _, _, h, _ => by
    obtain rfl : _ = V.int i := h
    exact .int i
  | _, .str s, _, _, h, _ => by
    obtain rfl : _ = V.str s := h
    exact .str s
  | 0, .tup xs, _, _, _, g => by simp [D.shp] at g
  | k + 1, .tup xs, _, n, h, g => by
    obtain ⟨a, vs, rfl, h1, h2⟩ := h
    exact .tup (SqT.evo h1 r.sub) (dps_pure r k xs vs n h2 (by simpa [D.shp] using g))
  | 0, .lst xs, _, _, _, g => by simp [D.shp] at g
  | k + 1, .lst xs, _, n, h, g => by
    obtain ⟨a, vs, rfl, h1, h2⟩ := h
    exact .lst (SqL.of (r.sub _ _ h1)) (dps_pure r k xs vs n h2 (by simpa [D.shp] using g))
  | k, .ref _, _, _, _, g => by cases k <;> simp [D.shp] at g
  | k, .scr _, _, _, _, g => by cases k <;> simp [D.shp] at g
  | k, .trk _ _ _, _, _, _, g => by cases k <;> simp [D.shp] at g
  | k, .fn _, _, _, _, g => by cases k <;> simp [D.shp] at g
theorem dps_pure (r : Rep K ax F m S H) : ∀ (k : Nat) (ds : List D) (vs : List V) (n : Nat), RelDs K ax F m n ds vs → D.shps k ds = true → DpAll K H vs (toPs ds)
  | _, [], _, _, h, _ => by
    obtain rfl : _ = [] := h
    exact .nil
  | k, d :: ds, _, n, h, g => by
    obtain ⟨v, vs', rfl, h1, h2⟩ := h
    simp only [D.shps, Bool.and_eq_true] at g
    exact .cons (dp_pure r k d v n h1 g.1) (dps_pure r k ds vs' n h2 g.2)
end
theorem res_some {d e : D} (h : res S d = some e) : D.dat (res0 S d) = true ∧ e = res0 S d := by
  unfold res at h
  split at h
  · cases h; exact ⟨by assumption, rfl⟩
  · cases h
end
end Rf
set_option Elab.async false
set_option linter.all false
set_option maxRecDepth 100000
/-! Comparisons, subscripts, built-ins, methods by values. -/
namespace Rf
open PySem PySem.Spec PyProof.Rows L2
variable {K : PySem.W.Frag} {ax : Aux}

def copE : Cop → CmpOp
  | .eq => .Eq | .ne => .NotEq | .lt => .Lt | .le => .LtE | .gt => .Gt | .ge => .GtE | .is => .Is | .isnot => .IsNot | .isin => .In | .notin => .NotIn
/-- a comparison of two values -/
def RC (K : PySem.W.Frag) (ax : Aux) (c : Cop) : R2 := fun x y H Q => ∃ F m S d1 d2 d,
  Rep K ax F m S H ∧ RelD K ax F m S.length d1 x ∧ RelD K ax F m S.length d2 y ∧ cmpop c d1 d2 S = some d ∧ ∀ v, RelD K ax F m S.length d v → Q v H
theorem any_toP {k : Nat} {x : D} (hx : D.shp k x = true) : ∀ {ys : List D}, D.shps k ys = true → (toPs ys).any (fun z => PyData.eqv z (toP x)) = hasIn x ys
  | [], _ => rfl
  | y :: ys, h => by
    simp only [D.shps, Bool.and_eq_true] at h
    show (PyData.eqv (toP y) (toP x) || (toPs ys).any fun z => PyData.eqv z (toP x)) = (D.eqv y x || hasIn x ys)
    rw [eqv_toP k k y x h.1 hx, any_toP hx h.2]
mutual
theorem shp_mono : ∀ (k l : Nat) (d : D), k ≤ l → D.shp k d = true → D.shp l d = true
  | _, l, .non, _, _ => by cases l <;> rfl
  | _, l, .bl _, _, _ => by cases l <;> rfl
  | _, l, .int _, _, _ => by cases l <;> rfl
  | k, l, .str s, _, h => by cases k <;> cases l <;> exact h
  | 0, _, .tup _, _, h => by simp [D.shp] at h
  | 0, _, .lst _, _, h => by simp [D.shp] at h
  | k + 1, 0, .tup _, h0, _ => absurd h0 (by omega)
  | k + 1, 0, .lst _, h0, _ => absurd h0 (by omega)
  | k + 1, l + 1, .tup xs, h0, h => by
    simp only [D.shp] at h ⊢
    exact shps_mono k l xs (by omega) h
  | k + 1, l + 1, .lst xs, h0, h => by
    simp only [D.shp] at h ⊢
    exact shps_mono k l xs (by omega) h
  | k, _, .scr _, _, h => by cases k <;> simp [D.shp] at h
  | k, _, .trk _ _ _, _, h => by cases k <;> simp [D.shp] at h
  | k, _, .fn _, _, h => by cases k <;> simp [D.shp] at h
  | k, _, .ref _, _, h => by cases k <;> simp [D.shp] at h
theorem shps_mono : ∀ (k l : Nat) (d : List D), k ≤ l → D.shps k d = true → D.shps l d = true
  | _, _, [], _, _ => rfl
  | k, l, x :: xs, h0, h => by
    simp only [D.shps, Bool.and_eq_true] at h ⊢
    exact ⟨shp_mono k l x h0 h.1, shps_mono k l xs h0 h.2⟩
end
theorem flatV_of {F : Hp} {m : Nat → Addr} {n : Nat} {d : D} {v : V} (h : RelD K ax F m n d v) (f : D.flat d = true) : flatV v = true := by
  cases d <;> first | (simp [D.flat] at f; done) | (cases h; rfl)
theorem flatV_all {F : Hp} {m : Nat → Addr} {n : Nat} : ∀ {ds : List D} {vs : List V}, RelDs K ax F m n ds vs → ds.all D.flat = true → vs.all flatV = true
  | [], _, h, _ => by
    obtain rfl : _ = [] := h
    rfl
  | d :: ds, _, h, f => by
    obtain ⟨v, vs', rfl, h1, h2⟩ := h
    rw [List.all_cons, Bool.and_eq_true] at f ⊢
    exact ⟨flatV_of h1 f.1, flatV_all h2 f.2⟩
theorem eqV_of {F : Hp} {m : Nat → Addr} {n : Nat} {d e : D} {v w : V} (h : RelD K ax F m n d v) (h2 : RelD K ax F m n e w) (f : D.flat d = true) (g : D.flat e = true) : eqV v w = D.eqv d e := by
  cases d <;> first | (simp [D.flat] at f; done) | skip
  all_goals cases e <;> first | (simp [D.flat] at g; done) | (cases h; cases h2; rfl)
theorem inV_of {F : Hp} {m : Nat → Addr} {n : Nat} {d : D} {v : V} (h : RelD K ax F m n d v) (f : D.flat d = true) : ∀ {ds : List D} {vs : List V}, RelDs K ax F m n ds vs → ds.all D.flat = true → inV v vs = hasIn d ds
  | [], _, q, _ => by
    obtain rfl : _ = [] := q
    rfl
  | e :: ds, _, q, g => by
    obtain ⟨w, vs', rfl, h1, h2⟩ := q
    rw [List.all_cons, Bool.and_eq_true] at g
    show (eqV w v || inV v vs') = (D.eqv e d || hasIn d ds)
    rw [eqV_of h1 h g.1 f, inV_of h f h2 g.2]
theorem non_iff {F : Hp} {m : Nat → Addr} {n : Nat} {d : D} {v : V} (h : RelD K ax F m n d v) : decide (v = V.non) = decide (d = D.non) := by
  cases d with
  | non => obtain rfl : v = V.non := h; rfl
  | bl _ => cases h; simp
  | int _ => cases h; simp
  | str _ => cases h; simp
  | tup _ => obtain ⟨a, vs, rfl, _⟩ := h; simp
  | lst _ => obtain ⟨a, vs, rfl, _⟩ := h; simp
  | scr _ => obtain ⟨a, rfl, _⟩ := h; simp
  | trk _ _ _ => obtain ⟨a, vs, rfl, _⟩ := h; simp
  | fn _ => cases h; simp
  | ref _ => obtain ⟨a, rfl⟩ := h; simp
section
variable {X : Cx}
theorem RC.bl {F : Hp} {m : Nat → Addr} {S : Store} {b : Bool} {Q : VK} {H : Hp} (q : ∀ v, RelD K ax F m S.length (.bl b) v → Q v H) : Q (.bl b) H := q _ rfl
theorem ints_lt {F : Hp} {m : Nat → Addr} {n : Nat} {d : D} {x : V} {ys : List D} {is : List Int} (h : RelD K ax F m n (.tup ys) x) (e : intsOf ys = some is) : ∃ a, x = .ref a ∧ SqT K F a (is.map V.int) := by
  obtain ⟨a, vs, rfl, h1, h2⟩ := h
  rw [← h2.ints e]
  exact ⟨a, rfl, h1⟩
theorem lexLt_eq : ∀ (a b : List Int), lexLt a b = HT.lexLt a b
  | [], [] => rfl
  | [], _ :: _ => rfl
  | _ :: _, [] => rfl
  | x :: xs, y :: ys => by
    show (if x = y then lexLt xs ys else decide (x < y)) = (if x = y then HT.lexLt xs ys else decide (x < y))
    rw [lexLt_eq xs ys]
theorem rc_lt_core {pins : List (Addr × Obj)} {s : Shared} {σ : L2.St} {H : Hp} {x y : V} {v u : Value} {Q : VK} {F : Hp} {m : Nat → Addr} {S : Store} {d1 d2 d : D} {f : Value → Value → Sem Value} (hu : X.A.units < cLine)
    (op1 : OpR X f (rI0 fun i j => .bl (decide (i < j)))) (op2 : OpR X f (rLtT X.K))
    (I : Inv X pins σ H s) (rx : RelV x v) (ry : RelV y u) (r : Rep X.K ax F m S H) (h1 : RelD X.K ax F m S.length d1 x) (h2 : RelD X.K ax F m S.length d2 y) (e : (ordLt d1 d2).map .bl = some d)
    (q : ∀ v, RelD X.K ax F m S.length d v → Q v H) : wpAny (model X.prog X.w) X.A (f v u) (EP X pins σ Q) X.xe s := by
  cases d1 with
  | int a =>
    cases d2 with
    | int b =>
      cases e
      obtain rfl : x = .int a := h1
      obtain rfl : y = .int b := h2
      exact op1 pins s σ H _ _ v u Q I rx ry ⟨a, b, rfl, rfl, q _ rfl⟩
    | _ => cases e
  | tup as =>
    cases d2 with
    | tup bs =>
      have e0 : ((match intsOf as, intsOf bs with | some x, some y => some (lexLt x y) | _, _ => none).map D.bl) = some d := e
      cases e1 : intsOf as with
      | none => rw [e1] at e0; cases e0
      | some is =>
        cases e2 : intsOf bs with
        | none => rw [e1, e2] at e0; cases e0
        | some js =>
          rw [e1, e2] at e0
          cases e0
          obtain ⟨a, rfl, ha⟩ := ints_lt (d := .non) h1 e1
          obtain ⟨b, rfl, hb⟩ := ints_lt (d := .non) h2 e2
          refine op2 pins s σ H _ _ v u Q I rx ry ⟨a, b, is, js, rfl, rfl, SqT.evo ha r.sub, SqT.evo hb r.sub, q _ ?_⟩
          rw [← lexLt_eq]; rfl
    | _ => cases e
  | _ => cases d2 <;> cases e
theorem rc_eq (hu : X.A.units + 64 < cLine) : OpR X (compareOp .Eq) (RC X.K ax .eq) := by
  intro pins s σ H x y v u Q I rx ry h
  obtain ⟨F, m, S, d1, d2, d, r, h1, h2, e, q⟩ := h
  have e' : (match res S d1, res S d2 with | some x, some y => some (D.bl (D.eqv x y)) | _, _ => none) = some d := e
  cases e1 : res S d1 with
  | none => rw [e1] at e'; cases e'
  | some a =>
    cases e2 : res S d2 with
    | none => rw [e1, e2] at e'; cases e'
    | some b =>
      rw [e1, e2] at e'
      cases e'
      obtain ⟨g1, rfl⟩ := res_some e1
      obtain ⟨g2, rfl⟩ := res_some e2
      refine op_eqD hu pins s σ H _ _ v u Q I rx ry ⟨_, _, dp_res r 8 d1 x _ (Nat.le_refl _) h1 g1, dp_res r 8 d2 y _ (Nat.le_refl _) h2 g2, shp_shaped g1, shp_shaped g2, q _ ?_⟩
      rw [eqv_toP 8 8 _ _ g1 g2]; rfl
theorem rc_ne (hu : X.A.units + 64 < cLine) : OpR X (compareOp .NotEq) (RC X.K ax .ne) := by
  intro pins s σ H x y v u Q I rx ry h
  obtain ⟨F, m, S, d1, d2, d, r, h1, h2, e, q⟩ := h
  have e' : (match res S d1, res S d2 with | some x, some y => some (D.bl (!D.eqv x y)) | _, _ => none) = some d := e
  cases e1 : res S d1 with
  | none => rw [e1] at e'; cases e'
  | some a =>
    cases e2 : res S d2 with
    | none => rw [e1, e2] at e'; cases e'
    | some b =>
      rw [e1, e2] at e'
      cases e'
      obtain ⟨g1, rfl⟩ := res_some e1
      obtain ⟨g2, rfl⟩ := res_some e2
      refine op_neD hu pins s σ H _ _ v u Q I rx ry ⟨_, _, dp_res r 8 d1 x _ (Nat.le_refl _) h1 g1, dp_res r 8 d2 y _ (Nat.le_refl _) h2 g2, shp_shaped g1, shp_shaped g2, q _ ?_⟩
      rw [eqv_toP 8 8 _ _ g1 g2]; rfl
theorem rc_lt (hu : X.A.units < cLine) : OpR X (compareOp .Lt) (RC X.K ax .lt) := by
  intro pins s σ H x y v u Q I rx ry h
  obtain ⟨F, m, S, d1, d2, d, r, h1, h2, e, q⟩ := h
  exact rc_lt_core hu op_lt (op_ltT hu) I rx ry r h1 h2 e q
theorem rc_le : OpR X (compareOp .LtE) (RC X.K ax .le) := by
  intro pins s σ H x y v u Q I rx ry h
  obtain ⟨F, m, S, d1, d2, d, r, h1, h2, e, q⟩ := h
  cases d1 with
  | int a =>
    cases d2 with
    | int b =>
      cases e
      obtain rfl : x = .int a := h1
      obtain rfl : y = .int b := h2
      exact op_le pins s σ H _ _ v u Q I rx ry ⟨a, b, rfl, rfl, q _ rfl⟩
    | _ => cases e
  | _ => cases d2 <;> cases e
theorem rc_gt : OpR X (compareOp .Gt) (RC X.K ax .gt) := by
  intro pins s σ H x y v u Q I rx ry h
  obtain ⟨F, m, S, d1, d2, d, r, h1, h2, e, q⟩ := h
  cases d1 with
  | int a =>
    cases d2 with
    | int b =>
      cases e
      obtain rfl : x = .int a := h1
      obtain rfl : y = .int b := h2
      exact op_gt pins s σ H _ _ v u Q I rx ry ⟨a, b, rfl, rfl, q _ rfl⟩
    | _ => cases e
  | _ => cases d2 <;> cases e
theorem rc_ge : OpR X (compareOp .GtE) (RC X.K ax .ge) := by
  intro pins s σ H x y v u Q I rx ry h
  obtain ⟨F, m, S, d1, d2, d, r, h1, h2, e, q⟩ := h
  cases d1 with
  | int a =>
    cases d2 with
    | int b =>
      cases e
      obtain rfl : x = .int a := h1
      obtain rfl : y = .int b := h2
      exact op_ge pins s σ H _ _ v u Q I rx ry ⟨a, b, rfl, rfl, q _ rfl⟩
    | _ => cases e
  | _ => cases d2 <;> cases e
theorem rc_is : OpR X (compareOp .Is) (RC X.K ax .is) := by
  intro pins s σ H x y v u Q I rx ry h
  obtain ⟨F, m, S, d1, d2, d, r, h1, h2, e, q⟩ := h
  cases d2 with
  | non =>
    cases e
    obtain rfl : y = .non := h2
    refine op_isN pins s σ H _ _ v u Q I rx ry ⟨rfl, ?_⟩
    rw [non_iff h1]
    exact q _ rfl
  | bl k =>
    cases d1 with
    | bl j =>
      cases e
      obtain rfl : x = .bl j := h1
      obtain rfl : y = .bl k := h2
      exact op_isBl pins s σ H _ _ v u Q I rx ry ⟨j, k, rfl, rfl, q _ rfl⟩
    | _ => cases e
  | _ => cases e
theorem rc_isnot : OpR X (compareOp .IsNot) (RC X.K ax .isnot) := by
  intro pins s σ H x y v u Q I rx ry h
  obtain ⟨F, m, S, d1, d2, d, r, h1, h2, e, q⟩ := h
  cases d2 with
  | non =>
    cases e
    obtain rfl : y = .non := h2
    refine op_notN pins s σ H _ _ v u Q I rx ry ⟨rfl, ?_⟩
    rw [non_iff h1]
    exact q _ rfl
  | bl k =>
    cases d1 with
    | bl j =>
      cases e
      obtain rfl : x = .bl j := h1
      obtain rfl : y = .bl k := h2
      exact op_notBl pins s σ H _ _ v u Q I rx ry ⟨j, k, rfl, rfl, q _ rfl⟩
    | _ => cases e
  | _ => cases e
theorem rc_in_core {pins : List (Addr × Obj)} {s : Shared} {σ : L2.St} {H : Hp} {x y : V} {v u : Value} {Q : VK} {F : Hp} {m : Nat → Addr} {S : Store} {d1 d2 : D} {k : Bool} {f : Value → Value → Sem Value} {g : Bool → Bool} {neg : Bool}
    (hg : g = fun b => if neg then !b else b) (op1 : OpR X f (rIn X.K neg)) (op2 : OpR X f (fun x y H Q => ∃ d ds, Dp X.K H x d ∧ Dp X.K H y (.list ds) ∧ SeqAt.shaped d = true ∧ SeqAt.shaped (.list ds) = true ∧ Q (.bl (g (ds.any fun z => PyData.eqv z d))) H))
    (I : Inv X pins σ H s) (rx : RelV x v) (ry : RelV y u) (r : Rep X.K ax F m S H) (h1 : RelD X.K ax F m S.length d1 x) (h2 : RelD X.K ax F m S.length d2 y)
    (e : inop S d1 d2 = some k) (q : Q (.bl (g k)) H) : wpAny (model X.prog X.w) X.A (f v u) (EP X pins σ Q) X.xe s := by
  have viaD : (match res S d2, res S d1 with | some (.lst ys), some x => some (hasIn x ys) | _, _ => none) = some k → wpAny (model X.prog X.w) X.A (f v u) (EP X pins σ Q) X.xe s := fun e => by
    cases e2 : res S d2 with
    | none => rw [e2] at e; cases e
    | some b =>
      cases e1 : res S d1 with
      | none => rw [e2, e1] at e; cases b <;> cases e
      | some a =>
        rw [e2, e1] at e
        cases b <;> cases e
        rename_i ys
        obtain ⟨g1, rfl⟩ := res_some e1
        obtain ⟨g2, eb⟩ := res_some e2
        rw [← eb] at g2
        have D2 := dp_res r 8 d2 y _ (Nat.le_refl _) h2 (by rw [← eb]; exact g2)
        rw [← eb] at D2
        refine op2 pins s σ H _ _ v u Q I rx ry ⟨_, _, dp_res r 8 d1 x _ (Nat.le_refl _) h1 g1, D2, shp_shaped g1, shp_shaped g2, ?_⟩
        rw [any_toP g1 (shps_mono 7 8 ys (by omega) (by simpa [D.dat, D.shp] using g2))]
        exact q
  cases d2 with
  | tup xs =>
    unfold inop at e
    dsimp only at e
    split at e
    · rename_i hc
      simp only [Bool.and_eq_true] at hc
      cases e
      obtain ⟨a, vs, rfl, ha, hv⟩ := h2
      refine op1 pins s σ H _ _ v u Q I rx ry ⟨a, vs, rfl, .inr (SqT.evo ha r.sub), flatV_of h1 hc.1, flatV_all hv hc.2, ?_⟩
      have e0 : (if neg then !inV x vs else inV x vs) = g (hasIn d1 xs) := by rw [hg, inV_of h1 hc.1 hv hc.2]
      rw [e0]
      exact q
    · cases e
  | _ => exact viaD e
theorem rc_in (hu : X.A.units + 65 < cLine) : OpR X (compareOp .In) (RC X.K ax .isin) := by
  intro pins s σ H x y v u Q I rx ry h
  obtain ⟨F, m, S, d1, d2, d, r, h1, h2, e, q⟩ := h
  obtain ⟨k, e1, e2⟩ := Option.map_eq_some_iff.mp (show (inop S d1 d2).map D.bl = some d from e)
  subst e2
  exact rc_in_core (g := id) (neg := false) (by funext b; rfl) op_in_seq (op_inD hu) I rx ry r h1 h2 e1 (q _ rfl)
theorem rc_notin (hu : X.A.units + 65 < cLine) : OpR X (compareOp .NotIn) (RC X.K ax .notin) := by
  intro pins s σ H x y v u Q I rx ry h
  obtain ⟨F, m, S, d1, d2, d, r, h1, h2, e, q⟩ := h
  obtain ⟨k, e1, e2⟩ := Option.map_eq_some_iff.mp (show ((inop S d1 d2).map fun k => D.bl (!k)) = some d from e)
  subst e2
  exact rc_in_core (g := not) (neg := true) (by funext b; rfl) op_notIn_seq (op_notInD hu) I rx ry r h1 h2 e1 (q _ rfl)
theorem rc_cmp (c : Cop) (hu : X.A.units + 65 < cLine) : OpR X (compareOp (copE c)) (RC X.K ax c) := by
  cases c
  · exact rc_eq (by omega)
  · exact rc_ne (by omega)
  · exact rc_lt (by omega)
  · exact rc_le
  · exact rc_gt
  · exact rc_ge
  · exact rc_is
  · exact rc_isnot
  · exact rc_in hu
  · exact rc_notin hu
end
end Rf
set_option Elab.async false
set_option linter.all false
set_option maxRecDepth 100000
/-! Subscripts, built-ins, methods by values. -/
namespace Rf
open PySem PySem.Spec PyProof.Rows L2
variable {K : PySem.W.Frag} {ax : Aux}

theorem ixOf_eq (n : Nat) (i : Int) : ixOf n i = ixN n i := rfl
/-- a subscript of two values -/
def RIx (K : PySem.W.Frag) (ax : Aux) : R2 := fun x y H Q => ∃ F m S d1 d2 d,
  Rep K ax F m S H ∧ RelD K ax F m S.length d1 x ∧ RelD K ax F m S.length d2 y ∧ index d1 d2 S = some d ∧ ∀ v, RelD K ax F m S.length d v → Q v H
section
variable {X : Cx}
theorem ri_ix : IxR X (RIx X.K ax) := by
  intro value slice pins s σ H x y v u Q I rx ry h hs
  obtain ⟨F, m, S, d1, d2, d, r, h1, h2, e, q⟩ := h
  cases d2 with
  | int i =>
    obtain rfl : y = .int i := h2
    have e' : (match seqOf S d1 with | some xs => (ixOf xs.length i).bind fun j => xs[j]? | none => none) = some d := e
    cases e1 : seqOf S d1 with
    | none => rw [e1] at e'; cases e'
    | some xs =>
      rw [e1] at e'
      obtain ⟨j, e2, e3⟩ := Option.bind_eq_some_iff.mp e'
      obtain ⟨a, vs, rfl, ha, rv⟩ := r.seqOf h1 e1
      obtain ⟨w, e4, rw'⟩ := rv.get e3
      have e5 : atI vs i = some w := by
        unfold atI
        rw [← rv.length, ← ixOf_eq, e2]
        exact e4
      rcases ha with ha | ha
      · exact ix_list value slice pins s σ H _ _ v u Q I rx ry ⟨a, vs, i, w, rfl, rfl, ha, e5, q _ rw'⟩ hs
      · exact ix_tup value slice pins s σ H _ _ v u Q I rx ry ⟨a, vs, i, w, rfl, rfl, ha, e5, q _ rw'⟩ hs
  | _ => cases e
/-- o[i] = v -/
def RSet (K : PySem.W.Frag) (ax : Aux) : V → V → V → Hp → (Hp → Prop) → Prop := fun x y z H Q => ∃ F m S d1 d2 d3 S',
  Rep K ax F m S H ∧ RelD K ax F m S.length d1 x ∧ RelD K ax F m S.length d2 y ∧ RelD K ax F m S.length d3 z ∧ setIndex d1 d2 d3 S = some S' ∧
  ∀ F' m' H', Evo S.length F m F' m' → S.length ≤ S'.length → Rep K ax F' m' S' H' → Q H'
theorem mutL_some {a : D} {S : Store} {r : Nat} {xs : List D} (h : mutL a S = some (r, xs)) : a = .ref r ∧ S[r]? = some (.lst xs) := by
  cases a with
  | ref i =>
    cases e : S[i]? with
    | none => simp [mutL, e] at h
    | some o =>
      cases o with
      | lst ys =>
        simp only [mutL, e, Option.some.injEq, Prod.mk.injEq] at h
        obtain ⟨rfl, rfl⟩ := h
        exact ⟨rfl, e⟩
      | _ => simp [mutL, e] at h
  | _ => cases h
theorem rs_set : PSet X (RSet X.K ax) := by
  intro pins s σ H o i v ov iv u Q I ro ri rv h
  obtain ⟨F, m, S, d1, d2, d3, S', r, h1, h2, h3, e, q⟩ := h
  obtain ⟨F1, r1, h4, l1, ev⟩ := r.frz h3
  unfold setIndex at e
  cases e1 : mutL d1 (frz d3 S).2 with
  | none => rw [e1] at e; cases e
  | some p =>
    obtain ⟨a, xs⟩ := p
    rw [e1] at e
    obtain ⟨rfl, f1⟩ := mutL_some e1
    cases d2 with
    | int k =>
      dsimp only at e
      obtain ⟨ha, rfl⟩ := h1
      obtain rfl : i = .int k := h2
      cases e2 : ixOf xs.length k with
      | none => rw [e2] at e; cases e
      | some j =>
        rw [e2] at e
        dsimp only at e
        split at e
        · rename_i hl
          cases e
          obtain ⟨vs, g1, g2, g3⟩ := r1.at_ a _ f1
          refine set_list pins s σ H _ _ v ov iv u Q I ro ri rv ⟨m a, vs, k, j, rfl, rfl, g1, ?_, q F1 m _ (ev _) ?_ (r1.setL f1 (g3.set j (h4.low hl)))⟩
          · rw [← g3.length, ← ixOf_eq]; exact e2
          · rw [List.length_set, l1]; exact Nat.le_refl _
        · cases e
    | _ => cases e

/-! ### slices -/
theorem sIx_eq (n d : Nat) (o : Option Int) : sIx n d o = HT.sIx n d o := by cases o <;> rfl
def RSl (K : PySem.W.Frag) (ax : Aux) : V → Option Int → Option Int → Hp → VK → Prop := fun x lo hi H Q => ∃ F m S d1 d S',
  Rep K ax F m S H ∧ RelD K ax F m S.length d1 x ∧ slice d1 lo hi S = some (d, S') ∧ Fin K ax F m S.length S' d Q
theorem RelDs.cut {F : Hp} {m : Nat → Addr} {n : Nat} {xs : List D} {vs : List V} (h : RelDs K ax F m n xs vs) (lo hi : Option Int) : RelDs K ax F m n (cut xs lo hi) (cutV vs lo hi) := by
  unfold Rf.cut cutV
  rw [h.length, sIx_eq, sIx_eq]
  exact RelDs.take _ (RelDs.drop _ h)
theorem sl_list_case {pins : List (Addr × Obj)} {s : Shared} {σ : L2.St} {H : Hp} {x : V} {v vl vu : Value} {lo hi : Option Int} {sl : Addr} {Q : VK} {F : Hp} {m : Nat → Addr} {S S' : Store} {d : D} {xs : List D} {a : Addr} {vs : List V}
    (I : Inv X pins σ H s) (rx : RelV x v) (hs : s.heap.IsSliceOf sl vl vu .none) (pl : IsPart vl lo) (pu : IsPart vu hi) (r : Rep X.K ax F m S H) (hx : x = .ref a) (ha : SqL X.K H a vs) (rv : RelDs X.K ax F m S.length xs vs)
    (e : newL (cut xs lo hi) S = some (d, S')) (q : Fin X.K ax F m S.length S' d Q) :
    ∃ T id, typeLookup (.type T) "__getitem__" = pure (some (.builtin id)) ∧ s.TypeIs v T ∧ wpAny (model X.prog X.w) X.A (getItem v (.ref sl)) (EP X pins σ Q) X.xe s := by
  obtain ⟨_, rfl, rfl⟩ := newL_some e
  exact sl_list pins s σ H x v vl vu lo hi sl Q I rx hs pl pu ⟨a, vs, hx, ha, q.newL r (rv.cut lo hi)⟩
theorem rs_slice : SlR X (RSl X.K ax) := by
  intro pins s σ H x v vl vu lo hi sl Q I rx hs pl pu h
  obtain ⟨F, m, S, d1, d, S', r, h1, e, q⟩ := h
  have viaL : (match lstOf S d1 with | some xs => newL (cut xs lo hi) S | none => none) = some (d, S') →
      ∃ T id, typeLookup (.type T) "__getitem__" = pure (some (.builtin id)) ∧ s.TypeIs v T ∧ wpAny (model X.prog X.w) X.A (getItem v (.ref sl)) (EP X pins σ Q) X.xe s := fun e => by
    cases e1 : lstOf S d1 with
    | none => rw [e1] at e; cases e
    | some xs =>
      rw [e1] at e
      obtain ⟨a, vs, hx, ha, rv⟩ := r.lstOf h1 e1
      exact sl_list_case I rx hs pl pu r hx (SqL.of ha) rv e q
  cases d1 with
  | tup xs =>
    cases e
    obtain ⟨a, vs, rfl, ha, rv⟩ := h1
    refine sl_tupA pins s σ H _ v vl vu lo hi sl Q I rx hs pl pu ⟨a, vs, rfl, SqT.evo ha r.sub, fun hw => ?_, fun hw => q.newT r (rv.cut lo hi)⟩
    have e2 : cut xs lo hi = xs := by
      unfold Rf.cut
      rw [sIx_eq, sIx_eq, rv.length, hw.1, hw.2, Nat.sub_zero, List.drop_zero, ← rv.length, List.take_length]
    rw [e2] at q
    exact q.here r ⟨a, vs, rfl, ha, rv⟩
  | scr is =>
    obtain ⟨a, hx, ha⟩ := h1
    exact sl_list_case I rx hs pl pu r hx (SqL.evo ha r.sub) (RelDs.of_ints is) e q
  | _ => exact viaL e

/-! ### built-ins -/
theorem one_of {F : Hp} {m : Nat → Addr} {n : Nat} {d : D} {vs : List V} (h : RelDs K ax F m n [d] vs) : ∃ v, vs = [v] ∧ RelD K ax F m n d v := by
  obtain ⟨v, vs', e, h1, h2⟩ := h
  obtain rfl : vs' = [] := h2
  exact ⟨v, e, h1⟩
theorem two_of {F : Hp} {m : Nat → Addr} {n : Nat} {d e : D} {vs : List V} (h : RelDs K ax F m n [d, e] vs) : ∃ v w, vs = [v, w] ∧ RelD K ax F m n d v ∧ RelD K ax F m n e w := by
  obtain ⟨v, vs', e1, h1, h2⟩ := h
  obtain ⟨w, e2, h3⟩ := one_of h2
  exact ⟨v, w, by rw [e1, e2], h1, h3⟩
theorem rv1 {f : Value} {op : D → Store → Option (D × Store)} (h : ∀ (pins : List (Addr × Obj)) (s : Shared) (σ : L2.St) (H : Hp) (x : V) (us : List Value) (Q : VK), Inv X pins σ H s → Vals [x] us →
    ∀ (F : Hp) (m : Nat → Addr) (S : Store) (d0 d : D) (S' : Store), Rep X.K ax F m S H → RelD X.K ax F m S.length d0 x → op d0 S = some (d, S') → Fin X.K ax F m S.length S' d Q → wpAny (model X.prog X.w) X.A (call f us) (EP X pins σ Q) X.xe s) :
    CallR X f (RVs X.K ax (un1 op)) := by
  intro pins s σ H xs us Q I rv hh
  obtain ⟨F, m, S, ds, d, S', r, h1, e, q⟩ := hh
  match ds, h1, e with
  | [], _, e => cases e
  | _ :: _ :: _, _, e => cases e
  | [d0], h1, e =>
    obtain ⟨x, rfl, hx⟩ := one_of h1
    exact h pins s σ H x us Q I rv F m S d0 d S' r hx e q
theorem rv2 {f : Value} {op : D → D → Store → Option (D × Store)} (h : ∀ (pins : List (Addr × Obj)) (s : Shared) (σ : L2.St) (H : Hp) (x y : V) (us : List Value) (Q : VK), Inv X pins σ H s → Vals [x, y] us →
    ∀ (F : Hp) (m : Nat → Addr) (S : Store) (d0 d1 d : D) (S' : Store), Rep X.K ax F m S H → RelD X.K ax F m S.length d0 x → RelD X.K ax F m S.length d1 y → op d0 d1 S = some (d, S') → Fin X.K ax F m S.length S' d Q → wpAny (model X.prog X.w) X.A (call f us) (EP X pins σ Q) X.xe s) :
    CallR X f (RVs X.K ax (un2 op)) := by
  intro pins s σ H xs us Q I rv hh
  obtain ⟨F, m, S, ds, d, S', r, h1, e, q⟩ := hh
  match ds, h1, e with
  | [], _, e => cases e
  | [_], _, e => cases e
  | _ :: _ :: _ :: _, _, e => cases e
  | [d0, d1], h1, e =>
    obtain ⟨x, y, rfl, hx, hy⟩ := two_of h1
    exact h pins s σ H x y us Q I rv F m S d0 d1 d S' r hx hy e q
theorem rb_len : CallR X (.builtin "len") (RVs X.K ax (builtin .len)) := rv1 (op := bLen) fun pins s σ H x us Q I rv F m S d0 d S' r hx e q => by
  have viaS : (seqOf S d0).map (fun xs => (D.int xs.length, S)) = some (d, S') → wpAny (model X.prog X.w) X.A (call (.builtin "len") us) (EP X pins σ Q) X.xe s := fun e => by
    obtain ⟨ys, e1, e2⟩ := Option.map_eq_some_iff.mp e
    cases e2
    obtain ⟨a, vs, rfl, ha, rv'⟩ := r.seqOf hx e1
    refine call_len_seq pins s σ H _ us Q I rv ⟨a, vs, rfl, ha, ?_⟩
    rw [← rv'.length]
    exact q.here r rfl
  cases d0 with
  | str z =>
    have e' : (if z.length ≤ maxLen then some (D.int z.length, S) else none) = some (d, S') := e
    split at e'
    · rename_i hl
      cases e'
      obtain rfl : x = .str z := hx
      exact call_len_str pins s σ H _ us Q I rv ⟨z, rfl, maxLen_le hl, q.here r rfl⟩
    · cases e'
  | _ => exact viaS e
theorem rb_abs : CallR X (.builtin "abs") (RVs X.K ax (builtin .abs)) := rv1 (op := bAbs) fun pins s σ H x us Q I rv F m S d0 d S' r hx e q => by
  cases d0 with
  | int i =>
    cases e
    obtain rfl : x = .int i := hx
    exact call_abs pins s σ H _ us Q I rv ⟨i, rfl, q.here r rfl⟩
  | _ => cases e
theorem rb_int : CallR X (.type "int") (RVs X.K ax (builtin .int)) := rv1 (op := bInt) fun pins s σ H x us Q I rv F m S d0 d S' r hx e q => by
  cases d0 with
  | int i =>
    cases e
    obtain rfl : x = .int i := hx
    exact call_int1 pins s σ H _ us Q I rv (.inl ⟨i, rfl, q.here r rfl⟩)
  | bl b =>
    cases e
    obtain rfl : x = .bl b := hx
    exact call_int1 pins s σ H _ us Q I rv (.inr ⟨b, rfl, q.here r rfl⟩)
  | _ => cases e
theorem rb_max2 (hc : X.calm = true) : CallR X (.builtin "max") (RVs X.K ax (builtin .max2)) := rv2 (op := bMax) fun pins s σ H x y us Q I rv F m S d0 d1 d S' r hx hy e q => by
  cases d0 with
  | int i =>
    cases d1 with
    | int j =>
      cases e
      obtain rfl : x = .int i := hx
      obtain rfl : y = .int j := hy
      exact call_max2 hc pins s σ H _ us Q I rv ⟨i, j, rfl, q.here r rfl⟩
    | _ => cases e
  | _ => cases d1 <;> cases e
theorem rb_min2 (hc : X.calm = true) : CallR X (.builtin "min") (RVs X.K ax (builtin .min2)) := rv2 (op := bMin) fun pins s σ H x y us Q I rv F m S d0 d1 d S' r hx hy e q => by
  cases d0 with
  | int i =>
    cases d1 with
    | int j =>
      cases e
      obtain rfl : x = .int i := hx
      obtain rfl : y = .int j := hy
      exact call_min2 hc pins s σ H _ us Q I rv ⟨i, j, rfl, q.here r rfl⟩
    | _ => cases e
  | _ => cases d1 <;> cases e
theorem rb_list : CallR X (.type "list") (RVs X.K ax (builtin .list)) := rv1 (op := bList) fun pins s σ H x us Q I rv F m S d0 d S' r hx e q => by
  unfold bList at e
  cases e1 : seqOf S d0 with
  | none => rw [e1] at e; cases e
  | some ys =>
    rw [e1] at e
    obtain ⟨_, rfl, rfl⟩ := newL_some e
    obtain ⟨a, vs, rfl, ha, rv'⟩ := r.seqOf hx e1
    exact call_list_of pins s σ H _ us Q I rv ⟨a, vs, rfl, ha, q.newL r rv'⟩
theorem rb_tuple : CallR X (.type "tuple") (RVs X.K ax (builtin .tuple)) := rv1 (op := bTuple) fun pins s σ H x us Q I rv F m S d0 d S' r hx e q => by
  have viaL : (match lstOf S d0 with | some xs => some (D.tup xs, S) | none => none) = some (d, S') → wpAny (model X.prog X.w) X.A (call (.type "tuple") us) (EP X pins σ Q) X.xe s := fun e => by
    cases e1 : lstOf S d0 with
    | none => rw [e1] at e; cases e
    | some ys =>
      rw [e1] at e
      cases e
      obtain ⟨a, vs, rfl, ha, rv'⟩ := r.lstOf hx e1
      exact call_tuple_of pins s σ H _ us Q I rv ⟨a, vs, rfl, .inl ⟨SqL.of ha, q.newT r rv'⟩⟩
  cases d0 with
  | tup ys =>
    cases e
    obtain ⟨a, vs, rfl, ha, rv'⟩ := hx
    exact call_tuple_of pins s σ H _ us Q I rv ⟨a, vs, rfl, .inr ⟨SqT.evo ha r.sub, q.here r ⟨a, vs, rfl, ha, rv'⟩⟩⟩
  | _ => exact viaL e
theorem bools_of {F H : Hp} {m : Nat → Addr} {S : Store} {d0 d : D} {S' : Store} {x : V} {f : List Bool → Bool} (r : Rep X.K ax F m S H) (hx : RelD X.K ax F m S.length d0 x)
    (e : (match lstOf S d0 with | some xs => (blsOf xs).map fun bs => (D.bl (f bs), S) | none => none) = some (d, S')) : ∃ a bs, x = .ref a ∧ SqL X.K H a (bs.map V.bl) ∧ d = .bl (f bs) ∧ S' = S := by
  cases e1 : lstOf S d0 with
  | none => rw [e1] at e; cases e
  | some ys =>
    rw [e1] at e
    obtain ⟨bs, e2, e3⟩ := Option.map_eq_some_iff.mp e
    cases e3
    obtain ⟨a, vs, rfl, ha, rv'⟩ := r.lstOf hx e1
    rw [rv'.bls e2] at ha
    exact ⟨a, bs, rfl, SqL.of ha, rfl, rfl⟩
theorem rb_all (hc : X.calm = true) : CallR X (.builtin "all") (RVs X.K ax (builtin .all)) := rv1 (op := bAll) fun pins s σ H x us Q I rv F m S d0 d S' r hx e q => by
  obtain ⟨a, bs, rfl, ha, rfl, rfl⟩ := bools_of (f := fun bs => bs.all id) r hx e
  exact cr_all hc pins s σ H _ us Q I rv ⟨a, bs, rfl, ha, q.here r rfl⟩
theorem rb_any (hc : X.calm = true) : CallR X (.builtin "any") (RVs X.K ax (builtin .any)) := rv1 (op := bAny) fun pins s σ H x us Q I rv F m S d0 d S' r hx e q => by
  obtain ⟨a, bs, rfl, ha, rfl, rfl⟩ := bools_of (f := fun bs => bs.any id) r hx e
  exact cr_any hc pins s σ H _ us Q I rv ⟨a, bs, rfl, ha, q.here r rfl⟩
theorem rb_sum (hc : X.calm = true) : CallR X (.builtin "sum") (RVs X.K ax (builtin .sum)) := rv1 (op := bSum) fun pins s σ H x us Q I rv F m S d0 d S' r hx e q => by
  unfold bSum at e
  cases e1 : lstOf S d0 with
  | none => rw [e1] at e; cases e
  | some ys =>
    rw [e1] at e
    obtain ⟨bs, e2, e3⟩ := Option.map_eq_some_iff.mp e
    cases e3
    obtain ⟨a, vs, rfl, ha, rv'⟩ := r.lstOf hx e1
    rw [rv'.ints e2] at ha
    exact cr_sum hc pins s σ H _ us Q I rv ⟨a, bs, rfl, SqL.of ha, q.here r rfl⟩

/-! ### methods of lists -/
theorem lst_at {F H : Hp} {m : Nat → Addr} {S : Store} (r : Rep K ax F m S H) {a : Nat} {xs : List D} (e : S[a]? = some (.lst xs)) : ∃ vs, H (m a) = some (.lst vs) ∧ RelDs K ax F m a xs vs := by
  obtain ⟨vs, h1, _, h2⟩ := r.at_ a _ e
  exact ⟨vs, h1, h2⟩
theorem rmv1 {id : String} {op : D → D → Store → Option (D × Store)} (h : ∀ (pins : List (Addr × Obj)) (s : Shared) (σ : L2.St) (H : Hp) (x y : V) (v : Value) (us : List Value) (Q : VK), Inv X pins σ H s → RelV x v → Vals [y] us →
    ∀ (F : Hp) (m : Nat → Addr) (S : Store) (d0 d1 d : D) (S' : Store), Rep X.K ax F m S H → RelD X.K ax F m S.length d0 x → RelD X.K ax F m S.length d1 y → op d0 d1 S = some (d, S') → Fin X.K ax F m S.length S' d Q → wpAny (model X.prog X.w) X.A (call (.builtin id) (v :: us)) (EP X pins σ Q) X.xe s) :
    MtR X id (RVm X.K ax (fun a => un1 (op a))) := by
  intro pins s σ H x xs v us Q I rx rv hh
  obtain ⟨F, m, S, d0, ds, d, S', r, h0, h1, e, q⟩ := hh
  match ds, h1, e with
  | [], _, e => cases e
  | _ :: _ :: _, _, e => cases e
  | [d1], h1, e =>
    obtain ⟨y, rfl, hy⟩ := one_of h1
    exact h pins s σ H x y v us Q I rx rv F m S d0 d1 d S' r h0 hy e q
theorem rm_append : MtR X "list.append" (RVm X.K ax (method .append)) := rmv1 (op := mAppend) fun pins s σ H x y v us Q I rx rv F m S d0 d1 d S' r h0 hy e q => by
  unfold mAppend at e
  obtain ⟨F1, r1, h4, l1, ev⟩ := r.frz hy
  cases e1 : mutL d0 (frz d1 S).2 with
  | none => rw [e1] at e; cases e
  | some p =>
    obtain ⟨a, ys⟩ := p
    rw [e1] at e
    obtain ⟨rfl, f1⟩ := mutL_some e1
    obtain ⟨ha, rfl⟩ := h0
    dsimp only at e
    split at e
    · rename_i hl
      simp only [Bool.and_eq_true, decide_eq_true_eq] at hl
      cases e
      obtain ⟨vs, g1, g3⟩ := lst_at r1 f1
      refine mt_append pins s σ H _ _ v us Q I rx rv ⟨m a, vs, y, rfl, rfl, g1, maxLen_lt (by rw [← g3.length]; exact hl.2), q F1 m _ _ (ev _) ?_ (r1.setL f1 (g3.append (.one (h4.low hl.1)))) rfl⟩
      rw [List.length_set, l1]; exact Nat.le_refl _
    · cases e
theorem seqIx {n : Nat} {i : Int} {j : Nat} (h : ixOf n i = some j) : seqIndex? i n = some j ∧ j < n ∧ -(n : Int) ≤ i ∧ i < n := ixN_seq h
theorem rm_popAt : MtR X "list.pop" (RVm X.K ax (method .popAt)) := rmv1 (op := mPopAt) fun pins s σ H x y v us Q I rx rv F m S d0 d1 d S' r h0 hy e q => by
  unfold mPopAt at e
  cases d1 with
  | int i =>
    obtain rfl : y = .int i := hy
    cases e1 : mutL d0 S with
    | none => rw [e1] at e; cases e
    | some p =>
      obtain ⟨a, ys⟩ := p
      rw [e1] at e
      obtain ⟨rfl, f1⟩ := mutL_some e1
      obtain ⟨ha, rfl⟩ := h0
      dsimp only at e
      cases e2 : ixOf ys.length i with
      | none => rw [e2] at e; cases e
      | some j =>
        rw [e2] at e
        dsimp only at e
        cases e3 : ys[j]? with
        | none => rw [e3] at e; cases e
        | some z =>
          rw [e3] at e
          cases e
          obtain ⟨vs, g1, g3⟩ := lst_at r f1
          obtain ⟨w, g4, g5⟩ := g3.get e3
          obtain ⟨k1, k2, k3, k4⟩ := seqIx e2
          have hz : vs.length ≤ sizeLine := (I.lst g1).choose_spec.choose_spec.2.2
          have e5 : sizeLine = 16777216 := sizeLine_eq
          have l1 := g3.length
          refine mt_popAt pins s σ H _ _ v us Q I rx rv ⟨m a, vs, i, j, w, rfl, rfl, g1, by omega, by omega, by rw [← l1]; exact k1, g4, q F m _ _ .refl (by rw [List.length_set]; exact Nat.le_refl _) (r.setL f1 (g3.erase j)) ?_⟩
          rw [List.length_set]
          exact g5.evo .refl (Nat.le_of_lt ha)
  | _ => cases e
theorem dropLast_erase {α : Type} : ∀ (l : List α), l.dropLast = l.eraseIdx (l.length - 1)
  | [] => rfl
  | [_] => rfl
  | a :: b :: r => by
    have ih := dropLast_erase (b :: r)
    simp only [List.dropLast_cons₂, List.length_cons] at ih ⊢
    rw [ih]
    rfl
theorem pop_core {pins : List (Addr × Obj)} {s : Shared} {σ : L2.St} {H : Hp} {x : V} {v : Value} {us : List Value} {Q : VK} {F : Hp} {m : Nat → Addr} {S S' : Store} {d0 d : D} (I : Inv X pins σ H s) (rx : RelV x v) (rv : Vals [] us)
    (r : Rep X.K ax F m S H) (h0 : RelD X.K ax F m S.length d0 x) (e : mPop d0 S = some (d, S')) (q : Fin X.K ax F m S.length S' d Q) : wpAny (model X.prog X.w) X.A (call (.builtin "list.pop") (v :: us)) (EP X pins σ Q) X.xe s := by
  unfold mPop at e
  cases e1 : mutL d0 S with
  | none => rw [e1] at e; cases e
  | some p =>
    obtain ⟨a, ys⟩ := p
    rw [e1] at e
    obtain ⟨rfl, f1⟩ := mutL_some e1
    obtain ⟨ha, rfl⟩ := h0
    dsimp only at e
    cases e3 : ys[ys.length - 1]? with
    | none => rw [e3] at e; cases e
    | some z =>
      rw [e3] at e
      cases e
      obtain ⟨vs, g1, g3⟩ := lst_at r f1
      obtain ⟨w, g4, g5⟩ := g3.get e3
      have l1 := g3.length
      refine mt_pop pins s σ H _ _ v us Q I rx rv ⟨m a, vs, w, rfl, rfl, g1, by rw [← l1]; exact g4, q F m _ _ .refl (by rw [List.length_set]; exact Nat.le_refl _) ?_ ?_⟩
      · have z2 := r.setL f1 (g3.erase (ys.length - 1))
        rw [dropLast_erase, dropLast_erase, ← l1]
        exact z2
      · rw [List.length_set]
        exact g5.evo .refl (Nat.le_of_lt ha)
theorem rm_pop : MtR X "list.pop" (RVm X.K ax (method .pop)) := by
  intro pins s σ H x xs v us Q I rx rv h
  obtain ⟨F, m, S, d0, ds, d, S', r, h0, h1, e, q⟩ := h
  cases ds with
  | cons _ _ => cases e
  | nil =>
    obtain rfl : xs = [] := h1
    exact pop_core I rx rv r h0 e q
theorem rm_extend : MtR X "list.extend" (RVm X.K ax (method .extend)) := rmv1 (op := mExtend) fun pins s σ H x y v us Q I rx rv F m S d0 d1 d S' r h0 hy e q => by
  unfold mExtend at e
  cases e1 : mutL d0 S with
  | none => rw [e1] at e; cases e
  | some p =>
    obtain ⟨a, ys⟩ := p
    rw [e1] at e
    obtain ⟨rfl, f1⟩ := mutL_some e1
    obtain ⟨ha, rfl⟩ := h0
    cases e2 : lstOf S d1 with
    | none => rw [e2] at e; cases e
    | some zs =>
      rw [e2] at e
      dsimp only at e
      split at e
      · rename_i hl
        cases e
        obtain ⟨vs, g1, g3⟩ := lst_at r f1
        obtain ⟨b, ws, rfl, hb, rb⟩ := r.lstOf hy e2
        refine mt_extend pins s σ H _ _ v us Q I rx rv ⟨m a, b, vs, ws, rfl, rfl, g1, hb, maxLen_le (by rw [← g3.length, ← rb.length]; exact hl.2), q F m _ _ .refl (by rw [List.length_set]; exact Nat.le_refl _) (r.setL f1 (g3.append (rb.low hl.1))) rfl⟩
      · cases e
theorem idxOf_spec {k : Int} : ∀ {l : List Int} {j : Nat}, l.idxOf? k = some j → l[j]? = some k ∧ ∀ m : Nat, m < j → l[m]? ≠ some k
  | [], j, h => by simp at h
  | x :: xs, j, h => by
    rw [List.idxOf?_cons] at h
    by_cases hx : (x == k) = true
    · rw [if_pos hx] at h
      cases h
      exact ⟨by simpa using hx, fun m hm => absurd hm (Nat.not_lt_zero _)⟩
    · rw [if_neg hx] at h
      obtain ⟨i, h1, rfl⟩ := Option.map_eq_some_iff.mp h
      obtain ⟨h2, h3⟩ := idxOf_spec h1
      refine ⟨by simpa using h2, fun m hm => ?_⟩
      cases m with
      | zero =>
        intro z
        have : x = k := by simpa using z
        exact hx (by simpa using this)
      | succ m => simpa using h3 m (by omega)
theorem erase_ints : ∀ (is : List Int) (j : Nat), (is.map V.int).eraseIdx j = (is.eraseIdx j).map V.int
  | [], j => by simp
  | _ :: _, 0 => by simp
  | x :: xs, j + 1 => by simp [erase_ints xs j]
theorem rm_remove : MtR X "list.remove" (RVm X.K ax (method .remove)) := rmv1 (op := mRemove) fun pins s σ H x y v us Q I rx rv F m S d0 d1 d S' r h0 hy e q => by
  unfold mRemove at e
  cases e1 : mutL d0 S with
  | none => rw [e1] at e; cases e
  | some p =>
    obtain ⟨a, ys⟩ := p
    rw [e1] at e
    obtain ⟨rfl, f1⟩ := mutL_some e1
    obtain ⟨ha, rfl⟩ := h0
    cases d1 with
    | int k =>
      obtain rfl : y = .int k := hy
      dsimp only at e
      cases e2 : intsOf ys with
      | none => rw [e2] at e; cases e
      | some is =>
        rw [e2] at e
        dsimp only at e
        cases e3 : is.idxOf? k with
        | none => rw [e3] at e; cases e
        | some j =>
          rw [e3] at e
          cases e
          obtain ⟨vs, g1, g3⟩ := lst_at r f1
          have ev := g3.ints e2
          subst ev
          obtain ⟨k1, k2⟩ := idxOf_spec e3
          exact mt_remove pins s σ H _ _ v us Q I rx rv ⟨m a, is, k, j, rfl, rfl, g1, k1, k2, q F m _ _ .refl (by rw [List.length_set]; exact Nat.le_refl _) (r.setL f1 (RelDs.of_ints _)) rfl⟩
    | _ => cases e
theorem findIx_spec {F : Hp} {m : Nat → Addr} {n : Nat} {x : D} {v : V} (hx : RelD K ax F m n x v) (fx : D.flat x = true) : ∀ {ys : List D} {vs : List V} {j : Nat}, RelDs K ax F m n ys vs → ys.all D.flat = true → findIx x ys = some j →
    (∃ z, vs[j]? = some z ∧ eqV z v = true) ∧ ∀ (i : Nat) (z : V), i < j → vs[i]? = some z → eqV z v = false
  | [], _, _, _, _, h => by cases h
  | y :: ys, _, j, hr, f, h => by
    obtain ⟨w, vs', rfl, h1, h2⟩ := hr
    rw [List.all_cons, Bool.and_eq_true] at f
    have ee := eqV_of h1 hx f.1 fx
    unfold findIx at h
    by_cases hy : D.eqv y x = true
    · rw [if_pos hy] at h
      cases h
      exact ⟨⟨w, rfl, by rw [ee]; exact hy⟩, fun i z hi => absurd hi (Nat.not_lt_zero _)⟩
    · rw [if_neg hy] at h
      obtain ⟨i, g1, rfl⟩ := Option.map_eq_some_iff.mp h
      obtain ⟨⟨z, g2, g3⟩, g4⟩ := findIx_spec hx fx h2 f.2 g1
      refine ⟨⟨z, by simpa using g2, g3⟩, fun l z' hl hz => ?_⟩
      cases l with
      | zero =>
        have : w = z' := by simpa using hz
        rw [← this, ee]
        simpa using hy
      | succ l => exact g4 l z' (by omega) (by simpa using hz)
theorem rm_index : MtR X "list.index" (RVm X.K ax (method .index)) := rmv1 (op := mIndex) fun pins s σ H x y v us Q I rx rv F m S d0 d1 d S' r h0 hy e q => by
  unfold mIndex at e
  cases e1 : lstOf S d0 with
  | none => rw [e1] at e; cases e
  | some ys =>
    rw [e1] at e
    dsimp only at e
    split at e
    · rename_i hl
      rw [Bool.and_eq_true] at hl
      obtain ⟨j, e2, e3⟩ := Option.map_eq_some_iff.mp e
      cases e3
      obtain ⟨a, vs, rfl, ha, rv'⟩ := r.lstOf h0 e1
      obtain ⟨⟨z, k1, k2⟩, k3⟩ := findIx_spec hy hl.2 rv' hl.1 e2
      exact mt_index pins s σ H _ _ v us Q I rx rv ⟨a, vs, y, j, z, rfl, rfl, SqL.of ha, flatV_of hy hl.2, flatV_all rv' hl.1, k1, k2, k3, q.here r rfl⟩
    · cases e
theorem rm_count : MtR X "list.count" (RVm X.K ax (method .count)) := rmv1 (op := mCount) fun pins s σ H x y v us Q I rx rv F m S d0 d1 d S' r h0 hy e q => by
  unfold mCount at e
  cases e1 : lstOf S d0 with
  | none => rw [e1] at e; cases e
  | some ys =>
    rw [e1] at e
    cases d1 with
    | int k =>
      obtain rfl : y = .int k := hy
      dsimp only at e
      obtain ⟨is, e2, e3⟩ := Option.map_eq_some_iff.mp e
      cases e3
      obtain ⟨a, vs, rfl, ha, rv'⟩ := r.lstOf h0 e1
      rw [rv'.ints e2] at ha
      exact mt_lcount pins s σ H _ _ v us Q I rx rv ⟨a, is, k, rfl, rfl, SqL.of ha, q.here r rfl⟩
    | _ => cases e

/-! ### isinstance -/
structure TrkOk (K : PySem.W.Frag) (CT : Addr) : Prop where
  cl : Cls K CT
  ha : PySem.W.findIn K (.ref CT) "__class__" = some (some (.builtin "object.__class__"))
  hn : PySem.W.specialIn K (.builtin "object.__class__") "__get__" = some (some (.builtin "getset_descriptor.__get__"))
  htk : PySem.W.takesIn K (.builtin "object.__class__") = some true
  hm : PySem.W.mroIn K CT (.type "object") = some true
  nP : NoAttr K CT "places"
  nL : NoAttr K CT "length"
  nR : NoAttr K CT "is_ring"
  k1 : ∀ T ∈ ["NoneType", "bool", "int", "str", "list", "tuple", "dict"], PySem.W.kitOne K (.type T) (.ref CT) = some false
  k2 : ∀ T ∈ ["bool", "int", "str", "list", "tuple"], PySem.W.kitOne K (.ref CT) (.type T) = some false
  k3 : PySem.W.kitOne K (.ref CT) (.ref CT) = some true
def tyN : Ty → String
  | .int => "int" | .bool => "bool" | .str => "str" | .tup => "tuple" | .lst => "list" | .track => ""
def tyV' (CT : Addr) : Ty → V
  | .track => .ref CT
  | t => .ty (tyN t)
def tyU (CT : Addr) : Ty → Value
  | .track => .ref CT
  | t => .type (tyN t)
theorem ty_cls {CT : Addr} (t : Ty) : ClsV (tyV' CT t) (tyU CT t) := by
  cases t <;> first | exact .ty _ | exact .own _
/-- the type of a value -/
theorem kit_b {K : PySem.W.Frag} {CT : Addr} (T : TrkOk K CT) (t : Ty) :
    PySem.W.kitOne K (.type "NoneType") (tyU CT t) = some false ∧
    PySem.W.kitOne K (.type "bool") (tyU CT t) = some (match t with | .bool => true | .int => true | _ => false) ∧
    PySem.W.kitOne K (.type "int") (tyU CT t) = some (match t with | .int => true | _ => false) ∧
    PySem.W.kitOne K (.type "str") (tyU CT t) = some (match t with | .str => true | _ => false) ∧
    PySem.W.kitOne K (.type "tuple") (tyU CT t) = some (match t with | .tup => true | _ => false) ∧
    PySem.W.kitOne K (.type "list") (tyU CT t) = some (match t with | .lst => true | _ => false) ∧
    PySem.W.kitOne K (.type "dict") (tyU CT t) = some false ∧
    PySem.W.kitOne K (.ref CT) (tyU CT t) = some (match t with | .track => true | _ => false) := by
  cases t
  case track => exact ⟨T.k1 _ (by simp), T.k1 _ (by simp), T.k1 _ (by simp), T.k1 _ (by simp), T.k1 _ (by simp), T.k1 _ (by simp), T.k1 _ (by simp), T.k3⟩
  all_goals exact ⟨kit_ty (by decide +kernel), kit_ty (by decide +kernel), kit_ty (by decide +kernel), kit_ty (by decide +kernel), kit_ty (by decide +kernel), kit_ty (by decide +kernel), kit_ty (by decide +kernel), T.k2 _ (by simp [tyN])⟩
theorem ty_of {F H : Hp} {m : Nat → Addr} {S : Store} (T : TrkOk K ax.CT) (r : Rep K ax F m S H) {d : D} {x : V} {n : Nat} (hn : n ≤ S.length) (hx : RelD K ax F m n d x) (f : ∀ g, d ≠ .fn g) :
    ∃ u, TyX K H x u ∧ ∀ (t : Ty) (b : Bool), isTy S d t = some b → PySem.W.kitOne K u (tyU ax.CT t) = some b := by
  cases d with
  | non =>
    obtain rfl : x = .non := hx
    exact ⟨_, .base .non, fun t b e => by cases e; exact (kit_b T t).1⟩
  | bl k =>
    obtain rfl : x = .bl k := hx
    exact ⟨_, .base (.bl k), fun t b e => by rw [(kit_b T t).2.1]; exact e⟩
  | int i =>
    obtain rfl : x = .int i := hx
    exact ⟨_, .base (.int i), fun t b e => by rw [(kit_b T t).2.2.1]; exact e⟩
  | str i =>
    obtain rfl : x = .str i := hx
    exact ⟨_, .base (.str i), fun t b e => by rw [(kit_b T t).2.2.2.1]; exact e⟩
  | tup xs =>
    obtain ⟨a, vs, rfl, ha, hv⟩ := hx
    refine ⟨.type "tuple", ?_, fun t b e => by rw [(kit_b T t).2.2.2.2.1]; exact e⟩
    rcases ha with (ha | ⟨o, ha⟩) | ⟨o, its, k, ha, hc, _⟩
    · exact .base (.tup (r.sub _ _ ha))
    · exact .fTuple (r.sub _ _ ha)
    · exact .kTuple ha hc
  | lst xs =>
    obtain ⟨a, vs, rfl, ha, hv⟩ := hx
    exact ⟨.type "list", .base (.lst (r.sub _ _ ha)), fun t b e => by rw [(kit_b T t).2.2.2.2.2.1]; exact e⟩
  | scr is =>
    obtain ⟨a, rfl, ha⟩ := hx
    refine ⟨.type "list", ?_, fun t b e => by rw [(kit_b T t).2.2.2.2.2.1]; exact e⟩
    rcases ha with (ha | ⟨o, ha⟩) | ⟨o, its, k, ha, hc, _⟩
    · exact .base (.lst (r.sub _ _ ha))
    · exact .base (.frz (r.sub _ _ ha))
    · exact .kList ha hc
  | trk p k q =>
    obtain ⟨a, dx, rfl, hf⟩ := hx
    exact ⟨.ref ax.CT, .base (.ins (r.sub _ _ hf) T.cl T.ha T.hn T.htk T.hm), fun t b e => by rw [(kit_b T t).2.2.2.2.2.2.2]; exact e⟩
  | fn g => exact absurd rfl (f g)
  | ref i =>
    obtain ⟨hi, rfl⟩ := hx
    have hi' : i < S.length := Nat.lt_of_lt_of_le hi hn
    have e0 : S[i]? = some S[i] := List.getElem?_eq_getElem hi'
    have q := r.at_ i _ e0
    cases ho : S[i] with
    | lst xs =>
      rw [ho] at q e0
      obtain ⟨vs, h1, _⟩ := q
      exact ⟨.type "list", .base (.lst h1), fun t b e => by rw [(kit_b T t).2.2.2.2.2.1]; cases t <;> simpa [isTy, e0] using e⟩
    | fzl xs =>
      rw [ho] at q e0
      obtain ⟨vs, h1, _⟩ := q
      exact ⟨.type "list", .base (.lst (r.sub _ _ h1)), fun t b e => by rw [(kit_b T t).2.2.2.2.2.1]; cases t <;> simpa [isTy, e0] using e⟩
    | dct _ => rw [ho] at q; exact q.elim
end
end Rf
set_option Elab.async false
set_option linter.all false
set_option maxRecDepth 100000
/-! Readings by the interpreter; expressions. -/
namespace Rf
open PySem PySem.Spec PyProof.Rows L2

theorem PE.imp {X : Cx} {e : Expr} {t t' : TE} (h : PE X e t) (k : ∀ σ H Q, t' σ H Q → t σ H Q) : PE X e t' := ⟨fun pins s σ H Q I q => h.run pins s σ H Q I (k σ H Q q)⟩
theorem PT.imp {X : Cx} {e : Expr} {t t' : TT} (h : PT X e t) (k : ∀ σ H Q, t' σ H Q → t σ H Q) : PT X e t' := ⟨fun pins s σ H Q I q => h.run pins s σ H Q I (k σ H Q q)⟩
theorem PW.imp {X : Cx} {e : Expr} {t t' : TT} (h : PW X e t) (k : ∀ σ H Q, t' σ H Q → t σ H Q) : PW X e t' := ⟨fun w pins s σ H Q I q => h.run w pins s σ H Q I (k σ H Q q)⟩
theorem PA.imp {X : Cx} {es : List Expr} {t t' : TA} (h : PA X es t) (k : ∀ σ H Q, t' σ H Q → t σ H Q) : PA X es t' := ⟨fun pos pins s σ H Q I q => h.run pos pins s σ H Q I (k σ H Q q)⟩
theorem PO.imp {X : Cx} {e : Option Expr} {t t' : TO} (h : PO X e t) (k : ∀ σ H Q, t' σ H Q → t σ H Q) : PO X e t' := ⟨fun pins s σ H Q I q => h.run pins s σ H Q I (k σ H Q q)⟩
theorem PS.imp {X : Cx} {st : Stmt} {t t' : TS} (h : PS X st t) (k : ∀ D σ H, t' D σ H → t D σ H) : PS X st t' := ⟨fun pins s σ H D I q => h.run pins s σ H D I (k D σ H q)⟩
theorem PSs.imp {X : Cx} {st : List Stmt} {t t' : TS} (h : PSs X st t) (k : ∀ D σ H, t' D σ H → t D σ H) : PSs X st t' := ⟨fun pins s σ H D I q => h.run pins s σ H D I (k D σ H q)⟩

/-- the scene: what the text tells, what is wanted of an exception, the exception that is handled -/
structure Sc where
  ax : Aux
  W : WX
  si : Option (Ex × Value × Option Addr)
  ev : Option (Nat × Addr)
abbrev Sc.ex (C : Sc) : Option Ex := C.si.map (·.1)
/-- an exception -/
def RelX (K : PySem.W.Frag) (ax : Aux) (F : Hp) (e : Ex) (cls : Value) (d : Option Addr) : Prop :=
  (e.cls ∈ ax.xs ∧ cls = .ref (He.ga K e.cls)) ∧ match e.fld with
    | none => d = none
    | some (f, x) => (e.cls, f) ∈ ax.xf ∧ ∃ dd v, d = some dd ∧ F dd = some (.xd [(f, v)]) ∧ RelD K ax F (fun _ => 0) 0 x v
structure Sta (K : PySem.W.Frag) (C : Sc) (F : Hp) (m : Nat → Addr) (env : Env) (S : Store) (σ : L2.St) (H : Hp) : Prop where
  rep : Rep K C.ax F m S H
  len : env.length = σ.length
  at_ : ∀ (i : Nat) (d : D), env[i]? = some (some d) → ∃ v, σ[i]? = some (some v) ∧ RelD K C.ax F m S.length d v
  sui : ∀ e cls d, C.si = some (e, cls, d) → RelX K C.ax F e cls d
  exv : ∀ (i : Nat) (a : Addr), C.ev = some (i, a) → env[i]? = some none → σ[i]? = some (some (.ref a))
variable {K : PySem.W.Frag} {C : Sc}
theorem rel0 {ax : Aux} {F : Hp} {m m' : Nat → Addr} {x : D} {v : V} (h : RelD K ax F m 0 x v) : RelD K ax F m' 0 x v := h.evo ⟨fun _ _ z => z, fun _ z => absurd z (Nat.not_lt_zero _)⟩ (Nat.le_refl _)
theorem RelX.evo {ax : Aux} {F F' : Hp} {e : Ex} {cls : Value} {d : Option Addr} (h : RelX K ax F e cls d) (k : ∀ a o, F a = some o → F' a = some o) : RelX K ax F' e cls d := by
  obtain ⟨h1, h2⟩ := h
  refine ⟨h1, ?_⟩
  cases q : e.fld with
  | none => rw [q] at h2; exact h2
  | some p =>
    obtain ⟨f, x⟩ := p
    rw [q] at h2
    obtain ⟨e0, dd, v, e1, e2, e3⟩ := h2
    exact ⟨e0, dd, v, e1, k _ _ e2, e3.evo ⟨k, fun _ _ => rfl⟩ (Nat.le_refl _)⟩
theorem Sta.evo {F F' H H' : Hp} {m m' : Nat → Addr} {env : Env} {S S' : Store} {σ : L2.St} (h : Sta K C F m env S σ H) (e : Evo S.length F m F' m') (l : S.length ≤ S'.length) (r : Rep K C.ax F' m' S' H') : Sta K C F' m' env S' σ H' :=
  ⟨r, h.len, fun i d q => let ⟨v, a, b⟩ := h.at_ i d q; ⟨v, a, b.evo e l⟩, fun a b c q => (h.sui a b c q).evo e.fr, h.exv⟩

abbrev Rho (α β : Type) := Hp → (Nat → Addr) → Nat → α → β → Prop
def Post {α β : Type} (K : PySem.W.Frag) (C : Sc) (F : Hp) (m : Nat → Addr) (n : Nat) (σ : L2.St) (ρ : Rho α β) (Q : β → Hp → Prop) : R α → Prop
  | .ok a S' => ∀ F' m' H' b, Evo n F m F' m' → n ≤ S'.length → Rep K C.ax F' m' S' H' → ρ F' m' S'.length a b → Q b H'
  | .ex e S' => ∀ F' m' H' cls d, Evo n F m F' m' → n ≤ S'.length → Rep K C.ax F' m' S' H' → RelX K C.ax F' e cls d → C.W cls d σ H'
def RX {α β : Type} (K : PySem.W.Frag) (C : Sc) (ρ : Rho α β) (f : Env → Store → Option (R α)) : L2.St → Hp → (β → Hp → Prop) → Prop := fun σ H Q =>
  ∃ F m env S r, Sta K C F m env S σ H ∧ f env S = some r ∧ Post K C F m S.length σ ρ Q r
abbrev rD (K : PySem.W.Frag) (C : Sc) : Rho D V := fun F m n d v => RelD K C.ax F m n d v
abbrev rDs (K : PySem.W.Frag) (C : Sc) : Rho (List D) (List V) := fun F m n d v => RelDs K C.ax F m n d v
abbrev rB : Rho D Bool := fun _ _ _ d b => d = .bl b
abbrev rO : Rho (Option Int) (Option Int) := fun _ _ _ d b => d = b

section
variable {F H : Hp} {m : Nat → Addr} {env : Env} {S : Store} {σ : L2.St}
theorem Post.more {α β : Type} {ρ : Rho α β} {Q : β → Hp → Prop} {r : R α} {n n1 : Nat} {F1 : Hp} {m1 : Nat → Addr} (p : Post K C F m n σ ρ Q r) (e : Evo n F m F1 m1) (l : n ≤ n1) : Post K C F1 m1 n1 σ ρ Q r := by
  cases r with
  | ok a S' => exact fun F' m' H' b e' l' r' q => p F' m' H' b (e.trans l e') (Nat.le_trans l l') r' q
  | ex x S' => exact fun F' m' H' cls d e' l' r' q => p F' m' H' cls d (e.trans l e') (Nat.le_trans l l') r' q
/-- one expression, then the rest -/
theorem bindX {α β γ δ : Type} {ρ1 : Rho α β} {ρ2 : Rho γ δ} {Q : δ → Hp → Prop} {f : Env → Store → Option (R α)} {g : α → Store → Option (R γ)} {r : R γ} (st : Sta K C F m env S σ H) (e : bnd (f env S) g = some r) (p : Post K C F m S.length σ ρ2 Q r)
    {Q' : β → Hp → Prop} (k : ∀ F1 m1 S1 a b H1, Evo S.length F m F1 m1 → S.length ≤ S1.length → Sta K C F1 m1 env S1 σ H1 → ρ1 F1 m1 S1.length a b → g a S1 = some r → Post K C F1 m1 S1.length σ ρ2 Q r → Q' b H1) :
    RX K C ρ1 f σ H Q' := by
  cases q : f env S with
  | none => rw [q] at e; cases e
  | some r1 =>
    rw [q] at e
    cases r1 with
    | ok a S1 => exact ⟨F, m, env, S, _, st, q, fun F1 m1 H1 b e1 l1 r1 rb => k F1 m1 S1 a b H1 e1 l1 (st.evo e1 l1 r1) rb e (p.more e1 l1)⟩
    | ex x S1 =>
      cases e
      exact ⟨F, m, env, S, _, st, q, p⟩
/-- the last expression -/
theorem lastX {α β : Type} {ρ1 : Rho α β} {Q : β → Hp → Prop} {f : Env → Store → Option (R α)} {r : R α} (st : Sta K C F m env S σ H) (e : f env S = some r) (p : Post K C F m S.length σ ρ1 Q r) : RX K C ρ1 f σ H Q := ⟨F, m, env, S, r, st, e, p⟩
end
theorem lift_inv {x : Option (D × Store)} {r : R D} (h : lift x = some r) : ∃ d S, x = some (d, S) ∧ r = .ok d S := by
  cases x with
  | none => cases h
  | some p => obtain ⟨d, S⟩ := p; cases h; exact ⟨d, S, rfl, rfl⟩

section
variable {X : Cx} {a b c : Expr} {pos : Pos} {fa fb fc : Env → Store → Option (R D)}
/-! ### names, constants -/
theorem se_var {i : Nat} {x : Str} (hN : X.N[i]? = some x) (hv : Vis X.env.scope x) (hd : (x == ("__debug__" : Str)) = false) (hcd : (x == ("__classdict__" : Str)) = false) (g : Env → Store → Option (R D))
    (hg : ∀ env S, g env S = match env[i]? with | some (some d) => some (.ok d S) | _ => none) : PE X (.Name x pos) (RX X.K C (rD X.K C) g) := by
  refine PE.imp (pe_var hN hv hd hcd) fun σ H Q h => ?_
  obtain ⟨F, m, env, S, r, st, e, p⟩ := h
  rw [hg] at e
  cases q : env[i]? with
  | none => rw [q] at e; cases e
  | some o =>
    cases o with
    | none => rw [q] at e; cases e
    | some d =>
      rw [q] at e
      cases e
      obtain ⟨v, e1, e2⟩ := st.at_ i d q
      exact ⟨v, e1, p F m H v .refl (Nat.le_refl _) st.rep e2⟩
theorem se_con {e : Expr} {d : D} {v : V} (h : PE X e (tC v)) (hd : ∀ F m n, RelD X.K C.ax F m n d v) : PE X e (RX X.K C (rD X.K C) (fun _ S => some (.ok d S))) := by
  refine PE.imp h fun σ H Q h => ?_
  obtain ⟨F, m, env, S, r, st, e, p⟩ := h
  cases e
  exact p F m H v .refl (Nat.le_refl _) st.rep (hd _ _ _)
/-! ### operators -/
theorem se_bin {o : Bop} (ha : PE X a (RX X.K C (rD X.K C) fa)) (hb : PE X b (RX X.K C (rD X.K C) fb)) :
    PE X (.BinOp a (bopE o) b pos) (RX X.K C (rD X.K C) fun env S => bnd (fa env S) fun x S => bnd (fb env S) fun y S => lift (binop o x y S)) := by
  refine PE.imp (pe_op (or_bin (ax := C.ax) o) ha hb) fun σ H Q h => ?_
  obtain ⟨F, m, env, S, r, st, e, p⟩ := h
  refine bindX st e p fun F1 m1 S1 x xv H1 ev1 l1 st1 rx e1 p1 => bindX st1 e1 p1 fun F2 m2 S2 y yv H2 ev2 l2 st2 ry e2 p2 => ?_
  obtain ⟨d, S', e3, rfl⟩ := lift_inv e2
  exact ⟨F2, m2, S2, x, y, d, S', st2.rep, RelD.evo ev2 l2 rx, ry, e3, p2⟩
theorem se_neg (ha : PE X a (RX X.K C (rD X.K C) fa)) : PE X (.UnaryOp .USub a pos) (RX X.K C (rD X.K C) fun env S => bnd (fa env S) fun x S => match x with | .int i => some (.ok (.int (-i)) S) | _ => none) := by
  refine PE.imp (pe_un un_neg ha) fun σ H Q h => ?_
  obtain ⟨F, m, env, S, r, st, e, p⟩ := h
  refine bindX st e p fun F1 m1 S1 x xv H1 ev1 l1 st1 rx e1 p1 => ?_
  cases x <;> cases e1
  exact ⟨_, rx, p1 F1 m1 H1 _ .refl (Nat.le_refl _) st1.rep rfl⟩
def kNot (x : D) (S : Store) : Option (R D) := match x with
  | .bl b => some (.ok (.bl (!b)) S)
  | _ => none
theorem se_not (ha : PE X a (RX X.K C (rD X.K C) fa)) : PE X (.UnaryOp .Not a pos) (RX X.K C (rD X.K C) fun env S => bnd (fa env S) kNot) := by
  refine PE.imp (pe_not ha) fun σ H Q h => ?_
  obtain ⟨F, m, env, S, r, st, e, p⟩ := h
  refine bindX st e p fun F1 m1 S1 x xv H1 ev1 l1 st1 rx e1 p1 => ?_
  cases x <;> cases e1
  exact ⟨_, rx, p1 F1 m1 H1 _ .refl (Nat.le_refl _) st1.rep rfl⟩
theorem st_not (ha : PT X a (RX X.K C rB fa)) : PT X (.UnaryOp .Not a pos) (RX X.K C rB fun env S => bnd (fa env S) kNot) := by
  refine PT.imp (pt_not ha) fun σ H Q h => ?_
  obtain ⟨F, m, env, S, r, st, e, p⟩ := h
  refine bindX st e p fun F1 m1 S1 x xv H1 ev1 l1 st1 rx e1 p1 => ?_
  subst rx
  cases e1
  exact p1 F1 m1 H1 _ .refl (Nat.le_refl _) st1.rep rfl
/-- a value that must be a truth, as a test -/
theorem st_val {e : Expr} {f : Env → Store → Option (R D)} (h : PE X e (RX X.K C (rD X.K C) f)) (he : ∀ whole, isTrue e X.env whole = (do let v ← whole; standAt e.pos; holding [v] (truthy v))) (hf : ∀ env S d S', f env S = some (.ok d S') → ∃ b, d = .bl b) :
    PT X e (RX X.K C rB f) := by
  refine PT.imp (pt_val h he) fun σ H Q q => ?_
  obtain ⟨F, m, env, S, r, st, e, p⟩ := q
  refine ⟨F, m, env, S, r, st, e, ?_⟩
  cases r with
  | ok d S' =>
    obtain ⟨b, rfl⟩ := hf env S d S' e
    intro F' m' H' v e1 l1 r1 rv
    exact ⟨b, rv, p F' m' H' b e1 l1 r1 rfl⟩
  | ex x S' => exact p
/-- only truths -/
def onlyB (f : Env → Store → Option (R D)) : Env → Store → Option (R D) := fun env S => bnd (f env S) fun d S => match d with
  | .bl b => some (.ok (.bl b) S)
  | _ => none
theorem st_valB {e : Expr} {f : Env → Store → Option (R D)} (h : PE X e (RX X.K C (rD X.K C) f)) (he : ∀ whole, isTrue e X.env whole = (do let v ← whole; standAt e.pos; holding [v] (truthy v))) :
    PT X e (RX X.K C rB (onlyB f)) := by
  refine PT.imp (pt_val h he) fun σ H Q q => ?_
  obtain ⟨F, m, env, S, r, st, e, p⟩ := q
  refine bindX st e p fun F1 m1 S1 x xv H1 ev1 l1 st1 rx e1 p1 => ?_
  cases x <;> cases e1
  exact ⟨_, rx, p1 F1 m1 H1 _ .refl (Nat.le_refl _) st1.rep rfl⟩
/-! ### and, or -/
def kAnd (g : Store → Option (R D)) (x : D) (S : Store) : Option (R D) := match x with
  | .bl true => g S
  | .bl false => some (.ok (.bl false) S)
  | _ => none
def kOr (g : Store → Option (R D)) (x : D) (S : Store) : Option (R D) := match x with
  | .bl false => g S
  | .bl true => some (.ok (.bl true) S)
  | _ => none
theorem se_and {rest : List Expr} (ha : PE X a (RX X.K C (rD X.K C) fa)) (hb : PE X (.BoolOp .And (b :: rest) pos) (RX X.K C (rD X.K C) fb)) :
    PE X (.BoolOp .And (a :: b :: rest) pos) (RX X.K C (rD X.K C) fun env S => bnd (fa env S) (kAnd (fb env))) := by
  refine PE.imp (pe_and ha hb) fun σ H Q h => ?_
  obtain ⟨F, m, env, S, r, st, e, p⟩ := h
  refine bindX st e p fun F1 m1 S1 x xv H1 ev1 l1 st1 rx e1 p1 => ?_
  cases x with
  | bl k =>
    obtain rfl : xv = .bl k := rx
    refine ⟨k, rfl, ?_⟩
    cases k with
    | true => exact iteT (lastX st1 e1 p1)
    | false => cases e1; exact iteF (p1 F1 m1 H1 _ .refl (Nat.le_refl _) st1.rep rfl)
  | _ => cases e1
theorem se_or {rest : List Expr} (ha : PE X a (RX X.K C (rD X.K C) fa)) (hb : PE X (.BoolOp .Or (b :: rest) pos) (RX X.K C (rD X.K C) fb)) :
    PE X (.BoolOp .Or (a :: b :: rest) pos) (RX X.K C (rD X.K C) fun env S => bnd (fa env S) (kOr (fb env))) := by
  refine PE.imp (pe_or ha hb) fun σ H Q h => ?_
  obtain ⟨F, m, env, S, r, st, e, p⟩ := h
  refine bindX st e p fun F1 m1 S1 x xv H1 ev1 l1 st1 rx e1 p1 => ?_
  cases x with
  | bl k =>
    obtain rfl : xv = .bl k := rx
    refine ⟨k, rfl, ?_⟩
    cases k with
    | false => exact iteF (lastX st1 e1 p1)
    | true => cases e1; exact iteT (p1 F1 m1 H1 _ .refl (Nat.le_refl _) st1.rep rfl)
  | _ => cases e1
theorem sw_and {rest : List Expr} (ha : PT X a (RX X.K C rB fa)) (hb : PW X (.BoolOp .And (b :: rest) pos) (RX X.K C rB fb)) :
    PW X (.BoolOp .And (a :: b :: rest) pos) (RX X.K C rB fun env S => bnd (fa env S) (kAnd (fb env))) := by
  refine PW.imp (pw_and ha hb) fun σ H Q h => ?_
  obtain ⟨F, m, env, S, r, st, e, p⟩ := h
  refine bindX st e p fun F1 m1 S1 x xv H1 ev1 l1 st1 rx e1 p1 => ?_
  subst rx
  cases xv with
  | true => exact iteT (lastX st1 e1 p1)
  | false => cases e1; exact iteF (p1 F1 m1 H1 _ .refl (Nat.le_refl _) st1.rep rfl)
theorem sw_or {rest : List Expr} (ha : PT X a (RX X.K C rB fa)) (hb : PW X (.BoolOp .Or (b :: rest) pos) (RX X.K C rB fb)) :
    PW X (.BoolOp .Or (a :: b :: rest) pos) (RX X.K C rB fun env S => bnd (fa env S) (kOr (fb env))) := by
  refine PW.imp (pw_or ha hb) fun σ H Q h => ?_
  obtain ⟨F, m, env, S, r, st, e, p⟩ := h
  refine bindX st e p fun F1 m1 S1 x xv H1 ev1 l1 st1 rx e1 p1 => ?_
  subst rx
  cases xv with
  | false => exact iteF (lastX st1 e1 p1)
  | true => cases e1; exact iteT (p1 F1 m1 H1 _ .refl (Nat.le_refl _) st1.rep rfl)
/-! ### comparisons -/
def kCmp (o : Cop) (x y : D) (S : Store) : Option (R D) := match cmpop o x y S with
  | some d => some (.ok d S)
  | none => none
theorem kCmp_inv {o : Cop} {x y : D} {S : Store} {r : R D} (h : kCmp o x y S = some r) : ∃ d, cmpop o x y S = some d ∧ r = .ok d S := by
  unfold kCmp at h
  cases e : cmpop o x y S with
  | none => rw [e] at h; cases h
  | some d => rw [e] at h; cases h; exact ⟨d, rfl, rfl⟩
theorem cmpop_bl {o : Cop} {x y d : D} {S : Store} (h : cmpop o x y S = some d) : ∃ b, d = .bl b := by
  cases o
  case eq =>
    simp only [cmpop] at h
    split at h <;> cases h
    exact ⟨_, rfl⟩
  case ne =>
    simp only [cmpop] at h
    split at h <;> cases h
    exact ⟨_, rfl⟩
  case is =>
    simp only [cmpop] at h
    split at h
    · cases h; exact ⟨_, rfl⟩
    · split at h <;> cases h
      exact ⟨_, rfl⟩
    · cases h
  case isnot =>
    simp only [cmpop] at h
    split at h
    · cases h; exact ⟨_, rfl⟩
    · split at h <;> cases h
      exact ⟨_, rfl⟩
    · cases h
  all_goals
    obtain ⟨b, _, e⟩ := Option.map_eq_some_iff.mp h
    exact ⟨_, e.symm⟩
theorem se_cmp {o : Cop} (hu : X.A.units + 65 < cLine) (hm : behindInMarks (copE o) b = false) (ha : PE X a (RX X.K C (rD X.K C) fa)) (hb : PE X b (RX X.K C (rD X.K C) fb)) :
    PE X (.Compare a [copE o] [b] pos) (RX X.K C (rD X.K C) fun env S => bnd (fa env S) fun x S => bnd (fb env S) fun y S => kCmp o x y S) := by
  refine PE.imp (pe_cmpR (rc_cmp (ax := C.ax) o hu) ha hb hm) fun σ H Q h => ?_
  obtain ⟨F, m, env, S, r, st, e, p⟩ := h
  refine bindX st e p fun F1 m1 S1 x xv H1 ev1 l1 st1 rx e1 p1 => bindX st1 e1 p1 fun F2 m2 S2 y yv H2 ev2 l2 st2 ry e2 p2 => ?_
  obtain ⟨d, e3, rfl⟩ := kCmp_inv e2
  exact ⟨F2, m2, S2, x, y, d, st2.rep, RelD.evo ev2 l2 rx, ry, e3, fun v rv => p2 F2 m2 H2 v .refl (Nat.le_refl _) st2.rep rv⟩
theorem st_cmp {o : Cop} (hu : X.A.units + 65 < cLine) (hm : behindInMarks (copE o) b = false) (ha : PE X a (RX X.K C (rD X.K C) fa)) (hb : PE X b (RX X.K C (rD X.K C) fb)) :
    PT X (.Compare a [copE o] [b] pos) (RX X.K C rB fun env S => bnd (fa env S) fun x S => bnd (fb env S) fun y S => kCmp o x y S) := by
  refine PT.imp (pt_cmpR (rc_cmp (ax := C.ax) o hu) ha hb hm) fun σ H Q h => ?_
  obtain ⟨F, m, env, S, r, st, e, p⟩ := h
  refine bindX st e p fun F1 m1 S1 x xv H1 ev1 l1 st1 rx e1 p1 => bindX st1 e1 p1 fun F2 m2 S2 y yv H2 ev2 l2 st2 ry e2 p2 => ?_
  obtain ⟨d, e3, rfl⟩ := kCmp_inv e2
  obtain ⟨k, rfl⟩ := cmpop_bl e3
  exact ⟨F2, m2, S2, x, y, _, st2.rep, RelD.evo ev2 l2 rx, ry, e3, fun v rv => ⟨k, rv, p2 F2 m2 H2 k .refl (Nat.le_refl _) st2.rep rfl⟩⟩
def kChn (o p : Cop) (x y : D) (g : Store → Option (R D)) (S : Store) : Option (R D) := match cmpop o x y S with
  | some (.bl true) => bnd (g S) fun z S => kCmp p y z S
  | some (.bl false) => some (.ok (.bl false) S)
  | _ => none
theorem chn_core {o p : Cop} {F1 F2 : Hp} {m1 m2 : Nat → Addr} {S1 S2 : Store} {x y : D} {xv yv : V} {H2 : Hp} {env : Env} {σ : L2.St} {r : R D} {Q : VK} (ev2 : Evo S1.length F1 m1 F2 m2) (l2 : S1.length ≤ S2.length)
    (st2 : Sta X.K C F2 m2 env S2 σ H2) (rx : RelD X.K C.ax F1 m1 S1.length x xv) (ry : RelD X.K C.ax F2 m2 S2.length y yv) (e2 : kChn o p x y (fc env) S2 = some r) (p2 : Post X.K C F2 m2 S2.length σ (rD X.K C) Q r) :
    RC X.K C.ax o xv yv H2 fun z H3 => ∃ k, z = .bl k ∧ (if k = true then RX X.K C (rD X.K C) fc σ H3 (fun w' H4 => RC X.K C.ax p yv w' H4 Q) else Q (.bl false) H3) := by
  unfold kChn at e2
  cases e3 : cmpop o x y S2 with
  | none => rw [e3] at e2; cases e2
  | some d =>
    obtain ⟨k, rfl⟩ := cmpop_bl e3
    refine ⟨F2, m2, S2, x, y, _, st2.rep, RelD.evo ev2 l2 rx, ry, e3, fun v rv => ⟨k, rv, ?_⟩⟩
    rw [e3] at e2
    cases k with
    | false =>
      cases e2
      exact iteF (p2 F2 m2 H2 _ .refl (Nat.le_refl _) st2.rep rfl)
    | true =>
      refine iteT (bindX st2 e2 p2 fun F3 m3 S3 z zv H3 ev3 l3 st3 rz e4 p3 => ?_)
      obtain ⟨d, e5, rfl⟩ := kCmp_inv e4
      exact ⟨F3, m3, S3, y, z, d, st3.rep, RelD.evo ev3 l3 ry, rz, e5, fun v rv => p3 F3 m3 H3 v .refl (Nat.le_refl _) st3.rep rv⟩
theorem se_chn {o p : Cop} (hu : X.A.units + 65 < cLine) (hm : lastMarks [copE o, copE p] [b, c] = false) (ha : PE X a (RX X.K C (rD X.K C) fa)) (hb : PE X b (RX X.K C (rD X.K C) fb)) (hc : PE X c (RX X.K C (rD X.K C) fc)) :
    PE X (.Compare a [copE o, copE p] [b, c] pos) (RX X.K C (rD X.K C) fun env S => bnd (fa env S) fun x S => bnd (fb env S) fun y S => kChn o p x y (fc env) S) := by
  refine PE.imp (pe_chain (rc_cmp (ax := C.ax) o hu) (rc_cmp (ax := C.ax) p hu) ha hb hc hm) fun σ H Q h => ?_
  obtain ⟨F, m, env, S, r, st, e, p⟩ := h
  exact bindX st e p fun F1 m1 S1 x xv H1 ev1 l1 st1 rx e1 p1 => bindX st1 e1 p1 fun F2 m2 S2 y yv H2 ev2 l2 st2 ry e2 p2 => chn_core ev2 l2 st2 rx ry e2 p2
theorem kChn_bl {o p : Cop} {x y : D} {g : Store → Option (R D)} {S S' : Store} {d : D} (h : kChn o p x y g S = some (.ok d S')) : ∃ b, d = .bl b := by
  unfold kChn at h
  split at h
  · cases e : g S with
    | none => rw [e] at h; cases h
    | some r =>
      rw [e] at h
      cases r with
      | ok z S1 =>
        obtain ⟨d', e1, e2⟩ := kCmp_inv (show kCmp p y z S1 = some (.ok d S') from h)
        cases e2
        exact cmpop_bl e1
      | ex x S1 => cases h
  · cases h; exact ⟨_, rfl⟩
  · cases h
theorem st_chn {o p : Cop} (hu : X.A.units + 65 < cLine) (hm : lastMarks [copE o, copE p] [b, c] = false) (ha : PE X a (RX X.K C (rD X.K C) fa)) (hb : PE X b (RX X.K C (rD X.K C) fb)) (hc : PE X c (RX X.K C (rD X.K C) fc)) :
    PT X (.Compare a [copE o, copE p] [b, c] pos) (RX X.K C rB fun env S => bnd (fa env S) fun x S => bnd (fb env S) fun y S => kChn o p x y (fc env) S) := by
  refine PT.imp (pt_chain (rc_cmp (ax := C.ax) o hu) (rc_cmp (ax := C.ax) p hu) ha hb hc hm) fun σ H Q h => ?_
  obtain ⟨F, m, env, S, r, st, e, p⟩ := h
  show RX X.K C (rD X.K C) fa σ H _
  refine bindX st e p fun F1 m1 S1 x xv H1 ev1 l1 st1 rx e1 p1 => bindX st1 e1 p1 fun F2 m2 S2 y yv H2 ev2 l2 st2 ry e2 p2 => chn_core (r := r) ev2 l2 st2 rx ry e2 ?_
  cases r with
  | ok d S' =>
    obtain ⟨k, rfl⟩ := kChn_bl e2
    exact fun F' m' H' v e3 l3 r3 rv => ⟨k, rv, p2 F' m' H' k e3 l3 r3 rfl⟩
  | ex x S' => exact p2
/-! ### a if c else b -/
def kIte (g h : Store → Option (R D)) (x : D) (S : Store) : Option (R D) := match x with
  | .bl true => g S
  | .bl false => h S
  | _ => none
theorem se_ite (hc : PT X c (RX X.K C rB fc)) (ha : PE X a (RX X.K C (rD X.K C) fa)) (hb : PE X b (RX X.K C (rD X.K C) fb)) :
    PE X (.IfExp c a b pos) (RX X.K C (rD X.K C) fun env S => bnd (fc env S) (kIte (fa env) (fb env))) := by
  refine PE.imp (pe_ifExp hc ha hb) fun σ H Q h => ?_
  obtain ⟨F, m, env, S, r, st, e, p⟩ := h
  refine bindX st e p fun F1 m1 S1 x xv H1 ev1 l1 st1 rx e1 p1 => ?_
  subst rx
  cases xv with
  | true => exact iteT (lastX st1 e1 p1)
  | false => exact iteF (lastX st1 e1 p1)
/-! ### attributes of a track -/
def atN : Nat → Option Str
  | 0 => some "places" | 1 => some "length" | 2 => some "is_ring" | _ => none
def kAtt (f : Nat) (x : D) (S : Store) : Option (R D) := match attr x f with
  | some d => some (.ok d S)
  | none => none
theorem se_att {f : Nat} {n : Str} (T : TrkOk X.K C.ax.CT) (hn : atN f = some n) (hb : attributeBase a n X.env (eval a X.env) = eval a X.env) (ha : PE X a (RX X.K C (rD X.K C) fa)) :
    PE X (.Attribute a n pos) (RX X.K C (rD X.K C) fun env S => bnd (fa env S) (kAtt f)) := by
  refine PE.imp (pe_fld ha hb) fun σ H Q h => ?_
  obtain ⟨F, m, env, S, r, st, e, p⟩ := h
  refine bindX st e p fun F1 m1 S1 x xv H1 ev1 l1 st1 rx e1 p1 => ?_
  cases x with
  | trk n' k q =>
    obtain ⟨ad, dx, rfl, hf⟩ := rx
    have hH := st1.rep.sub _ _ hf
    match f, hn, e1 with
    | 0, hn, e1 =>
      cases hn; cases e1
      exact ⟨ad, C.ax.CT, dx, _, .int n', rfl, hH, T.cl, T.nP, by rfl, p1 F1 m1 H1 _ .refl (Nat.le_refl _) st1.rep rfl⟩
    | 1, hn, e1 =>
      cases hn; cases e1
      exact ⟨ad, C.ax.CT, dx, _, .int k, rfl, hH, T.cl, T.nL, by rfl, p1 F1 m1 H1 _ .refl (Nat.le_refl _) st1.rep rfl⟩
    | 2, hn, e1 =>
      cases hn; cases e1
      exact ⟨ad, C.ax.CT, dx, _, .bl q, rfl, hH, T.cl, T.nR, by rfl, p1 F1 m1 H1 _ .refl (Nat.le_refl _) st1.rep rfl⟩
    | f + 3, hn, _ => cases hn
  | _ => simp [kAtt, attr] at e1
/-! ### subscripts, slices -/
def kIdx (x y : D) (S : Store) : Option (R D) := match index x y S with
  | some d => some (.ok d S)
  | none => none
theorem se_idx (hs : PlainIx b) (ha : PE X a (RX X.K C (rD X.K C) fa)) (hb : PE X b (RX X.K C (rD X.K C) fb)) :
    PE X (.Subscript a b pos) (RX X.K C (rD X.K C) fun env S => bnd (fa env S) fun x S => bnd (fb env S) fun y S => kIdx x y S) := by
  refine PE.imp (pe_ix (ri_ix (ax := C.ax)) ha hb hs) fun σ H Q h => ?_
  obtain ⟨F, m, env, S, r, st, e, p⟩ := h
  refine bindX st e p fun F1 m1 S1 x xv H1 ev1 l1 st1 rx e1 p1 => bindX st1 e1 p1 fun F2 m2 S2 y yv H2 ev2 l2 st2 ry e2 p2 => ?_
  unfold kIdx at e2
  cases e3 : index x y S2 with
  | none => rw [e3] at e2; cases e2
  | some d =>
    rw [e3] at e2
    cases e2
    exact ⟨F2, m2, S2, x, y, d, st2.rep, RelD.evo ev2 l2 rx, ry, e3, fun v rv => p2 F2 m2 H2 v .refl (Nat.le_refl _) st2.rep rv⟩
theorem so_none : PO X none (RX X.K C rO fun _ S => some (.ok none S)) := by
  refine PO.imp po_none fun σ H Q h => ?_
  obtain ⟨F, m, env, S, r, st, e, p⟩ := h
  cases e
  exact p F m H none .refl (Nat.le_refl _) st.rep rfl
def kPart (d : D) (S : Store) : Option (R (Option Int)) := match d with
  | .int i => some (.ok (some i) S)
  | _ => none
theorem so_some (ha : PE X a (RX X.K C (rD X.K C) fa)) : PO X (some a) (RX X.K C rO fun env S => bnd (fa env S) kPart) := by
  refine PO.imp (po_some ha) fun σ H Q h => ?_
  obtain ⟨F, m, env, S, r, st, e, p⟩ := h
  refine bindX st e p fun F1 m1 S1 x xv H1 ev1 l1 st1 rx e1 p1 => ?_
  cases x with
  | int i =>
    cases e1
    obtain rfl : xv = .int i := rx
    exact ⟨i, rfl, p1 F1 m1 H1 _ .refl (Nat.le_refl _) st1.rep rfl⟩
  | _ => cases e1
theorem se_sl {lo hi : Option Expr} {p2 : Pos} {fl fh : Env → Store → Option (R (Option Int))} (ha : PE X a (RX X.K C (rD X.K C) fa)) (hl : PO X lo (RX X.K C rO fl)) (hh : PO X hi (RX X.K C rO fh)) :
    PE X (.Subscript a (.Slice lo hi none p2) pos) (RX X.K C (rD X.K C) fun env S => bnd (fa env S) fun x S => bnd (fl env S) fun l S => bnd (fh env S) fun h S => lift (slice x l h S)) := by
  refine PE.imp (pe_slice (rs_slice (ax := C.ax)) ha hl hh) fun σ H Q h => ?_
  obtain ⟨F, m, env, S, r, st, e, p⟩ := h
  refine bindX st e p fun F1 m1 S1 x xv H1 ev1 l1 st1 rx e1 p1 => bindX st1 e1 p1 fun F2 m2 S2 y yv H2 ev2 l2 st2 ry e2 p2 => bindX st2 e2 p2 fun F3 m3 S3 z zv H3 ev3 l3 st3 rz e3 p3 => ?_
  obtain ⟨d, S', e4, rfl⟩ := lift_inv e3
  obtain rfl : y = yv := ry
  obtain rfl : z = zv := rz
  exact ⟨F3, m3, S3, x, d, S', st3.rep, RelD.evo (ev2.trans l2 ev3) (Nat.le_trans l2 l3) rx, e4, p3⟩
/-! ### argument lists, displays -/
variable {es : List Expr} {e : Expr} {fs : Env → Store → Option (R (List D))}
theorem sa_nil : PA X [] (RX X.K C (rDs X.K C) fun _ S => some (.ok [] S)) := by
  refine PA.imp pa_nil fun σ H Q h => ?_
  obtain ⟨F, m, env, S, r, st, e, p⟩ := h
  cases e
  exact p F m H [] .refl (Nat.le_refl _) st.rep rfl
theorem sa_cons (hs : starEach (e :: es) X.env = (false, eval e X.env) :: starEach es X.env) (ha : PE X e (RX X.K C (rD X.K C) fa)) (hr : PA X es (RX X.K C (rDs X.K C) fs)) :
    PA X (e :: es) (RX X.K C (rDs X.K C) fun env S => bnd (fa env S) fun d S => bnd (fs env S) fun ds S => some (.ok (d :: ds) S)) := by
  refine PA.imp (pa_cons ha hr hs) fun σ H Q h => ?_
  obtain ⟨F, m, env, S, r, st, e, p⟩ := h
  refine bindX st e p fun F1 m1 S1 x xv H1 ev1 l1 st1 rx e1 p1 => bindX st1 e1 p1 fun F2 m2 S2 y yv H2 ev2 l2 st2 ry e2 p2 => ?_
  cases e2
  exact p2 F2 m2 H2 _ .refl (Nat.le_refl _) st2.rep (.cons (RelD.evo ev2 l2 rx) ry)
theorem se_tup {k : Nat} (h : PA X es (RX X.K C (rDs X.K C) fs)) : PE X (.Tuple es k pos) (RX X.K C (rD X.K C) fun env S => bnd (fs env S) fun ds S => lift (newT (frzs ds S).1 (frzs ds S).2)) := by
  refine PE.imp (pe_tup h) fun σ H Q h => ?_
  obtain ⟨F, m, env, S, r, st, e, p⟩ := h
  refine bindX st e p fun F1 m1 S1 ds vs H1 ev1 l1 st1 rx e1 p1 => ?_
  obtain ⟨d, S', e3, rfl⟩ := lift_inv e1
  obtain ⟨F2, r2, h2, l2, ev2⟩ := st1.rep.frzs rx
  obtain ⟨hl, rfl, rfl⟩ := newT_some e3
  refine ⟨maxLen_le (by rw [← h2.length]; exact hl), ?_⟩
  exact Fin.newT (p1.more (ev2 _) (Nat.le_of_eq l2.symm)) r2 h2
theorem se_lst (h : PA X es (RX X.K C (rDs X.K C) fs)) : PE X (.List es pos) (RX X.K C (rD X.K C) fun env S => bnd (fs env S) fun ds S => lift (newL (frzs ds S).1 (frzs ds S).2)) := by
  refine PE.imp (pe_lst h) fun σ H Q h => ?_
  obtain ⟨F, m, env, S, r, st, e, p⟩ := h
  refine bindX st e p fun F1 m1 S1 ds vs H1 ev1 l1 st1 rx e1 p1 => ?_
  obtain ⟨d, S', e3, rfl⟩ := lift_inv e1
  obtain ⟨F2, r2, h2, l2, ev2⟩ := st1.rep.frzs rx
  obtain ⟨hl, rfl, rfl⟩ := newL_some e3
  refine ⟨maxLen_le (by rw [← h2.length]; exact hl), ?_⟩
  exact Fin.newL (p1.more (ev2 _) (Nat.le_of_eq l2.symm)) r2 h2
/-! ### built-ins and methods -/
theorem tcb_of {op : List D → Store → Option (D × Store)} {σ : L2.St} {H : Hp} {Q : VK} (h : RX X.K C (rD X.K C) (fun env S => bnd (fs env S) fun ds S => lift (op ds S)) σ H Q) : tCB (RVs X.K C.ax op) (RX X.K C (rDs X.K C) fs) σ H Q := by
  obtain ⟨F, m, env, S, r, st, e, p⟩ := h
  refine bindX st e p fun F1 m1 S1 ds vs H1 ev1 l1 st1 rx e1 p1 => ?_
  obtain ⟨d, S', e3, rfl⟩ := lift_inv e1
  exact ⟨F1, m1, S1, ds, d, S', st1.rep, rx, e3, p1⟩
theorem tcb_le {op : List D → Store → Option (D × Store)} {b : Expr} (h : PE X b (tCB (RVs X.K C.ax op) (RX X.K C (rDs X.K C) fs))) : PE X b (RX X.K C (rD X.K C) fun env S => bnd (fs env S) fun ds S => lift (op ds S)) := PE.imp h fun _ _ _ q => tcb_of q
theorem ty_list {F H : Hp} {m : Nat → Addr} {S : Store} {d : D} {v : V} (r : Rep X.K C.ax F m S H) (h : RelD X.K C.ax F m S.length d v) (hl : isL d = true) : tyV X.K "list" v H := by
  cases d with
  | lst xs =>
    obtain ⟨a, vs, rfl, ha, _⟩ := h
    exact Or.inl ⟨rfl, _, SqL.of (r.sub _ _ ha)⟩
  | ref i =>
    obtain ⟨hi, rfl⟩ := h
    have q := r.at_ i _ (List.getElem?_eq_getElem hi)
    cases ho : S[i] with
    | lst xs => rw [ho] at q; obtain ⟨vs, h1, _⟩ := q; exact Or.inl ⟨rfl, _, SqL.of h1⟩
    | fzl xs => rw [ho] at q; obtain ⟨vs, h1, _⟩ := q; exact Or.inl ⟨rfl, _, SqL.of (r.sub _ _ h1)⟩
    | dct _ => rw [ho] at q; exact q.elim
  | _ => simp [isL] at hl
def kMt (op : D → List D → Store → Option (D × Store)) (fs : Store → Option (R (List D))) (x : D) (S : Store) : Option (R D) := if isL x then bnd (fs S) fun ds S => lift (op x ds S) else none
theorem tbm_le {op : D → List D → Store → Option (D × Store)} {b : Expr} (h : PE X b (tBM X.K "list" (RVm X.K C.ax op) (RX X.K C (rD X.K C) fa) (RX X.K C (rDs X.K C) fs))) : PE X b (RX X.K C (rD X.K C) fun env S => bnd (fa env S) (kMt op (fs env))) := by
  refine PE.imp h fun σ H Q h => ?_
  obtain ⟨F, m, env, S, r, st, e, p⟩ := h
  refine bindX st e p fun F1 m1 S1 x xv H1 ev1 l1 st1 rx e1 p1 => ?_
  unfold kMt at e1
  split at e1
  case isFalse => cases e1
  case isTrue hl =>
  refine ⟨ty_list st1.rep rx hl, bindX st1 e1 p1 fun F2 m2 S2 ds vs H2 ev2 l2 st2 rs e2 p2 => ?_⟩
  obtain ⟨d, S', e3, rfl⟩ := lift_inv e2
  exact ⟨F2, m2, S2, x, ds, d, S', st2.rep, RelD.evo ev2 l2 rx, rs, e3, p2⟩
theorem tbm0_le {op : D → List D → Store → Option (D × Store)} {b : Expr} (h : PE X b (tBM0 X.K "list" (RVm X.K C.ax op) (RX X.K C (rD X.K C) fa))) : PE X b (RX X.K C (rD X.K C) fun env S => bnd (fa env S) (kMt op fun S => some (.ok [] S))) := by
  refine PE.imp h fun σ H Q h => ?_
  obtain ⟨F, m, env, S, r, st, e, p⟩ := h
  refine bindX st e p fun F1 m1 S1 x xv H1 ev1 l1 st1 rx e1 p1 => ?_
  unfold kMt at e1
  split at e1
  case isFalse => cases e1
  case isTrue hl =>
  refine ⟨ty_list st1.rep rx hl, ?_⟩
  obtain ⟨d, S', e3, rfl⟩ := lift_inv e1
  exact ⟨F1, m1, S1, x, [], d, S', st1.rep, rx, rfl, e3, p1⟩
end
end Rf
set_option Elab.async false
set_option linter.all false
set_option maxRecDepth 100000
/-! Calls, isinstance, list(range), slices with a step. -/
namespace Rf
open PySem PySem.Spec PyProof.Rows L2
variable {K : PySem.W.Frag} {C : Sc}

/-! ### what the text says, cheaply checked -/
def noStar : Expr → Bool
  | .Starred _ _ => false
  | _ => true
def noStars : List Expr → Bool
  | [] => true
  | e :: r => noStar e && noStars r
theorem star_cons {e : Expr} {es : List Expr} {env : PySem.Env} (h : noStar e = true) : starEach (e :: es) env = (false, eval e env) :: starEach es env := by
  cases e <;> first | rfl | (simp [noStar] at h)
theorem star_any {pos : Pos} {env : PySem.Env} : ∀ {es : List Expr}, noStars es = true → (backTo pos (starEach es env)).any (·.1) = false
  | [], _ => rfl
  | e :: r, h => by
    have h' : noStar e = true ∧ noStars r = true := by simpa [noStars] using h
    rw [star_cons h'.1]
    exact star_any (es := r) h'.2
theorem star_all {pos : Pos} {env : PySem.Env} : ∀ {es : List Expr}, noStars es = true → (backTo pos (starEach es env)).all (fun x => !x.1) = true
  | [], _ => rfl
  | e :: r, h => by
    have h' : noStar e = true ∧ noStars r = true := by simpa [noStars] using h
    rw [star_cons h'.1]
    exact star_all (es := r) h'.2
theorem star_few {pos : Pos} {env : PySem.Env} {es : List Expr} (h : noStars es = true) (hl : es.length < 30) : ((backTo pos (starEach es env)).all (fun x => !x.1) && (backToKw pos (keywordEach [] env)).all (fun x => x.1.isSome)
      && decide (es.length + ([] : List Keyword).length + (if ([] : List Keyword).isEmpty then 0 else 1) < 30)) = true := by
  rw [star_all h]
  simp [keywordEach, backToKw, hl]
/-- no super() -/
def plainO : Expr → Bool
  | .Call (.Name id _) [] [] _ => id != "super"
  | _ => true
theorem base_plain {o : Expr} {n : Str} {env : PySem.Env} {w : Sem Value} (h : plainO o = true) : attributeBase o n env w = w := by
  unfold attributeBase
  split
  · rename_i id p pos
    have e : (id != ("super" : Str)) = true := h
    rw [e]
    rfl
  · rfl

/-! ### calls -/
def PostC (K : PySem.W.Frag) (ax : Aux) (F : Hp) (m : Nat → Addr) (n : Nat) (Q : VK) (E : XK) : R D → Prop
  | .ok d S' => ∀ F' m' H' v, Evo n F m F' m' → n ≤ S'.length → Rep K ax F' m' S' H' → RelD K ax F' m' S'.length d v → Q v H'
  | .ex e S' => ∀ F' m' H' cls d, Evo n F m F' m' → n ≤ S'.length → Rep K ax F' m' S' H' → RelX K ax F' e cls d → E cls d H'
/-- what a call promises -/
def spOf (K : PySem.W.Frag) (ax : Aux) (np : Nat) (g : List D → Store → Option (R D)) : Sp := fun vs H Q E =>
  vs.length = np ∧ ∃ F m S ds r, Rep K ax F m S H ∧ RelDs K ax F m S.length ds vs ∧ g ds S = some r ∧ PostC K ax F m S.length Q E r
section
variable {X : Cx} {a b c e : Expr} {es : List Expr} {p pos : Pos} {x : Str} {fa fb fc : Env → Store → Option (R D)} {fs : Env → Store → Option (R (List D))}
theorem call_core {g : List D → Store → Option (R D)} {np : Nat} {σ : L2.St} {H : Hp} {Q : VK} (h : RX X.K C (rD X.K C) (fun env S => bnd (fs env S) fun ds S => g ds S) σ H Q) (hn : ∀ ds S r, g ds S = some r → ds.length = np) :
    tCallS (spOf X.K C.ax np g) (WE C.W) (RX X.K C (rDs X.K C) fs) σ H Q := by
  obtain ⟨F, m, env, S, r, st, e, p⟩ := h
  refine bindX st e p fun F1 m1 S1 ds vs H1 ev1 l1 st1 rx e1 p1 => ⟨by rw [← rx.length]; exact hn _ _ _ e1, F1, m1, S1, ds, r, st1.rep, rx, e1, ?_⟩
  cases r with
  | ok d S' => exact p1
  | ex x S' => exact p1
theorem se_call {CX : CXT} {k : Nat} {f : Addr} {fd : FuncData} {ps : List Str} {g : List D → Store → Option (R D)} {np : Nat} (F : FnOk X.prog X.w X.K X.mg X.base (L2.CX X.prog X.w) k f fd ps (spOf X.K C.ax np g)) (hr : Room k X.A) (hg : Gl X x)
    (hm : X.mg x = some (.ref f)) (hk : PySem.W.keepIn X.K (.ref f) = true) (hb : Binds X.K fd ps []) (tk : Takes X C.W) (hn : ∀ ds S r, g ds S = some r → ds.length = np)
    (ha : PA X (e :: es) (RX X.K C (rDs X.K C) fs)) (hs : noStars (e :: es) = true) (hdb : (x == ("__debug__" : Str)) = false) :
    PE X (.Call (.Name x p) (e :: es) [] pos) (RX X.K C (rD X.K C) fun env S => bnd (fs env S) fun ds S => g ds S) := by
  have h' : noStar e = true ∧ noStars es = true := by simpa [noStars] using hs
  exact PE.imp (pe_callS F hr hg hm hk hb (fun σ => passAt tk σ) ha hdb (star_cons h'.1) (star_any h'.2)) fun σ H Q h => call_core h hn
theorem se_call0 {k : Nat} {f : Addr} {fd : FuncData} {ps : List Str} {g : List D → Store → Option (R D)} {np : Nat} (F : FnOk X.prog X.w X.K X.mg X.base (L2.CX X.prog X.w) k f fd ps (spOf X.K C.ax np g)) (hr : Room k X.A) (hg : Gl X x)
    (hm : X.mg x = some (.ref f)) (hk : PySem.W.keepIn X.K (.ref f) = true) (hb : Binds X.K fd ps []) (tk : Takes X C.W) (hn : ∀ ds S r, g ds S = some r → ds.length = np) (hdb : (x == ("__debug__" : Str)) = false) :
    PE X (.Call (.Name x p) [] [] pos) (RX X.K C (rD X.K C) fun _ S => g [] S) := by
  refine ⟨fun pins s σ H Q I h => ?_⟩
  refine wpAny_Call_Name_kw (ld_glob I hg hm ?_ hdb)
  have h2 : spOf X.K C.ax np g [] H Q (WE C.W σ) := by
    obtain ⟨F1, m, env, S, r, st, e, q⟩ := h
    refine ⟨hn _ _ _ e, F1, m, S, [], r, st.rep, rfl, e, ?_⟩
    cases r with
    | ok d S' => exact q
    | ex x S' => exact q
  exact PySem.W.callWith_K0 I.kIn hk (run_fnS (E := WE C.W) (us := []) F hr hb (passAt tk σ) I .nil h2)
/-! ### isinstance -/
theorem kit_any {t : Value} : ∀ {us : List Value} {bs : List Bool}, us.length = bs.length → (∀ (i : Nat) u b, us[i]? = some u → bs[i]? = some b → PySem.W.kitOne K t u = some b) → PySem.W.kitAny K t us = some (bs.any id)
  | [], [], _, _ => rfl
  | [], _ :: _, h, _ => by cases h
  | _ :: _, [], h, _ => by cases h
  | u :: us, b :: bs, h, k => by
    have h1 := k 0 u b rfl rfl
    have h2 := kit_any (us := us) (bs := bs) (Nat.succ.inj h) fun i u b e1 e2 => k (i + 1) u b (by simpa using e1) (by simpa using e2)
    simp only [PySem.W.kitAny, h1, h2]
    cases b <;> simp
def kIsi (ts : List Ty) (x : D) (S : Store) : Option (R D) := match isTys S x ts with
  | some b => some (.ok (.bl b) S)
  | none => none
theorem isTys_some {S : Store} {d : D} : ∀ {ts : List Ty} {b : Bool}, isTys S d ts = some b → ∃ bs : List Bool, bs.length = ts.length ∧ (∀ (i : Nat) t c, ts[i]? = some t → bs[i]? = some c → isTy S d t = some c) ∧ b = bs.any id
  | [], b, h => by cases h; exact ⟨[], rfl, fun i t c e => by simp at e, rfl⟩
  | t :: ts, b, h => by
    unfold isTys at h
    cases e1 : isTy S d t with
    | none => rw [e1] at h; cases h
    | some c =>
      cases e2 : isTys S d ts with
      | none => rw [e1, e2] at h; cases h
      | some c' =>
        rw [e1, e2] at h
        cases h
        obtain ⟨bs, h1, h2, rfl⟩ := isTys_some e2
        refine ⟨c :: bs, by simp [h1], fun i u w q1 q2 => ?_, by simp⟩
        cases i with
        | zero => simp at q1 q2; subst q1 q2; exact e1
        | succ i => exact h2 i u w (by simpa using q1) (by simpa using q2)
theorem no_fn {S : Store} {x : D} {t : Ty} {ts : List Ty} {b : Bool} (h : isTys S x (t :: ts) = some b) (f : Nat) : x ≠ .fn f := fun e => by
  subst e
  simp [isTys, isTy] at h
theorem pe_ty {t : Ty} {n : Str} (hT : t = .track → X.mg n = some (.ref C.ax.CT)) (hB : t ≠ .track → X.mg n = none ∧ bootBuiltins n = some (.type (tyN t)) ∧ n ≠ "__name__") (hg : Gl X n) (hdb : (n == ("__debug__" : Str)) = false) :
    PE X (.Name n p) (tC (tyV' C.ax.CT t)) := by
  by_cases h : t = .track
  · subst h
    exact pe_glob hg (hT rfl) rfl hdb
  · obtain ⟨h1, h2, h3⟩ := hB h
    cases t <;> first | exact absurd rfl h | exact pe_bltn hg h1 h2 rfl h3 hdb
theorem se_isi {t : Ty} {b : Expr} (T : TrkOk X.K C.ax.CT) (hg : Gl X "isinstance") (hm : X.mg "isinstance" = none) (ha : PE X a (RX X.K C (rD X.K C) fa)) (hb : PE X b (tC (tyV' C.ax.CT t))) (hs : noStars [a, b] = true) :
    PE X (.Call (.Name "isinstance" p) [a, b] [] pos) (RX X.K C (rD X.K C) fun env S => bnd (fa env S) (kIsi [t])) := by
  have h' : noStar a = true ∧ noStars [b] = true := by simpa [noStars] using hs
  have h2 : noStar b = true := by simpa [noStars] using h'.2
  refine PE.imp (pe_callB call_isi hg hm (by decide +kernel) (pa_cons ha (pa_cons hb pa_nil (star_cons h2)) (star_cons h'.1)) (by decide) (by decide) (star_cons h'.1) (star_any h'.2)) fun σ H Q h => ?_
  obtain ⟨F, m, env, S, r, st, e, q⟩ := h
  refine bindX st e q fun F1 m1 S1 x xv H1 ev1 l1 st1 rx e1 p1 => ?_
  unfold kIsi at e1
  cases e2 : isTys S1 x [t] with
  | none => rw [e2] at e1; cases e1
  | some k =>
    rw [e2] at e1
    cases e1
    obtain ⟨u, ty, hk⟩ := ty_of T st1.rep (Nat.le_refl _) rx (no_fn e2)
    obtain ⟨bs, h3, h4, rfl⟩ := isTys_some e2
    match bs, h3, h4 with
    | [c], _, h4 => exact ⟨xv, _, u, _, c, rfl, ty_cls t, ty, hk _ _ (h4 0 t c rfl rfl), p1 F1 m1 H1 _ .refl (Nat.le_refl _) st1.rep (by simp; rfl)⟩
theorem pa_tys {CT : Addr} : ∀ {es : List Expr} {ts : List Ty}, noStars es = true → es.length = ts.length → (∀ (i : Nat) e t, es[i]? = some e → ts[i]? = some t → PE X e (tC (tyV' CT t))) → PA X es (fun _ H Q => Q (ts.map (tyV' CT)) H)
  | [], [], _, _, _ => PA.imp pa_nil fun σ H Q h => h
  | [], _ :: _, _, h, _ => by cases h
  | _ :: _, [], _, h, _ => by cases h
  | e :: es, t :: ts, hs, hl, h => by
    have h' : noStar e = true ∧ noStars es = true := by simpa [noStars] using hs
    exact PA.imp (pa_cons (h 0 e t rfl rfl) (pa_tys (es := es) (ts := ts) h'.2 (Nat.succ.inj hl) fun i e t q1 q2 => h (i + 1) e t (by simpa using q1) (by simpa using q2)) (star_cons h'.1)) fun σ H Q q => q
theorem se_isiT {ts : List Ty} {k : Nat} {p2 : Pos} (T : TrkOk X.K C.ax.CT) (hg : Gl X "isinstance") (hm : X.mg "isinstance" = none) (ha : PE X a (RX X.K C (rD X.K C) fa)) (hb : PA X es (fun _ H Q => Q (ts.map (tyV' C.ax.CT)) H)) (hl : 0 < ts.length ∧ ts.length < 20)
    (hs : noStar a = true) : PE X (.Call (.Name "isinstance" p) [a, .Tuple es k p2] [] pos) (RX X.K C (rD X.K C) fun env S => bnd (fa env S) (kIsi ts)) := by
  refine PE.imp (pe_callB call_isiT hg hm (by decide +kernel) (pa_cons ha (pa_cons (pe_tup hb) pa_nil rfl) (star_cons hs)) (by decide) (by decide) (star_cons hs) (star_any rfl)) fun σ H Q h => ?_
  obtain ⟨F, m, env, S, r, st, e, q⟩ := h
  refine bindX st e q fun F1 m1 S1 x xv H1 ev1 l1 st1 rx e1 p1 => ⟨by rw [List.length_map, sizeLine_eq]; omega, fun tp htp => ?_⟩
  unfold kIsi at e1
  cases e2 : isTys S1 x ts with
  | none => rw [e2] at e1; cases e1
  | some kk =>
    rw [e2] at e1
    cases e1
    have r2 := st1.rep.newF (o := .tup (ts.map (tyV' C.ax.CT))) htp
    have ev2 : Evo S1.length F1 m1 (upd F1 tp (.tup (ts.map (tyV' C.ax.CT)))) m1 := evoF st1.rep htp
    have nf : ∀ g, x ≠ .fn g := by
      cases ts with
      | nil => exact absurd hl.1 (Nat.lt_irrefl _)
      | cons t ts => exact no_fn e2
    obtain ⟨u, ty, hk⟩ := ty_of T r2 (Nat.le_refl _) (RelD.evo ev2 (Nat.le_refl _) rx) nf
    obtain ⟨bs, h3, h4, rfl⟩ := isTys_some e2
    refine ⟨xv, tp, ts.map (tyV' C.ax.CT), u, ts.map (tyU C.ax.CT), _, rfl, upd_same, ?_, ty, kit_any (bs := bs) (by simp [h3]) (fun i v b q1 q2 => ?_), p1 _ m1 _ _ ev2 (Nat.le_refl _) r2 rfl⟩
    · clear ty h3 h4 hk e2 p1 htp r2 ev2 q e st hb hl
      induction ts with
      | nil => exact .nil
      | cons t ts ih => exact .cons (ty_cls t) ih
    · rw [List.getElem?_map] at q1
      cases q3 : ts[i]? with
      | none => rw [q3] at q1; cases q1
      | some t =>
        rw [q3] at q1
        cases q1
        exact hk _ _ (h4 i t b q3 q2)
/-! ### list(range(..)), tuple(range(..)) -/
def kR1 (x : D) (S : Store) : Option (R Items) := match x with
  | .int j => if okR j then some (.ok (rangeD 0 1 j.toNat, []) S) else none
  | _ => none
def kR2 (x y : D) (S : Store) : Option (R Items) := match x, y with
  | .int i, .int j => if okR i && okR j then some (.ok (rangeD i 1 (j - i).toNat, []) S) else none
  | _, _ => none
theorem okR_ok {i : Int} (h : okR i = true) : -(2 ^ 62) ≤ i ∧ i < 2 ^ 62 := by simpa [okR] using h
theorem rangeD_rel {F : Hp} {m : Nat → Addr} {n : Nat} (i j : Int) : RelDs K C.ax F m n (rangeD i 1 (j - i).toNat) (rgV i j) := by
  unfold rangeD rgV
  generalize (List.range (j - i).toNat) = l
  induction l with
  | nil => rfl
  | cons a l ih => exact .cons (by show V.int _ = V.int _; rw [Int.mul_one]) ih
theorem rangeD_length (i c : Int) (n : Nat) : (rangeD i c n).length = n := by simp [rangeD]
/-- a range that is made, of one or two bounds -/
theorem prg1 (hg : Gl X "range") (hm : X.mg "range" = none) (ha : PE X a (RX X.K C (rD X.K C) fa)) (hs : noStar a = true) : PRg X (.Call (.Name "range" p) [a] [] pos) (tRg1 (RX X.K C (rD X.K C) fa)) := prg_1 hg hm ha (star_cons hs)
theorem prg2 (hg : Gl X "range") (hm : X.mg "range" = none) (ha : PE X a (RX X.K C (rD X.K C) fa)) (hb : PE X b (RX X.K C (rD X.K C) fb)) (hs : noStars [a, b] = true) : PRg X (.Call (.Name "range" p) [a, b] [] pos) (tRg2 (RX X.K C (rD X.K C) fa) (RX X.K C (rD X.K C) fb)) := by
  have h' : noStar a = true ∧ noStars [b] = true := by simpa [noStars] using hs
  have h2 : noStar b = true := by simpa [noStars] using h'.2
  exact prg_2 hg hm ha hb (star_cons h'.1) (star_cons h2) (star_any h'.2)
theorem rgok {i j : Int} (hi : okR i = true) (hj : okR j = true) (hl : (rangeD i 1 (j - i).toNat).length ≤ maxLen) : RgOk i j := by
  have h1 := okR_ok hi
  have h2 := okR_ok hj
  rw [rangeD_length] at hl
  have e2 : maxLen = 1000000 := rfl
  exact ⟨h1.1, h1.2, h2.1, h2.2, by omega⟩
theorem rg_l {F H : Hp} {m : Nat → Addr} {S S' : Store} {σ : L2.St} {env : Env} {Q : VK} {i j : Int} {d : D} (st : Sta X.K C F m env S σ H) (hi : okR i = true) (hj : okR j = true) (e : newL (rangeD i 1 (j - i).toNat) S = some (d, S'))
    (p1 : Post X.K C F m S.length σ (rD X.K C) Q (.ok d S')) : RgOk i j ∧ ∀ q, H q = none → Q (.ref q) (upd H q (.lst (rgV i j))) := by
  obtain ⟨hl, rfl, rfl⟩ := newL_some e
  exact ⟨rgok hi hj hl, Fin.newL p1 st.rep (rangeD_rel i j)⟩
theorem rg_t {F H : Hp} {m : Nat → Addr} {S S' : Store} {σ : L2.St} {env : Env} {Q : VK} {i j : Int} {d : D} (st : Sta X.K C F m env S σ H) (hi : okR i = true) (hj : okR j = true) (e : newT (rangeD i 1 (j - i).toNat) S = some (d, S'))
    (p1 : Post X.K C F m S.length σ (rD X.K C) Q (.ok d S')) : RgOk i j ∧ ∀ q, H q = none → Q (.ref q) (upd H q (.tup (rgV i j))) := by
  obtain ⟨hl, rfl, rfl⟩ := newT_some e
  exact ⟨rgok hi hj hl, Fin.newT p1 st.rep (rangeD_rel i j)⟩
theorem okR0 : okR 0 = true := by decide
theorem rg1_core {σ : L2.St} {H : Hp} {Q : VK} {mk : List D → Store → Option (D × Store)} {k : Int → Int → Hp → Prop}
    (h : RX X.K C (rD X.K C) (fun env S => bnd (bnd (fa env S) kR1) fun xs S => lift (mk xs.1 S)) σ H Q)
    (hk : ∀ F m env S H1 i j d S', Sta X.K C F m env S σ H1 → okR i = true → okR j = true → mk (rangeD i 1 (j - i).toNat) S = some (d, S') → Post X.K C F m S.length σ (rD X.K C) Q (.ok d S') → k i j H1) :
    tRg1 (RX X.K C (rD X.K C) fa) σ H k := by
  obtain ⟨F, m, env, S, r, st, e, q⟩ := h
  show RX X.K C (rD X.K C) fa σ H _
  dsimp only at e
  cases e0 : fa env S with
  | none => rw [e0] at e; cases e
  | some r0 =>
    rw [e0] at e
    cases r0 with
    | ex x S1 => cases e; exact ⟨F, m, env, S, _, st, e0, q⟩
    | ok x S1 =>
      refine ⟨F, m, env, S, _, st, e0, fun F1 m1 H1 v ev1 l1 r1 rv => ?_⟩
      cases x with
      | int j =>
        obtain rfl : v = .int j := rv
        simp only [bnd_ok, kR1] at e
        split at e
        · rename_i hj
          obtain ⟨d, S', e3, rfl⟩ := lift_inv e
          refine ⟨j, rfl, hk F1 m1 env S1 H1 0 j d S' (st.evo ev1 l1 r1) okR0 hj (by rw [Int.sub_zero]; exact e3) (q.more ev1 l1)⟩
        · cases e
      | _ => cases e
theorem rg2_core {σ : L2.St} {H : Hp} {Q : VK} {mk : List D → Store → Option (D × Store)} {k : Int → Int → Hp → Prop}
    (h : RX X.K C (rD X.K C) (fun env S => bnd (bnd (fa env S) fun x S => bnd (fb env S) fun y S => kR2 x y S) fun xs S => lift (mk xs.1 S)) σ H Q)
    (hk : ∀ F m env S H1 i j d S', Sta X.K C F m env S σ H1 → okR i = true → okR j = true → mk (rangeD i 1 (j - i).toNat) S = some (d, S') → Post X.K C F m S.length σ (rD X.K C) Q (.ok d S') → k i j H1) :
    tRg2 (RX X.K C (rD X.K C) fa) (RX X.K C (rD X.K C) fb) σ H k := by
  obtain ⟨F, m, env, S, r, st, e, q⟩ := h
  show RX X.K C (rD X.K C) fa σ H _
  dsimp only at e
  cases e0 : fa env S with
  | none => rw [e0] at e; cases e
  | some r0 =>
    rw [e0] at e
    cases r0 with
    | ex x S1 => cases e; exact ⟨F, m, env, S, _, st, e0, q⟩
    | ok x S1 =>
      refine ⟨F, m, env, S, _, st, e0, fun F1 m1 H1 v ev1 l1 r1 rv => ?_⟩
      show RX X.K C (rD X.K C) fb σ H1 _
      simp only [bnd_ok] at e
      have st1 := st.evo ev1 l1 r1
      have q1 := q.more ev1 l1
      cases e2 : fb env S1 with
      | none => rw [e2] at e; cases e
      | some r2 =>
        rw [e2] at e
        cases r2 with
        | ex y S2 => cases e; exact ⟨F1, m1, env, S1, _, st1, e2, q1⟩
        | ok y S2 =>
          refine ⟨F1, m1, env, S1, _, st1, e2, fun F2 m2 H2 w ev2 l2 r2 rw' => ?_⟩
          simp only [bnd_ok] at e
          cases x with
          | int i =>
            cases y with
            | int j =>
              obtain rfl : v = .int i := rv
              obtain rfl : w = .int j := rw'
              simp only [kR2] at e
              split at e
              · rename_i hj
                rw [Bool.and_eq_true] at hj
                obtain ⟨d, S', e3, rfl⟩ := lift_inv e
                exact ⟨i, j, rfl, rfl, hk F2 m2 env S2 H2 i j d S' (st1.evo ev2 l2 r2) hj.1 hj.2 e3 (q1.more ev2 l2)⟩
              · cases e
            | _ => cases e
          | _ => cases e
theorem se_rL1 (hc : X.calm = true) (hl : Gl X "list") (ml : X.mg "list" = none) (h : PRg X e (tRg1 (RX X.K C (rD X.K C) fa))) (hs : noStar e = true) :
    PE X (.Call (.Name "list" p) [e] [] pos) (RX X.K C (rD X.K C) fun env S => bnd (bnd (fa env S) kR1) fun xs S => lift (newL xs.1 S)) :=
  PE.imp (pe_listRg hc hl ml h (star_cons hs)) fun σ H Q q => rg1_core (mk := newL) q fun F m env S H1 i j d S' st hi hj e p => rg_l st hi hj e p
theorem se_rL2 (hc : X.calm = true) (hl : Gl X "list") (ml : X.mg "list" = none) (h : PRg X e (tRg2 (RX X.K C (rD X.K C) fa) (RX X.K C (rD X.K C) fb))) (hs : noStar e = true) :
    PE X (.Call (.Name "list" p) [e] [] pos) (RX X.K C (rD X.K C) fun env S => bnd (bnd (fa env S) fun x S => bnd (fb env S) fun y S => kR2 x y S) fun xs S => lift (newL xs.1 S)) :=
  PE.imp (pe_listRg hc hl ml h (star_cons hs)) fun σ H Q q => rg2_core (mk := newL) q fun F m env S H1 i j d S' st hi hj e p => rg_l st hi hj e p
theorem se_rT1 (hc : X.calm = true) (hl : Gl X "tuple") (ml : X.mg "tuple" = none) (h : PRg X e (tRg1 (RX X.K C (rD X.K C) fa))) (hs : noStar e = true) :
    PE X (.Call (.Name "tuple" p) [e] [] pos) (RX X.K C (rD X.K C) fun env S => bnd (bnd (fa env S) kR1) fun xs S => lift (newT xs.1 S)) :=
  PE.imp (pe_tupRg hc hl ml h (star_cons hs)) fun σ H Q q => rg1_core (mk := newT) q fun F m env S H1 i j d S' st hi hj e p => rg_t st hi hj e p
theorem se_rT2 (hc : X.calm = true) (hl : Gl X "tuple") (ml : X.mg "tuple" = none) (h : PRg X e (tRg2 (RX X.K C (rD X.K C) fa) (RX X.K C (rD X.K C) fb))) (hs : noStar e = true) :
    PE X (.Call (.Name "tuple" p) [e] [] pos) (RX X.K C (rD X.K C) fun env S => bnd (bnd (fa env S) fun x S => bnd (fb env S) fun y S => kR2 x y S) fun xs S => lift (newT xs.1 S)) :=
  PE.imp (pe_tupRg hc hl ml h (star_cons hs)) fun σ H Q q => rg2_core (mk := newT) q fun F m env S H1 i j d S' st hi hj e p => rg_t st hi hj e p
end
end Rf
set_option Elab.async false
set_option linter.all false
set_option maxRecDepth 100000
/-! Targets; what is walked. -/
namespace Rf
open PySem PySem.Spec PyProof.Rows L2
variable {K : PySem.W.Frag} {C : Sc}

/-! ### the root of an expression -/
theorem Post.gc {F : Hp} {m : Nat → Addr} {n : Nat} {σ : L2.St} {Q : VK} {r : Option (R D)} {r' : R D} (h : gcR n r = some r') (p : Post K C F m n σ (rD K C) Q r') : ∃ r0, r = some r0 ∧ Post K C F m n σ (rD K C) Q r0 := by
  cases r with
  | none => cases h
  | some r0 =>
    cases r0 with
    | ex e S => cases h; exact ⟨_, rfl, p⟩
    | ok d S =>
      cases h
      refine ⟨_, rfl, fun F' m' H' v e1 l1 r1 rv => ?_⟩
      obtain ⟨m2, r2, rv2, l2, e2⟩ := r1.gc l1 rv
      exact p F' m2 H' v (e1.trans (Nat.le_refl _) e2) l2 r2 rv2
theorem RX.gc {f : Env → Store → Option (R D)} {σ : L2.St} {H : Hp} {Q : VK} (h : RX K C (rD K C) (fun env S => gcR S.length (f env S)) σ H Q) : RX K C (rD K C) f σ H Q := by
  obtain ⟨F, m, env, S, r, st, e, p⟩ := h
  obtain ⟨r0, e0, p0⟩ := Post.gc e p
  exact ⟨F, m, env, S, r0, st, e0, p0⟩
theorem se_gc {X : Cx} {e : Expr} {f : Env → Store → Option (R D)} (h : PE X e (RX X.K C (rD X.K C) f)) : PE X e (RX X.K C (rD X.K C) fun env S => gcR S.length (f env S)) := PE.imp h fun _ _ _ q => RX.gc q
theorem Post.gcB {F : Hp} {m : Nat → Addr} {n : Nat} {σ : L2.St} {Q : Bool → Hp → Prop} {r : Option (R D)} {r' : R D} (h : gcR n r = some r') (p : Post K C F m n σ rB Q r') : ∃ r0, r = some r0 ∧ Post K C F m n σ rB Q r0 := by
  cases r with
  | none => cases h
  | some r0 =>
    cases r0 with
    | ex e S => cases h; exact ⟨_, rfl, p⟩
    | ok d S =>
      cases h
      refine ⟨_, rfl, fun F' m' H' v e1 l1 r1 rv => ?_⟩
      subst rv
      obtain ⟨m2, r2, rv2, l2, e2⟩ := r1.gc (v := .bl v) (d := .bl v) l1 rfl
      exact p F' m2 H' v (e1.trans (Nat.le_refl _) e2) l2 r2 rfl
theorem st_gc {X : Cx} {e : Expr} {f : Env → Store → Option (R D)} (h : PT X e (RX X.K C rB f)) : PT X e (RX X.K C rB fun env S => gcR S.length (f env S)) := PT.imp h fun σ H Q q => by
  obtain ⟨F, m, env, S, r, st, e, p⟩ := q
  obtain ⟨r0, e0, p0⟩ := Post.gcB e p
  exact ⟨F, m, env, S, r0, st, e0, p0⟩
theorem Post.fresh {F : Hp} {m : Nat → Addr} {n : Nat} {σ : L2.St} {Q : VK} {r : Option (R D)} {r' : R D} (h : freshR n r = some r') (p : Post K C F m n σ (rD K C) Q r') : ∃ r0, r = some r0 ∧ Post K C F m n σ (rD K C) Q r0 := by
  unfold freshR at h
  cases q : gcR n r with
  | none => rw [q] at h; cases h
  | some r1 =>
    rw [q] at h
    refine Post.gc q ?_
    cases r1 with
    | ex e S => cases h; exact p
    | ok d S =>
      cases h
      refine fun F' m' H' v e1 l1 r1 rv => ?_
      obtain ⟨F2, r2, rv2, l2, e2⟩ := r1.fresh l1 rv
      exact p F2 m' H' v (e1.trans (Nat.le_refl _) e2) l2 r2 rv2
theorem se_fresh {X : Cx} {e : Expr} {f : Env → Store → Option (R D)} (h : PE X e (RX X.K C (rD X.K C) f)) : PE X e (RX X.K C (rD X.K C) fun env S => freshR S.length (f env S)) := PE.imp h fun σ H Q q => by
  obtain ⟨F, m, env, S, r, st, e, p⟩ := q
  obtain ⟨r0, e0, p0⟩ := Post.fresh e p
  exact ⟨F, m, env, S, r0, st, e0, p0⟩

/-! ### targets -/
mutual
def tslots : CT → List Nat
  | .n i => [i]
  | .tup ts => tslotss ts
def tslotss : CTs → List Nat
  | .nil => []
  | .cons t ts => tslots t ++ tslotss ts
end
/-- the slots behind a store -/
def Kept (t : List Nat) (σ σ' : L2.St) : Prop := σ'.length = σ.length ∧ ∀ i : Nat, i ∉ t → σ'[i]? = σ[i]?
theorem Kept.trans {t u : List Nat} {σ σ1 σ2 : L2.St} (a : Kept t σ σ1) (b : Kept u σ1 σ2) : Kept (t ++ u) σ σ2 :=
  ⟨b.1.trans a.1, fun i hi => (b.2 i fun z => hi (List.mem_append_right _ z)).trans (a.2 i fun z => hi (List.mem_append_left _ z))⟩
def GX (K : PySem.W.Frag) (C : Sc) (t : List Nat) (f : D → Env → Store → Option Env) : TG := fun v σ H Q => ∃ F m env S d env', Sta K C F m env S σ H ∧ RelD K C.ax F m S.length d v ∧ f d env S = some env' ∧
  ∀ σ', Sta K C F m env' S σ' H → Kept t σ σ' → Q σ' H
def GXs (K : PySem.W.Frag) (C : Sc) (t : List Nat) (f : List D → Env → Option Env) : TGs := fun vs σ H Q => ∃ F m env S ds env', Sta K C F m env S σ H ∧ RelDs K C.ax F m S.length ds vs ∧ f ds env = some env' ∧
  ∀ σ', Sta K C F m env' S σ' H → Kept t σ σ' → Q σ' H
theorem Sta.set {F H : Hp} {m : Nat → Addr} {env : Env} {S : Store} {σ : L2.St} (st : Sta K C F m env S σ H) {i : Nat} {d : D} {v : V} (r : RelD K C.ax F m S.length d v) : Sta K C F m (env.set i (some d)) S (σ.set i (some v)) H := by
  refine ⟨st.rep, by rw [List.length_set, List.length_set]; exact st.len, fun j e hj => ?_, st.sui, fun j a hj e => ?_⟩
  case refine_2 =>
    by_cases hij : i = j
    · subst hij
      have hl : i < env.length := by
        have := lt_of_get e
        rwa [List.length_set] at this
      rw [List.getElem?_set_self hl] at e
      cases e
    · rw [List.getElem?_set_ne hij] at e ⊢
      exact st.exv j a hj e
  by_cases hij : i = j
  · subst hij
    have hl : i < env.length := by
      have := lt_of_get hj
      rwa [List.length_set] at this
    rw [List.getElem?_set_self hl] at hj
    cases hj
    exact ⟨v, by rw [List.getElem?_set_self (by rw [← st.len]; exact hl)], r⟩
  · rw [List.getElem?_set_ne hij] at hj
    obtain ⟨w, h1, h2⟩ := st.at_ j e hj
    exact ⟨w, by rw [List.getElem?_set_ne hij]; exact h1, h2⟩
section
variable {X : Cx} {pos : Pos} {e : Expr} {es : List Expr}
theorem gname_le {i : Nat} {σ : L2.St} {H : Hp} {v : V} {Q : L2.St → Hp → Prop} (h : GX K C [i] (fun d env _ => setT (.n i) d env) v σ H Q) : gName i v σ H Q := by
  obtain ⟨F, m, env, S, d, env', st, r, e, q⟩ := h
  simp only [setT] at e
  split at e <;> cases e
  exact q _ (st.set r) ⟨List.length_set, fun j hj => List.getElem?_set_ne fun (z : i = j) => hj (by rw [z]; exact List.mem_singleton_self _)⟩
theorem sg_name {i : Nat} {x : Str} (hN : X.N.Nodup) (hi : X.N[i]? = some x) (hx : Loc X.env.scope x) (hf : X.fn x = true ∨ X.env.scope.names.lookup x = some .local) : PG X (.Name x pos) (GX X.K C [i] (fun d env _ => setT (.n i) d env)) :=
  ⟨fun pins s σ H v u Q I r h => (pg_name hN hi hx hf).run pins s σ H v u Q I r (gname_le h)⟩
theorem sgs_nil : PGs X [] (GXs X.K C [] (setTs .nil)) := by
  refine ⟨fun pins s σ H vs us Q I r h => pgs_nil.run pins s σ H vs us Q I r ?_⟩
  obtain ⟨F, m, env, S, ds, env', st, rs, e, q⟩ := h
  cases ds with
  | nil =>
    obtain rfl : vs = [] := rs
    cases e
    exact ⟨rfl, q _ st ⟨rfl, fun _ _ => rfl⟩⟩
  | cons _ _ => cases e
theorem sgs_cons {t : CT} {ts : CTs} (h1 : PG X e (GX X.K C (tslots t) (fun d env _ => setT t d env))) (h2 : PGs X es (GXs X.K C (tslotss ts) (setTs ts)))
    (hs : (assignEach (e :: es) X.env).map (·.2) = assign e X.env :: (assignEach es X.env).map (·.2)) : PGs X (e :: es) (GXs X.K C (tslotss (.cons t ts)) (setTs (.cons t ts))) := by
  refine ⟨fun pins s σ H vs us Q I r h => (pgs_cons h1 h2 hs).run pins s σ H vs us Q I r ?_⟩
  obtain ⟨F, m, env, S, ds, env', st, rs, e, q⟩ := h
  cases ds with
  | nil => cases e
  | cons d ds =>
    obtain ⟨v, vs', rfl, rd, rds⟩ := rs
    simp only [setTs] at e
    cases e1 : setT t d env with
    | none => rw [e1] at e; cases e
    | some env1 =>
      rw [e1] at e
      exact ⟨v, vs', rfl, F, m, env, S, d, env1, st, rd, e1, fun σ1 st1 k1 => ⟨F, m, env1, S, ds, env', st1, rds, e, fun σ2 st2 k2 => q σ2 st2 (k1.trans k2)⟩⟩
theorem setTs_len : ∀ {ts : CTs} {xs : List D} {env env' : Env}, setTs ts xs env = some env' → ∀ {n : Nat}, (∀ ys e e', setTs ts ys e = some e' → ys.length = n) → xs.length = n := fun h _ k => k _ _ _ h
def ctsLen : CTs → Nat
  | .nil => 0
  | .cons _ ts => ctsLen ts + 1
theorem setTs_length : ∀ {ts : CTs} {xs : List D} {env env' : Env}, setTs ts xs env = some env' → xs.length = ctsLen ts
  | .nil, [], _, _, _ => rfl
  | .nil, _ :: _, _, _, h => by cases h
  | .cons _ _, [], _, _, h => by cases h
  | .cons t ts, x :: xs, env, env', h => by
    simp only [setTs] at h
    cases e1 : setT t x env with
    | none => rw [e1] at h; cases h
    | some env1 =>
      rw [e1] at h
      show xs.length + 1 = ctsLen ts + 1
      rw [setTs_length h]
/-- (a, b) = a tuple or a list (frozen, or by its reference) -/
theorem sg_tup {ts : CTs} {k : Nat} (hc : X.calm = true) (h : PGs X es (GXs X.K C (tslotss ts) (setTs ts))) (hn : (assignEach es X.env).length = ctsLen ts) (hst : (assignEach es X.env).findIdx? (·.1) = none) :
    PG X (.Tuple es k pos) (GX X.K C (tslots (.tup ts)) (fun d env S => setG (.tup ts) d env S)) := by
  refine ⟨fun pins s σ H v u Q I r hw => ?_⟩
  obtain ⟨F, m, env, S, d, env', st, rd, e, q⟩ := hw
  have lcase : ∀ (a : Addr) (vs : List V) (xs : List D), v = .ref a → SqL X.K H a vs → RelDs X.K C.ax F m S.length xs vs → setTs ts xs env = some env' →
      wpAny (model X.prog X.w) X.A (assign (.Tuple es k pos) X.env u) (fun _ s' => ∃ σ' H', Inv X pins σ' H' s' ∧ Q σ' H') X.xe s := fun a vs xs hv hs hr he =>
    (pg_lst hc h hn hst).run pins s σ H v u Q I r ⟨a, vs, hv, hs, by rw [← hr.length]; exact setTs_length he, F, m, env, S, xs, env', st, hr, he, q⟩
  cases d with
  | tup xs =>
    obtain ⟨a, vs, e1, h1, h2⟩ := rd
    exact (pg_tup hc h hn hst).run pins s σ H v u Q I r ⟨a, vs, e1, SqT.evo h1 st.rep.sub, by rw [← h2.length]; exact setTs_length (xs := xs) e, F, m, env, S, xs, env', st, h2, e, q⟩
  | lst xs =>
    obtain ⟨a, vs, e1, h1, h2⟩ := rd
    exact lcase a vs xs e1 (SqL.of (st.rep.sub _ _ h1)) h2 e
  | ref i =>
    have e' : setT (.tup ts) (unref (.ref i) S) env = some env' := e
    cases eo : S[i]? with
    | none =>
      have z : unref (.ref i) S = .ref i := by simp [unref, eo]
      rw [z] at e'; cases e'
    | some o =>
      cases o with
      | lst xs =>
        obtain ⟨a, vs, hv, hs, hr⟩ := st.rep.lstOf (xs := xs) rd (by simp [lstOf, eo])
        have z : unref (.ref i) S = .lst xs := by simp [unref, eo]
        rw [z] at e'
        exact lcase a vs xs hv (SqL.of hs) hr e'
      | fzl xs =>
        obtain ⟨a, vs, hv, hs, hr⟩ := st.rep.lstOf (xs := xs) rd (by simp [lstOf, eo])
        have z : unref (.ref i) S = .lst xs := by simp [unref, eo]
        rw [z] at e'
        exact lcase a vs xs hv (SqL.of hs) hr e'
      | dct _ =>
        have z : unref (.ref i) S = .ref i := by simp [unref, eo]
        rw [z] at e'; cases e'
  | _ => simp [setG, unref, setT] at e
/-- nested: the same without references -/
theorem GX.pure {t : CT} {v : V} {σ : L2.St} {H : Hp} {Q : L2.St → Hp → Prop} (h : GX K C (tslots t) (fun d env _ => setT t d env) v σ H Q) : GX K C (tslots t) (fun d env S => setG t d env S) v σ H Q := by
  obtain ⟨F, m, env, S, d, env', st, rd, e, q⟩ := h
  refine ⟨F, m, env, S, d, env', st, rd, ?_, q⟩
  cases t with
  | n i => exact e
  | tup ts =>
    show setT (.tup ts) (unref d S) env = some env'
    cases d with
    | ref i => simp [setT] at e
    | _ => exact e
theorem sg_pure {t : CT} {tg : Expr} (h : PG X tg (GX X.K C (tslots t) (fun d env S => setG t d env S))) : PG X tg (GX X.K C (tslots t) (fun d env _ => setT t d env)) :=
  ⟨fun pins s σ H v u Q I r q => h.run pins s σ H v u Q I r q.pure⟩
end

/-! ### what is walked -/
structure Walk (K : PySem.W.Frag) (ax : Aux) (J : It) (xs : List D) (p : List (Nat × O)) (F0 : Hp) (m0 : Nat → Addr) (n0 : Nat) : Prop where
  go : ∀ F m S H i, Evo n0 F0 m0 F m → n0 ≤ S.length → Rep K ax F m S H → pinned p S = true → i < xs.length → J.go i H
  yld : ∀ F m S H i d x H', Evo n0 F0 m0 F m → n0 ≤ S.length → Rep K ax F m S H → pinned p S = true → xs[i]? = some d → J.yld i H x H' → ∃ F', Evo S.length F m F' m ∧ Rep K ax F' m S H' ∧ RelD K ax F' m S.length d x
  stop : ∀ F m S H, Evo n0 F0 m0 F m → n0 ≤ S.length → Rep K ax F m S H → pinned p S = true → J.stop xs.length H
theorem SqL_uniq {pins : List (Addr × Obj)} {X : Cx} {σ : L2.St} {s : Shared} {H : Hp} {a : Addr} {xs ys : List V} (I : Inv X pins σ H s) (h : SqL X.K H a xs) (g : SqL X.K H a ys) : xs = ys := I.list_inj h g
/-- what stands at a, in every later state -/
def Stands (K : PySem.W.Frag) (ax : Aux) (P : Hp → List V → Prop) (xs : List D) (p : List (Nat × O)) (F0 : Hp) (m0 : Nat → Addr) (n0 : Nat) : Prop :=
  ∀ F m S H, Evo n0 F0 m0 F m → n0 ≤ S.length → Rep K ax F m S H → pinned p S = true → ∃ vs, P H vs ∧ RelDs K ax F m S.length xs vs
theorem pinned_get {p : List (Nat × O)} {S : Store} (h : pinned p S = true) {i : Nat} {o : O} (hm : (i, o) ∈ p) : S[i]? = some o := by
  have := List.all_eq_true.mp h _ hm
  simpa using this
/-- a list or a tuple stands -/
theorem stands {ax : Aux} {F0 H0 : Hp} {m0 : Nat → Addr} {S0 : Store} {d : D} {v : V} {xs : List D} (r : Rep K ax F0 m0 S0 H0) (hd : RelD K ax F0 m0 S0.length d v) (h : seqOf S0 d = some xs) {p : List (Nat × O)} (hp : ∀ q ∈ pinOf d S0, q ∈ p) :
    ∃ a, v = .ref a ∧ ((isL d = true ∧ Stands K ax (fun H vs => SqL K H a vs) xs p F0 m0 S0.length) ∨ (isL d = false ∧ Stands K ax (fun H vs => SqT K H a vs) xs p F0 m0 S0.length)) := by
  cases d with
  | tup ys =>
    obtain ⟨a, vs, e1, h1, h2⟩ := hd
    cases h
    exact ⟨a, e1, .inr ⟨rfl, fun F m S H ev l rr _ => ⟨vs, SqT.evo (SqT.evo h1 ev.fr) rr.sub, h2.evo ev l⟩⟩⟩
  | lst ys =>
    obtain ⟨a, vs, e1, h1, h2⟩ := hd
    cases h
    exact ⟨a, e1, .inl ⟨rfl, fun F m S H ev l rr _ => ⟨vs, SqL.of (rr.sub _ _ (ev.fr _ _ h1)), h2.evo ev l⟩⟩⟩
  | ref i =>
    obtain ⟨hi, hv⟩ := hd
    cases eo : S0[i]? with
    | none => simp [seqOf, eo] at h
    | some o =>
      have hm : (i, o) ∈ p := hp _ (by simp [pinOf, eo])
      refine ⟨m0 i, hv, .inl ⟨rfl, fun F m S H ev l rr pn => ?_⟩⟩
      have e1 := pinned_get pn hm
      have q := rr.at_ i o e1
      have em : m i = m0 i := ev.mm i hi
      cases o with
      | lst ys =>
        have : ys = xs := by simpa [seqOf, eo] using h
        subst this
        obtain ⟨vs, g1, _, g3⟩ := q
        exact ⟨vs, SqL.of (by rw [← em]; exact g1), g3.evo .refl (Nat.le_of_lt (Nat.lt_of_lt_of_le hi l))⟩
      | fzl ys =>
        have : ys = xs := by simpa [seqOf, eo] using h
        subst this
        obtain ⟨vs, g1, g3⟩ := q
        exact ⟨vs, SqL.of (by rw [← em]; exact rr.sub _ _ g1), g3.evo .refl (Nat.zero_le _)⟩
      | dct _ => simp [seqOf, eo] at h
  | _ => cases h
variable {ax : Aux} {F0 : Hp} {m0 : Nat → Addr} {n0 : Nat} {xs ys : List D} {p : List (Nat × O)} {a b : Addr}
theorem get_rel {F : Hp} {m : Nat → Addr} {n : Nat} {xs : List D} {vs : List V} {i : Nat} {d : D} {x : V} (h : RelDs K ax F m n xs vs) (h1 : xs[i]? = some d) (h2 : vs[i]? = some x) : RelD K ax F m n d x := by
  obtain ⟨v, g1, g2⟩ := h.get h1
  rw [h2] at g1
  cases g1
  exact g2
theorem get_lt {F : Hp} {m : Nat → Addr} {n : Nat} {xs : List D} {vs : List V} {i : Nat} (h : RelDs K ax F m n xs vs) (hi : i < xs.length) : ∃ x, vs[i]? = some x := ⟨_, List.getElem?_eq_getElem (by rw [← h.length]; exact hi)⟩
theorem walk_l (h : Stands K ax (fun H vs => SqL K H a vs) xs p F0 m0 n0) : Walk K ax (Itl K a) xs p F0 m0 n0 where
  go := fun F m S H i ev l r pn hi => by
    obtain ⟨vs, h1, h2⟩ := h F m S H ev l r pn
    obtain ⟨x, hx⟩ := get_lt h2 hi
    exact ⟨vs, x, h1, hx⟩
  yld := fun F m S H i d x H' ev l r pn hd y => by
    obtain ⟨vs, h1, h2⟩ := h F m S H ev l r pn
    obtain ⟨rfl, y⟩ := y
    exact ⟨F, .refl, r, get_rel h2 hd (y vs h1)⟩
  stop := fun F m S H ev l r pn => by
    obtain ⟨vs, h1, h2⟩ := h F m S H ev l r pn
    exact ⟨vs, h1, by rw [h2.length]; exact Nat.le_refl _⟩
theorem walk_t (h : Stands K ax (fun H vs => SqT K H a vs) xs p F0 m0 n0) : Walk K ax (Itt K a) xs p F0 m0 n0 where
  go := fun F m S H i ev l r pn hi => by
    obtain ⟨vs, h1, h2⟩ := h F m S H ev l r pn
    obtain ⟨x, hx⟩ := get_lt h2 hi
    exact ⟨vs, x, h1, hx⟩
  yld := fun F m S H i d x H' ev l r pn hd y => by
    obtain ⟨vs, h1, h2⟩ := h F m S H ev l r pn
    obtain ⟨rfl, y⟩ := y
    exact ⟨F, .refl, r, get_rel h2 hd (y vs h1)⟩
  stop := fun F m S H ev l r pn => by
    obtain ⟨vs, h1, h2⟩ := h F m S H ev l r pn
    exact ⟨vs, h1, by rw [h2.length]; exact Nat.le_refl _⟩
theorem rangeD_get {lo c : Int} {n i : Nat} {d : D} (h : (rangeD lo c n)[i]? = some d) : d = .int (lo + i * c) := by
  unfold rangeD at h
  rw [List.getElem?_map] at h
  cases e : (List.range n)[i]? with
  | none => rw [e] at h; cases h
  | some j =>
    rw [e] at h
    have hj : j = i := by
      obtain ⟨h1, h2⟩ := List.getElem?_eq_some_iff.mp e
      simpa using h2.symm
    subst hj
    cases h
    rfl
theorem walk_r {lo : Int} {n : Nat} : Walk K ax (Itr lo n) (rangeD lo 1 n) p F0 m0 n0 where
  go := fun F m S H i ev l r pn hi => by rw [rangeD_length] at hi; exact hi
  yld := fun F m S H i d x H' ev l r pn hd y => by
    obtain ⟨rfl, rfl⟩ := y
    rw [rangeD_get hd]
    exact ⟨F, .refl, r, by show V.int _ = V.int _; rw [Int.mul_one]⟩
  stop := fun F m S H ev l r pn => by rw [rangeD_length]; exact Nat.le_refl n
theorem walk_c {lo c : Int} {n : Nat} : Walk K ax (Itc lo c n) (rangeD lo c n) p F0 m0 n0 where
  go := fun F m S H i ev l r pn hi => by rw [rangeD_length] at hi; exact hi
  yld := fun F m S H i d x H' ev l r pn hd y => by
    obtain ⟨rfl, rfl⟩ := y
    rw [rangeD_get hd]
    exact ⟨F, .refl, r, rfl⟩
  stop := fun F m S H ev l r pn => by rw [rangeD_length]; exact Nat.le_refl n
theorem pair_new {F H : Hp} {m : Nat → Addr} {S : Store} {T : Addr} {d e : D} {x y : V} (r : Rep K ax F m S H) (hT : H T = none) (h1 : RelD K ax F m S.length d x) (h2 : RelD K ax F m S.length e y) :
    ∃ F', Evo S.length F m F' m ∧ Rep K ax F' m S (upd H T (.tup [x, y])) ∧ RelD K ax F' m S.length (.tup [d, e]) (.ref T) :=
  ⟨_, evoF r hT, r.newF hT, T, [x, y], rfl, SqT.of upd_same, .cons (h1.evo (evoF r hT) (Nat.le_refl _)) (.one (h2.evo (evoF r hT) (Nat.le_refl _)))⟩
def enumD (xs : List D) : List D := (List.range xs.length).zipWith (fun (i : Nat) x => .tup [.int i, x]) xs
theorem enumD_get {xs : List D} {i : Nat} {d : D} (h : (enumD xs)[i]? = some d) : ∃ x, xs[i]? = some x ∧ d = .tup [.int i, x] := by
  unfold enumD at h
  rw [List.getElem?_zipWith] at h
  cases e : xs[i]? with
  | none => rw [e] at h; cases e1 : (List.range xs.length)[i]? <;> rw [e1] at h <;> cases h
  | some x =>
    have hi := lt_of_get e
    have e1 : (List.range xs.length)[i]? = some i := by rw [List.getElem?_range hi]
    rw [e, e1] at h
    cases h
    exact ⟨x, rfl, rfl⟩
theorem enumD_length (xs : List D) : (enumD xs).length = xs.length := by simp [enumD]
theorem walk_e (h : Stands K ax (fun H vs => SqL K H a vs) xs p F0 m0 n0) : Walk K ax (Ite K a) (enumD xs) p F0 m0 n0 where
  go := fun F m S H i ev l r pn hi => by
    obtain ⟨vs, h1, h2⟩ := h F m S H ev l r pn
    rw [enumD_length] at hi
    obtain ⟨x, hx⟩ := get_lt h2 hi
    exact ⟨vs, x, h1, hx⟩
  yld := fun F m S H i d x H' ev l r pn hd y => by
    obtain ⟨vs, h1, h2⟩ := h F m S H ev l r pn
    obtain ⟨T, z, rfl, hT, rfl, y⟩ := y
    obtain ⟨x, hx, rfl⟩ := enumD_get hd
    exact pair_new r hT rfl (get_rel h2 hx (y vs h1))
  stop := fun F m S H ev l r pn => by
    obtain ⟨vs, h1, h2⟩ := h F m S H ev l r pn
    exact ⟨vs, h1, by rw [enumD_length, h2.length]; exact Nat.le_refl _⟩
def zipD (xs ys : List D) : List D := (xs.zip ys).map fun p => .tup [p.1, p.2]
theorem zipD_get {xs ys : List D} {i : Nat} {d : D} (h : (zipD xs ys)[i]? = some d) : ∃ x y, xs[i]? = some x ∧ ys[i]? = some y ∧ d = .tup [x, y] := by
  unfold zipD at h
  rw [List.getElem?_map] at h
  obtain ⟨p, hp, rfl⟩ := Option.map_eq_some_iff.mp h
  obtain ⟨h1, h2⟩ := List.getElem?_zip_eq_some.mp hp
  exact ⟨_, _, h1, h2, rfl⟩
theorem walk_z (h : Stands K ax (fun H vs => SqL K H a vs) xs p F0 m0 n0) (g : Stands K ax (fun H vs => SqL K H b vs) ys p F0 m0 n0) : Walk K ax (Itz K a b) (zipD xs ys) p F0 m0 n0 where
  go := fun F m S H i ev l r pn hi => by
    obtain ⟨vs, h1, h2⟩ := h F m S H ev l r pn
    obtain ⟨ws, g1, g2⟩ := g F m S H ev l r pn
    have hi' : i < xs.length ∧ i < ys.length := by simp [zipD] at hi; omega
    obtain ⟨x, hx⟩ := get_lt h2 hi'.1
    obtain ⟨y, hy⟩ := get_lt g2 hi'.2
    exact ⟨vs, ws, x, y, h1, g1, hx, hy⟩
  yld := fun F m S H i d x H' ev l r pn hd y => by
    obtain ⟨vs, h1, h2⟩ := h F m S H ev l r pn
    obtain ⟨ws, g1, g2⟩ := g F m S H ev l r pn
    obtain ⟨T, z, w, rfl, hT, rfl, y1, y2⟩ := y
    obtain ⟨x, y, hx, hy, rfl⟩ := zipD_get hd
    exact pair_new r hT (get_rel h2 hx (y1 vs h1)) (get_rel g2 hy (y2 ws g1))
  stop := fun F m S H ev l r pn => by
    obtain ⟨vs, h1, h2⟩ := h F m S H ev l r pn
    obtain ⟨ws, g1, g2⟩ := g F m S H ev l r pn
    refine ⟨vs, ws, h1, g1, ?_⟩
    rw [← h2.length, ← g2.length]
    simp [zipD]
    omega
theorem walk_zt (h : Stands K ax (fun H vs => SqT K H a vs) xs p F0 m0 n0) (g : Stands K ax (fun H vs => SqT K H b vs) ys p F0 m0 n0) : Walk K ax (RZ.ItzT K a b) (zipD xs ys) p F0 m0 n0 where
  go := fun F m S H i ev l r pn hi => by
    obtain ⟨vs, h1, h2⟩ := h F m S H ev l r pn
    obtain ⟨ws, g1, g2⟩ := g F m S H ev l r pn
    have hi' : i < xs.length ∧ i < ys.length := by simp [zipD] at hi; omega
    obtain ⟨x, hx⟩ := get_lt h2 hi'.1
    obtain ⟨y, hy⟩ := get_lt g2 hi'.2
    exact ⟨vs, ws, x, y, h1, g1, hx, hy⟩
  yld := fun F m S H i d x H' ev l r pn hd y => by
    obtain ⟨vs, h1, h2⟩ := h F m S H ev l r pn
    obtain ⟨ws, g1, g2⟩ := g F m S H ev l r pn
    obtain ⟨T, z, w, rfl, hT, rfl, y1, y2⟩ := y
    obtain ⟨x, y, hx, hy, rfl⟩ := zipD_get hd
    exact pair_new r hT (get_rel h2 hx (y1 vs h1)) (get_rel g2 hy (y2 ws g1))
  stop := fun F m S H ev l r pn => by
    obtain ⟨vs, h1, h2⟩ := h F m S H ev l r pn
    obtain ⟨ws, g1, g2⟩ := g F m S H ev l r pn
    refine ⟨vs, ws, h1, g1, ?_⟩
    rw [← h2.length, ← g2.length]
    simp [zipD]
    omega
end Rf
set_option Elab.async false
set_option linter.all false
set_option maxRecDepth 100000
/-! Iteration, comprehensions, statements. -/
namespace Rf
open PySem PySem.Spec PyProof.Rows L2
variable {K : PySem.W.Frag} {C : Sc}

abbrev rI (K : PySem.W.Frag) (C : Sc) : Rho Items It := fun F m n a J => Walk K C.ax J a.1 a.2 F m n
theorem pinned_self (d : D) (S : Store) : pinned (pinOf d S) S = true := by
  cases d with
  | ref i => cases e : S[i]? with
    | none =>
      have z : pinOf (.ref i) S = [] := by simp only [pinOf, e]
      rw [z]; rfl
    | some o =>
      have z : pinOf (.ref i) S = [(i, o)] := by simp only [pinOf, e]
      rw [z]; simp [pinned, e]
  | _ => rfl
section
variable {X : Cx} {tg a b c e : Expr} {p pos tpos : Pos} {elts : List Expr} {kk : Nat} {fa fb fc : Env → Store → Option (R D)}
def kSeq (d : D) (S : Store) : Option (R Items) := match seqOf S d with
  | some xs => some (.ok (xs, pinOf d S) S)
  | none => none
theorem si_seq (h : PE X e (RX X.K C (rD X.K C) fa)) : PI X tg e (RX X.K C (rI X.K C) fun env S => bnd (freshR S.length (fa env S)) kSeq) := by
  refine ⟨fun pins s σ H Q I q => ?_⟩
  obtain ⟨F, m, env, S, r, st, e, p⟩ := q
  dsimp only at e
  cases q : freshR S.length (fa env S) with
  | none => rw [q] at e; cases e
  | some r1 =>
    rw [q] at e
    cases r1 with
    | ex x S1 =>
      cases e
      exact (pi_list (se_fresh h)).run pins s σ H Q I ⟨F, m, env, S, _, st, q, p⟩
    | ok d S1 =>
      simp only [bnd_ok, kSeq] at e
      cases e1 : seqOf S1 d with
      | none => rw [e1] at e; cases e
      | some xs =>
        rw [e1] at e
        cases e
        cases hl : isL d with
        | true =>
          refine (pi_list (se_fresh h)).run pins s σ H Q I ⟨F, m, env, S, _, st, q, fun F1 m1 H1 v ev1 l1 r1 rv => ?_⟩
          obtain ⟨a, rfl, ⟨_, hs⟩ | ⟨z, _⟩⟩ := stands (p := pinOf d S1) r1 rv e1 fun _ z => z
          · obtain ⟨vs, h1, _⟩ := hs F1 m1 S1 H1 .refl (Nat.le_refl _) r1 (pinned_self d S1)
            exact ⟨a, rfl, ⟨vs, h1⟩, p F1 m1 H1 _ ev1 l1 r1 (walk_l hs)⟩
          · rw [hl] at z; cases z
        | false =>
          refine (pi_tup (se_fresh h)).run pins s σ H Q I ⟨F, m, env, S, _, st, q, fun F1 m1 H1 v ev1 l1 r1 rv => ?_⟩
          obtain ⟨a, rfl, ⟨z, _⟩ | ⟨_, hs⟩⟩ := stands (p := pinOf d S1) r1 rv e1 fun _ z => z
          · rw [hl] at z; cases z
          · obtain ⟨vs, h1, _⟩ := hs F1 m1 S1 H1 .refl (Nat.le_refl _) r1 (pinned_self d S1)
            exact ⟨a, rfl, ⟨vs, h1⟩, p F1 m1 H1 _ ev1 l1 r1 (walk_t hs)⟩
theorem star_one (h : noStar a = true) {env : PySem.Env} : starEach [a] env = [(false, eval a env)] := star_cons h
theorem PI.imp {w w' : TI} (h : PI X tg e w) (k : ∀ σ H Q, w' σ H Q → w σ H Q) : PI X tg e w' := ⟨fun pins s σ H Q I q => h.run pins s σ H Q I (k σ H Q q)⟩
theorem si_rng1 (hg : Gl X "range") (hm : X.mg "range" = none) (h : PE X a (RX X.K C (rD X.K C) fa)) (hs : noStar a = true) : PI X tg (.Call (.Name "range" p) [a] [] pos) (RX X.K C (rI X.K C) fun env S => bnd (fa env S) kR1) := by
  refine PI.imp (pi_range1 hg hm (pa_cons h pa_nil (star_cons hs)) (star_one hs)) fun σ H Q q => ?_
  obtain ⟨F, m, env, S, r, st, e, p⟩ := q
  show RX X.K C (rD X.K C) fa σ H _
  refine bindX st e p fun F1 m1 S1 x xv H1 ev1 l1 st1 rx e1 p1 => ?_
  cases x with
  | int j =>
    obtain rfl : xv = .int j := rx
    simp only [kR1] at e1
    split at e1
    · rename_i hj
      cases e1
      have hj := okR_ok hj
      exact ⟨j, rfl, hj.1, hj.2, p1 F1 m1 H1 _ .refl (Nat.le_refl _) st1.rep walk_r⟩
    · cases e1
  | _ => cases e1
theorem si_rng2 (hg : Gl X "range") (hm : X.mg "range" = none) (ha : PE X a (RX X.K C (rD X.K C) fa)) (hb : PE X b (RX X.K C (rD X.K C) fb)) (hs : noStars [a, b] = true) :
    PI X tg (.Call (.Name "range" p) [a, b] [] pos) (RX X.K C (rI X.K C) fun env S => bnd (fa env S) fun x S => bnd (fb env S) fun y S => kR2 x y S) := by
  have h' : noStar a = true ∧ noStars [b] = true := by simpa [noStars] using hs
  have h2 : noStar b = true := by simpa [noStars] using h'.2
  refine PI.imp (pi_range2 hg hm (pa_cons ha (pa_cons hb pa_nil (star_cons h2)) (star_cons h'.1)) (by rw [star_cons h'.1, star_one h2]) (star_one h2)) fun σ H Q q => ?_
  obtain ⟨F, m, env, S, r, st, e, p⟩ := q
  show RX X.K C (rD X.K C) fa σ H _
  refine bindX st e p fun F1 m1 S1 x xv H1 ev1 l1 st1 rx e1 p1 => ?_
  show RX X.K C (rD X.K C) fb σ H1 _
  refine bindX st1 e1 p1 fun F2 m2 S2 y yv H2 ev2 l2 st2 ry e2 p2 => ?_
  cases x with
  | int i =>
    cases y with
    | int j =>
      obtain rfl : xv = .int i := rx
      obtain rfl : yv = .int j := ry
      simp only [kR2] at e2
      split at e2
      · rename_i hj
        rw [Bool.and_eq_true] at hj
        cases e2
        have h1 := okR_ok hj.1
        have h2 := okR_ok hj.2
        exact ⟨i, j, rfl, ⟨h1.1, h1.2, h2.1, h2.2⟩, p2 F2 m2 H2 _ .refl (Nat.le_refl _) st2.rep walk_r⟩
      · cases e2
    | _ => cases e2
  | _ => cases e2
def kEnum (d : D) (S : Store) : Option (R Items) := match seqOf S d with
  | some xs => if isL d then some (.ok (enumD xs, pinOf d S) S) else none
  | none => none
theorem si_enum (hg : Gl X "enumerate") (hm : X.mg "enumerate" = none) (h : PE X e (RX X.K C (rD X.K C) fa)) (hs : noStar e = true) :
    PI X (.Tuple elts kk tpos) (.Call (.Name "enumerate" p) [e] [] pos) (RX X.K C (rI X.K C) fun env S => bnd (freshR S.length (fa env S)) kEnum) := by
  refine PI.imp (pi_enum hg hm (pa_cons (se_fresh h) pa_nil (star_cons hs)) (star_one hs)) fun σ H Q q => ?_
  obtain ⟨F, m, env, S, r, st, e, p⟩ := q
  show RX X.K C (rD X.K C) (fun env S => freshR S.length (fa env S)) σ H _
  refine bindX (f := fun env S => freshR S.length (fa env S)) st e p fun F1 m1 S1 x xv H1 ev1 l1 st1 rx e1 p1 => ?_
  unfold kEnum at e1
  cases e2 : seqOf S1 x with
  | none => rw [e2] at e1; cases e1
  | some xs =>
    rw [e2] at e1
    dsimp only at e1
    split at e1
    · rename_i hl
      cases e1
      obtain ⟨a, rfl, ⟨_, hs⟩ | ⟨z, _⟩⟩ := stands (p := pinOf x S1) st1.rep rx e2 fun _ z => z
      · obtain ⟨vs, h1, _⟩ := hs F1 m1 S1 H1 .refl (Nat.le_refl _) st1.rep (pinned_self x S1)
        exact ⟨a, vs, rfl, h1, p1 F1 m1 H1 _ .refl (Nat.le_refl _) st1.rep (walk_e hs)⟩
      · rw [hl] at z; cases z
    · cases e1
def kZip (x y : D) (S : Store) : Option (R Items) := match seqOf S x, seqOf S y with
  | some xs, some ys => if isL x == isL y then some (.ok (zipD xs ys, pinOf x S ++ pinOf y S) S) else none
  | _, _ => none
theorem pinned_app {p q : List (Nat × O)} {S : Store} (h : pinned p S = true) (g : pinned q S = true) : pinned (p ++ q) S = true := by
  unfold pinned at *
  rw [List.all_append, h, g]; rfl
theorem si_zip (hg : Gl X "zip") (hm : X.mg "zip" = none) (ha : PE X a (RX X.K C (rD X.K C) fa)) (hb : PE X b (RX X.K C (rD X.K C) fb)) (hs : noStars [a, b] = true) :
    PI X (.Tuple elts kk tpos) (.Call (.Name "zip" p) [a, b] [] pos) (RX X.K C (rI X.K C) fun env S => bnd (freshR S.length (fa env S)) fun x S => bnd (freshR S.length (fb env S)) fun y S => kZip x y S) := by
  have h' : noStar a = true ∧ noStars [b] = true := by simpa [noStars] using hs
  have h2 : noStar b = true := by simpa [noStars] using h'.2
  refine PI.imp (RZ.pi_zipA hg hm (pa_cons (se_fresh ha) (pa_cons (se_fresh hb) pa_nil (star_cons h2)) (star_cons h'.1)) (star_cons h'.1) (star_any h'.2)) fun σ H Q q => ?_
  obtain ⟨F, m, env, S, r, st, e, p⟩ := q
  show RX X.K C (rD X.K C) (fun env S => freshR S.length (fa env S)) σ H _
  refine bindX (f := fun env S => freshR S.length (fa env S)) st e p fun F1 m1 S1 x xv H1 ev1 l1 st1 rx e1 p1 => ?_
  show RX X.K C (rD X.K C) (fun env S => freshR S.length (fb env S)) σ H1 _
  refine bindX (f := fun env S => freshR S.length (fb env S)) st1 e1 p1 fun F2 m2 S2 y yv H2 ev2 l2 st2 ry e2 p2 => ?_
  have rx2 := RelD.evo ev2 l2 rx
  unfold kZip at e2
  cases e3 : seqOf S2 x with
  | none => rw [e3] at e2; cases e2
  | some xs =>
    cases e4 : seqOf S2 y with
    | none => rw [e3, e4] at e2; cases e2
    | some ys =>
      rw [e3, e4] at e2
      dsimp only at e2
      split at e2
      · rename_i hl
        cases e2
        have hl : isL x = isL y := by simpa using hl
        have pp := pinned_app (pinned_self x S2) (pinned_self y S2)
        obtain ⟨a, rfl, h1⟩ := stands (p := pinOf x S2 ++ pinOf y S2) st2.rep rx2 e3 fun _ z => List.mem_append_left _ z
        obtain ⟨b, rfl, h2⟩ := stands (p := pinOf x S2 ++ pinOf y S2) st2.rep ry e4 fun _ z => List.mem_append_right _ z
        rcases h1 with ⟨z, h1⟩ | ⟨z, h1⟩
        · rcases h2 with ⟨w, h2⟩ | ⟨w, h2⟩
          · obtain ⟨vs, g1, _⟩ := h1 F2 m2 S2 H2 .refl (Nat.le_refl _) st2.rep pp
            obtain ⟨ws, g2, _⟩ := h2 F2 m2 S2 H2 .refl (Nat.le_refl _) st2.rep pp
            exact ⟨a, b, vs, ws, rfl, .inl ⟨g1, g2, p2 F2 m2 H2 _ .refl (Nat.le_refl _) st2.rep (walk_z h1 h2)⟩⟩
          · rw [z, w] at hl; cases hl
        · rcases h2 with ⟨w, h2⟩ | ⟨w, h2⟩
          · rw [z, w] at hl; cases hl
          · obtain ⟨vs, g1, _⟩ := h1 F2 m2 S2 H2 .refl (Nat.le_refl _) st2.rep pp
            obtain ⟨ws, g2, _⟩ := h2 F2 m2 S2 H2 .refl (Nat.le_refl _) st2.rep pp
            exact ⟨a, b, vs, ws, rfl, .inr ⟨g1, g2, p2 F2 m2 H2 _ .refl (Nat.le_refl _) st2.rep (walk_zt h1 h2)⟩⟩
      · cases e2
end

/-! ### statements -/
def EPost (K : PySem.W.Frag) (C : Sc) (F : Hp) (m : Nat → Addr) (n : Nat) (D : Ends) : Fl × Store → Prop
  | (.nx env', S') => ∀ F' m' σ' H', Evo n F m F' m' → n ≤ S'.length → Sta K C F' m' env' S' σ' H' → D.nx σ' H'
  | (.rt d, S') => ∀ F' m' v H', Evo n F m F' m' → n ≤ S'.length → Rep K C.ax F' m' S' H' → RelD K C.ax F' m' S'.length d v → D.rt v H'
  | (.bk env', S') => ∀ F' m' σ' H', Evo n F m F' m' → n ≤ S'.length → Sta K C F' m' env' S' σ' H' → D.bk σ' H'
  | (.xc e env', S') => ∀ F' m' σ' H' cls d, Evo n F m F' m' → n ≤ S'.length → Sta K C F' m' env' S' σ' H' → RelX K C.ax F' e cls d → C.W cls d σ' H'
def TX (K : PySem.W.Frag) (C : Sc) (f : Env → Store → Out) : TS := fun D σ H => ∃ F m env S r, Sta K C F m env S σ H ∧ f env S = some r ∧ EPost K C F m S.length D r
section
variable {F H : Hp} {m : Nat → Addr} {env : Env} {S : Store} {σ : L2.St} {D : Ends}
theorem EPost.more {r : Fl × Store} {n n1 : Nat} {F1 : Hp} {m1 : Nat → Addr} (p : EPost K C F m n D r) (e : Evo n F m F1 m1) (l : n ≤ n1) : EPost K C F1 m1 n1 D r := by
  obtain ⟨fl, S'⟩ := r
  cases fl with
  | nx env' => exact fun F' m' σ' H' e' l' q => p F' m' σ' H' (e.trans l e') (Nat.le_trans l l') q
  | rt d => exact fun F' m' v H' e' l' q rd => p F' m' v H' (e.trans l e') (Nat.le_trans l l') q rd
  | bk env' => exact fun F' m' σ' H' e' l' q => p F' m' σ' H' (e.trans l e') (Nat.le_trans l l') q
  | xc x env' => exact fun F' m' σ' H' cls d e' l' q rx => p F' m' σ' H' cls d (e.trans l e') (Nat.le_trans l l') q rx
/-- an expression, then the rest -/
theorem thnX {α β : Type} {ρ1 : Rho α β} {f : Env → Store → Option (R α)} {g : α → Store → Out} {r : Fl × Store} (st : Sta K C F m env S σ H) (e : thn (f env S) env g = some r) (p : EPost K C F m S.length D r)
    {Q' : β → Hp → Prop} (k : ∀ F1 m1 S1 a b H1, Evo S.length F m F1 m1 → S.length ≤ S1.length → Sta K C F1 m1 env S1 σ H1 → ρ1 F1 m1 S1.length a b → g a S1 = some r → EPost K C F1 m1 S1.length D r → Q' b H1) :
    RX K C ρ1 f σ H Q' := by
  cases q : f env S with
  | none => rw [q] at e; cases e
  | some r1 =>
    rw [q] at e
    cases r1 with
    | ok a S1 => exact ⟨F, m, env, S, _, st, q, fun F1 m1 H1 b e1 l1 r1 rb => k F1 m1 S1 a b H1 e1 l1 (st.evo e1 l1 r1) rb e (p.more e1 l1)⟩
    | ex x S1 =>
      cases e
      exact ⟨F, m, env, S, _, st, q, fun F' m' H' cls d e' l' q' rx => p F' m' σ H' cls d e' l' (st.evo e' l' q') rx⟩
end
section
variable {X : Cx} {st st1 st2 : Stmt} {sts body as bs : List Stmt} {tg a b c e : Expr} {p pos tpos : Pos} {fa fb fc : Env → Store → Option (R D)} {f g : Env → Store → Out}
def kSeqS (g : Env → Store → Out) (r : Out) : Out := match r with
  | some (.nx env1, S1) => g env1 S1
  | r => r
theorem ss_nil : PSs X [] (TX X.K C fun env S => some (.nx env, S)) := PSs.imp pss_nil fun D σ H q => by
  obtain ⟨F, m, env, S, r, st, e, p⟩ := q
  cases e
  exact p F m σ H .refl (Nat.le_refl _) st
theorem ss_cons (h1 : PS X st (TX X.K C f)) (h2 : PSs X sts (TX X.K C g)) : PSs X (st :: sts) (TX X.K C fun env S => kSeqS g (f env S)) := PSs.imp (pss_cons h1 h2) fun D σ H q => by
  obtain ⟨F, m, env, S, r, st, e, p⟩ := q
  dsimp only at e
  cases q : f env S with
  | none => rw [q] at e; cases e
  | some r1 =>
    refine ⟨F, m, env, S, r1, st, q, ?_⟩
    rw [q] at e
    obtain ⟨fl, S1⟩ := r1
    cases fl with
    | nx env1 => exact fun F' m' σ' H' e1 l1 st1 => ⟨F', m', env1, S1, r, st1, e, p.more e1 l1⟩
    | rt d => cases e; exact p
    | bk env1 => cases e; exact p
    | xc x env1 => cases e; exact p
theorem ss_one (h1 : PS X st (TX X.K C f)) : PSs X [st] (TX X.K C f) := PSs.imp (pss_one h1) fun D σ H q => q
theorem ss_pass : PS X (.Pass pos) (TX X.K C fun env S => some (.nx env, S)) := PS.imp ps_pass fun D σ H q => by
  obtain ⟨F, m, env, S, r, st, e, p⟩ := q
  cases e
  exact p F m σ H .refl (Nat.le_refl _) st
theorem ss_brk : PS X (.Break pos) (TX X.K C fun env S => some (.bk env, S)) := PS.imp ps_break fun D σ H q => by
  obtain ⟨F, m, env, S, r, st, e, p⟩ := q
  cases e
  exact p F m σ H .refl (Nat.le_refl _) st
theorem ss_expr (h : PE X e (RX X.K C (rD X.K C) fa)) (hs : swapsWith e none pos.line X.env = pure false) : PS X (.Expr e pos) (TX X.K C fun env S => thn (fa env S) env fun _ S1 => some (.nx env, S1)) := PS.imp (ps_expr h hs) fun D σ H q => by
  obtain ⟨F, m, env, S, r, st, e, p⟩ := q
  refine thnX st e p fun F1 m1 S1 d v H1 ev1 l1 st1 rd e1 p1 => ?_
  cases e1
  exact p1 F1 m1 σ H1 .refl (Nat.le_refl _) st1
theorem ss_ret (h : PE X e (RX X.K C (rD X.K C) fa)) : PS X (.Return (some e) pos) (TX X.K C fun env S => thn (fa env S) env fun d S1 => some (.rt d, S1)) := PS.imp (ps_ret h) fun D σ H q => by
  obtain ⟨F, m, env, S, r, st, e, p⟩ := q
  refine thnX st e p fun F1 m1 S1 d v H1 ev1 l1 st1 rd e1 p1 => ?_
  cases e1
  exact p1 F1 m1 v H1 .refl (Nat.le_refl _) st1.rep rd
theorem ss_retN : PS X (.Return none pos) (TX X.K C fun env S => some (.rt .non, S)) := PS.imp ps_retN fun D σ H q => by
  obtain ⟨F, m, env, S, r, st, e, p⟩ := q
  cases e
  exact p F m .non H .refl (Nat.le_refl _) st.rep rfl
def kIf (f g : Env → Store → Out) (env : Env) (d : D) (S1 : Store) : Out := match d with
  | .bl true => f env S1
  | .bl false => g env S1
  | _ => none
theorem ss_if (hc : PT X c (RX X.K C rB fc)) (ha : PSs X as (TX X.K C f)) (hb : PSs X bs (TX X.K C g)) : PS X (.If c as bs pos) (TX X.K C fun env S => thn (fc env S) env (kIf f g env)) := PS.imp (ps_if hc ha hb) fun D σ H q => by
  obtain ⟨F, m, env, S, r, st, e, p⟩ := q
  refine thnX st e p fun F1 m1 S1 d v H1 ev1 l1 st1 rd e1 p1 => ?_
  subst rd
  cases v with
  | true => exact iteT ⟨F1, m1, env, S1, r, st1, e1, p1⟩
  | false => exact iteF ⟨F1, m1, env, S1, r, st1, e1, p1⟩
/-- target = value -/
def kSet (s : D → Env → Store → Option Env) (env : Env) (d : D) (S1 : Store) : Out := match s d env S1 with
  | some env1 => some (.nx env1, S1)
  | none => none
theorem ss_asg {ts : List Nat} {s : D → Env → Store → Option Env} (he : PE X e (RX X.K C (rD X.K C) fa)) (hg : PG X tg (GX X.K C ts s)) (hs : swapsWithSole [tg] e pos.line X.env = pure false) (hw : swappedStores [tg] e X.env = pure none)
    (h1 : (assignEach [tg] X.env).map (·.2) = [assign tg X.env]) : PS X (.Assign [tg] e pos) (TX X.K C fun env S => thn (fa env S) env (kSet s env)) := PS.imp (ps_asg he hg hs hw h1) fun D σ H q => by
  obtain ⟨F, m, env, S, r, st, e, p⟩ := q
  refine thnX st e p fun F1 m1 S1 d v H1 ev1 l1 st1 rd e1 p1 => ?_
  unfold kSet at e1
  cases e2 : s d env S1 with
  | none => rw [e2] at e1; cases e1
  | some env1 =>
    rw [e2] at e1
    cases e1
    exact ⟨F1, m1, env, S1, d, env1, st1, rd, e2, fun σ' st' _ => p1 F1 m1 σ' H1 .refl (Nat.le_refl _) st'⟩

/-! ### for -/
theorem drop_at {α : Type} {l : List α} {i : Nat} (h : i < l.length) : l.drop i = l[i] :: l.drop (i + 1) := List.drop_eq_getElem_cons h
theorem for_core {J : It} {t : CT} {its : Items} {env0 : Env} {F1 : Hp} {m1 : Nat → Addr} {S1 : Store} {σ : L2.St} {H1 : Hp} {D : Ends} {r : Fl × Store} (w : Walk K C.ax J its.1 its.2 F1 m1 S1.length)
    (st : Sta K C F1 m1 env0 S1 σ H1) (e : forGo f its.1 its.2 t env0 S1 = some r) (p : EPost K C F1 m1 S1.length D r) :
    ∃ W : Nat → Nat → L2.St → Hp → Prop, (∃ m, W 0 m σ H1) ∧ ∀ i m σ H, W i m σ H →
      (J.stop i H ∧ D.nx σ H) ∨ (J.go i H ∧ ∃ N : L2.St → Hp → Prop, (∀ σ' H', N σ' H' → ∃ m', m' < m ∧ W (i + 1) m' σ' H') ∧ ∀ x H', J.yld i H x H' → GX K C (tslots t) (fun d env S => setG t d env S) x σ H' fun σ2 H2 => TX K C f { D with nx := N, ct := N, bk := D.nx } σ2 H2) := by
  refine ⟨fun i mm σ' H' => mm = its.1.length - i ∧ i ≤ its.1.length ∧ ∃ F' m' env' S', Sta K C F' m' env' S' σ' H' ∧ Evo S1.length F1 m1 F' m' ∧ S1.length ≤ S'.length ∧ forGo f (its.1.drop i) its.2 t env' S' = some r,
    ⟨its.1.length, rfl, Nat.zero_le _, F1, m1, env0, S1, st, .refl, Nat.le_refl _, e⟩, ?_⟩
  rintro i mm σ2 H2 ⟨rfl, hi, F2, m2, env2, S2, st2, ev2, l2, e2⟩
  by_cases hlt : i < its.1.length
  · refine .inr ?_
    rw [drop_at hlt] at e2
    simp only [forGo] at e2
    split at e2
    case isFalse => cases e2
    case isTrue hp =>
    cases e3 : setG t its.1[i] env2 S2 with
    | none => rw [e3] at e2; cases e2
    | some env3 =>
      rw [e3] at e2
      dsimp only at e2
      cases e4 : f env3 S2 with
      | none => rw [e4] at e2; cases e2
      | some fr =>
        rw [e4] at e2
        refine ⟨w.go F2 m2 S2 H2 i ev2 l2 st2.rep hp hlt, fun σ' H' => ∃ F' m' env' S', Sta K C F' m' env' S' σ' H' ∧ Evo S1.length F1 m1 F' m' ∧ S1.length ≤ S'.length ∧ forGo f (its.1.drop (i + 1)) its.2 t env' S' = some r,
          fun σ' H' z => ⟨its.1.length - (i + 1), by omega, rfl, hlt, z⟩, fun x H' y => ?_⟩
        obtain ⟨F3, ev3, r3, rx⟩ := w.yld F2 m2 S2 H2 i its.1[i] x H' ev2 l2 st2.rep hp (List.getElem?_eq_getElem hlt) y
        have st3 := st2.evo ev3 (Nat.le_refl _) r3
        have ev13 := ev2.trans l2 ev3
        refine ⟨F3, m2, env2, S2, _, env3, st3, rx, e3, fun σ4 st4 _ => ⟨F3, m2, env3, S2, fr, st4, e4, ?_⟩⟩
        obtain ⟨fl, S5⟩ := fr
        cases fl with
        | nx env5 => exact fun F' m' σ' H' e' l' q => ⟨F', m', env5, S5, q, ev13.trans l2 e', Nat.le_trans l2 l', e2⟩
        | bk env5 => cases e2; exact p.more ev13 l2
        | rt d => cases e2; exact p.more ev13 l2
        | xc x env5 => cases e2; exact p.more ev13 l2
  · have hi2 : i = its.1.length := by omega
    subst hi2
    rw [List.drop_length] at e2
    simp only [forGo] at e2
    split at e2
    case isFalse => cases e2
    case isTrue hp =>
    cases e2
    exact .inl ⟨w.stop F2 m2 S2 H2 ev2 l2 st2.rep hp, p F2 m2 σ2 H2 ev2 l2 st2⟩
theorem ss_for {t : CT} {fi : Env → Store → Option (R Items)} (hp : PassesOwn (model X.prog X.w) X.A X.env X.xe) (hc : X.calm = true) (hi : PI X tg e (RX X.K C (rI X.K C) fi)) (hg : PG X tg (GX X.K C (tslots t) (fun d env S => setG t d env S)))
    (hb : PSs X body (TX X.K C f)) (hs : ∀ x, foldedSetIterable e X.env x = pure x) : PS X (.For tg e body [] pos) (TX X.K C fun env S => thn (fi env S) env fun xs S1 => forGo f xs.1 xs.2 t env S1) := PS.imp (ps_for hp hc hi hg hb hs) fun D σ H q => by
  obtain ⟨F, m, env, S, r, st, e, p⟩ := q
  exact thnX st e p fun F1 m1 S1 its J H1 ev1 l1 st1 w e1 p1 => for_core w st1 e1 p1
/-! ### while -/
theorem ss_while {fc : Env → Store → Option (R D)} (hp : PassesOwn (model X.prog X.w) X.A X.env X.xe) (hc : PT X c (RX X.K C rB fc)) (hb : PSs X body (TX X.K C f)) : PS X (.While c body [] pos) (TX X.K C fun env S => whileGo fc f FUEL env S) := PS.imp (ps_while hp hc hb) fun D σ H q => by
  obtain ⟨F, m, env, S, r, st, e, p⟩ := q
  refine ⟨fun n σ' H' => ∃ F' m' env' S', Sta X.K C F' m' env' S' σ' H' ∧ Evo S.length F m F' m' ∧ S.length ≤ S'.length ∧ whileGo fc f n env' S' = some r, ⟨FUEL, F, m, env, S, st, .refl, Nat.le_refl _, e⟩, ?_⟩
  rintro n σ2 H2 ⟨F2, m2, env2, S2, st2, ev2, l2, e2⟩
  cases n with
  | zero => cases e2
  | succ n =>
    simp only [whileGo] at e2
    refine thnX st2 e2 (p.more ev2 l2) fun F3 m3 S3 d v H3 ev3 l3 st3 rd e3 p3 => ?_
    subst rd
    cases v with
    | false =>
      cases e3
      exact iteF (p3 F3 m3 σ2 H3 .refl (Nat.le_refl _) st3)
    | true =>
      refine iteT ?_
      dsimp only at e3
      cases e4 : f env2 S3 with
      | none => rw [e4] at e3; cases e3
      | some fr =>
        rw [e4] at e3
        have ev03 := ev2.trans l2 ev3
        have l03 := Nat.le_trans l2 l3
        refine ⟨fun σ' H' => ∃ F' m' env' S', Sta X.K C F' m' env' S' σ' H' ∧ Evo S.length F m F' m' ∧ S.length ≤ S'.length ∧ whileGo fc f n env' S' = some r, fun σ' H' z => ⟨n, Nat.lt_succ_self _, z⟩, F3, m3, env2, S3, fr, st3, e4, ?_⟩
        obtain ⟨fl, S5⟩ := fr
        cases fl with
        | nx env5 => exact fun F' m' σ' H' e' l' q => ⟨F', m', env5, S5, q, ev03.trans l03 e', Nat.le_trans l03 l', e3⟩
        | bk env5 => cases e3; exact p3
        | rt d => cases e3; exact p3
        | xc x env5 => cases e3; exact p3
end
end Rf
set_option Elab.async false
set_option linter.all false
set_option maxRecDepth 100000
/-! Comprehensions. -/
namespace Rf
open PySem PySem.Spec PyProof.Rows L2
variable {K : PySem.W.Frag} {C : Sc}

/-- within a comprehension nothing is raised -/
abbrev Sc.blk (C : Sc) : Sc := { C with W := fun _ _ _ _ => False, ev := none }
abbrev rBl : Rho Bool Bool := fun _ _ _ a b => a = b
theorem wipe_len (env : Env) : ∀ l : List Nat, (wipe env l).length = env.length
  | [] => rfl
  | i :: r => by simp [wipe, wipe_len env r]
theorem wipe_get {env : Env} {i : Nat} {d : D} : ∀ {l : List Nat}, (wipe env l)[i]? = some (some d) → env[i]? = some (some d) ∧ i ∉ l
  | [], h => ⟨h, by simp⟩
  | j :: r, h => by
    unfold Rf.wipe at h
    by_cases hij : j = i
    · subst hij
      rw [List.getElem?_set] at h
      simp at h
    · rw [List.getElem?_set_ne hij] at h
      obtain ⟨h1, h2⟩ := wipe_get h
      exact ⟨h1, by simp; exact ⟨fun z => hij z.symm, h2⟩⟩
theorem wipeS_get {σ : L2.St} {i : Nat} : ∀ {l : List Nat}, i ∉ l → (L2.wipe σ l)[i]? = σ[i]?
  | [], _ => rfl
  | j :: r, h => by
    unfold L2.wipe
    rw [List.getElem?_set_ne (fun z => h (by rw [z]; exact List.mem_cons_self)), wipeS_get fun z => h (List.mem_cons_of_mem _ z)]
theorem wipeS_none {σ : L2.St} {i : Nat} : ∀ {l : List Nat}, i ∈ l → (L2.wipe σ l)[i]? = (σ[i]?).map fun _ => none
  | [], h => by cases h
  | j :: r, h => by
    unfold L2.wipe
    by_cases hij : j = i
    · subst hij
      rw [List.getElem?_set]
      simp only [if_true, wipe_length]
      split
      · rename_i hl
        rw [List.getElem?_eq_getElem hl]; rfl
      · rename_i hl
        rw [List.getElem?_eq_none (by omega)]; rfl
    · rw [List.getElem?_set_ne hij]
      exact wipeS_none (by simpa [Ne.symm hij] using h)
theorem wipeS_eq {σ σ' : L2.St} {t l : List Nat} (k : Kept t σ σ') (h : ∀ i ∈ t, i ∈ l) : L2.wipe σ' l = L2.wipe σ l := by
  apply List.ext_getElem?
  intro i
  by_cases hi : i ∈ l
  · rw [wipeS_none hi, wipeS_none hi]
    by_cases hl : i < σ.length
    · rw [List.getElem?_eq_getElem hl, List.getElem?_eq_getElem (by rw [k.1]; exact hl)]; rfl
    · rw [List.getElem?_eq_none (show σ'.length ≤ i by rw [k.1]; omega), List.getElem?_eq_none (show σ.length ≤ i by omega)]
  · rw [wipeS_get hi, wipeS_get hi]
    exact k.2 i fun z => hi (h i z)
theorem wipeS_two {σ : L2.St} {l : List Nat} : L2.wipe (L2.wipe σ l) l = L2.wipe σ l :=
  wipeS_eq (σ := σ) (σ' := L2.wipe σ l) (t := l) ⟨wipe_length σ l, fun i hi => wipeS_get hi⟩ fun _ z => z
theorem Sta.blk {F H : Hp} {m : Nat → Addr} {env : Env} {S : Store} {σ : L2.St} (st : Sta K C F m env S σ H) (l : List Nat) : Sta K C.blk F m (Rf.wipe env l) S (L2.wipe σ l) H := by
  refine ⟨st.rep, by rw [wipe_len, wipe_length]; exact st.len, fun i d e => ?_, st.sui, fun _ _ z => nomatch z⟩
  obtain ⟨h1, h2⟩ := wipe_get e
  obtain ⟨v, h3, h4⟩ := st.at_ i d h1
  exact ⟨v, by rw [wipeS_get h2]; exact h3, h4⟩
/-- a turn's result that is there -/
theorem gcR_ok {n : Nat} {r : Option (R D)} {y : D} {S : Store} (h : gcR n r = some (.ok y S)) : ∃ d S0, r = some (.ok d S0) ∧ (gc n d S0) = (y, S) := by
  cases r with
  | none => cases h
  | some r =>
    cases r with
    | ex e S => cases h
    | ok d S0 => cases h; exact ⟨d, S0, rfl, rfl⟩
section
variable {fc : Env → Store → Option (R Bool)} {fe : Env → Store → Option (R D)}
theorem comp_core {J : It} {t : CT} {own : List Nat} {its : Items} {env0 : Env} {F1 : Hp} {m1 : Nat → Addr} {S1 : Store} {σ : L2.St} {H1 : Hp} {Q : VK} {S' : Store} {A : Addr} (hA : H1 A = none) (w : Walk K C.ax J its.1 its.2 F1 m1 S1.length)
    (ht : ∀ i ∈ tslots t, i ∈ own) (st : Sta K C F1 m1 env0 S1 σ H1) (e : compGo fc fe its.1 its.2 t (Rf.wipe env0 own) S1.length [] (S1 ++ [.lst []]) = some (.ok () S')) (p : Post K C F1 m1 S1.length σ (rD K C) Q (.ok (.ref S1.length) S')) :
    ∃ W : Nat → Nat → Hp → Prop, (∃ m, W 0 m (upd H1 A (.lst []))) ∧ ∀ i m H, W i m H →
      (J.stop i H ∧ Q (.ref A) H) ∨ (J.go i H ∧ ∃ Nx : Hp → Prop, (∀ H', Nx H' → ∃ m', m' < m ∧ W (i + 1) m' H') ∧ ∀ x H', J.yld i H x H' → GX K C.blk (tslots t) (fun d env S => setG t d env S) x (L2.wipe σ own) H' fun σ2 H2 => L2.wipe σ2 own = L2.wipe σ own ∧
        RX K C.blk rBl fc σ2 H2 fun b H3 => if b = true then RX K C.blk (rD K C.blk) fe σ2 H3 fun y H4 => ∃ acc, H4 A = some (.lst acc) ∧ acc.length < sizeLine ∧ Nx (upd H4 A (.lst (acc ++ [y]))) else Nx H3) := by
  have base : Rep K C.ax F1 (put m1 S1.length A) (S1 ++ [.lst []]) (upd H1 A (.lst [])) := st.rep.newL (xs := []) (vs := []) hA rfl
  have ev0 : Evo S1.length F1 m1 F1 (put m1 S1.length A) := put_evo
  have stw := st.blk own
  refine ⟨fun i mm H' => mm = its.1.length - i ∧ i ≤ its.1.length ∧ ∃ F' m' S2 acc, Rep K C.ax F' m' S2 H' ∧ Evo (S1.length + 1) F1 (put m1 S1.length A) F' m' ∧ S2.length = S1.length + 1 ∧ S2[S1.length]? = some (.lst acc) ∧ compGo fc fe (its.1.drop i) its.2 t (Rf.wipe env0 own) S1.length acc S2 = some (.ok () S'),
    ⟨its.1.length, rfl, Nat.zero_le _, F1, put m1 S1.length A, S1 ++ [.lst []], [], base, .refl, by simp, by simp, by rw [List.drop_zero]; exact e⟩, ?_⟩
  rintro i mm H2 ⟨rfl, hi, F2, m2, S2, acc, r2, ev2, hS2, hacc, e2⟩
  have evF : Evo S1.length F1 m1 F2 m2 := ev0.trans (Nat.le_refl _) (ev2.le (Nat.le_succ _))
  have hmA : m2 S1.length = A := by rw [ev2.mm _ (Nat.lt_succ_self _)]; exact put_same
  have lS : S1.length ≤ S2.length := by omega
  by_cases hlt : i < its.1.length
  · refine .inr ?_
    rw [drop_at hlt] at e2
    simp only [compGo] at e2
    split at e2
    case isFalse => cases e2
    case isTrue hp =>
    cases e3 : setG t its.1[i] (Rf.wipe env0 own) S2 with
    | none => rw [e3] at e2; cases e2
    | some env3 =>
      rw [e3] at e2
      dsimp only at e2
      refine ⟨w.go F2 m2 S2 H2 i evF lS r2 hp hlt, fun H' => ∃ F' m' S3 acc, Rep K C.ax F' m' S3 H' ∧ Evo (S1.length + 1) F1 (put m1 S1.length A) F' m' ∧ S3.length = S1.length + 1 ∧ S3[S1.length]? = some (.lst acc) ∧ compGo fc fe (its.1.drop (i + 1)) its.2 t (Rf.wipe env0 own) S1.length acc S3 = some (.ok () S'),
        fun H' z => ⟨its.1.length - (i + 1), by omega, rfl, hlt, z⟩, fun x H' y => ?_⟩
      obtain ⟨F3, ev3, r3, rx⟩ := w.yld F2 m2 S2 H2 i its.1[i] x H' evF lS r2 hp (List.getElem?_eq_getElem hlt) y
      have ev13 : Evo S1.length F1 m1 F3 m2 := evF.trans lS ev3
      have ev13' : Evo (S1.length + 1) F1 (put m1 S1.length A) F3 m2 := ev2.trans (by omega) ev3
      have st3 : Sta K C.blk F3 m2 (Rf.wipe env0 own) S2 (L2.wipe σ own) H' := stw.evo ev13 lS r3
      refine ⟨F3, m2, Rf.wipe env0 own, S2, _, env3, st3, rx, e3, fun σ4 st4 kp => ⟨(wipeS_eq kp ht).trans wipeS_two, ?_⟩⟩
      cases e4 : fc env3 S2 with
      | none => rw [e4] at e2; cases e2
      | some cr =>
        rw [e4] at e2
        cases cr with
        | ex x S5 => cases e2
        | ok b S5 =>
          refine ⟨F3, m2, env3, S2, _, st4, e4, fun F5 m5 H5 b' ev5 l5 r5 hb => ?_⟩
          subst hb
          have ev15 : Evo (S1.length + 1) F1 (put m1 S1.length A) F5 m5 := ev13'.trans (by omega) ev5
          have st5 := st4.evo ev5 l5 r5
          have hm5 : m5 S1.length = A := by rw [ev5.mm _ (by omega)]; exact hmA
          cases b with
          | false =>
            refine iteF ?_
            dsimp only at e2
            split at e2
            · rename_i hd
              have hd : S5[S1.length]? = some (.lst acc) := by simpa using hd
              have hl : (S5.take (S1.length + 1)).length = S1.length + 1 := by rw [List.length_take]; omega
              exact ⟨F5, m5, S5.take (S1.length + 1), acc, r5.take _, ev15, hl, by rw [List.getElem?_take_of_lt (Nat.lt_succ_self _)]; exact hd, e2⟩
            · cases e2
          | true =>
            refine iteT ?_
            dsimp only at e2
            cases e6 : gcR (S1.length + 1) (fe env3 S5) with
            | none => rw [e6] at e2; cases e2
            | some er =>
              rw [e6] at e2
              cases er with
              | ex x S7 => cases e2
              | ok y S7 =>
                dsimp only at e2
                split at e2
                case isFalse => cases e2
                case isTrue hq =>
                simp only [Bool.and_eq_true, decide_eq_true_eq] at hq
                obtain ⟨⟨hq1, hq2⟩, hq3⟩ := hq
                obtain ⟨d0, S0, e7, e8⟩ := gcR_ok e6
                refine ⟨F5, m5, env3, S5, _, st5, e7, fun F7 m7 H7 v ev7 l7 r7 rv => ?_⟩
                obtain ⟨m8, r8, rv8, l8, ev8⟩ := r7.gc (n := S1.length + 1) (by omega) rv
                rw [e8] at r8 rv8 l8
                obtain ⟨F9, r9, rv9, l9, ev9⟩ := r8.frz rv8
                have ev19 : Evo (S1.length + 1) F1 (put m1 S1.length A) F9 m8 := ((ev15.trans (Nat.le_refl _) (ev7.le (show S1.length + 1 ≤ S5.length by omega))).trans (Nat.le_refl _) ev8).trans (Nat.le_refl _) (ev9 _)
                have hm9 : m8 S1.length = A := by rw [ev19.mm _ (Nat.lt_succ_self _)]; exact put_same
                obtain ⟨vs, g1, g2, g3⟩ := r9.at_ _ _ hq2
                have hlen : S1.length + 1 ≤ (frz y S7).2.length := by rw [l9]; exact l8
                have r10 := r9.setL hq2 (ys := acc ++ [(frz y S7).1]) (ws := vs ++ [v]) (g3.append (.one (rv9.low hq1)))
                rw [hm9] at g1 r10
                refine ⟨vs, g1, maxLen_lt (by rw [← g3.length]; exact hq3), F9, m8, ((frz y S7).2.take (S1.length + 1)).set S1.length (.lst (acc ++ [(frz y S7).1])), _, ?_, ev19, ?_, ?_, e2⟩
                · have z := r10.take (S1.length + 1)
                  rw [List.take_set] at z
                  exact z
                · rw [List.length_set, List.length_take]; omega
                · rw [List.getElem?_set_self (by rw [List.length_take]; omega)]
  · have hi2 : i = its.1.length := by omega
    subst hi2
    rw [List.drop_length] at e2
    simp only [compGo] at e2
    split at e2
    case isFalse => cases e2
    case isTrue hp =>
    cases e2
    exact .inl ⟨w.stop F2 m2 S' H2 evF lS r2 hp, p F2 m2 H2 (.ref A) evF lS r2 ⟨by omega, by rw [hmA]⟩⟩
theorem compGo_ok {p : List (Nat × O)} {t : CT} {env : Env} {n : Nat} : ∀ {xs : List D} {acc : List D} {S : Store} {r : R Unit}, compGo fc fe xs p t env n acc S = some r → ∃ S', r = .ok () S'
  | [], acc, S, r, h => by
    simp only [compGo] at h
    split at h <;> cases h
    exact ⟨S, rfl⟩
  | x :: xs, acc, S, r, h => by
    simp only [compGo] at h
    split at h
    case isFalse => cases h
    case isTrue =>
    split at h
    · cases h
    · split at h
      · split at h
        · split at h
          · exact compGo_ok h
          · cases h
        · cases h
      · split at h
        · exact compGo_ok h
        · cases h
      · cases h
variable {X : Cx} {elt tg iter : Expr} {ifs : List Expr} {scope : Scope} {own : List (Str × Nat)} {pos : Pos} {fi : Env → Store → Option (R Items)} {t : CT}
def kComp (fc : Env → Store → Option (R Bool)) (fe : Env → Store → Option (R D)) (t : CT) (own : List Nat) (env : Env) (xs : Items) (S : Store) : Option (R D) :=
  bnd (compGo fc fe xs.1 xs.2 t (Rf.wipe env own) S.length [] (S ++ [.lst []])) fun _ S' => some (.ok (.ref S.length) S')
theorem comp_le (ht : ∀ i ∈ tslots t, i ∈ own.map (·.2)) {σ : L2.St} {H : Hp} {Q : VK} (h : RX K C (rD K C) (fun env S => bnd (fi env S) (kComp fc fe t (own.map (·.2)) env)) σ H Q) :
    tLc (RX K C (rI K C) fi) (GX K C.blk (tslots t) (fun d env S => setG t d env S)) (RX K C.blk rBl fc) (RX K C.blk (rD K C.blk) fe) (own.map (·.2)) σ H Q := by
  obtain ⟨F, m, env, S, r, st, e, p⟩ := h
  refine bindX st e p fun F1 m1 S1 its J H1 ev1 l1 st1 w e1 p1 A hA => ?_
  unfold kComp at e1
  cases e2 : compGo fc fe its.1 its.2 t (Rf.wipe env (own.map (·.2))) S1.length [] (S1 ++ [.lst []]) with
  | none => rw [e2] at e1; cases e1
  | some r2 =>
    obtain ⟨S', rfl⟩ := compGo_ok e2
    rw [e2] at e1
    cases e1
    exact comp_core hA w ht st1 e2 p1
theorem sc_yes {X : Cx} : PTs X [] (RX X.K C rBl fun _ S => some (.ok true S)) := ⟨fun pins s σ H Q I q => pts_nil.run pins s σ H Q I (by
  obtain ⟨F, m, env, S, r, st, e, p⟩ := q
  cases e
  exact p F m H true .refl (Nat.le_refl _) st.rep rfl)⟩
def kBl (d : D) (S : Store) : Option (R Bool) := match d with
  | .bl b => some (.ok b S)
  | _ => none
theorem sc_one {X : Cx} {c : Expr} {f : Env → Store → Option (R D)} (h : PT X c (RX X.K C rB f)) : PTs X [c] (RX X.K C rBl fun env S => bnd (f env S) kBl) := ⟨fun pins s σ H Q I q => (pts_one h).run pins s σ H Q I (by
  obtain ⟨F, m, env, S, r, st, e, p⟩ := q
  refine bindX st e p fun F1 m1 S1 d v H1 ev1 l1 st1 rd e1 p1 => ?_
  subst rd
  cases e1
  exact p1 F1 m1 H1 v .refl (Nat.le_refl _) st1.rep rfl)⟩
theorem se_comp (ht : ∀ i ∈ tslots t, i ∈ own.map (·.2)) (hc : X.calm = true) (hN : X.N.Nodup) (hi : PI X tg iter (RX X.K C (rI X.K C) fi)) (ok : BlkOk X.N X.env.scope scope own)
    (hg : ∀ (s : Shared) (H : Hp) (B : Addr) (cl : List (Str × Addr)) (fp : List Addr), PG (X.blk s H scope (compEnvC scope cl B X.env) fp) tg (GX X.K C.blk (tslots t) (fun d env S => setG t d env S)))
    (hcn : ∀ (s : Shared) (H : Hp) (B : Addr) (cl : List (Str × Addr)) (fp : List Addr), PTs (X.blk s H scope (compEnvC scope cl B X.env) fp) ifs (RX X.K C.blk rBl fc))
    (he : ∀ (s : Shared) (H : Hp) (B : Addr) (cl : List (Str × Addr)) (fp : List Addr), PE (X.blk s H scope (compEnvC scope cl B X.env) fp) elt (RX X.K C.blk (rD X.K C.blk) fe)) (hs : ∀ x, foldedSetIterable iter X.env x = pure x) :
    PE X (.ListComp elt [⟨tg, iter, ifs, 0⟩] scope pos) (RX X.K C (rD X.K C) fun env S => bnd (fi env S) (kComp fc fe t (own.map (·.2)) env)) :=
  PE.imp (pe_lc hc hN hi ok hg hcn he hs) fun σ H Q q => comp_le ht q
/-- name = [..] on one line -/
theorem ss_setLc {i : Nat} {y : Str} {py spos : Pos} (ht : ∀ i ∈ tslots t, i ∈ own.map (·.2)) (hc : X.calm = true) (hN : X.N.Nodup) (hy : X.N[i]? = some y) (hyl : X.env.scope.names.lookup y = some .local)
    (hsw : swapsWith (.ListComp elt [⟨tg, iter, ifs, 0⟩] scope pos) (some (.Name y py)) spos.line X.env = pure true) (hi : PI X tg iter (RX X.K C (rI X.K C) fi)) (ok : BlkOk X.N X.env.scope scope own)
    (hg : ∀ (s : Shared) (H : Hp) (B : Addr) (cl : List (Str × Addr)) (fp : List Addr), PG (X.blk s H scope (compEnvC scope cl B X.env) fp) tg (GX X.K C.blk (tslots t) (fun d env S => setG t d env S)))
    (hcn : ∀ (s : Shared) (H : Hp) (B : Addr) (cl : List (Str × Addr)) (fp : List Addr), PTs (X.blk s H scope (compEnvC scope cl B X.env) fp) ifs (RX X.K C.blk rBl fc))
    (he : ∀ (s : Shared) (H : Hp) (B : Addr) (cl : List (Str × Addr)) (fp : List Addr), PE (X.blk s H scope (compEnvC scope cl B X.env) fp) elt (RX X.K C.blk (rD X.K C.blk) fe)) (hs : ∀ x, foldedSetIterable iter X.env x = pure x) :
    PS X (.Assign [.Name y py] (.ListComp elt [⟨tg, iter, ifs, 0⟩] scope pos) spos) (TX X.K C fun env S => thn (gcR S.length (bnd (fi env S) (kComp fc fe t (own.map (·.2)) env))) env (kSet (fun d env S => setG (.n i) d env S) env)) :=
  PS.imp (ps_setLc hc hN hy hyl hsw hi ok hg hcn he hs) fun D σ H q => comp_le ht (RX.gc (by
    obtain ⟨F, m, env, S, r, st, e, p⟩ := q
    refine thnX (f := fun env S => gcR S.length (bnd (fi env S) (kComp fc fe t (own.map (·.2)) env))) st e p fun F1 m1 S1 d v H1 ev1 l1 st1 rd e1 p1 => ?_
    unfold kSet at e1
    dsimp only at e1
    cases e2 : setG (.n i) d env S1 with
    | none => rw [e2] at e1; cases e1
    | some env1 =>
      rw [e2] at e1
      cases e1
      exact gname_le ⟨F1, m1, env, S1, d, env1, st1, rd, e2, fun σ' st' _ => p1 F1 m1 σ' H1 .refl (Nat.le_refl _) st'⟩))
end
end Rf
set_option Elab.async false
set_option linter.all false
set_option maxRecDepth 100000
/-! Stores by place, pairs at once, errors. -/
namespace Rf
open PySem PySem.Spec PyProof.Rows L2
variable {K : PySem.W.Frag} {C : Sc}

section
variable {X : Cx} {a b c e a2 b2 : Expr} {p pos tpos : Pos} {fa fb fa2 fb2 fe : Env → Store → Option (R D)} {es : List Expr} {fs : Env → Store → Option (R (List D))}
/-! ### o[i] = v -/
def kIx (v : D) (env : Env) (k : Store → Out) (x y : D) (S : Store) : Out := match setIndex x y v S with
  | some S4 => k S4
  | none => none
theorem sub_le {F : Hp} {m : Nat → Addr} {env : Env} {S : Store} {σ : L2.St} {H : Hp} {En : Ends} {v : D} {vv : V} {r : Fl × Store} {k : Store → Out} {Q : L2.St → Hp → Prop} (st : Sta X.K C F m env S σ H) (rv : RelD X.K C.ax F m S.length v vv)
    (e : thn (fa env S) env (fun x S2 => thn (fb env S2) env fun y S3 => kIx v env k x y S3) = some r) (p : EPost X.K C F m S.length En r)
    (hk : ∀ F' m' H' S', Evo S.length F m F' m' → S.length ≤ S'.length → Sta X.K C F' m' env S' σ H' → k S' = some r → EPost X.K C F' m' S'.length En r → Q σ H') : gSub (RX X.K C (rD X.K C) fa) (RX X.K C (rD X.K C) fb) (RSet X.K C.ax) vv σ H Q := by
  refine thnX st e p fun F1 m1 S1 x xv H1 ev1 l1 st1 rx e1 p1 => thnX st1 e1 p1 fun F2 m2 S2 y yv H2 ev2 l2 st2 ry e2 p2 => ?_
  unfold kIx at e2
  cases e3 : setIndex x y v S2 with
  | none => rw [e3] at e2; cases e2
  | some S4 =>
    rw [e3] at e2
    exact ⟨F2, m2, S2, x, y, v, S4, st2.rep, RelD.evo ev2 l2 rx, ry, RelD.evo (ev1.trans l1 ev2) (Nat.le_trans l1 l2) rv, e3, fun F' m' H' ev3 l3 r3 =>
      hk F' m' H' S4 ((ev1.trans l1 ev2).trans (Nat.le_trans l1 l2) ev3) (Nat.le_trans (Nat.le_trans l1 l2) l3) (st2.evo ev3 l3 r3) e2 (p2.more ev3 l3)⟩
theorem ss_ix (he : PE X e (RX X.K C (rD X.K C) fe)) (ha : PE X a (RX X.K C (rD X.K C) fa)) (hb : PE X b (RX X.K C (rD X.K C) fb)) (hsl : PlainIx b)
    (hs : swapsWithSole [.Subscript a b tpos] e pos.line X.env = pure false) (hw : swappedStores [.Subscript a b tpos] e X.env = pure none) (has : ∀ v, assign (.Subscript a b tpos) X.env v = (do
      let ov ← holding [v] (eval a X.env)
      let iv ← holding [v, ov] (eval b X.env)
      standAt tpos
      holding [v, ov, iv] (setItem ov iv v)
      release [v, ov, iv] [])) (h1 : (assignEach [.Subscript a b tpos] X.env).map (·.2) = [assign (.Subscript a b tpos) X.env]) :
    PS X (.Assign [.Subscript a b tpos] e pos) (TX X.K C fun env S => thn (fe env S) env fun v S1 => thn (fa env S1) env fun x S2 => thn (fb env S2) env fun y S3 => kIx v env (fun S => some (.nx env, S)) x y S3) :=
  PS.imp (ps_asg he (pg_sub ha hb (rs_set (ax := C.ax)) has) hs hw h1) fun En σ H q => by
    obtain ⟨F, m, env, S, r, st, e, p⟩ := q
    refine thnX st e p fun F1 m1 S1 d v H1 ev1 l1 st1 rd e1 p1 => ?_
    exact sub_le st1 rd e1 p1 fun F' m' H' S' ev l st' e' p' => by
      cases e'
      exact p' F' m' σ H' .refl (Nat.le_refl _) st'
/-- a[b], a2[b2] = a pair -/
def kTwo (env : Env) (k : D → D → Store → Out) (d : D) (S : Store) : Out := match d with
  | .tup [p, q] => k p q S
  | _ => none
theorem kTwo_inv {env : Env} {k : D → D → Store → Out} {d : D} {S : Store} {r : Fl × Store} (h : kTwo env k d S = some r) : ∃ p q, d = .tup [p, q] ∧ k p q S = some r := by
  unfold kTwo at h
  split at h
  · exact ⟨_, _, rfl, h⟩
  · cases h
theorem ss_ix2 {tp1 tp2 : Pos} {kk : Nat} (hc : X.calm = true) (he : PE X e (RX X.K C (rD X.K C) fe)) (ha : PE X a (RX X.K C (rD X.K C) fa)) (hb : PE X b (RX X.K C (rD X.K C) fb)) (ha2 : PE X a2 (RX X.K C (rD X.K C) fa2)) (hb2 : PE X b2 (RX X.K C (rD X.K C) fb2))
    (hs : swapsWithSole [.Tuple [.Subscript a b tp1, .Subscript a2 b2 tp2] kk tpos] e pos.line X.env = pure false) (hw : swappedStores [.Tuple [.Subscript a b tp1, .Subscript a2 b2 tp2] kk tpos] e X.env = pure none)
    (has : ∀ v, assign (.Subscript a b tp1) X.env v = (do
      let ov ← holding [v] (eval a X.env)
      let iv ← holding [v, ov] (eval b X.env)
      standAt tp1
      holding [v, ov, iv] (setItem ov iv v)
      release [v, ov, iv] []))
    (has2 : ∀ v, assign (.Subscript a2 b2 tp2) X.env v = (do
      let ov ← holding [v] (eval a2 X.env)
      let iv ← holding [v, ov] (eval b2 X.env)
      standAt tp2
      holding [v, ov, iv] (setItem ov iv v)
      release [v, ov, iv] [])) :
    PS X (.Assign [.Tuple [.Subscript a b tp1, .Subscript a2 b2 tp2] kk tpos] e pos) (TX X.K C fun env S => thn (fe env S) env (kTwo env fun v w S1 => thn (fa env S1) env fun x S2 => thn (fb env S2) env fun y S3 =>
      kIx v env (fun S => thn (fa2 env S) env fun x S2 => thn (fb2 env S2) env fun y S3 => kIx w env (fun S => some (.nx env, S)) x y S3) x y S3)) :=
  PS.imp (ps_asg he (pg_tup hc (pgs_cons (pg_sub ha hb (rs_set (ax := C.ax)) has) (pgs_cons (pg_sub ha2 hb2 (rs_set (ax := C.ax)) has2) pgs_nil rfl) rfl) rfl rfl) hs hw rfl) fun En σ H q => by
    obtain ⟨F, m, env, S, r, st, e, p⟩ := q
    refine thnX st e p fun F1 m1 S1 d v H1 ev1 l1 st1 rd e1 p1 => ?_
    obtain ⟨u, w, rfl, e2⟩ := kTwo_inv e1
    obtain ⟨t, vs, rfl, ht, rs⟩ := rd
    obtain ⟨uv, wv, rfl, ru, rw'⟩ := two_of rs
    refine ⟨t, _, rfl, SqT.evo ht st1.rep.sub, rfl, uv, [wv], rfl, ?_⟩
    refine sub_le st1 ru e2 p1 fun F' m' H' S' ev l st' e' p' => ⟨wv, [], rfl, ?_⟩
    refine sub_le st' (RelD.evo ev l rw') e' p' fun F' m' H' S' ev l st' e' p' => ⟨rfl, ?_⟩
    cases e'
    exact p' F' m' σ H' .refl (Nat.le_refl _) st'
/-! ### a, b = x, y: names -/
def kPar (is : List Nat) (env : Env) (ds : List D) (S1 : Store) : Out := match setAll is ds env with
  | some env1 => some (.nx env1, S1)
  | none => none
theorem kPar_inv {is : List Nat} {env : Env} {ds : List D} {S1 : Store} {r : Fl × Store} (h : kPar is env ds S1 = some r) : ∃ env1, setAll is ds env = some env1 ∧ r = (.nx env1, S1) := by
  unfold kPar at h
  cases e : setAll is ds env with
  | none => rw [e] at h; cases h
  | some env1 => rw [e] at h; cases h; exact ⟨env1, rfl, rfl⟩
theorem setAll_nil {ds : List D} {env env1 : Env} (h : setAll [] ds env = some env1) : ds = [] ∧ env1 = env := by
  cases ds with
  | nil => cases h; exact ⟨rfl, rfl⟩
  | cons _ _ => cases h
theorem setAll_cons {i : Nat} {is : List Nat} {ds : List D} {env env1 : Env} (h : setAll (i :: is) ds env = some env1) : ∃ d r, ds = d :: r ∧ setAll is r (env.set i (some d)) = some env1 := by
  cases ds with
  | nil => cases h
  | cons d r =>
    unfold setAll at h
    split at h
    · exact ⟨d, r, rfl, h⟩
    · cases h
theorem ss_par2 {i j : Nat} {x y : Str} {px py pt : Pos} {kt k2 : Nat} {pt2 : Pos} (hc : X.calm = true) (hN : X.N.Nodup) (hi : X.N[i]? = some x) (hj : X.N[j]? = some y) (hij : i ≠ j)
    (hx : X.env.scope.names.lookup x = some .local) (hy : X.env.scope.names.lookup y = some .local) (ha : PA X [a, b] (RX X.K C (rDs X.K C) fs))
    (hw : swappedStores [.Tuple [.Name x px, .Name y py] kt pt] (.Tuple [a, b] k2 pt2) X.env = pure (some [x, y])) :
    PS X (.Assign [.Tuple [.Name x px, .Name y py] kt pt] (.Tuple [a, b] k2 pt2) pos) (TX X.K C fun env S => thn (fs env S) env (kPar [i, j] env)) := by
  refine PS.imp (ps_par hc hN hi hj hij hx hy ha hw rfl) fun En σ H q => ?_
  obtain ⟨F, m, env, S, r, st, e, p⟩ := q
  refine thnX st e p fun F1 m1 S1 ds vs H1 ev1 l1 st1 rs e1 p1 => ?_
  obtain ⟨env1, e2, rfl⟩ := kPar_inv e1
  obtain ⟨d1, r1, rfl, e3⟩ := setAll_cons e2
  obtain ⟨d2, r2, rfl, e4⟩ := setAll_cons e3
  obtain ⟨rfl, rfl⟩ := setAll_nil e4
  obtain ⟨v, w, rfl, q1, q2⟩ := two_of rs
  exact ⟨v, w, rfl, p1 F1 m1 _ H1 .refl (Nat.le_refl _) ((st1.set q1).set q2)⟩
theorem three_of {F : Hp} {m : Nat → Addr} {n : Nat} {d e g : D} {vs : List V} (h : RelDs K C.ax F m n [d, e, g] vs) : ∃ v w z, vs = [v, w, z] ∧ RelD K C.ax F m n d v ∧ RelD K C.ax F m n e w ∧ RelD K C.ax F m n g z := by
  obtain ⟨v, r, rfl, h1, h2⟩ := h
  obtain ⟨w, z, rfl, h3, h4⟩ := two_of h2
  exact ⟨v, w, z, rfl, h1, h3, h4⟩
theorem ss_par3 {i j l : Nat} {x y z : Str} {px py pz pt : Pos} {kt k2 : Nat} {pt2 : Pos} (hc : X.calm = true) (hN : X.N.Nodup) (hi : X.N[i]? = some x) (hj : X.N[j]? = some y) (hl : X.N[l]? = some z) (hij : i ≠ j) (hil : i ≠ l) (hjl : j ≠ l)
    (hx : X.env.scope.names.lookup x = some .local) (hy : X.env.scope.names.lookup y = some .local) (hz : X.env.scope.names.lookup z = some .local) (ha : PA X [a, b, c] (RX X.K C (rDs X.K C) fs))
    (hw : swappedStores [.Tuple [.Name x px, .Name y py, .Name z pz] kt pt] (.Tuple [a, b, c] k2 pt2) X.env = pure (some [x, y, z])) :
    PS X (.Assign [.Tuple [.Name x px, .Name y py, .Name z pz] kt pt] (.Tuple [a, b, c] k2 pt2) pos) (TX X.K C fun env S => thn (fs env S) env (kPar [i, j, l] env)) := by
  refine PS.imp (ps_par3 hc hN hi hj hl hij hil hjl hx hy hz ha hw rfl) fun En σ H q => ?_
  obtain ⟨F, m, env, S, r, st, e, p⟩ := q
  refine thnX st e p fun F1 m1 S1 ds vs H1 ev1 l1 st1 rs e1 p1 => ?_
  obtain ⟨env1, e2, rfl⟩ := kPar_inv e1
  obtain ⟨d1, r1, rfl, e3⟩ := setAll_cons e2
  obtain ⟨d2, r2, rfl, e4⟩ := setAll_cons e3
  obtain ⟨d3, r3, rfl, e5⟩ := setAll_cons e4
  obtain ⟨rfl, rfl⟩ := setAll_nil e5
  obtain ⟨v, w, z, rfl, q1, q2, q3⟩ := three_of rs
  exact ⟨v, w, z, rfl, p1 F1 m1 _ H1 .refl (Nat.le_refl _) (((st1.set q1).set q2).set q3)⟩
end
end Rf
set_option Elab.async false
set_option linter.all false
set_option maxRecDepth 100000
/-! Errors: made, raised, caught, looked at. -/
/-! isinstance of a caught error whose fields stand in a dict (the kit's rule asks an error without one) -/
namespace PySem.W
open PySem PySem.Spec PySem.Calls PyProof.Rows
section
variable {prog : Program} {w : World} {A : Around} {E : Value → Shared → Prop} {s : Shared} {K : Frag} {y G : Addr} {oy : Obj} {dy : Option Obj}
theorem find_cls {a g : Value} {name : Str} (hc : (clsIn K G).isSome = true) (ha : findIn K (.ref G) name = some (some a)) (hg : specialIn K a "__get__" = some (some g)) (ht : takesIn K a = some true) :
    findObj K G dy name = some (.bind g a) := by
  obtain ⟨cd, hc⟩ := Option.isSome_iff_exists.mp hc
  unfold findObj
  rw [hc, Option.bind_some, ha, Option.bind_some]
  simp [hg, ht]
theorem cls_of_err {Q : Option Value → Shared → Prop} (c : L2.ExcC K G) (X : K.In s.heap) (I : InstAt s.heap y oy G dy) (q : Q (some (.ref G)) { s with toks := s.toks + 1 }) :
    wpAny (model prog w) A (getAttr? (.ref y) "__class__") Q E s := by
  have hf : findObj K G dy "__class__" = some (.bind (.builtin "getset_descriptor.__get__") (.builtin "object.__class__")) := find_cls (by obtain ⟨cd, z, _⟩ := any_some c.hd; rw [z]; rfl) c.ha c.hn c.ht
  obtain ⟨hp, gg, dd, tt, oo⟩ := s
  have T0 := I.type (M := model prog w)
  have T1 := looks_findIn (M := model prog w) X c.hg
  have T2 := looks_findIn (M := model prog w) X c.hk
  have T3 := looks_find (M := model prog w) X I hf
  have T4 : Looks (model prog w) hp (isInstance (.ref y) (.type "BaseException")) true := T0.andThen (looks_subIn X c.hs)
  have b0 : (false && onTheHeap (Value.builtin "BaseException.__getattribute__")) = false := rfl
  have b2 : (Value.builtin "BaseException.__getattribute__" == Value.builtin "object.__getattribute__") = false := by decide +kernel
  have b1 : (onTheHeap (Value.ref G) && Value.builtin "BaseException.__getattribute__" == Value.builtin "object.__getattribute__") = false := by
    rw [b2]; rfl
  unfold getAttr? getAttrBy? getAttrBy
  refine wpAny_bind (wpAny_mkText (wpAny_bind (wpAny_attempt (wpAny_holding (wpAny_bind (T0.at (wpAny_bind (T1.at ?_))))))))
  show wpAny _ _ (if (onTheHeap (Value.ref G) && Value.builtin "BaseException.__getattribute__" == Value.builtin "object.__getattribute__") = true then _ else _) _ _ _
  rw [b1, if_neg Bool.false_ne_true]
  unfold getAttrByItsOwn hookBefore
  refine wpAny_bind ?_
  rw [if_pos (show onTheHeap (Value.ref G) = true from rfl)]
  refine T2.at ?_
  refine wpAny_bind (wpAny_attempt (wpAny_holding ?_))
  unfold callGetattribute
  rw [b0, if_neg Bool.false_ne_true]
  unfold boundAndCalled
  rw [PySem.F.excAttr_ValueError.ga.bind (.ref y)]
  refine wpAny_bind (wpAny_pure ?_)
  show wpAny _ _ (call (.builtin "BaseException.__getattribute__") [.ref y, .str "__class__" tt]) _ _ _
  refine wpAny_call (codeAny_call_builtin PySem.F.excAttr_ValueError.ga.plain PySem.F.entry_bexc_ga ?_)
  refine @check_slot (model prog w) _ _ ⟨hp, gg, dd, tt + 1, oo⟩ "BaseException.__getattribute__" "BaseException" "__getattribute__" (.ref y) [.str "__class__" tt] [] _ (by decide +kernel) (by decide +kernel) T4
    (PySem.F.args_bexc_ga (.ref y) (.str "__class__" tt)) ?_
  unfold Builtin.«object.__getattribute__»
  refine wpAny_bind (wpAny_of_eq (a := ((Value.ref y : Value), [Value.str "__class__" tt])) (by first | rfl | (simp only [slotArgs]; rfl)) ?_)
  refine wpAny_bind (wpAny_pure (wpAny_bind (T0.at (wpAny_bind (T3.at ?_)))))
  show wpAny _ _ (holding [Value.builtin "object.__class__"] (call (.builtin "getset_descriptor.__get__") [.builtin "object.__class__", .ref y, .ref G]) >>= ret) _ _ _
  refine wpAny_bind (wpAny_holding (wpAny_call (class_get (s := ⟨hp, gg, dd, tt + 1, oo⟩) (ox := oy) (od := dy) X I c.hm ?_)))
  refine wpAny_pure ?_
  show wpAny _ _ (handedOut (.ref G)) _ _ _
  rw [handedOut_of (v := .ref G) rfl]
  first
    | exact wpAny_pure (wpAny_pure q)
    | exact wpAny_pure q
    | exact wpAny_pure (wpAny_bind (wpAny_pure (wpAny_pure q)))
theorem kit_err (c : L2.ExcC K G) : KitX K (.ref y) (.ref G) (fun h => InstAt h y oy G dy) where
  ty := fun _ _ _ I => I.type
  it := fun _ _ X _ => by
    obtain ⟨cd, hc, _⟩ := any_some c.hd
    unfold clsIn at hc
    split at hc
    · rename_i c1 d1 cd1 sl1 ho
      intro A' Q' E' s' k q
      unfold isType loadHead
      exact wpAny_bind (wpAny_loadPart (k _ _ (X _ _ ho)) (wpAny_pure q))
    · cases hc
  ne := fun h tp dd its n sl X htp => by
    obtain ⟨cd, hc, _⟩ := any_some c.hd
    refine Bool.eq_false_iff.mpr fun q => ?_
    have e : G = tp := Value.ref.inj (beq_iff_eq.mp q)
    subst e
    unfold clsIn at hc
    split at hc
    · rename_i c1 d1 cd1 sl1 ho
      have z := (X _ _ ho).symm.trans htp
      cases z
    · cases hc
  ca := fun X I k => cls_of_err c X I k
end
end PySem.W

namespace Rf
open PySem PySem.Spec PyProof.Rows L2
variable {K : PySem.W.Frag} {C : Sc}
section
variable {X : Cx} {a b c e : Expr} {p p2 pos pos2 : Pos} {es : List Expr} {x : Str} {fa fb : Env → Store → Option (R D)} {fs : Env → Store → Option (R (List D))}

/-! ### raise X() -/
theorem pmk_own0 {Ca : Addr} (q : PySem.W.excIn X.K Ca [.type "ValueError", .type "Exception", .type "BaseException", .type "object"] "ValueError.__new__" = true) (gC : X.mg x = some (.ref Ca)) (kC : PySem.W.keepIn X.K (.ref Ca) = true) (r : Raises X (.ref Ca)) (hg : Gl X x)
    (hdb : (x == ("__debug__" : Str)) = false) : PMk X (.Call (.Name x p) [] [] pos) (fun _ H Q => Q (.ref Ca) none H) := by
  intro pins s σ H Q I h
  refine wpAny_Call_Name_kw (ld_glob I hg gC ?_ hdb)
  refine PySem.W.callWith_K0 I.kIn kC ?_
  show wpAny _ _ (call (.ref Ca) []) _ _ _
  obtain ⟨bm, N, nm, qn, bs, hdct, sn, sub, ab, col, dd, k0, k1, k2, k3, k5, mN, hC, hN, hni, T⟩ := exc_obj I.kIn q
  refine wpAny_call_exc_subT PySem.F.excBase_ValueError T hC hN hni (fun h' e hm => ?_) (Nat.zero_le _)
  exact mk_of I hm r h (I.hok.gone hm.new)
theorem ss_raise0 {Ca : Addr} (hc : X.calm = true) (tk : Takes X C.W) (q : PySem.W.excIn X.K Ca [.type "ValueError", .type "Exception", .type "BaseException", .type "object"] "ValueError.__new__" = true) (gC : X.mg x = some (.ref Ca)) (kC : PySem.W.keepIn X.K (.ref Ca) = true) (r : Raises X (.ref Ca)) (hg : Gl X x)
    (hdb : (x == ("__debug__" : Str)) = false) (hx : x ∈ C.ax.xs) (ha : Ca = He.ga X.K x) : PS X (.Raise (some (.Call (.Name x p) [] [] pos)) none pos2) (TX X.K C fun env S => some (.xc ⟨x, none⟩ env, S)) :=
  PS.imp (L2.ps_raise hc tk (pmk_own0 q gC kC r hg hdb)) fun D σ H q => by
    obtain ⟨F, m, env, S, r, st, e, p⟩ := q
    cases e
    exact p F m σ H _ none .refl (Nat.le_refl _) st ⟨⟨hx, by rw [ha]⟩, rfl⟩
/-! ### raise X(e): X's __init__ stores the field -/
/-- what X.__init__ keeps to -/
def spInit (K : PySem.W.Frag) (f : Str) : Sp := fun vs H Q E => ∃ (a Ca : Addr) (v : V), vs = [.ref a, v] ∧ OexC K Ca ∧ PySem.W.findIn K (.ref Ca) f = some none ∧ H a = some (exo a Ca none) ∧
  ∀ dx, H dx = none → dx ≠ a → Q .non (upd (upd H dx (exd dx [(f, v)])) a (exo a Ca (some dx)))
def kRaise (x f : Str) (env : Env) (ds : List D) (S : Store) : Out := match ds with
  | [d] => if D.lt 0 (frz d S).1 then some (.xc ⟨x, some (f, (frz d S).1)⟩ env, (frz d S).2) else none
  | _ => none
theorem kRaise_inv {x f : Str} {env : Env} {ds : List D} {S : Store} {r : Fl × Store} (h : kRaise x f env ds S = some r) : ∃ d, ds = [d] ∧ D.lt 0 (frz d S).1 = true ∧ r = (.xc ⟨x, some (f, (frz d S).1)⟩ env, (frz d S).2) := by
  unfold kRaise at h
  split at h
  · split at h
    · rename_i hl
      cases h
      exact ⟨_, rfl, hl, rfl⟩
    · cases h
  · cases h
theorem ss_raise1 {f : Str} {k : Nat} {fI : Addr} {fd : FuncData} {ps : List Str} (hc : X.calm = true) (tk : Takes X C.W) (T : OexC X.K (He.ga X.K x)) (iC : PySem.W.findIn X.K (.ref (He.ga X.K x)) "__init__" = some (some (.ref fI))) (tI : PySem.W.typeIn X.K (.ref fI) = some (.type "function"))
    (nf : PySem.W.findIn X.K (.ref (He.ga X.K x)) f = some none) (F1 : FnOk X.prog X.w X.K X.mg X.base (L2.CX X.prog X.w) k fI fd ps (spInit X.K f)) (hr : Room (k + 1) X.A) (hb : Binds X.K fd ps []) (hg : Gl X x) (hm : X.mg x = some (.ref (He.ga X.K x)))
    (ha : PA X (e :: es) (RX X.K C (rDs X.K C) fs)) (hs : noStars (e :: es) = true) (hdb : (x == ("__debug__" : Str)) = false) (hx : x ∈ C.ax.xs) (hf : (x, f) ∈ C.ax.xf) :
    PS X (.Raise (some (.Call (.Name x p) (e :: es) [] pos)) none pos2) (TX X.K C fun env S => thn (fs env S) env (kRaise x f env)) := by
  have h' : noStar e = true ∧ noStars es = true := by simpa [noStars] using hs
  refine PS.imp (L2.ps_raise hc tk (pmk_oex T iC tI F1 hr hb .nil (passes_call tk (fun _ _ _ _ z => z.elim)) hg hm ha hdb (star_cons h'.1) (star_any h'.2))) fun D σ H q => ?_
  obtain ⟨F, m, env, S, r, st, e, p⟩ := q
  refine thnX st e p fun F1 m1 S1 ds vs H1 ev1 l1 st1 rs e1 p1 => ?_
  obtain ⟨d, rfl, hl, rfl⟩ := kRaise_inv e1
  obtain ⟨v, rfl, rd⟩ := one_of rs
  refine ⟨show 1 ≤ 1000 by decide, fun a hna => ⟨a, _, v, rfl, T, nf, upd_same, fun dx hdx hne => ⟨rfl, dx, [(f, v)], upd_same, ?_, ?_, ?_⟩⟩⟩
  · rw [upd_ne hne, upd_same]
  · rw [← hdx, upd_ne hne]
  · have ndx : H1 dx = none := by rw [← hdx, upd_ne hne]
    have eH : upd (del (upd (upd (upd H1 a (exo a (He.ga X.K x) none)) dx (exd dx [(f, v)])) a (exo a (He.ga X.K x) (some dx))) a) dx (.xd [(f, v)]) = upd H1 dx (.xd [(f, v)]) := by
      funext b
      by_cases hb1 : b = dx
      · rw [hb1, upd_same, upd_same]
      · rw [upd_ne hb1, upd_ne hb1]
        by_cases hb2 : b = a
        · rw [hb2, del_same, hna]
        · rw [del_ne hb2, upd_ne hb2, upd_ne hb1, upd_ne hb2]
    rw [eH]
    obtain ⟨F2, r2, rd2, l2, ev2⟩ := st1.rep.frz rd
    have ev3 : Evo S1.length F1 m1 (upd F2 dx (.xd [(f, v)])) m1 := (ev2 _).trans (Nat.le_refl _) (evoF r2 ndx)
    have r3 := r2.newF (o := .xd [(f, v)]) ndx
    exact p1 _ m1 σ _ _ (some dx) ev3 (Nat.le_of_eq l2.symm) (st1.evo ev3 (Nat.le_of_eq l2.symm) r3) ⟨⟨hx, rfl⟩, hf, dx, v, rfl, upd_same, rel0 ((rd2.low hl).evo (evoF r2 ndx) (Nat.le_refl _))⟩
/-! ### try: .. except X [as n]: .. -/
abbrev Sc.suite (C : Sc) (e : Ex) (cls : Value) (d : Option Addr) (ev : Option (Nat × Addr)) : Sc := { ax := C.ax, W := fun _ _ _ _ => False, si := some (e, cls, d), ev := ev }
abbrev Sc.wish (C : Sc) (W : WX) : Sc := { C with W := W }
theorem Sta.wish {F H : Hp} {m : Nat → Addr} {env : Env} {S : Store} {σ : L2.St} {W : WX} (st : Sta K C F m env S σ H) : Sta K (C.wish W) F m env S σ H := ⟨st.rep, st.len, st.at_, st.sui, st.exv⟩
theorem Sta.unwish {F H : Hp} {m : Nat → Addr} {env : Env} {S : Store} {σ : L2.St} {W : WX} (st : Sta K (C.wish W) F m env S σ H) : Sta K C F m env S σ H := ⟨st.rep, st.len, st.at_, st.sui, st.exv⟩
/-- out of the suite -/
theorem Sta.out {F H : Hp} {m : Nat → Addr} {env : Env} {S : Store} {σ : L2.St} {e : Ex} {cls : Value} {d : Option Addr} {ev : Option (Nat × Addr)} (h1 : C.si = none) (h2 : C.ev = none) (st : Sta K (C.suite e cls d ev) F m env S σ H) : Sta K C F m env S σ H :=
  ⟨st.rep, st.len, st.at_, fun _ _ _ z => (by rw [h1] at z; cases z), fun _ _ z => (by rw [h2] at z; cases z)⟩
theorem Sta.del {F H : Hp} {m : Nat → Addr} {env : Env} {S : Store} {σ : L2.St} (h2 : C.ev = none) (st : Sta K C F m env S σ H) (i : Nat) (o : Option V) : Sta K C F m (env.set i none) S (σ.set i o) H := by
  refine ⟨st.rep, by rw [List.length_set, List.length_set]; exact st.len, fun j d hj => ?_, st.sui, fun _ _ z => by rw [h2] at z; cases z⟩
  by_cases hij : i = j
  · subst hij
    have hl : i < env.length := by
      have := lt_of_get hj
      rwa [List.length_set] at this
    rw [List.getElem?_set_self hl] at hj
    cases hj
  · rw [List.getElem?_set_ne hij] at hj ⊢
    exact st.at_ j d hj
def kTry (x : Str) (h : Ex → Env → Store → Out) (r : Out) : Out := match r with
  | some (.xc e env1, S1) => if subEx e.cls x then
      match h e env1 S1 with
      | some (.nx env2, S2) => some (.nx env2, S2)
      | some (.rt d, S2) => some (.rt d, S2)
      | _ => none
    else some (.xc e env1, S1)
  | r => r
variable {f : Env → Store → Out} {fh : Ex → Env → Store → Out} {body suite : List Stmt} {b₀ : Stmt} {np pos' : Pos} {n : Str} {cv : Value}
theorem kTry_xc {e : Ex} {env1 : Env} {S1 : Store} {r : Fl × Store} (h : kTry x fh (some (.xc e env1, S1)) = some r) :
    (subEx e.cls x = true ∧ ∃ fl S2, fh e env1 S1 = some (fl, S2) ∧ r = (fl, S2) ∧ ((∃ env2, fl = .nx env2) ∨ ∃ d, fl = .rt d)) ∨ (subEx e.cls x = false ∧ r = (.xc e env1, S1)) := by
  simp only [kTry] at h
  split at h
  · rename_i hs
    refine .inl ⟨hs, ?_⟩
    split at h
    · rename_i env2 S2 e2
      cases h
      exact ⟨_, _, e2, rfl, .inl ⟨_, rfl⟩⟩
    · rename_i d S2 e2
      cases h
      exact ⟨_, _, e2, rfl, .inr ⟨_, rfl⟩⟩
    · cases h
  · rename_i hs
    cases h
    exact .inr ⟨by simpa using hs, rfl⟩
/-- the body's end, given the wish W of the clause -/
theorem try_core {F H : Hp} {m : Nat → Addr} {env : Env} {S : Store} {σ : L2.St} {En : Ends} {r : Fl × Store} {W : WX} (st : Sta K C F m env S σ H) (k : Out → Out) (hk : ∀ r0, (∀ e env1, r0.1 ≠ .xc e env1) → k (some r0) = some r0) (hn : k none = none)
    (e : k (f env S) = some r) (p : EPost K C F m S.length En r) (hx : ∀ e env1 S1, k (some (.xc e env1, S1)) = some r → ∀ F' m' σ' H' cls d, Evo S.length F m F' m' → S.length ≤ S1.length → Sta K C F' m' env1 S1 σ' H' → RelX K C.ax F' e cls d → W cls d σ' H') :
    TX K (C.wish W) f En σ H := by
  cases e0 : f env S with
  | none => rw [e0, hn] at e; cases e
  | some r0 =>
    refine ⟨F, m, env, S, r0, st.wish, e0, ?_⟩
    rw [e0] at e
    obtain ⟨fl, S1⟩ := r0
    cases fl with
    | xc x env1 => exact fun F' m' σ' H' cls d ev l st' rx => hx x env1 S1 e F' m' σ' H' cls d ev l st'.unwish rx
    | nx env1 => rw [hk _ (fun _ _ z => by cases z)] at e; cases e; exact fun F' m' σ' H' ev l st' => p F' m' σ' H' ev l st'.unwish
    | bk env1 => rw [hk _ (fun _ _ z => by cases z)] at e; cases e; exact fun F' m' σ' H' ev l st' => p F' m' σ' H' ev l st'.unwish
    | rt d => rw [hk _ (fun _ _ z => by cases z)] at e; cases e; exact p
theorem ss_tryOnly (hs : X.stack = X.env :: X.outer) (hf : X.env.frame = some X.env.locals) (hc : Names X x cv) (tk : Takes X C.W) (h1 : C.si = none) (h2 : C.ev = none) (hm : ∀ y ∈ C.ax.xs, PySem.W.exmOne X.K (.ref (He.ga X.K y)) cv = some (subEx y x))
    (hb : ∀ (W : WX) (pn : List (Addr × Obj)) (xe : Value → Shared → Prop), Takes (X.tr pn xe) W → PassesOwn (model X.prog X.w) X.A X.env xe → PSs (X.tr pn xe) body (TX X.K (C.wish W) f))
    (hsu : ∀ (a : Addr) (oe : Obj) (cls : Value) (d : Option Addr) (pn : List (Addr × Obj)) (e : Ex), Zc cls d oe → (∃ vs, oe.data = .fields vs) → PSs (X.suite a ((a, oe) :: pn)) (b₀ :: suite) (TX X.K (C.suite e cls d none) (fh e))) :
    PS X (.Try body [.ExceptHandler (some (.Name x np)) none (b₀ :: suite) pos'] [] [] pos) (TX X.K C fun env S => kTry x fh (f env S)) := by
  refine PS.imp (ps_try_only (tb := fun W => TX X.K (C.wish W) f) (ts := fun _ cls d => fun D σ H => ∃ e, TX X.K (C.suite e cls d none) (fh e) D σ H) hs hf hc tk hb fun a oe cls d pn hz hv => ⟨fun pins s σ H D I q => ?_⟩) fun En σ H q => ?_
  · obtain ⟨e, q⟩ := q
    exact (hsu a oe cls d pn e hz hv).run pins s σ H D I q
  · obtain ⟨F, m, env, S, r, st, e, p⟩ := q
    refine try_core st (kTry x fh) (fun r0 hr => ?_) rfl e p fun e env1 S1 ek F' m' σ' H' cls d ev l st' rx => ?_
    · obtain ⟨fl, S1⟩ := r0
      cases fl with
      | xc e env1 => exact absurd rfl (hr e env1)
      | _ => rfl
    · have hcl := rx.1
      refine ⟨subEx e.cls x, by rw [hcl.2]; exact hm _ hcl.1, fun hy a ha => ⟨e, F', m', env1, S1, ?_⟩, fun hn => ?_⟩
      · rcases kTry_xc ek with ⟨_, fl, S2, e2, rfl, hfl⟩ | ⟨z, _⟩
        · refine ⟨(fl, S2), ⟨st'.rep, st'.len, st'.at_, fun e1 c1 d1 z => by cases z; exact rx, fun _ _ z => by cases z⟩, e2, ?_⟩
          have p' := p.more ev l
          rcases hfl with ⟨env2, rfl⟩ | ⟨dd, rfl⟩
          · exact fun F2 m2 σ2 H2 ev2 l2 st2 => p' F2 m2 σ2 H2 ev2 l2 (st2.out h1 h2)
          · exact p'
        · rw [hy] at z; cases z
      · rcases kTry_xc ek with ⟨z, _⟩ | ⟨_, rfl⟩
        · rw [hn] at z; cases z
        · exact p F' m' σ' H' cls d ev l st' rx
def kTryAs (x : Str) (i : Nat) (h : Ex → Env → Store → Out) (r : Out) : Out := match r with
  | some (.xc e env1, S1) => if subEx e.cls x then
      match h e (env1.set i none) S1 with
      | some (.nx env2, S2) => some (.nx (env2.set i none), S2)
      | some (.rt d, S2) => some (.rt d, S2)
      | _ => none
    else some (.xc e env1, S1)
  | r => r
theorem kTryAs_xc {i : Nat} {e : Ex} {env1 : Env} {S1 : Store} {r : Fl × Store} (h : kTryAs x i fh (some (.xc e env1, S1)) = some r) :
    (subEx e.cls x = true ∧ ∃ fl S2, fh e (env1.set i none) S1 = some (fl, S2) ∧ ((∃ env2, fl = .nx env2 ∧ r = (.nx (env2.set i none), S2)) ∨ ∃ d, fl = .rt d ∧ r = (.rt d, S2))) ∨ (subEx e.cls x = false ∧ r = (.xc e env1, S1)) := by
  simp only [kTryAs] at h
  split at h
  · rename_i hs
    refine .inl ⟨hs, ?_⟩
    split at h
    · rename_i env2 S2 e2
      cases h
      exact ⟨_, _, e2, .inl ⟨_, rfl, rfl⟩⟩
    · rename_i d S2 e2
      cases h
      exact ⟨_, _, e2, .inr ⟨_, rfl, rfl⟩⟩
    · cases h
  · rename_i hs
    cases h
    exact .inr ⟨by simpa using hs, rfl⟩
theorem ss_tryAs {i : Nat} (hs : X.stack = X.env :: X.outer) (hf : X.env.frame = some X.env.locals) (hN : X.N.Nodup) (hi : X.N[i]? = some n) (hln : X.env.kindOf n = some .local) (hc : Names X x cv) (tk : Takes X C.W) (h1 : C.si = none) (h2 : C.ev = none)
    (hm : ∀ y ∈ C.ax.xs, PySem.W.exmOne X.K (.ref (He.ga X.K y)) cv = some (subEx y x))
    (hb : ∀ (W : WX) (pn : List (Addr × Obj)) (xe : Value → Shared → Prop), Takes (X.tr pn xe) W → PassesOwn (model X.prog X.w) X.A X.env xe → PSs (X.tr pn xe) body (TX X.K (C.wish W) f))
    (hsu : ∀ (a : Addr) (oe : Obj) (cls : Value) (d : Option Addr) (pn : List (Addr × Obj)) (e : Ex), Zc cls d oe → (∃ vs, oe.data = .fields vs) → PSs (X.suite a ((a, oe) :: pn)) (b₀ :: suite) (TX X.K (C.suite e cls d (some (i, a))) (fh e))) :
    PS X (.Try body [.ExceptHandler (some (.Name x np)) (some n) (b₀ :: suite) pos'] [] [] pos) (TX X.K C fun env S => kTryAs x i fh (f env S)) := by
  refine PS.imp (ps_try_as (tb := fun W => TX X.K (C.wish W) f) (ts := fun a cls d => fun D σ H => ∃ e, TX X.K (C.suite e cls d (some (i, a))) (fh e) D σ H) hs hf hN hi hln hc tk hb fun a oe cls d pn hz hv => ⟨fun pins s σ H D I q => ?_⟩) fun En σ H q => ?_
  · obtain ⟨e, q⟩ := q
    exact (hsu a oe cls d pn e hz hv).run pins s σ H D I q
  · obtain ⟨F, m, env, S, r, st, e, p⟩ := q
    refine try_core st (kTryAs x i fh) (fun r0 hr => ?_) rfl e p fun e env1 S1 ek F' m' σ' H' cls d ev l st' rx => ?_
    · obtain ⟨fl, S1⟩ := r0
      cases fl with
      | xc e env1 => exact absurd rfl (hr e env1)
      | _ => rfl
    · have hcl := rx.1
      refine ⟨subEx e.cls x, by rw [hcl.2]; exact hm _ hcl.1, fun hy a ha => ⟨e, F', m', env1.set i none, S1, ?_⟩, fun hn => ?_⟩
      · rcases kTryAs_xc ek with ⟨_, fl, S2, e2, hfl⟩ | ⟨z, _⟩
        · have s2 := st'.del h2 i (some (.ref a))
          refine ⟨(fl, S2), ⟨s2.rep, s2.len, s2.at_, fun e1 c1 d1 z => by cases z; exact rx, fun j b z hj => ?_⟩, e2, ?_⟩
          · cases z
            have hl := lt_of_get hj
            rw [List.length_set] at hl
            rw [List.getElem?_set_self (by rw [← st'.len]; exact hl)]
          · have p' := p.more ev l
            rcases hfl with ⟨env2, rfl, rfl⟩ | ⟨dd, rfl, rfl⟩
            · exact fun F2 m2 σ2 H2 ev2 l2 st2 => p' F2 m2 _ H2 ev2 l2 ((st2.out h1 h2).del h2 i none)
            · exact p'
        · rw [hy] at z; cases z
      · rcases kTryAs_xc ek with ⟨z, _⟩ | ⟨_, rfl⟩
        · rw [hn] at z; cases z
        · exact p F' m' σ' H' cls d ev l st' rx
end

/-! ### the caught error -/
theorem pe_none {X : Cx} {e : Expr} {t : TE} (h : ∀ σ H Q, ¬ t σ H Q) : PE X e t := ⟨fun _ _ σ H Q _ q => absurd q (h σ H Q)⟩
section
variable {Y : Cx} {a : Addr} {oe : Obj} {pn : List (Addr × Obj)} {cls : Value} {d : Option Addr} {e : Ex} {i : Nat} {n g : Str} {p p2 pos : Pos}
def kFld (ex : Option Ex) (i : Nat) (f : Str) (env : Env) (S : Store) : Option (R D) := match ex, env[i]? with
  | some ⟨_, some (g, d)⟩, some none => if g = f then some (.ok d S) else none
  | _, _ => none
def kIs (ex : Option Ex) (i : Nat) (b : Str) (env : Env) (S : Store) : Option (R D) := match ex, env[i]? with
  | some e, some none => some (.ok (.bl (subEx e.cls b)) S)
  | _, _ => none
theorem se_exFld (hz : Zc cls d oe) (hv : ∃ vs, oe.data = .fields vs) (T : ∀ y ∈ C.ax.xs, XfC Y.K (He.ga Y.K y)) (hno : ∀ q ∈ C.ax.xf, PySem.W.findIn Y.K (.ref (He.ga Y.K q.1)) q.2 = some none) (hN : Y.N[i]? = some n) (hvis : Vis Y.env.scope n)
    (hd : (n == ("__debug__" : Str)) = false) (hcd : (n == ("__classdict__" : Str)) = false) :
    PE (Y.suite a ((a, oe) :: pn)) (.Attribute (.Name n p) g pos) (RX Y.K (C.suite e cls d (some (i, a))) (rD Y.K (C.suite e cls d (some (i, a)))) (kFld (some e) i g)) := by
  by_cases hk : e.cls ∈ C.ax.xs ∧ (e.cls, g) ∈ C.ax.xf
  · refine PE.imp (pe_xf (T _ hk.1) (hno _ hk.2) hz hv (pe_var (X := Y.suite a ((a, oe) :: pn)) hN hvis hd hcd) (base_plain rfl)) fun σ H Q q => ?_
    obtain ⟨F, m, env, S, r, st, e1, p⟩ := q
    have rx := st.sui e cls d rfl
    unfold kFld at e1
    obtain ⟨ec, ef⟩ := e
    obtain ⟨⟨hc, rfl⟩, h2⟩ := rx
    cases ef with
    | none => cases e1
    | some gf =>
      obtain ⟨g', df⟩ := gf
      dsimp only at e1 h2
      cases e2 : env[i]? with
      | none => rw [e2] at e1; cases e1
      | some o =>
        cases o with
        | some _ => rw [e2] at e1; cases e1
        | none =>
          rw [e2] at e1
          dsimp only at e1
          split at e1
          · rename_i hg
            subst hg
            cases e1
            obtain ⟨_, dd, v, rfl, hF, hr⟩ := h2
            refine ⟨_, st.exv i a rfl e2, rfl, rfl, dd, _, v, rfl, st.rep.sub _ _ hF, by simp [List.lookup], p F m H v .refl (Nat.le_refl _) st.rep ((rel0 (m' := m) hr).evo .refl (Nat.zero_le _))⟩
          · cases e1
  · refine pe_none fun σ H Q q => ?_
    obtain ⟨F, m, env, S, r, st, e1, p⟩ := q
    obtain ⟨⟨hc, _⟩, h2⟩ := st.sui e cls d rfl
    unfold kFld at e1
    obtain ⟨ec, ef⟩ := e
    cases ef with
    | none => cases e1
    | some gf =>
      obtain ⟨g', df⟩ := gf
      dsimp only at e1 h2
      split at e1
      · rename_i z1 z2
        cases z1
        split at e1
        · rename_i hg
          subst hg
          exact hk ⟨hc, h2.1⟩
        · cases e1
      · cases e1
/-- isinstance(e, x) -/
theorem se_exIs {b : Expr} {x : Str} {cx : V} {cu : Value} (hz : Zc cls d oe) (hv : ∃ vs, oe.data = .fields vs) (T : ∀ y ∈ C.ax.xs, ExcC Y.K (He.ga Y.K y)) (hk : ∀ y ∈ C.ax.xs, PySem.W.kitOne Y.K (.ref (He.ga Y.K y)) cu = some (subEx y x)) (hN : Y.N[i]? = some n) (hvis : Vis Y.env.scope n)
    (hd : (n == ("__debug__" : Str)) = false) (hcd : (n == ("__classdict__" : Str)) = false) (hg : Gl Y "isinstance") (hm : Y.mg "isinstance" = none) (hb : PE (Y.suite a ((a, oe) :: pn)) b (tC cx)) (hcx : ∀ u, RelV cx u → u = cu) (hs : noStar b = true) :
    PE (Y.suite a ((a, oe) :: pn)) (.Call (.Name "isinstance" p) [.Name n p2, b] [] pos) (RX Y.K (C.suite e cls d (some (i, a))) (rD Y.K (C.suite e cls d (some (i, a)))) (kIs (some e) i x)) := by
  have rule : CallR (Y.suite a ((a, oe) :: pn)) (.builtin "isinstance") (fun xs H Q => xs = [.ref a, cx] ∧ ∃ (G : Addr) (k : Bool), cls = .ref G ∧ ExcC Y.K G ∧ PySem.W.kitOne Y.K (.ref G) cu = some k ∧ (∀ dd, d = some dd → ∃ fs, H dd = some (.xd fs)) ∧ Q (.bl k) H) := by
    intro pins s σ H xs us Q I r h
    obtain ⟨rfl, G, k, rfl, c, ek, hdd, q⟩ := h
    obtain ⟨u1, u2, rfl, r1, r2⟩ := vals2 r
    cases (show u1 = Value.ref a from r1)
    have ec := hcx _ r2
    subst ec
    obtain ⟨hget, _⟩ := I.pin (a, oe) (List.mem_append.mpr (.inl List.mem_cons_self))
    obtain ⟨vs, hv⟩ := hv
    have nc : PySem.W.notCls oe = true := by
      unfold PySem.W.notCls
      rw [hv]
    have J : ∃ od, PySem.W.InstAt s.heap a oe G od := by
      cases d with
      | none => exact ⟨none, hget, hz.1, nc, by rw [hz.2]; trivial⟩
      | some dd =>
        obtain ⟨fs, hx⟩ := hdd dd rfl
        have hx : ObjOk Y.prog Y.w H s.heap dd (.xd fs) := I.hok dd _ hx
        obtain ⟨mA, hns, hr⟩ := hx
        obtain ⟨od, ho, hl⟩ := lookIn_ns hns
        exact ⟨some od, hget, hz.1, nc, by rw [hz.2]; exact ho⟩
    obtain ⟨od, J⟩ := J
    exact PySem.W.kia_one (PySem.W.kit_err c) I.kIn J ek (fun z => nomatch z) fun tk => ⟨.bl k, H, I.tok tk, rfl, q⟩
  refine PE.imp (pe_callB (X := Y.suite a ((a, oe) :: pn)) rule hg hm (by decide +kernel) (pa_cons (pe_var (X := Y.suite a ((a, oe) :: pn)) hN hvis hd hcd) (pa_cons hb pa_nil (star_cons hs)) rfl) (by decide) (by decide) rfl (star_any (by simpa [noStars] using hs))) fun σ H Q q => ?_
  obtain ⟨F, m, env, S, r, st, e1, p⟩ := q
  obtain ⟨⟨hc, rfl⟩, h2⟩ := st.sui e cls d rfl
  unfold kIs at e1
  cases e2 : env[i]? with
  | none => rw [e2] at e1; cases e1
  | some o =>
    cases o with
    | some _ => rw [e2] at e1; cases e1
    | none =>
      rw [e2] at e1
      cases e1
      refine ⟨_, st.exv i a rfl e2, rfl, _, _, rfl, T _ hc, hk _ hc, fun dd hdd => ?_, p F m H _ .refl (Nat.le_refl _) st.rep rfl⟩
      cases ef : e.fld with
      | none => rw [ef] at h2; rw [h2] at hdd; cases hdd
      | some gf =>
        obtain ⟨g', df⟩ := gf
        rw [ef] at h2
        obtain ⟨_, dd', v, h3, hF, _⟩ := h2
        rw [h3] at hdd
        cases hdd
        exact ⟨_, st.rep.sub _ _ hF⟩
end
end Rf
set_option Elab.async false
set_option linter.all false
set_option maxRecDepth 100000
/-! Tracks are made. -/
namespace Rf
open PySem PySem.Spec PyProof.Rows L2
variable {K : PySem.W.Frag} {C : Sc}

/-- what Track.__init__ keeps to: self stands at x without fields -/
def spTrk (K : PySem.W.Frag) (ax : Aux) : Sp := fun vs H Q E => vs.length = 4 ∧ ∃ F m S ds r x dx ws, vs = .ref x :: ws ∧ H x = some (.ins ax.CT dx []) ∧ F x = none ∧ (∀ i, i < S.length → m i ≠ x) ∧ Rep K ax F m S H ∧ RelDs K ax F m S.length ds ws ∧ mkTrack ds S = some r ∧ match r with
  | .ok d S' => S' = S ∧ ∃ n k q, d = .trk n k q ∧ Q .non (upd H x (.ins ax.CT dx (trkF n k q)))
  | .ex e S' => S' = S ∧ ∀ F' m' H' cls d, Evo S.length F m F' m' → Rep K ax F' m' S H' → RelX K ax F' e cls d → E cls d H'
section
variable {X : Cx} {e : Expr} {es : List Expr} {p pos : Pos} {fs : Env → Store → Option (R (List D))}
theorem mkTrack_inv {ds : List D} {S : Store} {r : R D} (h : mkTrack ds S = some r) : ds.length = 3 ∧ ((∃ n k q, r = .ok (.trk n k q) S) ∨ ∃ e, r = .ex e S) := by
  unfold mkTrack at h
  split at h
  · refine ⟨rfl, ?_⟩
    split at h
    · cases h
    · split at h
      · cases h; exact .inr ⟨_, rfl⟩
      · split at h
        · cases h; exact .inr ⟨_, rfl⟩
        · split at h
          · cases h; exact .inl ⟨_, _, _, rfl⟩
          · cases h; exact .inr ⟨_, rfl⟩
  · cases h
theorem make_run {k : Nat} {fI Ca : Addr} {fd : FuncData} {ps : List Str} {sp : Sp} {E : XK} {pins : List (Addr × Obj)} {σ : L2.St} {H : Hp} {s : Shared} {Q : VK} {us : List Value} {vs : List V} (M : Mk X.K Ca fI)
    (Fi : FnOk X.prog X.w X.K X.mg X.base (L2.CX X.prog X.w) k fI fd ps sp) (hr : Room (k + 1) X.A) (hb : Binds X.K fd ps []) (hx : PassesAt (L2.CX X.prog X.w) X σ E) (I : Inv X pins σ H s) (r : Vals vs us)
    (h : ∀ x dx, H x = none → H dx = none → dx ≠ x → sp (.ref x :: vs) (upd (upd H dx (.own x)) x (.ins Ca dx [])) (fun v H2 => v = .non ∧ Q (.ref x) H2) E) : wpAny (model X.prog X.w) X.A (call (.ref Ca) us) (EP X pins σ Q) X.xe s := by
  have q0 := h (s.heap.objs.size + 1) s.heap.objs.size (I.hok.fresh (Nat.le_succ _)) (I.hok.fresh (Nat.le_refl _)) (Nat.ne_of_lt (Nat.lt_succ_self _))
  have J := Inv.made (C := Ca) I
  have rr : Vals (V.ref (s.heap.objs.size + 1) :: vs) (Value.ref (s.heap.objs.size + 1) :: us) := .cons rfl r
  have hl : (Value.ref (s.heap.objs.size + 1) :: us ++ []).length = ps.length := by
    rw [List.append_nil, ← rr.length]
    exact Fi.len _ _ _ _ q0
  have bb := hb _ (Value.ref (s.heap.objs.size + 1) :: us) J.kIn hl
  rw [List.append_nil] at bb
  refine wpAny_call (make_map (f := fI) I.kIn M.makes M.init (beq_iff_eq.mp M.fn) (codeAny_mono (Fi.run _ X.stack _ _ ⟨Value.ref (s.heap.objs.size + 1) :: us, []⟩ _ _ _ E (hr.make Ca us []) (J.env0.make Ca us []) bb rr q0) fun res s1 z => ?_))
  cases res with
  | error e => exact hx pins _ _ e s1 J z
  | ok fl =>
    cases fl with
    | ret u =>
      obtain ⟨v, H1, I1, rv, ev, q1⟩ := J.after z
      subst ev
      exact ⟨rv, ⟨V.ref (s.heap.objs.size + 1), H1, I1, rfl, q1⟩⟩
    | next => exact False.elim z
    | brk => exact False.elim z
    | cont => exact False.elim z
theorem se_mk {k : Nat} {fI : Addr} {fd : FuncData} {ps : List Str} (M : Mk X.K C.ax.CT fI) (Fi : FnOk X.prog X.w X.K X.mg X.base (L2.CX X.prog X.w) k fI fd ps (spTrk X.K C.ax)) (hr : Room (k + 1) X.A) (hg : Gl X "Track") (hm : X.mg "Track" = some (.ref C.ax.CT))
    (hb : Binds X.K fd ps []) (tk : Takes X C.W) (ha : PA X (e :: es) (RX X.K C (rDs X.K C) fs)) (hs : noStars (e :: es) = true) :
    PE X (.Call (.Name "Track" p) (e :: es) [] pos) (RX X.K C (rD X.K C) fun env S => bnd (fs env S) mkTrack) := by
  have h' : noStar e = true ∧ noStars es = true := by simpa [noStars] using hs
  refine ⟨fun pins s σ H Q I h => ?_⟩
  refine wpAny_Call_Name_kw (ld_glob I hg hm ?_ (by decide))
  have h2 : RX X.K C (rDs X.K C) fs σ H (fun vs H1 => ∀ x dx, H1 x = none → H1 dx = none → dx ≠ x → spTrk X.K C.ax (.ref x :: vs) (upd (upd H1 dx (.own x)) x (.ins C.ax.CT dx [])) (fun v H2 => v = .non ∧ Q (.ref x) H2) (WE C.W σ)) := by
    obtain ⟨F, m, env, S, r, st, e, p⟩ := h
    refine bindX st e p fun F1 m1 S1 ds vs H1 ev1 l1 st1 rs e1 p1 x dx hx hdx hne => ?_
    have r1 : Rep X.K C.ax F1 m1 S1 (upd (upd H1 dx (.own x)) x (.ins C.ax.CT dx [])) := st1.rep.grow fun a o q => by
      have n1 : a ≠ x := fun z => by rw [z, hx] at q; cases q
      have n2 : a ≠ dx := fun z => by rw [z, hdx] at q; cases q
      rw [upd_ne n1, upd_ne n2]; exact q
    have hl : vs.length = 3 := by rw [← rs.length]; exact (mkTrack_inv e1).1
    refine ⟨by simp [hl], F1, m1, S1, ds, r, x, dx, vs, rfl, upd_same, st1.rep.offF hx, fun i hi => st1.rep.off hx hi, r1, rs, e1, ?_⟩
    rcases (mkTrack_inv e1).2 with ⟨n, k', q, rfl⟩ | ⟨ee, rfl⟩
    · refine ⟨rfl, n, k', q, rfl, rfl, ?_⟩
      have eH : upd (upd (upd H1 dx (.own x)) x (.ins C.ax.CT dx [])) x (.ins C.ax.CT dx (trkF n k' q)) = upd (upd H1 dx (.own x)) x (.ins C.ax.CT dx (trkF n k' q)) := by
        funext b
        by_cases hb1 : b = x
        · rw [hb1, upd_same, upd_same]
        · rw [upd_ne hb1, upd_ne hb1, upd_ne hb1]
      rw [eH]
      have ra := st1.rep.newF (o := .own x) hdx
      have hx2 : upd H1 dx (.own x) x = none := by rw [upd_ne (Ne.symm hne)]; exact hx
      have rb := ra.newF (o := .ins C.ax.CT dx (trkF n k' q)) hx2
      exact p1 _ m1 _ _ ((evoF st1.rep hdx).trans (Nat.le_refl _) (evoF ra hx2)) (Nat.le_refl _) rb ⟨x, dx, rfl, upd_same⟩
    · exact ⟨rfl, fun F' m' H' cls d ev rr rx => p1 F' m' H' cls d ev (Nat.le_refl _) rr rx⟩
  refine PySem.W.callWith_K (h₀ := X.base) I.ok.mod.kin M.kp (L2.thn (ha.run pos pins s σ H _ I h2) fun us s1 ⟨vs, H1, I1, r, q⟩ => ⟨I1.kIn, ?_⟩) (star_cons h'.1) (star_any h'.2)
  exact make_run M Fi hr hb (passAt tk σ) I1 r q
end
end Rf
set_option Elab.async false
set_option linter.all false
set_option maxRecDepth 100000
/-! From the text's tree to the small language. -/
namespace Rf
open PySem

structure Gc where
  fid : List (Str × Nat)
  con : List (Str × D)
  xs : List Str
  xf : List (Str × Str)
  low : Bool
  lowX : Bool

/-- within an except suite: without a name, with the error in a slot -/
inductive Hot where
  | no | only | as (i : Nat)
def Hot.cool : Hot → Bool
  | .no => true
  | _ => false
def Hot.at_ : Hot → Option Nat → Bool
  | .as i, some j => i == j
  | _, _ => false
def isVis : Option NameKind → Bool
  | some .local => true
  | some .cell => true
  | some .free => true
  | _ => false
def isLoc : Option NameKind → Bool
  | some .local => true
  | some .cell => true
  | _ => false
def isLcl : Option NameKind → Bool
  | some .local => true
  | _ => false
def isGlb : Option NameKind → Bool
  | some .globalImplicit => true
  | _ => false
def okN (x : Str) : Bool := !(x == ("__debug__" : Str)) && !(x == ("__classdict__" : Str)) && !(x == ("__name__" : Str))
def slot (N : List Str) (x : Str) : Option Nat := N.idxOf? x
def glb (sc : Scope) (x : Str) : Bool := isGlb (sc.names.lookup x) && okN x

def noStar1 : Expr → Bool
  | .Starred _ _ => false
  | _ => true
def noStarL : List Expr → Bool
  | [] => true
  | e :: r => noStar1 e && noStarL r
def allE (rec : Expr → Option CE) : List Expr → Option CEs
  | [] => some .nil
  | e :: r => match rec e, allE rec r with
    | some c, some cs => some (.cons c cs)
    | _, _ => none
def optE (rec : Expr → Option CE) : Option Expr → Option CEo
  | none => some .none
  | some e => (rec e).map .some
def bopOf : Operator → Option Bop
  | .Add => some .add
  | .Sub => some .sub
  | .Mult => some .mul
  | .FloorDiv => some .fdiv
  | .Mod => some .mod
  | .Pow => some .pow
  | _ => none
def copOf : CmpOp → Cop
  | .Eq => .eq
  | .NotEq => .ne
  | .Lt => .lt
  | .LtE => .le
  | .Gt => .gt
  | .GtE => .ge
  | .Is => .is
  | .IsNot => .isnot
  | .In => .isin
  | .NotIn => .notin
def attOf (x : Str) : Option Nat := if x = "places" then some 0 else if x = "length" then some 1 else if x = "is_ring" then some 2 else none
def tyOf (x : Str) : Option Ty := if x = "int" then some .int else if x = "bool" then some .bool else if x = "str" then some .str else if x = "tuple" then some .tup else if x = "list" then some .lst else if x = "Track" then some .track else none
def tyE (sc : Scope) : Expr → Option Ty
  | .Name x _ => if glb sc x then tyOf x else none
  | _ => none
def tyEs (sc : Scope) : List Expr → Option (List Ty)
  | [] => some []
  | e :: r => match tyE sc e, tyEs sc r with
    | some t, some ts => some (t :: ts)
    | _, _ => none
def biOf (x : Str) (n : Nat) : Option Bi :=
  if n = 1 then
    if x = "len" then some .len else if x = "abs" then some .abs else if x = "int" then some .int else if x = "list" then some .list else if x = "tuple" then some .tuple
    else if x = "all" then some .all else if x = "any" then some .any else if x = "sum" then some .sum else none
  else if n = 2 then
    if x = "max" then some .max2 else if x = "min" then some .min2 else none
  else none
def mtOf (x : Str) (n : Nat) : Option Mt :=
  if n = 1 then
    if x = "append" then some .append else if x = "pop" then some .popAt else if x = "extend" then some .extend else if x = "remove" then some .remove else if x = "index" then some .index else if x = "count" then some .count else none
  else if n = 0 then (if x = "pop" then some .pop else none)
  else none
def plainO1 : Expr → Bool
  | .Call (.Name id _) [] [] _ => id != "super"
  | _ => true
def notSlice : Expr → Bool
  | .Slice _ _ _ _ => false
  | _ => true
def notSet : Expr → Bool
  | .Set _ _ _ => false
  | _ => true
def notComp : Expr → Bool
  | .ListComp _ _ _ _ => false
  | .SetComp _ _ _ _ => false
  | .DictComp _ _ _ _ _ => false
  | _ => true
def isTupE : Expr → Bool
  | .Tuple _ _ _ => true
  | _ => false

/-- what is walked -/
def cmpI (rec : Expr → Option CE) (sc : Scope) (tg : Expr) (e : Expr) : Option CI :=
  match e with
  | .Call (.Name x p) args [] pos =>
    if glb sc x && decide (x = "range") then
      match args with
      | [a] => if noStarL [a] then (rec a).map .rng1 else none
      | [a, b] => if noStarL [a, b] then (match rec a, rec b with
        | some ca, some cb => some (.rng2 ca cb)
        | _, _ => none) else none
      | _ => none
    else if glb sc x && decide (x = "zip") then
      match args with
      | [a, b] => if noStarL [a, b] && isTupE tg then (match rec a, rec b with
        | some ca, some cb => some (.zip ca cb)
        | _, _ => none) else none
      | _ => none
    else if glb sc x && decide (x = "enumerate") then
      match args with
      | [a] => if noStarL [a] && isTupE tg then (rec a).map .enum else none
      | _ => none
    else (rec e).map .seq
  | e => if notSet e then (rec e).map .seq else none

/-- targets -/
def cmpT1 (N : List Str) (rec : Scope → Expr → Option CT) (sc : Scope) : Expr → Option CT
  | .Name x _ => if isLoc (sc.names.lookup x) then (slot N x).map .n else none
  | .Tuple es _ _ => if noStarL es then
      (let rec go : List Expr → Option CTs
        | [] => some .nil
        | e :: r => match rec sc e, go r with
          | some c, some cs => some (.cons c cs)
          | _, _ => none
       (go es).map .tup) else none
  | _ => none
def cmpT (N : List Str) : Nat → Scope → Expr → Option CT
  | 0, _, _ => none
  | n + 1, sc, e => cmpT1 N (cmpT N n) sc e
mutual
def ctS : CT → List Nat
  | .n i => [i]
  | .tup ts => ctSs ts
def ctSs : CTs → List Nat
  | .nil => []
  | .cons t ts => ctS t ++ ctSs ts
end
def ownOf (N : List Str) (scope : Scope) : List (Str × Nat) := scope.names.filterMap fun y => if isLoc (some y.2) then (slot N y.1).map fun i => (y.1, i) else none

def cmpCall (G : Gc) (N : List Str) (hot : Hot) (rec : Expr → Option CE) (sc : Scope) (x : Str) (args : List Expr) : Option CE :=
  if !glb sc x then none
  else match G.fid.lookup x with
  | some f => if noStarL args && hot.cool && decide (f ≠ 0) then (allE rec args).map (.call f) else none
  | none =>
    if x = "Track" then (if noStarL args && !args.isEmpty && hot.cool && !G.low then (allE rec args).map .mkT else none)
    else if x = "isinstance" then
      match args with
      | [.Name n p1, .Name b p2] =>
        if hot.at_ (slot N n) then (if isVis (sc.names.lookup n) && okN n && glb sc b && (G.xs.contains b || decide (b = "ValueError")) then (slot N n).map fun i => .exIs i b else none)
        else match tyE sc (.Name b p2), rec (.Name n p1) with
          | some t, some c => some (.isi c [t])
          | _, _ => none
      | [a, .Tuple bs k p2] => match tyEs sc bs, rec a with
        | some ts, some c => if noStar1 a && noStarL bs && decide (0 < ts.length) && decide (ts.length < 20) then some (.isi c ts) else none
        | _, _ => none
      | [a, b] => match tyE sc b, rec a with
        | some t, some c => if noStarL [a, b] then some (.isi c [t]) else none
        | _, _ => none
      | _ => none
    else if x = "list" then
      match args with
      | [.Call (.Name y p1) rs [] p2] => if glb sc y && decide (y = "range") && hot.cool then
          (match rs with
          | [a] => if noStarL [a] then (rec a).map fun c => .rngL (.rng1 c) else none
          | [a, b] => if noStarL [a, b] then (match rec a, rec b with
            | some ca, some cb => some (.rngL (.rng2 ca cb))
            | _, _ => none) else none
          | _ => none)
        else (rec (.Call (.Name y p1) rs [] p2)).map fun c => .bi .list (.cons c .nil)
      | [a] => if noStarL [a] then (rec a).map fun c => .bi .list (.cons c .nil) else none
      | _ => none
    else if x = "tuple" then
      match args with
      | [.Call (.Name y p1) rs [] p2] => if glb sc y && decide (y = "range") && hot.cool then
          (match rs with
          | [a] => if noStarL [a] then (rec a).map fun c => .rngT (.rng1 c) else none
          | [a, b] => if noStarL [a, b] then (match rec a, rec b with
            | some ca, some cb => some (.rngT (.rng2 ca cb))
            | _, _ => none) else none
          | _ => none)
        else (rec (.Call (.Name y p1) rs [] p2)).map fun c => .bi .tuple (.cons c .nil)
      | [a] => if noStarL [a] then (rec a).map fun c => .bi .tuple (.cons c .nil) else none
      | _ => none
    else match biOf x args.length with
      | some f => if noStarL args && hot.cool then (allE rec args).map (.bi f) else none
      | none => none

def cmpE1 (G : Gc) (N : List Str) (hot : Hot) (tfuel : Nat) (rec : Scope → Expr → Option CE) (sc : Scope) : Expr → Option CE
  | .Name x _ => if isVis (sc.names.lookup x) && okN x then (if hot.at_ (slot N x) then none else (slot N x).map .v) else if glb sc x then (G.con.lookup x).map .k else none
  | .Constant (.int i) _ _ => some (.k (.int i))
  | .Constant (.bool b) _ _ => some (.k (.bl b))
  | .Constant .none _ _ => some (.k .non)
  | .Constant (.str s) _ _ => some (.k (.str s))
  | .Tuple es _ _ => if noStarL es then (allE (rec sc) es).map .tup else none
  | .List es _ => if noStarL es then (allE (rec sc) es).map .lst else none
  | .BinOp a o b _ => match bopOf o, rec sc a, rec sc b with
    | some o, some a, some b => some (.bin o a b)
    | _, _, _ => none
  | .UnaryOp .USub a _ => (rec sc a).map .neg
  | .UnaryOp .Not a _ => (rec sc a).map .not
  | .BoolOp .And [a] _ => rec sc a
  | .BoolOp .Or [a] _ => rec sc a
  | .BoolOp .And (a :: b :: r) p => match rec sc a, rec sc (.BoolOp .And (b :: r) p) with
    | some a, some b => some (.and a b)
    | _, _ => none
  | .BoolOp .Or (a :: b :: r) p => match rec sc a, rec sc (.BoolOp .Or (b :: r) p) with
    | some a, some b => some (.or a b)
    | _, _ => none
  | .Compare a [o] [b] _ => if behindInMarks o b then none else match rec sc a, rec sc b with
    | some ca, some cb => some (.cmp (copOf o) ca cb)
    | _, _ => none
  | .Compare a [o, p] [b, c] _ => if lastMarks [o, p] [b, c] then none else match rec sc a, rec sc b, rec sc c with
    | some ca, some cb, some cc => some (.chn (copOf o) (copOf p) ca cb cc)
    | _, _, _ => none
  | .IfExp c a b _ => match rec sc c, rec sc a, rec sc b with
    | some c, some a, some b => some (.ite c a b)
    | _, _, _ => none
  | .Attribute (.Name n p) f pos =>
    if hot.at_ (slot N n) then (if isVis (sc.names.lookup n) && okN n then (slot N n).map fun i => .exFld i f else none)
    else match rec sc (.Name n p), attOf f with
    | some c, some i => some (.att c i)
    | _, _ => none
  | .Attribute a f _ => if plainO1 a then (match rec sc a, attOf f with
    | some c, some i => some (.att c i)
    | _, _ => none) else none
  | .Subscript a (.Slice lo hi none _) _ => match rec sc a, optE (rec sc) lo, optE (rec sc) hi with
    | some a, some lo, some hi => some (.sl a lo hi)
    | _, _, _ => none
  | .Subscript a b _ => if notSlice b then (match rec sc a, rec sc b with
    | some a, some b => some (.idx a b)
    | _, _ => none) else none
  | .Call (.Name x _) args [] _ => cmpCall G N hot (rec sc) sc x args
  | .Call (.Attribute o m apos) args [] cpos => if plainO1 o && (apos.endLine == cpos.line) && noStarL args && decide (args.length < 30) && hot.cool then
      (match mtOf m args.length, rec sc o, allE (rec sc) args with
      | some f, some c, some cs => some (.mt f c cs)
      | _, _, _ => none) else none
  | .ListComp elt [⟨tg, iter, ifs, 0⟩] scope _ =>
    if !hot.cool || !notSet iter then none else
    match cmpI (rec sc) sc tg iter, cmpT N tfuel scope tg, rec scope elt with
    | some ci, some ct, some ce =>
      if L2.blkC N sc scope (ownOf N scope) && (ctS ct).all (fun i => ((ownOf N scope).map (·.2)).contains i) then
        match ifs with
        | [] => some (.comp ci ct ((ownOf N scope).map (·.2)) .none ce)
        | [c] => (rec scope c).map fun cc => .comp ci ct ((ownOf N scope).map (·.2)) (.some cc) ce
        | _ => none
      else none
    | _, _, _ => none
  | _ => none
def cmpE (G : Gc) (N : List Str) (hot : Hot) : Nat → Scope → Expr → Option CE
  | 0, _, _ => none
  | n + 1, sc, e => cmpE1 G N hot (n + 1) (cmpE G N hot n) sc e

/-! ### statements -/
def namesOf : List Expr → Option (List (Str × Pos))
  | [] => some []
  | .Name x p :: r => (namesOf r).map ((x, p) :: ·)
  | _ :: _ => none
/-- the stores of a pair of names from the right -/
def parOk (sc : Scope) (ts : List (Str × Pos)) (vs : List Expr) : Bool :=
  ts.all (fun q => (match sc.names.lookup q.1 with | some .local => true | _ => false) && q.2.line == ((ts.head?.map (·.2.line)).getD 0)) && decide ((ts.map (·.1)).Nodup) && !vs.all (foldedForSure 8) && !vs.all (constantsAlone 8)
def anyFold (vs : List Expr) : Bool := vs.all (foldedForSure 8)
def setsOk (sc : Scope) (e : Expr) (x : Str) (p : Pos) : Bool := match e with
  | .ListComp _ _ scope pos => !((match sc.names.lookup x with | some .local => true | _ => false) && p.line == pos.line && !(scope.names.any fun q => q.1 == x && (q.2 == .local || q.2 == .cell)))
  | .SetComp _ _ _ _ => false
  | .DictComp _ _ _ _ _ => false
  | _ => true
def swOk (sc : Scope) (e : Expr) (x : Str) (p : Pos) : Bool := match e with
  | .ListComp _ _ scope pos => (match sc.names.lookup x with | some .local => true | _ => false) && p.line == pos.line && !(scope.names.any fun q => q.1 == x && (q.2 == .local || q.2 == .cell))
  | _ => false

def isSub : Expr → Bool
  | .Subscript _ b _ => notSlice b
  | _ => false
/-- a tuple target behind which no names are swapped -/
def noSwap (sc : Scope) (ts : List Expr) (e : Expr) : Bool := match e with
  | .Tuple vs _ _ => decide (vs.length ≠ ts.length) || (!(decide (ts.length = 2) || decide (ts.length = 3))) || vs.all (foldedForSure 8) || ts.any (fun t => match t with | .Name x _ => !isLcl (sc.names.lookup x) | _ => true)
  | _ => true
def cmpSs1 (recS : Stmt → Option CS) : List Stmt → Option CS
  | [] => some .pass
  | [s] => recS s
  | s :: t :: r => match recS s, cmpSs1 recS (t :: r) with
    | some a, some b => some (.seq a b)
    | _, _ => none
def cmpS1 (G : Gc) (N : List Str) (hot : Hot) (sc : Scope) (ce : Expr → Option CE) (ct : Expr → Option CT) (rec : Hot → Stmt → Option CS) : Stmt → Option CS
  | .Pass _ => some .pass
  | .Break _ => some .brk
  | .Expr e _ => if notComp e then (ce e).map .ex else none
  | .Return none _ => some .retN
  | .Return (some e) _ => (ce e).map .ret
  | .Assign [.Name x p] e _ => if isLoc (sc.names.lookup x) && (setsOk sc e x p || swOk sc e x p) && !hot.at_ (slot N x) then (match slot N x, ce e with
    | some i, some c => some (.set (.t (.n i)) c)
    | _, _ => none) else none
  | .Assign [.Subscript a b _] e _ => if notSlice b && notComp e then (match ce a, ce b, ce e with
    | some ca, some cb, some c => some (.set (.ix ca cb) c)
    | _, _, _ => none) else none
  | .Assign [.Tuple [.Subscript a b _, .Subscript c d _] _ _] e _ => if notSlice b && notSlice d && notComp e && hot.cool then (match ce a, ce b, ce c, ce d, ce e with
    | some ca, some cb, some cc, some cd, some v => some (.set (.ix2 ca cb cc cd) v)
    | _, _, _, _, _ => none) else none
  | .Assign [.Tuple ts k p] e _ => if !hot.cool || !notComp e then none else
    match e, namesOf ts with
    | .Tuple [a, b] _ _, some [x, y] => if parOk sc [x, y] [a, b] && noStarL [a, b] then (match slot N x.1, slot N y.1, allE ce [a, b] with
      | some i, some j, some cs => some (.par [i, j] cs)
      | _, _, _ => none) else if noSwap sc ts e then (match ct (.Tuple ts k p), ce e with
      | some t, some c => some (.set (.t t) c)
      | _, _ => none) else none
    | .Tuple [a, b, c] _ _, some [x, y, z] => if parOk sc [x, y, z] [a, b, c] && noStarL [a, b, c] then (match slot N x.1, slot N y.1, slot N z.1, allE ce [a, b, c] with
      | some i, some j, some l, some cs => some (.par [i, j, l] cs)
      | _, _, _, _ => none) else if noSwap sc ts e then (match ct (.Tuple ts k p), ce e with
      | some t, some c => some (.set (.t t) c)
      | _, _ => none) else none
    | _, _ => if noSwap sc ts e then (match ct (.Tuple ts k p), ce e with
      | some t, some c => some (.set (.t t) c)
      | _, _ => none) else none
  | .If c a b _ => match ce c, cmpSs1 (rec hot) a, cmpSs1 (rec hot) b with
    | some c, some a, some b => some (.ite c a b)
    | _, _, _ => none
  | .For tg it body [] _ => if !hot.cool || !notSet it then none else match ct tg, cmpI ce sc tg it, cmpSs1 (rec hot) body with
    | some t, some i, some b => some (.for t i b)
    | _, _, _ => none
  | .While c body [] _ => if !hot.cool then none else match ce c, cmpSs1 (rec hot) body with
    | some c, some b => some (.while c b)
    | _, _ => none
  | .Raise (some (.Call (.Name x _) args [] _)) none _ => if glb sc x && hot.cool && G.xs.contains x then
      match args, G.xf.lookup x with
      | [], none => some (.raise x none .nil)
      | [a], some f => if noStarL [a] && !G.lowX then (allE ce [a]).map (.raise x (some f)) else none
      | _, _ => none
    else none
  | .Try body [.ExceptHandler (some (.Name x _)) nm (b₀ :: suite) _] [] [] _ =>
    if hot.cool && glb sc x && (G.xs.contains x || decide (x = "ValueError")) then
      match nm with
      | none => match cmpSs1 (rec .no) body, cmpSs1 (rec .only) (b₀ :: suite) with
        | some b, some h => some (.tryOnly b x h)
        | _, _ => none
      | some n => match (match sc.names.lookup n with | some .local => slot N n | _ => none) with
        | some i => match cmpSs1 (rec .no) body, cmpSs1 (rec (.as i)) (b₀ :: suite) with
          | some b, some h => some (.tryAs b x i h)
          | _, _ => none
        | none => none
    else none
  | _ => none
def cmpS (G : Gc) (N : List Str) (ef : Nat) (sc : Scope) : Nat → Hot → Stmt → Option CS
  | 0, _, _ => none
  | n + 1, hot, s => cmpS1 G N hot sc (cmpE G N hot ef sc) (cmpT N ef sc) (cmpS G N ef sc n) s
def cmpB (G : Gc) (N : List Str) (sc : Scope) (body : List Stmt) : Option CS := cmpSs1 (cmpS G N 40 sc 40 .no) body
end Rf
set_option Elab.async false
set_option linter.all false
set_option maxRecDepth 100000
/-! The expressions that are made from the text's tree do what the text does. -/
namespace Rf
open PySem PySem.Spec PyProof.Rows L2

/-- the names that must be the built-in ones -/
def BN : List Str := ["len", "abs", "int", "max", "min", "list", "tuple", "all", "any", "sum", "range", "zip", "enumerate", "isinstance", "bool", "str", "ValueError"]
def excTail : List Value := [.type "ValueError", .type "Exception", .type "BaseException", .type "object"]
/-- what the top has written -/
structure GOk (G : Gc) (ax : Aux) (cl : Calls) (L : Nat) (prog : Program) (w : World) (K : PySem.W.Frag) (mg : Str → Option Value) (base : Heap) : Prop where
  blt : ∀ x ∈ BN, mg x = none
  fid : ∀ x f, G.fid.lookup x = some f → f ≠ 0 → ∃ fd ps np, mg x = some (.ref (ax.fa f)) ∧ PySem.W.keepIn K (.ref (ax.fa f)) = true ∧ Binds K fd ps [] ∧ FnOk prog w K mg base (L2.CX prog w) L (ax.fa f) fd ps (spOf K ax np (cl f)) ∧ ∀ ds S r, cl f ds S = some r → ds.length = np
  con : ∀ x d, G.con.lookup x = some d → ∃ u v, mg x = some u ∧ RelV v u ∧ ∀ F m n, RelD K ax F m n d v
  trk : TrkOk K ax.CT
  mgT : mg "Track" = some (.ref ax.CT)
  mkT : G.low = false → (∀ ds S, cl 0 ds S = mkTrack ds S) ∧ ∃ k fI fd ps, k + 1 ≤ L ∧ Mk K ax.CT fI ∧ FnOk prog w K mg base (L2.CX prog w) k fI fd ps (spTrk K ax) ∧ Binds K fd ps []
  axs : ax.xs = G.xs
  xs : ∀ x ∈ G.xs, mg x = some (.ref (He.ga K x)) ∧ PySem.W.keepIn K (.ref (He.ga K x)) = true ∧ PySem.W.subIn K (.ref (He.ga K x)) (.type "BaseException") = some true ∧ PySem.W.typeIn K (.ref (He.ga K x)) = some (.type "type") ∧ XfC K (He.ga K x) ∧ ExcC K (He.ga K x)
  x0 : ∀ x ∈ G.xs, G.xf.lookup x = none → PySem.W.excIn K (He.ga K x) excTail "ValueError.__new__" = true
  xf : ∀ x f, G.xf.lookup x = some f → G.lowX = false → (x, f) ∈ ax.xf ∧ OexC K (He.ga K x) ∧ PySem.W.findIn K (.ref (He.ga K x)) f = some none ∧ ∃ k fI fd ps, k + 1 ≤ L ∧ PySem.W.findIn K (.ref (He.ga K x)) "__init__" = some (some (.ref fI)) ∧ PySem.W.typeIn K (.ref fI) = some (.type "function") ∧
    FnOk prog w K mg base (L2.CX prog w) k fI fd ps (spInit K f) ∧ Binds K fd ps []
  axf : ∀ q ∈ ax.xf, PySem.W.findIn K (.ref (He.ga K q.1)) q.2 = some none
  exm : ∀ y ∈ ax.xs, ∀ x ∈ ax.xs, PySem.W.exmOne K (.ref (He.ga K y)) (.ref (He.ga K x)) = some (subEx y x)
  exv : ∀ y ∈ ax.xs, PySem.W.exmOne K (.ref (He.ga K y)) (.type "ValueError") = some true
  kit : ∀ y ∈ ax.xs, ∀ x ∈ ax.xs, PySem.W.kitOne K (.ref (He.ga K y)) (.ref (He.ga K x)) = some (subEx y x)
  kiv : ∀ y ∈ ax.xs, PySem.W.kitOne K (.ref (He.ga K y)) (.type "ValueError") = some true
/-- the names as the text tells them, and as they are in the context (a comprehension's captured names are cells there) -/
structure ScR (sc : Scope) (X : Cx) : Prop where
  vis : ∀ x, isVis (sc.names.lookup x) = true → Vis X.env.scope x
  loc : ∀ x, isLoc (sc.names.lookup x) = true → L2.Loc X.env.scope x ∧ (X.fn x = true ∨ X.env.scope.names.lookup x = some .local)
  glb : ∀ x, isGlb (sc.names.lookup x) = true → X.env.scope.names.lookup x = some .globalImplicit
  cf : ∀ x, (sc.names.lookup x = some .cell ∨ sc.names.lookup x = some .free) → (X.env.scope.names.lookup x = some .cell ∨ X.env.scope.names.lookup x = some .free)
/-- the context of an expression -/
structure XOk (G : Gc) (C : Sc) (cl : Calls) (L : Nat) (N : List Str) (hot : Hot) (sc : Scope) (X : Cx) : Prop where
  g : GOk G C.ax cl L X.prog X.w X.K X.mg X.base
  hN : X.N = N
  nd : N.Nodup
  scr : ScR sc X
  kf : X.env.scope.kind = .function
  un : X.A.units + 65 < cLine
  tk : Takes X C.W
  cool : hot.cool = true → X.calm = true ∧ Room L X.A
  fld : ∀ i n p f pos, hot = .as i → N[i]? = some n → Vis X.env.scope n → (n == ("__debug__" : Str)) = false → (n == ("__classdict__" : Str)) = false → PE X (.Attribute (.Name n p) f pos) (RX X.K C (rD X.K C) (kFld C.ex i f))
  exi : ∀ i n p p1 p2 pos x b, hot = .as i → N[i]? = some n → Vis X.env.scope n → (n == ("__debug__" : Str)) = false → (n == ("__classdict__" : Str)) = false → Gl X "isinstance" → (x ∈ C.ax.xs ∨ x = "ValueError") → Gl X x → (x == ("__debug__" : Str)) = false → b = .Name x p2 →
    PE X (.Call (.Name "isinstance" p) [.Name n p1, b] [] pos) (RX X.K C (rD X.K C) (kIs C.ex i x))

/-! ### small facts -/
theorem slot_get {N : List Str} {x : Str} {i : Nat} (h : slot N x = some i) : N[i]? = some x := by
  unfold slot at h
  obtain ⟨hl, h2⟩ := List.idxOf?_eq_some_iff.mp h
  rw [List.getElem?_eq_getElem hl]
  have := h2.1
  simpa using this
theorem vis_of {sc : Scope} {x : Str} (h : isVis (sc.names.lookup x) = true) : Vis sc x := by
  unfold Vis
  cases e : sc.names.lookup x with
  | none => rw [e] at h; cases h
  | some k => rw [e] at h; cases k <;> simp_all [isVis]
theorem loc_of {sc : Scope} {x : Str} (h : isLoc (sc.names.lookup x) = true) : L2.Loc sc x := by
  unfold L2.Loc
  cases e : sc.names.lookup x with
  | none => rw [e] at h; cases h
  | some k => rw [e] at h; cases k <;> simp_all [isLoc]
theorem okN_1 {x : Str} (h : okN x = true) : (x == ("__debug__" : Str)) = false ∧ (x == ("__classdict__" : Str)) = false ∧ x ≠ "__name__" := by
  unfold okN at h
  simp only [Bool.and_eq_true, Bool.not_eq_true'] at h
  exact ⟨h.1.1, h.1.2, fun z => by rw [z] at h; simp at h⟩
theorem glb_of {X : Cx} {sc : Scope} {x : Str} (hs : ScR sc X) (h : glb sc x = true) : Gl X x ∧ (x == ("__debug__" : Str)) = false ∧ x ≠ "__name__" := by
  unfold Rf.glb at h
  rw [Bool.and_eq_true] at h
  exact ⟨hs.glb x h.1, (okN_1 h.2).1, (okN_1 h.2).2.2⟩
theorem isGlb_eq {o : Option NameKind} (h : isGlb o = true) : o = some .globalImplicit := by
  cases o with
  | none => cases h
  | some k => cases k <;> first | rfl | cases h
theorem scr_def {X : Cx} (hf : ∀ x, X.fn x = true) : ScR X.env.scope X := ⟨fun x h => vis_of h, fun x h => ⟨loc_of h, .inl (hf x)⟩, fun x h => isGlb_eq h, fun x h => h⟩
theorem relab_lookup {env : PySem.Env} : ∀ {names : List (Str × NameKind)} {x : Str}, (names.map fun (n, k) => if (k == NameKind.free && env.scope.kind == .function && env.kindOf n == some .cell) then (n, NameKind.cell) else (n, k)).lookup x =
    (names.lookup x).map fun k => if (k == NameKind.free && env.scope.kind == .function && env.kindOf x == some .cell) then NameKind.cell else k
  | [], x => rfl
  | (n, k) :: r, x => by
    have ih := @relab_lookup env r x
    show List.lookup x ((if (k == NameKind.free && env.scope.kind == .function && env.kindOf n == some .cell) = true then (n, NameKind.cell) else (n, k)) :: _) = _
    cases hx : x == n with
    | true =>
      have e : x = n := by simpa using hx
      subst e
      simp only [List.lookup_cons, hx]
      split <;> simp_all [List.lookup_cons]
    | false =>
      simp only [List.lookup_cons, hx]
      rw [← ih]
      split <;> simp [List.lookup_cons, hx]
theorem scr_blk {X : Cx} {s : Shared} {H : Hp} {scope : Scope} {cls : List (Str × Addr)} {B : Addr} {fp : List Addr} : ScR scope (X.blk s H scope (compEnvC scope cls B X.env) fp) := by
  have key : ∀ x, (X.blk s H scope (compEnvC scope cls B X.env) fp).env.scope.names.lookup x = (scope.names.lookup x).map fun k => if (k == NameKind.free && X.env.scope.kind == .function && X.env.kindOf x == some .cell) then NameKind.cell else k := fun x => relab_lookup
  refine ⟨fun x h => ?_, fun x h => ?_, fun x h => ?_, fun x h => ?_⟩
  · cases e : scope.names.lookup x with
    | none => rw [e] at h; cases h
    | some k =>
      have q := key x
      rw [e] at h q
      unfold Vis
      rw [q]
      cases k with
      | «local» => exact .inl rfl
      | cell => exact .inr (.inl rfl)
      | free =>
        simp only [Option.map_some]
        split
        · exact .inr (.inl rfl)
        · exact .inr (.inr rfl)
      | _ => cases h
  · cases e : scope.names.lookup x with
    | none => rw [e] at h; cases h
    | some k =>
      have q := key x
      rw [e] at h q
      unfold L2.Loc
      rw [q]
      cases k with
      | «local» => exact ⟨.inl rfl, .inr rfl⟩
      | cell => exact ⟨.inr rfl, .inl (by show (scope.names.lookup x == some .cell) = true; rw [e]; rfl)⟩
      | _ => cases h
  · cases e : scope.names.lookup x with
    | none => rw [e] at h; cases h
    | some k =>
      have q := key x
      rw [e] at h q
      rw [q]
      cases k with
      | globalImplicit => rfl
      | _ => cases h
  · have q := key x
    rcases h with h | h
    · rw [h] at q; rw [q]; exact .inl rfl
    · rw [h] at q; rw [q]
      simp only [Option.map_some]
      split
      · exact .inl rfl
      · exact .inr rfl
theorem noStar1_eq (e : Expr) : noStar1 e = noStar e := by cases e <;> rfl
theorem noStarL_eq : ∀ es : List Expr, noStarL es = noStars es
  | [] => rfl
  | e :: r => by simp only [noStarL, noStars, noStar1_eq, noStarL_eq r]
theorem plainO1_eq (e : Expr) : plainO1 e = plainO e := by
  unfold plainO1 plainO
  rfl
theorem plainIx_of {b : Expr} (h : notSlice b = true) : PlainIx b := by
  intro o i
  cases b <;> first | rfl | (simp [notSlice] at h)

section
variable {X : Cx} {C : Sc} {cl : Calls} {a b c e : Expr} {p pos : Pos}
abbrev EvX (C : Sc) (cl : Calls) (c : CE) : Env → Store → Option (R D) := fun env S => ev cl C.ex c env S
abbrev EvXs (C : Sc) (cl : Calls) (c : CEs) : Env → Store → Option (R (List D)) := fun env S => evs cl C.ex c env S
abbrev EvXo (C : Sc) (cl : Calls) (c : CEo) : Env → Store → Option (R (Option Int)) := fun env S => evo cl C.ex c env S
abbrev EvXi (C : Sc) (cl : Calls) (c : CI) : Env → Store → Option (R Items) := fun env S => evI cl C.ex c env S
/-- the expression e does what c does -/
structure ES (X : Cx) (C : Sc) (cl : Calls) (e : Expr) (c : CE) : Prop where
  pe : PE X e (RX X.K C (rD X.K C) (EvX C cl c))
  pt : PT X e (RX X.K C rB (onlyB (EvX C cl c)))
theorem ES.val (h : PE X e (RX X.K C (rD X.K C) (EvX C cl c'))) (he : ∀ whole, isTrue e X.env whole = (do let v ← whole; standAt e.pos; holding [v] (truthy v))) : ES X C cl e c' := ⟨h, st_valB h he⟩
theorem onlyB_inv {f : Env → Store → Option (R D)} {env : Env} {S S' : Store} {d : D} (h : onlyB f env S = some (.ok d S')) : ∃ b, d = .bl b := by
  unfold onlyB at h
  cases e : f env S with
  | none => rw [e] at h; cases h
  | some r =>
    rw [e] at h
    cases r with
    | ex x S1 => cases h
    | ok y S1 =>
      simp only [bnd_ok] at h
      split at h <;> cases h
      exact ⟨_, rfl⟩
/-- only truths: after a test -/
theorem bnd_onlyB {α : Type} {f : Env → Store → Option (R D)} {env : Env} {S : Store} {k : D → Store → Option (R α)} (hk : ∀ d S', (∀ b, d ≠ .bl b) → k d S' = none) : bnd (onlyB f env S) k = bnd (f env S) k := by
  unfold onlyB
  cases f env S with
  | none => rfl
  | some r =>
    cases r with
    | ex x S1 => rfl
    | ok y S1 =>
      simp only [bnd_ok]
      cases y <;> first | rfl | (exact (hk _ _ fun b z => by cases z).symm)
theorem onlyB_bnd {f : Env → Store → Option (R D)} {k : Env → D → Store → Option (R D)} (hk : ∀ env d S S' y, k env d S = some (.ok y S') → ∃ b, y = .bl b) : onlyB (fun env S => bnd (f env S) (k env)) = fun env S => bnd (f env S) (k env) := by
  funext env S
  unfold onlyB
  dsimp only
  cases f env S with
  | none => rfl
  | some r =>
    cases r with
    | ex x S1 => rfl
    | ok y S1 =>
      simp only [bnd_ok]
      cases q : k env y S1 with
      | none => rfl
      | some r2 =>
        cases r2 with
        | ex x S2 => rfl
        | ok z S2 =>
          obtain ⟨b, rfl⟩ := hk env y S1 S2 z q
          rfl
theorem pt_ite {tC ta tb : TT} (hc : PT X c tC) (ha : PT X a ta) (hb : PT X b tb) : PT X (.IfExp c a b pos) (fun σ H Q => tC σ H fun k H1 => if k = true then ta σ H1 Q else tb σ H1 Q) := by
  refine ⟨fun pins s σ H Q I h => ?_⟩
  show wpAny _ _ (do if ← isTrue c X.env (eval c X.env) then isTrue a X.env (eval a X.env) else isTrue b X.env (eval b X.env)) _ _ _
  refine wpAny_bind (L2.thn (hc.run pins s σ H _ I h) fun k s1 ⟨H1, I1, q1⟩ => ?_)
  cases k with
  | true => exact ha.run pins s1 σ H1 Q I1 q1
  | false => exact hb.run pins s1 σ H1 Q I1 q1
theorem kNot_bl {d : D} {S S' : Store} {y : D} (h : kNot d S = some (.ok y S')) : ∃ b, y = .bl b := by
  cases d <;> cases h
  exact ⟨_, rfl⟩
theorem kCmp_bl {o : Cop} {x y d : D} {S S' : Store} (h : kCmp o x y S = some (.ok d S')) : ∃ b, d = .bl b := by
  obtain ⟨d', e1, e2⟩ := kCmp_inv h
  cases e2
  exact cmpop_bl e1
theorem es_not {ca : CE} (h : ES X C cl a ca) : ES X C cl (.UnaryOp .Not a pos) (.not ca) where
  pe := se_not h.pe
  pt := by
    have e1 : onlyB (EvX C cl (.not ca)) = fun env S => bnd (onlyB (EvX C cl ca) env S) kNot := by
      have e2 : EvX C cl (.not ca) = fun env S => bnd (EvX C cl ca env S) kNot := rfl
      rw [e2, onlyB_bnd (k := fun _ => kNot) fun _ _ _ _ _ h => kNot_bl h]
      funext env S
      exact (bnd_onlyB fun d S' hd => by cases d <;> first | rfl | exact absurd rfl (hd _)).symm
    rw [e1]
    exact st_not h.pt
theorem es_and {ca cb : CE} {rest : List Expr} (ha : ES X C cl a ca) (hb : ES X C cl (.BoolOp .And (b :: rest) pos) cb) : ES X C cl (.BoolOp .And (a :: b :: rest) pos) (.and ca cb) where
  pe := se_and ha.pe hb.pe
  pt := by
    have e1 : onlyB (EvX C cl (.and ca cb)) = fun env S => bnd (onlyB (EvX C cl ca) env S) (kAnd (onlyB (EvX C cl cb) env)) := by
      funext env S
      show bnd (bnd (EvX C cl ca env S) (kAnd (EvX C cl cb env))) _ = _
      rw [bnd_onlyB (f := EvX C cl ca) (k := kAnd (onlyB (EvX C cl cb) env)) fun d S' hd => by cases d <;> first | rfl | exact absurd rfl (hd _)]
      cases EvX C cl ca env S with
      | none => rfl
      | some r =>
        cases r with
        | ex x S1 => rfl
        | ok y S1 =>
          simp only [bnd_ok]
          cases y <;> first | rfl | (rename_i k; cases k <;> rfl)
    rw [e1]
    exact (sw_and ha.pt ⟨fun w pins s σ H Q I h => hb.pt.run pins s σ H Q I h⟩).pt
theorem es_or {ca cb : CE} {rest : List Expr} (ha : ES X C cl a ca) (hb : ES X C cl (.BoolOp .Or (b :: rest) pos) cb) : ES X C cl (.BoolOp .Or (a :: b :: rest) pos) (.or ca cb) where
  pe := se_or ha.pe hb.pe
  pt := by
    have e1 : onlyB (EvX C cl (.or ca cb)) = fun env S => bnd (onlyB (EvX C cl ca) env S) (kOr (onlyB (EvX C cl cb) env)) := by
      funext env S
      show bnd (bnd (EvX C cl ca env S) (kOr (EvX C cl cb env))) _ = _
      rw [bnd_onlyB (f := EvX C cl ca) (k := kOr (onlyB (EvX C cl cb) env)) fun d S' hd => by cases d <;> first | rfl | exact absurd rfl (hd _)]
      cases EvX C cl ca env S with
      | none => rfl
      | some r =>
        cases r with
        | ex x S1 => rfl
        | ok y S1 =>
          simp only [bnd_ok]
          cases y <;> first | rfl | (rename_i k; cases k <;> rfl)
    rw [e1]
    exact (sw_or ha.pt ⟨fun w pins s σ H Q I h => hb.pt.run pins s σ H Q I h⟩).pt
theorem es_and1 {ca : CE} (h : ES X C cl a ca) : ES X C cl (.BoolOp .And [a] pos) ca := ⟨pe_one h.pe, (pw_and1 h.pt).pt⟩
theorem es_or1 {ca : CE} (h : ES X C cl a ca) : ES X C cl (.BoolOp .Or [a] pos) ca := ⟨pe_one h.pe, (pw_or1 h.pt).pt⟩
theorem es_cmp {o : Cop} {ca cb : CE} (hu : X.A.units + 65 < cLine) (hm : behindInMarks (copE o) b = false) (ha : ES X C cl a ca) (hb : ES X C cl b cb) : ES X C cl (.Compare a [copE o] [b] pos) (.cmp o ca cb) where
  pe := se_cmp hu hm ha.pe hb.pe
  pt := by
    have e1 : onlyB (EvX C cl (.cmp o ca cb)) = fun env S => bnd (EvX C cl ca env S) fun x S => bnd (EvX C cl cb env S) fun y S => kCmp o x y S :=
      onlyB_bnd (k := fun env x S => bnd (EvX C cl cb env S) fun y S => kCmp o x y S) fun env d S S' y h => by
        cases q : EvX C cl cb env S with
        | none => rw [q] at h; cases h
        | some r =>
          rw [q] at h
          cases r with
          | ex x S1 => cases h
          | ok z S1 => exact kCmp_bl h
    rw [e1]
    exact st_cmp hu hm ha.pe hb.pe
theorem es_chn {o o2 : Cop} {ca cb cc : CE} (hu : X.A.units + 65 < cLine) (hm : lastMarks [copE o, copE o2] [b, c] = false) (ha : ES X C cl a ca) (hb : ES X C cl b cb) (hc : ES X C cl c cc) : ES X C cl (.Compare a [copE o, copE o2] [b, c] pos) (.chn o o2 ca cb cc) where
  pe := se_chn hu hm ha.pe hb.pe hc.pe
  pt := by
    have e1 : onlyB (EvX C cl (.chn o o2 ca cb cc)) = fun env S => bnd (EvX C cl ca env S) fun x S => bnd (EvX C cl cb env S) fun y S => kChn o o2 x y (EvX C cl cc env) S :=
      onlyB_bnd (k := fun env x S => bnd (EvX C cl cb env S) fun y S => kChn o o2 x y (EvX C cl cc env) S) fun env d S S' y h => by
        cases q : EvX C cl cb env S with
        | none => rw [q] at h; cases h
        | some r =>
          rw [q] at h
          cases r with
          | ex x S1 => cases h
          | ok z S1 => exact kChn_bl h
    rw [e1]
    exact st_chn hu hm ha.pe hb.pe hc.pe
theorem ite_only {fc fa fb : Env → Store → Option (R D)} : (fun env S => bnd (onlyB fc env S) (kIte (fa env) (fb env))) = fun env S => bnd (fc env S) (kIte (fa env) (fb env)) := by
  funext env S
  exact bnd_onlyB fun d S' hd => by cases d <;> first | rfl | exact absurd rfl (hd _)
theorem es_ite {ca cb cc : CE} (hc : ES X C cl c cc) (ha : ES X C cl a ca) (hb : ES X C cl b cb) : ES X C cl (.IfExp c a b pos) (.ite cc ca cb) where
  pe := by
    have := se_ite (pos := pos) hc.pt ha.pe hb.pe
    rw [ite_only] at this
    exact this
  pt := by
    have e1 : onlyB (EvX C cl (.ite cc ca cb)) = fun env S => bnd (onlyB (EvX C cl cc) env S) (kIte (onlyB (EvX C cl ca) env) (onlyB (EvX C cl cb) env)) := by
      rw [ite_only]
      funext env S
      show bnd (bnd (EvX C cl cc env S) (kIte (EvX C cl ca env) (EvX C cl cb env))) _ = _
      cases EvX C cl cc env S with
      | none => rfl
      | some r =>
        cases r with
        | ex x S1 => rfl
        | ok y S1 =>
          simp only [bnd_ok]
          cases y <;> first | rfl | (rename_i k; cases k <;> rfl)
    rw [e1]
    refine PT.imp (pt_ite hc.pt ha.pt hb.pt) fun σ H Q h => ?_
    obtain ⟨F, m, env, S, r, st, e, p⟩ := h
    refine bindX st e p fun F1 m1 S1 x xv H1 ev1 l1 st1 rx e1 p1 => ?_
    subst rx
    cases xv with
    | true => exact iteT (lastX st1 e1 p1)
    | false => exact iteF (lastX st1 e1 p1)
end
end Rf
set_option Elab.async false
set_option linter.all false
set_option maxRecDepth 100000
/-! Expressions: the pieces, then all. -/
namespace Rf
open PySem PySem.Spec PyProof.Rows L2

section
variable {G : Gc} {N : List Str} {hot : Hot} {sc : Scope} {X : Cx} {C : Sc} {cl : Calls} {L : Nat} {rec : Expr → Option CE} {a b c e : Expr} {p pos : Pos} {x : Str}
theorem args_ok (ih : ∀ e c, rec e = some c → ES X C cl e c) : ∀ {es : List Expr} {cs : CEs}, allE rec es = some cs → noStars es = true → PA X es (RX X.K C (rDs X.K C) (EvXs C cl cs))
  | [], cs, h, _ => by
    cases h
    exact sa_nil
  | e :: es, cs, h, hs => by
    have h' : noStar e = true ∧ noStars es = true := by simpa [noStars] using hs
    simp only [allE] at h
    cases e1 : rec e with
    | none => rw [e1] at h; cases h
    | some c =>
      cases e2 : allE rec es with
      | none => rw [e1, e2] at h; cases h
      | some cs' =>
        rw [e1, e2] at h
        cases h
        exact sa_cons (star_cons h'.1) (ih e c e1).pe (args_ok ih e2 h'.2)
theorem opt_ok (ih : ∀ e c, rec e = some c → ES X C cl e c) : ∀ {o : Option Expr} {co : CEo}, optE rec o = some co → PO X o (RX X.K C rO (EvXo C cl co))
  | none, co, h => by cases h; exact so_none
  | some e, co, h => by
    simp only [optE] at h
    obtain ⟨c, e1, rfl⟩ := Option.map_eq_some_iff.mp h
    exact so_some (ih e c e1).pe
theorem allE_len : ∀ {es : List Expr} {cs : CEs}, allE rec es = some cs → es = [] → cs = .nil
  | [], cs, h, _ => by cases h; rfl
  | _ :: _, _, _, h => by cases h

theorem BN_none (hx : XOk G C cl L N hot sc X) (h : x ∈ BN) : X.mg x = none := hx.g.blt x h
/-- built-in functions -/
theorem bi_ok {f : Bi} {es : List Expr} {fs : Env → Store → Option (R (List D))} (hx : XOk G C cl L N hot sc X) (hc : X.calm = true) (h : biOf x es.length = some f) (hg : Gl X x) (ha : PA X es (RX X.K C (rDs X.K C) fs)) (hs : noStars es = true) :
    PE X (.Call (.Name x p) es [] pos) (RX X.K C (rD X.K C) fun env S => bnd (fs env S) fun ds S => lift (builtin f ds S)) := by
  cases es with
  | nil => simp [biOf] at h
  | cons e r =>
    have h' : noStar e = true ∧ noStars r = true := by simpa [noStars] using hs
    unfold biOf at h
    split at h
    · split at h
      · rename_i hxx; subst hxx; cases h
        exact tcb_le (pe_callB rb_len hg (BN_none hx (by decide)) (by decide +kernel) ha (by decide) (by decide) (star_cons h'.1) (star_any h'.2))
      · split at h
        · rename_i hxx; subst hxx; cases h
          exact tcb_le (pe_callB rb_abs hg (BN_none hx (by decide)) (by decide +kernel) ha (by decide) (by decide) (star_cons h'.1) (star_any h'.2))
        · split at h
          · rename_i hxx; subst hxx; cases h
            exact tcb_le (pe_callTy rb_int hg (BN_none hx (by decide)) (by decide +kernel) ha (by decide) (by decide) (star_cons h'.1) (star_any h'.2))
          · split at h
            · rename_i hxx; subst hxx; cases h
              exact tcb_le (pe_callTy rb_list hg (BN_none hx (by decide)) (by decide +kernel) ha (by decide) (by decide) (star_cons h'.1) (star_any h'.2))
            · split at h
              · rename_i hxx; subst hxx; cases h
                exact tcb_le (pe_callTy rb_tuple hg (BN_none hx (by decide)) (by decide +kernel) ha (by decide) (by decide) (star_cons h'.1) (star_any h'.2))
              · split at h
                · rename_i hxx; subst hxx; cases h
                  exact tcb_le (pe_callB (rb_all hc) hg (BN_none hx (by decide)) (by decide +kernel) ha (by decide) (by decide) (star_cons h'.1) (star_any h'.2))
                · split at h
                  · rename_i hxx; subst hxx; cases h
                    exact tcb_le (pe_callB (rb_any hc) hg (BN_none hx (by decide)) (by decide +kernel) ha (by decide) (by decide) (star_cons h'.1) (star_any h'.2))
                  · split at h
                    · rename_i hxx; subst hxx; cases h
                      exact tcb_le (pe_callB (rb_sum hc) hg (BN_none hx (by decide)) (by decide +kernel) ha (by decide) (by decide) (star_cons h'.1) (star_any h'.2))
                    · cases h
    · split at h
      · split at h
        · rename_i hxx; subst hxx; cases h
          exact tcb_le (pe_callB (rb_max2 hc) hg (BN_none hx (by decide)) (by decide +kernel) ha (by decide) (by decide) (star_cons h'.1) (star_any h'.2))
        · split at h
          · rename_i hxx; subst hxx; cases h
            exact tcb_le (pe_callB (rb_min2 hc) hg (BN_none hx (by decide)) (by decide +kernel) ha (by decide) (by decide) (star_cons h'.1) (star_any h'.2))
          · cases h
      · cases h
/-- methods of lists -/
theorem mt_ok {f : Mt} {m : Str} {apos cpos : Pos} {es : List Expr} {fa : Env → Store → Option (R D)} {cs : CEs} (h : mtOf m es.length = some f) (ho : PE X a (RX X.K C (rD X.K C) fa)) (ha : PA X es (RX X.K C (rDs X.K C) (EvXs C cl cs))) (hn : es = [] → cs = .nil) (hs : noStars es = true) (hp : plainO a = true)
    (hl : (apos.endLine == cpos.line) = true) (hlen : es.length < 30) : PE X (.Call (.Attribute a m apos) es [] cpos) (RX X.K C (rD X.K C) fun env S => bnd (fa env S) (kMt (method f) (EvXs C cl cs env))) := by
  cases es with
  | nil =>
    rw [hn rfl]
    unfold mtOf at h
    simp only [List.length_nil, Nat.zero_ne_one, if_false, if_true] at h
    split at h
    · rename_i hm; subst hm; cases h
      exact tbm0_le (pe_bm0 PySem.F.plainAttrs_list PySem.F.slot_list_pop PySem.F.type_list_pop rm_pop ho (base_plain hp) hl)
    · cases h
  | cons e r =>
    have h' : noStar e = true ∧ noStars r = true := by simpa [noStars] using hs
    have hf := star_few (pos := cpos) (env := X.env) hs hlen
    unfold mtOf at h
    split at h
    · split at h
      · rename_i hm; subst hm; cases h
        exact tbm_le (pe_bm PySem.F.plainAttrs_list PySem.F.slot_list_append PySem.F.type_list_append rm_append ho ha (base_plain hp) hf hl (star_cons h'.1) (star_any h'.2))
      · split at h
        · rename_i hm; subst hm; cases h
          exact tbm_le (pe_bm PySem.F.plainAttrs_list PySem.F.slot_list_pop PySem.F.type_list_pop rm_popAt ho ha (base_plain hp) hf hl (star_cons h'.1) (star_any h'.2))
        · split at h
          · rename_i hm; subst hm; cases h
            exact tbm_le (pe_bm PySem.F.plainAttrs_list PySem.F.slot_list_extend PySem.F.type_list_extend rm_extend ho ha (base_plain hp) hf hl (star_cons h'.1) (star_any h'.2))
          · split at h
            · rename_i hm; subst hm; cases h
              exact tbm_le (pe_bm PySem.F.plainAttrs_list PySem.F.slot_list_remove PySem.F.type_list_remove rm_remove ho ha (base_plain hp) hf hl (star_cons h'.1) (star_any h'.2))
            · split at h
              · rename_i hm; subst hm; cases h
                exact tbm_le (pe_bm PySem.F.plainAttrs_list PySem.F.slot_list_index PySem.F.type_list_index rm_index ho ha (base_plain hp) hf hl (star_cons h'.1) (star_any h'.2))
              · split at h
                · rename_i hm; subst hm; cases h
                  exact tbm_le (pe_bm PySem.F.plainAttrs_list PySem.F.slot_list_count PySem.F.type_list_count rm_count ho ha (base_plain hp) hf hl (star_cons h'.1) (star_any h'.2))
                · cases h
    · split at h
      · rename_i h1 h2; simp at h2
      · cases h
/-- the types that isinstance asks for -/
theorem tyE_ok (hx : XOk G C cl L N hot sc X) {t : Ty} (h : tyE sc e = some t) : PE X e (tC (tyV' C.ax.CT t)) ∧ noStar e = true := by
  cases e with
  | Name y p =>
    simp only [tyE] at h
    split at h
    case isFalse => cases h
    case isTrue hg =>
    obtain ⟨h1, h2, h3⟩ := glb_of hx.scr hg
    refine ⟨?_, rfl⟩
    unfold tyOf at h
    split at h
    · rename_i hxx; subst hxx; cases h; exact pe_ty (fun z => by cases z) (fun _ => ⟨BN_none hx (by decide), by decide +kernel, by decide⟩) h1 h2
    · split at h
      · rename_i hxx; subst hxx; cases h; exact pe_ty (fun z => by cases z) (fun _ => ⟨BN_none hx (by decide), by decide +kernel, by decide⟩) h1 h2
      · split at h
        · rename_i hxx; subst hxx; cases h; exact pe_ty (fun z => by cases z) (fun _ => ⟨BN_none hx (by decide), by decide +kernel, by decide⟩) h1 h2
        · split at h
          · rename_i hxx; subst hxx; cases h; exact pe_ty (fun z => by cases z) (fun _ => ⟨BN_none hx (by decide), by decide +kernel, by decide⟩) h1 h2
          · split at h
            · rename_i hxx; subst hxx; cases h; exact pe_ty (fun z => by cases z) (fun _ => ⟨BN_none hx (by decide), by decide +kernel, by decide⟩) h1 h2
            · split at h
              · rename_i hxx; subst hxx; cases h; exact pe_ty (fun _ => hx.g.mgT) (fun z => absurd rfl z) h1 h2
              · cases h
  | _ => cases h
theorem tyEs_ok (hx : XOk G C cl L N hot sc X) : ∀ {es : List Expr} {ts : List Ty}, tyEs sc es = some ts → es.length = ts.length ∧ ∀ (i : Nat) e t, es[i]? = some e → ts[i]? = some t → PE X e (tC (tyV' C.ax.CT t))
  | [], ts, h => by cases h; exact ⟨rfl, fun i e t z => by simp at z⟩
  | e :: es, ts, h => by
    simp only [tyEs] at h
    cases e1 : tyE sc e with
    | none => rw [e1] at h; cases h
    | some t =>
      cases e2 : tyEs sc es with
      | none => rw [e1, e2] at h; cases h
      | some ts' =>
        rw [e1, e2] at h
        cases h
        obtain ⟨h1, h2⟩ := tyEs_ok hx e2
        refine ⟨by simp [h1], fun i e' t' q1 q2 => ?_⟩
        cases i with
        | zero => simp at q1 q2; subst q1 q2; exact (tyE_ok hx e1).1
        | succ i => exact h2 i e' t' (by simpa using q1) (by simpa using q2)
theorem copE_of (o : CmpOp) : copE (copOf o) = o := by cases o <;> rfl
theorem bopE_of {o : Operator} {o' : Bop} (h : bopOf o = some o') : bopE o' = o := by cases o <;> cases h <;> rfl
theorem att_of {f : Str} {i : Nat} (h : attOf f = some i) : atN i = some f := by
  unfold attOf at h
  split at h
  · rename_i z; subst z; cases h; rfl
  · split at h
    · rename_i z; subst z; cases h; rfl
    · split at h
      · rename_i z; subst z; cases h; rfl
      · cases h
/-- what is walked -/
theorem iter_ok {tg : Expr} {ci : CI} (hx : XOk G C cl L N hot sc X) (ih : ∀ e c, rec e = some c → ES X C cl e c) (h : cmpI rec sc tg e = some ci) (hn : notSet e = true) : PI X tg e (RX X.K C (rI X.K C) (EvXi C cl ci)) ∧ ∀ y, foldedSetIterable e X.env y = pure y := by
  have seq : ∀ {e : Expr} {ci : CI}, (rec e).map CI.seq = some ci → PI X tg e (RX X.K C (rI X.K C) (EvXi C cl ci)) := fun {e ci} h => by
    obtain ⟨c, e1, rfl⟩ := Option.map_eq_some_iff.mp h
    exact si_seq (ih e c e1).pe
  refine ⟨?_, fun y => by cases e <;> first | rfl | (simp [notSet] at hn)⟩
  unfold cmpI at h
  split at h
  · rename_i y p args pos
    split at h
    · rename_i hg
      rw [Bool.and_eq_true] at hg
      obtain ⟨h1, h2, h3⟩ := glb_of hx.scr hg.1
      have ey : y = "range" := by simpa using hg.2
      subst ey
      split at h
      · rename_i a
        split at h
        · rename_i hs
          rw [noStarL_eq] at hs
          obtain ⟨c, e1, rfl⟩ := Option.map_eq_some_iff.mp h
          exact si_rng1 h1 (BN_none hx (by decide)) (ih a c e1).pe (by simpa [noStars] using hs)
        · cases h
      · rename_i a b
        split at h
        · rename_i hs
          rw [noStarL_eq] at hs
          split at h
          · rename_i ca cb e1 e2
            cases h
            exact si_rng2 h1 (BN_none hx (by decide)) (ih a ca e1).pe (ih b cb e2).pe hs
          · cases h
        · cases h
      · cases h
    · split at h
      · rename_i hg
        rw [Bool.and_eq_true] at hg
        obtain ⟨h1, h2, h3⟩ := glb_of hx.scr hg.1
        have ey : y = "zip" := by simpa using hg.2
        subst ey
        split at h
        · rename_i a b
          split at h
          · rename_i hs
            rw [Bool.and_eq_true, noStarL_eq] at hs
            split at h
            · rename_i ca cb e1 e2
              cases h
              cases tg with
              | Tuple elts kk tpos => exact si_zip h1 (BN_none hx (by decide)) (ih a ca e1).pe (ih b cb e2).pe hs.1
              | _ => cases hs.2
            · cases h
          · cases h
        · cases h
      · split at h
        · rename_i hg
          rw [Bool.and_eq_true] at hg
          obtain ⟨h1, h2, h3⟩ := glb_of hx.scr hg.1
          have ey : y = "enumerate" := by simpa using hg.2
          subst ey
          split at h
          · rename_i a
            split at h
            · rename_i hs
              rw [Bool.and_eq_true, noStarL_eq] at hs
              obtain ⟨c, e1, rfl⟩ := Option.map_eq_some_iff.mp h
              cases tg with
              | Tuple elts kk tpos => exact si_enum h1 (BN_none hx (by decide)) (ih a c e1).pe (by simpa [noStars] using hs.1)
              | _ => cases hs.2
            · cases h
          · cases h
        · exact seq h
  · rw [if_pos hn] at h
    exact seq h
end
end Rf
set_option Elab.async false
set_option linter.all false
set_option maxRecDepth 100000
/-! Expressions: all. -/
namespace Rf
open PySem PySem.Spec PyProof.Rows L2

section
variable {G : Gc} {N : List Str} {hot : Hot} {sc : Scope} {X : Cx} {C : Sc} {cl : Calls} {L : Nat} {rec : Expr → Option CE} {a b c e : Expr} {p pos : Pos} {x : Str}
theorem at_as {o : Option Nat} (h : hot.at_ o = true) : ∃ i, hot = .as i ∧ o = some i := by
  cases hot with
  | as i =>
    cases o with
    | none => cases h
    | some j =>
      have : i = j := by simpa [Hot.at_] using h
      exact ⟨i, rfl, by rw [this]⟩
  | _ => cases o <;> cases h
theorem cons_of {es : List Expr} (h : es.isEmpty = false) : ∃ e r, es = e :: r := by
  cases es with
  | nil => cases h
  | cons e r => exact ⟨e, r, rfl⟩
theorem tc_of (h : PE X b (tC (v := v))) (hs : noStar b = true) : PE X b (tC v) := h
theorem call_ok {args : List Expr} {cc : CE} (hx : XOk G C cl L N hot sc X) (ih : ∀ e c, rec e = some c → ES X C cl e c) (h : cmpCall G N hot rec sc x args = some cc) : PE X (.Call (.Name x p) args [] pos) (RX X.K C (rD X.K C) (EvX C cl cc)) := by
  unfold cmpCall at h
  split at h
  case isTrue => cases h
  case isFalse hg0 =>
  have hg0 : glb sc x = true := by simpa using hg0
  obtain ⟨hg, hd, hnn⟩ := glb_of hx.scr hg0
  split at h
  case h_1 f ef =>
    split at h
    case isFalse => cases h
    case isTrue hs =>
    simp only [Bool.and_eq_true, decide_eq_true_eq] at hs
    obtain ⟨⟨h1, h3⟩, h4⟩ := hs
    obtain ⟨cs, e1, rfl⟩ := Option.map_eq_some_iff.mp h
    obtain ⟨fd, ps, np, k1, k2, k3, k4, k5⟩ := hx.g.fid x f ef h4
    rw [noStarL_eq] at h1
    cases args with
    | nil =>
      cases e1
      exact se_call0 k4 (hx.cool h3).2 hg k1 k2 k3 hx.tk k5 hd
    | cons e r =>
    exact se_call (CX := L2.CX X.prog X.w) k4 (hx.cool h3).2 hg k1 k2 k3 hx.tk k5 (args_ok ih e1 h1) h1 hd
  case h_2 =>
    split at h
    case isTrue hxx =>
      subst hxx
      split at h
      case isFalse => cases h
      case isTrue hs =>
      simp only [Bool.and_eq_true, Bool.not_eq_true'] at hs
      obtain ⟨⟨⟨h1, h2⟩, h3⟩, h4⟩ := hs
      obtain ⟨cs, e1, rfl⟩ := Option.map_eq_some_iff.mp h
      obtain ⟨e, r, rfl⟩ := cons_of h2
      obtain ⟨k0, k, fI, fd, ps, k1, k2, k3, k4⟩ := hx.g.mkT h4
      rw [noStarL_eq] at h1
      have e2 : EvX C cl (.mkT cs) = fun env S => bnd (EvXs C cl cs env S) mkTrack := by
        funext env S
        show bnd (EvXs C cl cs env S) (fun ds S => cl 0 ds S) = _
        congr 1
        funext ds S
        exact k0 ds S
      rw [e2]
      exact se_mk k2 k3 ((hx.cool h3).2.mono k1) hg hx.g.mgT k4 hx.tk (args_ok ih e1 h1) h1
    case isFalse =>
    split at h
    case isTrue hxx =>
      subst hxx
      have hmi : X.mg "isinstance" = none := BN_none hx (by decide)
      split at h
      case h_1 n p1 b p2 =>
        split at h
        case isTrue ha =>
          split at h
          case isFalse => cases h
          case isTrue hs =>
          simp only [Bool.and_eq_true] at hs
          obtain ⟨⟨⟨h1, h2⟩, h3⟩, h4⟩ := hs
          obtain ⟨i, e1, rfl⟩ := Option.map_eq_some_iff.mp h
          obtain ⟨j, rfl, e2⟩ := at_as ha
          rw [e1] at e2
          cases e2
          obtain ⟨g1, g2, g3⟩ := glb_of hx.scr h3
          have hb : b ∈ C.ax.xs ∨ b = "ValueError" := by
            rw [hx.g.axs]
            simp only [Bool.or_eq_true, decide_eq_true_eq, List.contains_iff_mem] at h4
            exact h4
          exact hx.exi i n _ _ _ _ b _ rfl (slot_get e1) (hx.scr.vis _ h1) (okN_1 h2).1 (okN_1 h2).2.1 hg hb g1 g2 rfl
        case isFalse =>
        split at h
        case h_2 => cases h
        case h_1 t c e1 e2 =>
        cases h
        obtain ⟨k1, k2⟩ := tyE_ok hx e1
        exact se_isi hx.g.trk hg hmi (ih _ c e2).pe k1 rfl
      case h_2 =>
        rename_i _ a bs k p2
        split at h
        case h_2 => cases h
        case h_1 ts c e1 e2 =>
        split at h
        case isFalse => cases h
        case isTrue hs =>
        simp only [Bool.and_eq_true, decide_eq_true_eq] at hs
        obtain ⟨⟨⟨h1, h2⟩, h3⟩, h4⟩ := hs
        cases h
        obtain ⟨k1, k2⟩ := tyEs_ok hx e1
        rw [noStar1_eq] at h1
        rw [noStarL_eq] at h2
        exact se_isiT hx.g.trk hg hmi (ih a c e2).pe (pa_tys h2 k1 k2) ⟨h3, h4⟩ h1
      case h_3 a b _ _ =>
        split at h
        case h_2 => cases h
        case h_1 t c e1 e2 =>
        split at h
        case isFalse => cases h
        case isTrue hs =>
        cases h
        rw [noStarL_eq] at hs
        exact se_isi hx.g.trk hg hmi (ih a c e2).pe (tyE_ok hx e1).1 hs
      case h_4 => cases h
    case isFalse =>
    split at h
    case isTrue hxx =>
      subst hxx
      have hml : X.mg "list" = none := BN_none hx (by decide)
      have one : ∀ {a : Expr} {c : CE}, rec a = some c → noStar a = true → PE X (.Call (.Name "list" p) [a] [] pos) (RX X.K C (rD X.K C) (EvX C cl (.bi .list (.cons c .nil)))) := fun {a c} e1 hs =>
        tcb_le (pe_callTy (r := RVs X.K C.ax (builtin .list)) rb_list hg hml (by decide +kernel) (sa_cons (star_cons hs) (ih a c e1).pe sa_nil) (by decide) (by decide) (star_cons hs) (star_any rfl))
      split at h
      case h_1 y p1 rs p2 =>
        split at h
        case isTrue hs =>
          simp only [Bool.and_eq_true, decide_eq_true_eq] at hs
          obtain ⟨⟨h1, rfl⟩, h3⟩ := hs
          obtain ⟨g1, g2, g3⟩ := glb_of hx.scr h1
          have hmr : X.mg "range" = none := BN_none hx (by decide)
          split at h
          case h_1 a =>
            split at h
            case isFalse => cases h
            case isTrue hs =>
            rw [noStarL_eq] at hs
            have hs' : noStar a = true := by simpa [noStars] using hs
            obtain ⟨c, e1, rfl⟩ := Option.map_eq_some_iff.mp h
            exact se_rL1 (hx.cool h3).1 hg hml (prg1 g1 hmr (ih a c e1).pe hs') rfl
          case h_2 a b =>
            split at h
            case isFalse => cases h
            case isTrue hs =>
            rw [noStarL_eq] at hs
            split at h
            case h_2 => cases h
            case h_1 ca cb e1 e2 =>
            cases h
            exact se_rL2 (hx.cool h3).1 hg hml (prg2 g1 hmr (ih a ca e1).pe (ih b cb e2).pe hs) rfl
          case h_3 => cases h
        case isFalse =>
        obtain ⟨c, e1, rfl⟩ := Option.map_eq_some_iff.mp h
        exact one e1 rfl
      case h_2 a _ =>
        split at h
        case isFalse => cases h
        case isTrue hs =>
        rw [noStarL_eq] at hs
        obtain ⟨c, e1, rfl⟩ := Option.map_eq_some_iff.mp h
        exact one e1 (by simpa [noStars] using hs)
      case h_3 => cases h
    case isFalse =>
    split at h
    case isTrue hxx =>
      subst hxx
      have hml : X.mg "tuple" = none := BN_none hx (by decide)
      have one : ∀ {a : Expr} {c : CE}, rec a = some c → noStar a = true → PE X (.Call (.Name "tuple" p) [a] [] pos) (RX X.K C (rD X.K C) (EvX C cl (.bi .tuple (.cons c .nil)))) := fun {a c} e1 hs =>
        tcb_le (pe_callTy (r := RVs X.K C.ax (builtin .tuple)) rb_tuple hg hml (by decide +kernel) (sa_cons (star_cons hs) (ih a c e1).pe sa_nil) (by decide) (by decide) (star_cons hs) (star_any rfl))
      split at h
      case h_1 y p1 rs p2 =>
        split at h
        case isTrue hs =>
          simp only [Bool.and_eq_true, decide_eq_true_eq] at hs
          obtain ⟨⟨h1, rfl⟩, h3⟩ := hs
          obtain ⟨g1, g2, g3⟩ := glb_of hx.scr h1
          have hmr : X.mg "range" = none := BN_none hx (by decide)
          split at h
          case h_1 a =>
            split at h
            case isFalse => cases h
            case isTrue hs =>
            rw [noStarL_eq] at hs
            have hs' : noStar a = true := by simpa [noStars] using hs
            obtain ⟨c, e1, rfl⟩ := Option.map_eq_some_iff.mp h
            exact se_rT1 (hx.cool h3).1 hg hml (prg1 g1 hmr (ih a c e1).pe hs') rfl
          case h_2 a b =>
            split at h
            case isFalse => cases h
            case isTrue hs =>
            rw [noStarL_eq] at hs
            split at h
            case h_2 => cases h
            case h_1 ca cb e1 e2 =>
            cases h
            exact se_rT2 (hx.cool h3).1 hg hml (prg2 g1 hmr (ih a ca e1).pe (ih b cb e2).pe hs) rfl
          case h_3 => cases h
        case isFalse =>
        obtain ⟨c, e1, rfl⟩ := Option.map_eq_some_iff.mp h
        exact one e1 rfl
      case h_2 a _ =>
        split at h
        case isFalse => cases h
        case isTrue hs =>
        rw [noStarL_eq] at hs
        obtain ⟨c, e1, rfl⟩ := Option.map_eq_some_iff.mp h
        exact one e1 (by simpa [noStars] using hs)
      case h_3 => cases h
    case isFalse =>
    split at h
    case h_2 => cases h
    case h_1 f ef =>
    split at h
    case isFalse => cases h
    case isTrue hs =>
    rw [Bool.and_eq_true, noStarL_eq] at hs
    obtain ⟨cs, e1, rfl⟩ := Option.map_eq_some_iff.mp h
    exact bi_ok hx (hx.cool hs.2).1 ef hg (args_ok ih e1 hs.1) hs.1
end
end Rf
set_option Elab.async false
set_option linter.all false
set_option maxRecDepth 100000
/-! Targets, comprehensions, all expressions. -/
namespace Rf
open PySem PySem.Spec PyProof.Rows L2

mutual
theorem ctS_eq : ∀ t : CT, ctS t = tslots t
  | .n i => rfl
  | .tup ts => ctSs_eq ts
theorem ctSs_eq : ∀ ts : CTs, ctSs ts = tslotss ts
  | .nil => rfl
  | .cons t ts => by
    show ctS t ++ ctSs ts = tslots t ++ tslotss ts
    rw [ctS_eq t, ctSs_eq ts]
end
theorem asg_cons {e : Expr} {es : List Expr} {env : PySem.Env} (h : noStar e = true) : assignEach (e :: es) env = (false, assign e env) :: assignEach es env := by
  cases e <;> first | rfl | (simp [noStar] at h)
theorem asg_len {env : PySem.Env} : ∀ {es : List Expr}, noStars es = true → (assignEach es env).length = es.length ∧ (assignEach es env).findIdx? (·.1) = none
  | [], _ => ⟨rfl, rfl⟩
  | e :: r, h => by
    have h' : noStar e = true ∧ noStars r = true := by simpa [noStars] using h
    rw [asg_cons h'.1]
    obtain ⟨h1, h2⟩ := asg_len (env := env) h'.2
    refine ⟨by simp [h1], ?_⟩
    rw [List.findIdx?_cons, h2]
    rfl
section
variable {G : Gc} {N : List Str} {hot : Hot} {sc : Scope} {X : Cx} {C : Sc} {cl : Calls} {L : Nat} {a b c e tg : Expr} {p pos : Pos} {x : Str}
theorem tg_ok (hN : X.N = N) (nd : N.Nodup) (hf : ScR sc X) (hc : X.calm = true) : ∀ (n : Nat) {tg : Expr} {t : CT}, cmpT N n sc tg = some t → PG X tg (GX X.K C (tslots t) (fun d env S => setG t d env S))
  | 0, _, _, h => by cases h
  | n + 1, tg, t, h => by
    have ih := fun {tg : Expr} {t : CT} => tg_ok hN nd hf hc n (tg := tg) (t := t)
    cases tg with
    | Name x p =>
      have h : (if isLoc (sc.names.lookup x) then (slot N x).map CT.n else none) = some t := h
      split at h
      case isFalse => cases h
      case isTrue hl =>
      obtain ⟨i, e1, rfl⟩ := Option.map_eq_some_iff.mp h
      exact sg_name (hN ▸ nd) (by rw [hN]; exact slot_get e1) (hf.loc _ hl).1 (hf.loc _ hl).2
    | Tuple es k p =>
      have h : (if noStarL es then (cmpT1.go (cmpT N n) sc es).map CT.tup else none) = some t := h
      split at h
      case isFalse => cases h
      case isTrue hs =>
      rw [noStarL_eq] at hs
      obtain ⟨ts, e1, rfl⟩ := Option.map_eq_some_iff.mp h
      have all : ∀ {es : List Expr} {ts : CTs}, cmpT1.go (cmpT N n) sc es = some ts → noStars es = true → PGs X es (GXs X.K C (tslotss ts) (setTs ts)) ∧ es.length = ctsLen ts := by
        intro es
        induction es with
        | nil => intro ts h _; cases h; exact ⟨sgs_nil, rfl⟩
        | cons e r ihr =>
          intro ts h hs
          have h' : noStar e = true ∧ noStars r = true := by simpa [noStars] using hs
          simp only [cmpT1.go] at h
          cases e1 : cmpT N n sc e with
          | none => rw [e1] at h; cases h
          | some c =>
            cases e2 : cmpT1.go (cmpT N n) sc r with
            | none => rw [e1, e2] at h; cases h
            | some cs =>
              rw [e1, e2] at h
              cases h
              obtain ⟨k1, k2⟩ := ihr e2 h'.2
              exact ⟨sgs_cons (sg_pure (ih e1)) k1 (by rw [asg_cons h'.1]; rfl), by show r.length + 1 = ctsLen cs + 1; rw [k2]⟩
      obtain ⟨k1, k2⟩ := all e1 hs
      obtain ⟨k3, k4⟩ := asg_len (env := X.env) hs
      exact sg_tup hc k1 (k3.trans k2) k4
    | _ => cases h
theorem XOk.inBlk (hx : XOk G C cl L N .no sc X) {scope : Scope} (hk : scope.kind = .function) (s : Shared) (H : Hp) (B : Addr) (cls : List (Str × Addr)) (fp : List Addr) : XOk G C.blk cl L N .no scope (X.blk s H scope (compEnvC scope cls B X.env) fp) where
  g := hx.g
  hN := hx.hN
  nd := hx.nd
  scr := scr_blk
  kf := hk
  un := hx.un
  tk := fun u s' ⟨_, _, _, _, _, _, _, _, _, _, _, _, _, _, _, _, w⟩ => w.elim
  cool := hx.cool
  fld := fun _ _ _ _ _ z => nomatch z
  exi := fun _ _ _ _ _ _ _ _ z => nomatch z
end
/-- a comprehension's pieces -/
def cmpComp (G : Gc) (N : List Str) (hot : Hot) (tfuel : Nat) (rec : Scope → Expr → Option CE) (sc : Scope) (elt tg iter : Expr) (ifs : List Expr) (scope : Scope) : Option CE :=
    if !hot.cool || !notSet iter then none else
    match cmpI (rec sc) sc tg iter, cmpT N tfuel scope tg, rec scope elt with
    | some ci, some ct, some ce =>
      if L2.blkC N sc scope (ownOf N scope) && (ctS ct).all (fun i => ((ownOf N scope).map (·.2)).contains i) then
        match ifs with
        | [] => some (.comp ci ct ((ownOf N scope).map (·.2)) .none ce)
        | [c] => (rec scope c).map fun cc => .comp ci ct ((ownOf N scope).map (·.2)) (.some cc) ce
        | _ => none
      else none
    | _, _, _ => none
theorem comp_in {G : Gc} {N : List Str} {cl : Calls} {L : Nat} {hot : Hot} {tf : Nat} {rec : Scope → Expr → Option CE} {sc scope : Scope} {X : Cx} {C : Sc} {elt tg iter : Expr} {ifs : List Expr} {c : CE} (hx : XOk G C cl L N hot sc X)
    (ih : ∀ e c, rec sc e = some c → ES X C cl e c) (ihb : ∀ {X' : Cx} {sc' : Scope} {C' : Sc} {e : Expr} {c : CE}, XOk G C' cl L N .no sc' X' → hot = .no → rec sc' e = some c → ES X' C' cl e c)
    (h : cmpComp G N hot tf rec sc elt tg iter ifs scope = some c) : ∃ (fi : Env → Store → Option (R Items)) (fc : Env → Store → Option (R Bool)) (fe : Env → Store → Option (R D)) (t : CT),
      (∀ i ∈ tslots t, i ∈ (ownOf N scope).map (·.2)) ∧ X.calm = true ∧ PI X tg iter (RX X.K C (rI X.K C) fi) ∧ BlkOk X.N X.env.scope scope (ownOf N scope) ∧
      (∀ (s : Shared) (H : Hp) (B : Addr) (cls : List (Str × Addr)) (fp : List Addr), PG (X.blk s H scope (compEnvC scope cls B X.env) fp) tg (GX X.K C.blk (tslots t) (fun d env S => setG t d env S))) ∧
      (∀ (s : Shared) (H : Hp) (B : Addr) (cls : List (Str × Addr)) (fp : List Addr), PTs (X.blk s H scope (compEnvC scope cls B X.env) fp) ifs (RX X.K C.blk rBl fc)) ∧
      (∀ (s : Shared) (H : Hp) (B : Addr) (cls : List (Str × Addr)) (fp : List Addr), PE (X.blk s H scope (compEnvC scope cls B X.env) fp) elt (RX X.K C.blk (rD X.K C.blk) fe)) ∧ (∀ y, foldedSetIterable iter X.env y = pure y) ∧
      (fun env S => bnd (fi env S) (kComp fc fe t ((ownOf N scope).map (·.2)) env)) = EvX C cl c := by
  unfold cmpComp at h
  split at h
  case isTrue => cases h
  case isFalse hh =>
  simp only [Bool.or_eq_true, Bool.not_eq_true', not_or, Bool.not_eq_false] at hh
  obtain ⟨hcool, hset⟩ := hh
  have hno : hot = .no := by cases hot <;> first | rfl | cases hcool
  subst hno
  split at h
  case h_2 => cases h
  case h_1 ci ct ce e1 e2 e3 =>
  split at h
  case isFalse => cases h
  case isTrue hb =>
  rw [Bool.and_eq_true] at hb
  obtain ⟨hb1, hb2⟩ := hb
  have ok0 : BlkOk N sc scope (ownOf N scope) := blkOk_by hb1
  have ok : BlkOk X.N X.env.scope scope (ownOf N scope) := by
    rw [hx.hN]
    exact ⟨ok0.kind, ok0.uniq, ok0.ix, fun y hy e => hx.scr.cf _ (ok0.free y hy e), ok0.own⟩
  have hcalm := (hx.cool rfl).1
  obtain ⟨hi, hfs⟩ := iter_ok hx ih e1 hset
  have ht : ∀ i ∈ tslots ct, i ∈ (ownOf N scope).map (·.2) := fun i hi => by
    rw [← ctS_eq] at hi
    have := List.all_eq_true.mp hb2 i hi
    simpa [List.contains_iff_mem] using this
  have hin := fun s H B cls fp => hx.inBlk ok.kind s H B cls fp
  have hg : ∀ (s : Shared) (H : Hp) (B : Addr) (cls : List (Str × Addr)) (fp : List Addr), PG (X.blk s H scope (compEnvC scope cls B X.env) fp) tg (GX X.K C.blk (tslots ct) (fun d env S => setG ct d env S)) := fun s H B cls fp =>
    tg_ok (X := X.blk s H scope (compEnvC scope cls B X.env) fp) hx.hN hx.nd (hin s H B cls fp).scr hcalm _ e2
  have he : ∀ (s : Shared) (H : Hp) (B : Addr) (cls : List (Str × Addr)) (fp : List Addr), PE (X.blk s H scope (compEnvC scope cls B X.env) fp) elt (RX X.K C.blk (rD X.K C.blk) (EvX C.blk cl ce)) := fun s H B cls fp =>
    (ihb (hin s H B cls fp) rfl e3).pe
  split at h
  case h_1 =>
    cases h
    exact ⟨EvXi C cl ci, fun _ S => some (.ok true S), EvX C.blk cl ce, ct, ht, hcalm, hi, ok, hg, fun s H B cls fp => sc_yes, he, hfs, rfl⟩
  case h_2 cn =>
    obtain ⟨cc, e4, rfl⟩ := Option.map_eq_some_iff.mp h
    have hcn : ∀ (s : Shared) (H : Hp) (B : Addr) (cls : List (Str × Addr)) (fp : List Addr), PTs (X.blk s H scope (compEnvC scope cls B X.env) fp) [cn] (RX X.K C.blk rBl (fun env S => evc cl C.ex (.some cc) env S)) := fun s H B cls fp => by
      have q := sc_one (ihb (hin s H B cls fp) rfl e4).pt
      have e5 : (fun env S => bnd (onlyB (EvX C.blk cl cc) env S) kBl) = fun env S => evc cl C.ex (.some cc) env S := by
        funext env S
        exact bnd_onlyB fun d S' hd => by cases d <;> first | rfl | exact absurd rfl (hd _)
      rw [e5] at q
      exact q
    exact ⟨EvXi C cl ci, _, EvX C.blk cl ce, ct, ht, hcalm, hi, ok, hg, hcn, he, hfs, rfl⟩
  case h_3 => cases h
/-- THE expressions -/
theorem es_all {G : Gc} {N : List Str} {cl : Calls} {L : Nat} : ∀ (n : Nat) {hot : Hot} {sc : Scope} {X : Cx} {C : Sc} {e : Expr} {c : CE}, XOk G C cl L N hot sc X → cmpE G N hot n sc e = some c → ES X C cl e c
  | 0, _, _, _, _, _, _, _, h => by cases h
  | n + 1, hot, sc, X, C, e, c, hx, h => by
    have ih : ∀ e c, cmpE G N hot n sc e = some c → ES X C cl e c := fun e c q => es_all n hx q
    replace h : cmpE1 G N hot (n + 1) (cmpE G N hot n) sc e = some c := h
    unfold cmpE1 at h
    split at h
    case h_1 _ x p =>
      split at h
      case isTrue hv =>
        rw [Bool.and_eq_true] at hv
        split at h
        case isTrue => cases h
        case isFalse =>
        obtain ⟨i, e1, rfl⟩ := Option.map_eq_some_iff.mp h
        exact ES.val (se_var (by rw [hx.hN]; exact slot_get e1) (hx.scr.vis _ hv.1) (okN_1 hv.2).1 (okN_1 hv.2).2.1 _ fun env S => rfl) fun _ => rfl
      case isFalse =>
      split at h
      case isFalse => cases h
      case isTrue hg =>
      obtain ⟨g1, g2, g3⟩ := glb_of hx.scr hg
      obtain ⟨d, e1, rfl⟩ := Option.map_eq_some_iff.mp h
      obtain ⟨u, v, k1, k2, k3⟩ := hx.g.con x d e1
      exact ES.val (se_con (pe_glob g1 k1 k2 g2) k3) fun _ => rfl
    case h_2 => cases h; exact ES.val (se_con pe_int fun _ _ _ => rfl) fun _ => rfl
    case h_3 => cases h; exact ES.val (se_con pe_bl fun _ _ _ => rfl) fun _ => rfl
    case h_4 => cases h; exact ES.val (se_con pe_non fun _ _ _ => rfl) fun _ => rfl
    case h_5 => cases h; exact ES.val (se_con pe_str fun _ _ _ => rfl) fun _ => rfl
    case h_6 _ es k p =>
      split at h
      case isFalse => cases h
      case isTrue hs =>
      rw [noStarL_eq] at hs
      obtain ⟨cs, e1, rfl⟩ := Option.map_eq_some_iff.mp h
      exact ES.val (se_tup (args_ok ih e1 hs)) fun _ => rfl
    case h_7 _ es p =>
      split at h
      case isFalse => cases h
      case isTrue hs =>
      rw [noStarL_eq] at hs
      obtain ⟨cs, e1, rfl⟩ := Option.map_eq_some_iff.mp h
      exact ES.val (se_lst (args_ok ih e1 hs)) fun _ => rfl
    case h_8 _ a o b p =>
      split at h
      case h_2 => cases h
      case h_1 o' ca cb e1 e2 e3 =>
      cases h
      have := se_bin (pos := p) (o := o') (ih a ca e2).pe (ih b cb e3).pe
      rw [bopE_of e1] at this
      exact ES.val this fun _ => rfl
    case h_9 _ a p =>
      obtain ⟨ca, e1, rfl⟩ := Option.map_eq_some_iff.mp h
      exact ES.val (se_neg (ih a ca e1).pe) fun _ => rfl
    case h_10 _ a p =>
      obtain ⟨ca, e1, rfl⟩ := Option.map_eq_some_iff.mp h
      exact es_not (ih a ca e1)
    case h_11 _ a p => exact es_and1 (ih a c h)
    case h_12 _ a p => exact es_or1 (ih a c h)
    case h_13 _ a b r p =>
      split at h
      case h_2 => cases h
      case h_1 ca cb e1 e2 =>
      cases h
      exact es_and (ih a ca e1) (ih _ cb e2)
    case h_14 _ a b r p =>
      split at h
      case h_2 => cases h
      case h_1 ca cb e1 e2 =>
      cases h
      exact es_or (ih a ca e1) (ih _ cb e2)
    case h_15 _ a o b p =>
      split at h
      case isTrue => cases h
      case isFalse hm =>
      split at h
      case h_2 => cases h
      case h_1 ca cb e1 e2 =>
      cases h
      have := es_cmp (pos := p) (o := copOf o) hx.un (by rw [copE_of]; simpa using hm) (ih a ca e1) (ih b cb e2)
      rw [copE_of] at this
      exact this
    case h_16 _ a o o2 b c p =>
      split at h
      case isTrue => cases h
      case isFalse hm =>
      split at h
      case h_2 => cases h
      case h_1 ca cb cc e1 e2 e3 =>
      cases h
      have := es_chn (pos := p) (o := copOf o) (o2 := copOf o2) hx.un (by rw [copE_of, copE_of]; simpa using hm) (ih a ca e1) (ih b cb e2) (ih c cc e3)
      rw [copE_of, copE_of] at this
      exact this
    case h_17 _ cn a b p =>
      split at h
      case h_2 => cases h
      case h_1 cc ca cb e1 e2 e3 =>
      cases h
      exact es_ite (ih cn cc e1) (ih a ca e2) (ih b cb e3)
    case h_18 _ n' p f pos =>
      split at h
      case isTrue ha =>
        split at h
        case isFalse => cases h
        case isTrue hv =>
        rw [Bool.and_eq_true] at hv
        obtain ⟨i, e1, rfl⟩ := Option.map_eq_some_iff.mp h
        obtain ⟨j, rfl, e2⟩ := at_as ha
        rw [e1] at e2
        cases e2
        exact ES.val (hx.fld i n' p f pos rfl (slot_get e1) (hx.scr.vis _ hv.1) (okN_1 hv.2).1 (okN_1 hv.2).2.1) fun _ => rfl
      case isFalse =>
      split at h
      case h_2 => cases h
      case h_1 ca i e1 e2 =>
      cases h
      exact ES.val (se_att hx.g.trk (att_of e2) (base_plain rfl) (ih _ ca e1).pe) fun _ => rfl
    case h_19 _ a f p _ =>
      split at h
      case isFalse => cases h
      case isTrue hp =>
      split at h
      case h_2 => cases h
      case h_1 ca i e1 e2 =>
      cases h
      exact ES.val (se_att hx.g.trk (att_of e2) (base_plain (by rw [← plainO1_eq]; exact hp)) (ih _ ca e1).pe) fun _ => rfl
    case h_20 _ a lo hi p2 p =>
      split at h
      case h_2 => cases h
      case h_1 ca cl' ch e1 e2 e3 =>
      cases h
      exact ES.val (se_sl (ih a ca e1).pe (opt_ok ih e2) (opt_ok ih e3)) fun _ => rfl
    case h_21 _ a b p _ =>
      split at h
      case isFalse => cases h
      case isTrue hs =>
      split at h
      case h_2 => cases h
      case h_1 ca cb e1 e2 =>
      cases h
      exact ES.val (se_idx (plainIx_of hs) (ih a ca e1).pe (ih b cb e2).pe) fun _ => rfl
    case h_22 _ x p args pos => exact ES.val (call_ok hx ih h) fun _ => rfl
    case h_23 _ o m apos args cpos =>
      split at h
      case isFalse => cases h
      case isTrue hs =>
      simp only [Bool.and_eq_true, decide_eq_true_eq] at hs
      obtain ⟨⟨⟨⟨h1, h2⟩, h3⟩, h4⟩, h5⟩ := hs
      split at h
      case h_2 => cases h
      case h_1 f co cs e1 e2 e3 =>
      cases h
      rw [plainO1_eq] at h1
      rw [noStarL_eq] at h3
      exact ES.val (mt_ok e1 (ih o co e2).pe (args_ok ih e3 h3) (allE_len e3) h3 h1 h2 h4) fun _ => rfl
    case h_24 _ elt tg iter ifs scope p =>
      obtain ⟨fi, fc, fe, t, ht, hc, hi, ok, hg, hcn, he, hfs, e1⟩ := comp_in (rec := cmpE G N hot n) hx ih (fun hx' hh q => by subst hh; exact es_all n hx' q) h
      have q := se_comp (pos := p) ht hc (by rw [hx.hN]; exact hx.nd) hi ok hg hcn he hfs
      rw [e1] at q
      exact ES.val q fun _ => rfl
    case h_25 => cases h
end Rf
set_option Elab.async false
set_option linter.all false
set_option maxRecDepth 100000
/-! Statements. -/
namespace Rf
open PySem PySem.Spec PyProof.Rows L2

/-- the context of a statement -/
structure SOk (G : Gc) (C : Sc) (cl : Calls) (L : Nat) (N : List Str) (hot : Hot) (sc : Scope) (X : Cx) : Prop where
  x : XOk G C cl L N hot sc X
  sc : X.env.scope = sc
  fn : ∀ x, X.fn x = true
  cool : hot = .no → PassesOwn (model X.prog X.w) X.A X.env X.xe ∧ X.stack = X.env :: X.outer ∧ X.env.frame = some X.env.locals ∧ C.si = none ∧ C.ev = none

theorem cool_no {hot : Hot} (h : hot.cool = true) : hot = .no := by cases hot <;> first | rfl | cases h
section
variable {X : Cx} {e : Expr} {ts : List Expr} {k : Nat} {p : Pos} {line : Nat}
theorem sw_none (h : notComp e = true) (t : Option Expr) : swapsWith e t line X.env = pure false := by
  cases e <;> first | rfl | (simp [notComp] at h)
theorem swap_name {x : Str} : swappedStores [.Name x p] e X.env = pure none := by cases e <;> rfl
theorem swap_sub {a b : Expr} : swappedStores [.Subscript a b p] e X.env = pure none := by cases e <;> rfl
theorem sets_ok {x : Str} {px : Pos} (hk : X.env.scope.kind = .function) (h : setsOk X.env.scope e x px = true) : swapsWith e (some (.Name x px)) line X.env = pure false := by
  cases e with
  | ListComp elt gs scope pos =>
    have hb : X.env.blockKind = .function := by unfold PySem.Env.blockKind; rw [hk]; rfl
    unfold swapsWith
    have h : (!((match X.env.scope.names.lookup x with | some .local => true | _ => false) && px.line == pos.line && !(scope.names.any fun q => q.1 == x && (q.2 == .local || q.2 == .cell)))) = true := h
    have e1 : (X.env.kindOf x == some .local) = (match X.env.scope.names.lookup x with | some .local => true | _ => false) := by
      show (X.env.scope.names.lookup x == some .local) = _
      cases X.env.scope.names.lookup x with
      | none => rfl
      | some k => cases k <;> rfl
    dsimp only [Expr.pos]
    rw [hb, e1]
    simp only [Bool.not_eq_true'] at h
    show (pure (true && (match X.env.scope.names.lookup x with | some .local => true | _ => false) && px.line == pos.line && !(scope.names.any fun q => q.1 == x && (q.2 == .local || q.2 == .cell))) : Sem Bool) = pure false
    rw [Bool.true_and, h]
  | SetComp _ _ _ _ => cases h
  | DictComp _ _ _ _ _ => cases h
  | _ => rfl
theorem sw_ok {x : Str} {px : Pos} {elt : Expr} {gs : List Comprehension} {scope : Scope} {pos : Pos} (hk : X.env.scope.kind = .function) (h : swOk X.env.scope (.ListComp elt gs scope pos) x px = true) :
    swapsWith (.ListComp elt gs scope pos) (some (.Name x px)) line X.env = pure true ∧ X.env.scope.names.lookup x = some .local := by
  have hb : X.env.blockKind = .function := by unfold PySem.Env.blockKind; rw [hk]; rfl
  have h : ((match X.env.scope.names.lookup x with | some .local => true | _ => false) && px.line == pos.line && !(scope.names.any fun q => q.1 == x && (q.2 == .local || q.2 == .cell))) = true := h
  have e1 : (X.env.kindOf x == some .local) = (match X.env.scope.names.lookup x with | some .local => true | _ => false) := by
    show (X.env.scope.names.lookup x == some .local) = _
    cases X.env.scope.names.lookup x with
    | none => rfl
    | some k => cases k <;> rfl
  constructor
  · unfold swapsWith
    dsimp only [Expr.pos]
    rw [hb, e1]
    show (pure (true && (match X.env.scope.names.lookup x with | some .local => true | _ => false) && px.line == pos.line && !(scope.names.any fun q => q.1 == x && (q.2 == .local || q.2 == .cell))) : Sem Bool) = pure true
    rw [Bool.true_and, h]
  · simp only [Bool.and_eq_true] at h
    have h1 := h.1.1
    cases e : X.env.scope.names.lookup x with
    | none => rw [e] at h1; cases h1
    | some k => rw [e] at h1; cases k <;> first | rfl | cases h1
theorem fm_len {α β : Type} {f : α → Option β} : ∀ {l : List α}, (l.filterMap f).length = l.length → ∀ a ∈ l, (f a).isSome = true
  | [], _, _, h => by cases h
  | a :: r, h, b, hb => by
    rw [List.filterMap_cons] at h
    cases e : f a with
    | none =>
      rw [e] at h
      have := List.length_filterMap_le f r
      simp at h
      omega
    | some c =>
      rw [e] at h
      rcases List.mem_cons.mp hb with rfl | hb
      · rw [e]; rfl
      · exact fm_len (by simpa using h) b hb
theorem noswap_ok (h : noSwap X.env.scope ts e = true) : swappedStores [.Tuple ts k p] e X.env = pure none := by
  cases e with
  | Tuple vs k2 p2 =>
    have h : (decide (vs.length ≠ ts.length) || (!(decide (ts.length = 2) || decide (ts.length = 3))) || vs.all (foldedForSure 8) || ts.any (fun t => match t with | .Name x _ => !isLcl (X.env.scope.names.lookup x) | _ => true)) = true := h
    unfold swappedStores
    dsimp only
    split
    · rfl
    · rename_i c1
      split
      · rfl
      · split
        · rfl
        · rename_i c3
          split
          · rfl
          · rename_i c4
            exfalso
            simp only [Bool.or_eq_true, Bool.not_eq_true', decide_eq_true_eq, bne_iff_ne, not_or, Bool.not_eq_false] at c1 c3 h
            rcases h with ((h | h) | h) | h
            · exact absurd (by simpa using c1.1.2) h
            · have := c1.1.1
              simp at this h
              omega
            · exact c4 h
            · obtain ⟨t, ht, hn⟩ := List.any_eq_true.mp h
              have h2 : (ts.filterMap fun x => match x with
                | .Name id pos => if (X.env.kindOf id == some .local && pos.line == (ts.head?.map (·.pos.line)).getD 0) = true then some id else none
                | _ => none).length = ts.length := Classical.byContradiction fun z => c3.1 z
              have := fm_len h2 t ht
              cases t with
              | Name id pos =>
                have hn : (!isLcl (X.env.scope.names.lookup id)) = true := hn
                have this : (if (X.env.kindOf id == some .local && pos.line == (ts.head?.map (·.pos.line)).getD 0) = true then some id else none).isSome = true := this
                have hk : (X.env.kindOf id == some .local) = false := by
                  show (X.env.scope.names.lookup id == some .local) = false
                  cases e : X.env.scope.names.lookup id with
                  | none => rfl
                  | some k => rw [e] at hn; cases k <;> first | rfl | cases hn
                rw [hk] at this
                exact Bool.noConfusion this
              | _ => exact Bool.noConfusion this
  | _ => rfl
theorem lcl {o : Option NameKind} (h : (match o with | some .local => true | _ => false) = true) : o = some .local := by
  cases o with
  | none => cases h
  | some k => cases k <;> first | rfl | cases h
theorem nst {a : Expr} (h : noStar a = true) : (match a with | .Starred .. => true | _ => false) = false := by cases a <;> first | rfl | (simp [noStar] at h)
theorem par2_ok {x y : Str} {px py : Pos} {a b : Expr} {kt k2 : Nat} {pt pt2 : Pos} (hk : X.env.scope.kind = .function) (h : parOk X.env.scope [(x, px), (y, py)] [a, b] = true) (hs : noStars [a, b] = true) :
    X.env.scope.names.lookup x = some .local ∧ X.env.scope.names.lookup y = some .local ∧ x ≠ y ∧ swappedStores [.Tuple [.Name x px, .Name y py] kt pt] (.Tuple [a, b] k2 pt2) X.env = pure (some [x, y]) := by
  have hb : X.env.blockKind = .function := by unfold PySem.Env.blockKind; rw [hk]; rfl
  unfold parOk at h
  simp only [Bool.and_eq_true, Bool.not_eq_true', decide_eq_true_eq] at h
  obtain ⟨⟨⟨h1, h2⟩, h3⟩, h4⟩ := h
  simp only [List.all_cons, List.all_nil, Bool.and_true, Bool.and_eq_true] at h1
  obtain ⟨⟨g1, _⟩, g2, g3⟩ := h1
  have g1 := lcl g1
  have g2 := lcl g2
  have g3 : (py.line == px.line) = true := g3
  have hne : x ≠ y := by simpa using h2
  have kx : (X.env.kindOf x == some .local) = true := by show (X.env.scope.names.lookup x == _) = true; rw [g1]; rfl
  have ky : (X.env.kindOf y == some .local) = true := by show (X.env.scope.names.lookup y == _) = true; rw [g2]; rfl
  have h' : noStar a = true ∧ noStar b = true := by simpa [noStars] using hs
  refine ⟨g1, g2, hne, ?_⟩
  have ea := nst h'.1
  have eb := nst h'.2
  have hz : (y == x) = false := by simpa using fun z => hne z.symm
  unfold swappedStores
  simp only [hb, kx, ky, g3, h3, h4, List.filterMap_cons, List.filterMap_nil, List.any_cons, List.any_nil, ea, eb, List.head?_cons, Option.map_some, Expr.pos, Option.getD_some, Bool.true_and, if_true, beq_self_eq_true, List.length_cons, List.length_nil]
  simp [List.eraseDups_cons, hz]
  intro q
  rcases q with q | q
  · cases a <;> first | exact (Bool.false_ne_true q).elim | exact (Bool.false_ne_true h'.1).elim
  · cases b <;> first | exact (Bool.false_ne_true q).elim | exact (Bool.false_ne_true h'.2).elim
theorem par3_ok {x y z : Str} {px py pz : Pos} {a b c : Expr} {kt k2 : Nat} {pt pt2 : Pos} (hk : X.env.scope.kind = .function) (h : parOk X.env.scope [(x, px), (y, py), (z, pz)] [a, b, c] = true) (hs : noStars [a, b, c] = true) :
    X.env.scope.names.lookup x = some .local ∧ X.env.scope.names.lookup y = some .local ∧ X.env.scope.names.lookup z = some .local ∧ x ≠ y ∧ x ≠ z ∧ y ≠ z ∧ swappedStores [.Tuple [.Name x px, .Name y py, .Name z pz] kt pt] (.Tuple [a, b, c] k2 pt2) X.env = pure (some [x, y, z]) := by
  have hb : X.env.blockKind = .function := by unfold PySem.Env.blockKind; rw [hk]; rfl
  unfold parOk at h
  simp only [Bool.and_eq_true, Bool.not_eq_true', decide_eq_true_eq] at h
  obtain ⟨⟨⟨h1, h2⟩, h3⟩, h4⟩ := h
  simp only [List.all_cons, List.all_nil, Bool.and_true, Bool.and_eq_true] at h1
  obtain ⟨⟨g1, _⟩, ⟨g2, g3⟩, g4, g5⟩ := h1
  have g1 := lcl g1
  have g2 := lcl g2
  have g4 := lcl g4
  have g3 : (py.line == px.line) = true := g3
  have g5 : (pz.line == px.line) = true := g5
  have hne : (x ≠ y ∧ x ≠ z) ∧ y ≠ z := by simpa using h2
  obtain ⟨⟨n1, n2⟩, n3⟩ := hne
  have kx : (X.env.kindOf x == some .local) = true := by show (X.env.scope.names.lookup x == _) = true; rw [g1]; rfl
  have ky : (X.env.kindOf y == some .local) = true := by show (X.env.scope.names.lookup y == _) = true; rw [g2]; rfl
  have kz : (X.env.kindOf z == some .local) = true := by show (X.env.scope.names.lookup z == _) = true; rw [g4]; rfl
  have h' : noStar a = true ∧ noStar b = true ∧ noStar c = true := by simpa [noStars] using hs
  refine ⟨g1, g2, g4, n1, n2, n3, ?_⟩
  have ea := nst h'.1
  have eb := nst h'.2.1
  have ec := nst h'.2.2
  have z1 : (y == x) = false := by simpa using fun z => n1 z.symm
  have z2 : (z == x) = false := by simpa using fun z => n2 z.symm
  have z3 : (z == y) = false := by simpa using fun z => n3 z.symm
  unfold swappedStores
  simp only [hb, kx, ky, kz, g3, g5, h3, h4, List.filterMap_cons, List.filterMap_nil, List.any_cons, List.any_nil, ea, eb, ec, List.head?_cons, Option.map_some, Expr.pos, Option.getD_some, Bool.true_and, if_true, beq_self_eq_true, List.length_cons, List.length_nil]
  simp [List.eraseDups_cons, z1, z2, z3]
  intro q
  rcases q with q | q | q
  · cases a <;> first | exact (Bool.false_ne_true q).elim | exact (Bool.false_ne_true h'.1).elim
  · cases b <;> first | exact (Bool.false_ne_true q).elim | exact (Bool.false_ne_true h'.2.1).elim
  · cases c <;> first | exact (Bool.false_ne_true q).elim | exact (Bool.false_ne_true h'.2.2).elim
end

/-! ### tests of statements -/
theorem gc_bl {n : Nat} {d : D} {S : Store} {b : Bool} (h : (gc n d S).1 = .bl b) : d = .bl b := by
  unfold gc at h
  split at h
  · exact h
  · split at h
    · split at h
      · split at h
        · cases h
        · cases h
      · cases h
    · exact h
def kB (d : D) (S : Store) : Option (R D) := match d with
  | .bl b => some (.ok (.bl b) S)
  | _ => none
theorem onlyB_some {f : Env → Store → Option (R D)} {env : Env} {S S1 : Store} {y : D} (h : f env S = some (.ok y S1)) : onlyB f env S = kB y S1 := by
  show bnd (f env S) kB = _
  rw [h]
  rfl
theorem gc_onlyB {f : Env → Store → Option (R D)} {n : Nat} {env : Env} {S : Store} {k : D → Store → Out} (hk : ∀ d S', (∀ b, d ≠ .bl b) → k d S' = none) : thn (gcR n (onlyB f env S)) env k = thn (gcR n (f env S)) env k := by
  cases q : f env S with
  | none =>
    have e1 : onlyB f env S = none := by unfold onlyB; rw [q]; rfl
    rw [e1]
  | some r =>
    cases r with
    | ex x S1 =>
      have e1 : onlyB f env S = some (.ex x S1) := by unfold onlyB; rw [q]; rfl
      rw [e1]
    | ok y S1 =>
      rw [onlyB_some q]
      by_cases h : ∃ b, y = .bl b
      · obtain ⟨b, rfl⟩ := h
        rfl
      · have e2 : thn (gcR n (some (R.ok y S1))) env k = none := by
          show thn (some (R.ok (gc n y S1).1 (gc n y S1).2)) env k = none
          rw [thn_ok, hk _ _ fun b e => h ⟨b, gc_bl e⟩]
        rw [e2]
        cases y <;> first | rfl | exact absurd ⟨_, rfl⟩ h
theorem while_onlyB {f : Env → Store → Option (R D)} {g : Env → Store → Out} : ∀ (n : Nat) (env : Env) (S : Store), whileGo (fun env S => gcR S.length (onlyB f env S)) g n env S = whileGo (fun env S => gcR S.length (f env S)) g n env S
  | 0, _, _ => rfl
  | n + 1, env, S => by
    have ih := while_onlyB (f := f) (g := g) n
    have e1 : ∀ env S, whileGo (fun env S => gcR S.length (onlyB f env S)) g n env S = whileGo (fun env S => gcR S.length (f env S)) g n env S := ih
    simp only [whileGo, e1]
    exact gc_onlyB fun d S' hd => by cases d <;> first | rfl | exact absurd rfl (hd _)
end Rf
set_option Elab.async false
set_option linter.all false
set_option maxRecDepth 100000
/-! All statements. -/
namespace Rf
open PySem PySem.Spec PyProof.Rows L2

section
variable {G : Gc} {N : List Str} {hot : Hot} {sc : Scope} {X : Cx} {C : Sc} {cl : Calls} {L : Nat}
abbrev ExX (C : Sc) (cl : Calls) (c : CS) : Env → Store → Out := fun env S => exec cl C.ex c env S
theorem block_ok {recS : Stmt → Option CS} (ih : ∀ st c, recS st = some c → PS X st (TX X.K C (ExX C cl c))) : ∀ {sts : List Stmt} {c : CS}, cmpSs1 recS sts = some c → PSs X sts (TX X.K C (ExX C cl c))
  | [], c, h => by cases h; exact ss_nil
  | [s], c, h => ss_one (ih s c h)
  | s :: t :: r, c, h => by
    simp only [cmpSs1] at h
    split at h
    case h_2 => cases h
    case h_1 a b e1 e2 =>
    cases h
    exact ss_cons (ih s a e1) (block_ok ih e2)
/-- into the body of a try -/
theorem SOk.inTry (hx : SOk G C cl L N .no sc X) {W : WX} {pn : List (Addr × Obj)} {xe : Value → Shared → Prop} (tk : Takes (X.tr pn xe) W) (hp : PassesOwn (model X.prog X.w) X.A X.env xe) : SOk G (C.wish W) cl L N .no sc (X.tr pn xe) where
  x := {
    g := hx.x.g
    hN := hx.x.hN
    nd := hx.x.nd
    scr := ⟨hx.x.scr.vis, hx.x.scr.loc, hx.x.scr.glb, hx.x.scr.cf⟩
    kf := hx.x.kf
    un := hx.x.un
    tk := tk
    cool := hx.x.cool
    fld := fun _ _ _ _ _ z => nomatch z
    exi := fun _ _ _ _ _ _ _ _ z => nomatch z }
  sc := hx.sc
  fn := hx.fn
  cool := fun h => ⟨hp, (hx.cool h).2.1, (hx.cool h).2.2.1, (hx.cool h).2.2.2.1, (hx.cool h).2.2.2.2⟩
/-- the class that a clause names -/
theorem names_ok (hx : XOk G C cl L N hot sc X) {x : Str} (hg : glb sc x = true) (h : x ∈ G.xs ∨ x = "ValueError") : ∃ cv, Names X x cv ∧ (∀ y ∈ C.ax.xs, PySem.W.exmOne X.K (.ref (He.ga X.K y)) cv = some (subEx y x)) ∧ (∀ y ∈ C.ax.xs, PySem.W.kitOne X.K (.ref (He.ga X.K y)) cv = some (subEx y x)) := by
  obtain ⟨g1, g2, g3⟩ := glb_of hx.scr hg
  rcases h with h | rfl
  · exact ⟨_, ⟨g1, g2, .inl (hx.g.xs x h).1⟩, fun y hy => hx.g.exm y hy x (by rw [hx.g.axs]; exact h), fun y hy => hx.g.kit y hy x (by rw [hx.g.axs]; exact h)⟩
  · have e1 : ∀ y, subEx y "ValueError" = true := fun y => by simp [subEx]
    exact ⟨.type "ValueError", ⟨g1, g2, .inr ⟨BN_none hx (by decide), by decide +kernel, g3⟩⟩, fun y hy => by rw [e1]; exact hx.g.exv y hy, fun y hy => by rw [e1]; exact hx.g.kiv y hy⟩
theorem SOk.inSuite (hx : SOk G C cl L N .no sc X) {a : Addr} {oe : Obj} {cls : Value} {d : Option Addr} {pn : List (Addr × Obj)} {e : Ex} (hz : Zc cls d oe) (hv : ∃ vs, oe.data = .fields vs) : SOk G (C.suite e cls d none) cl L N .only sc (X.suite a ((a, oe) :: pn)) where
  x := {
    g := hx.x.g
    hN := hx.x.hN
    nd := hx.x.nd
    scr := ⟨hx.x.scr.vis, hx.x.scr.loc, hx.x.scr.glb, hx.x.scr.cf⟩
    kf := hx.x.kf
    un := hx.x.un
    tk := fun u s' ⟨_, _, _, _, _, _, _, _, _, _, _, _, _, _, _, _, w⟩ => w.elim
    cool := fun z => nomatch z
    fld := fun _ _ _ _ _ z => nomatch z
    exi := fun _ _ _ _ _ _ _ _ z => nomatch z }
  sc := hx.sc
  fn := hx.fn
  cool := fun z => nomatch z
theorem SOk.inSuiteAs (hx : SOk G C cl L N .no sc X) {i : Nat} {a : Addr} {oe : Obj} {cls : Value} {d : Option Addr} {pn : List (Addr × Obj)} {e : Ex} (hz : Zc cls d oe) (hv : ∃ vs, oe.data = .fields vs) : SOk G (C.suite e cls d (some (i, a))) cl L N (.as i) sc (X.suite a ((a, oe) :: pn)) where
  x := {
    g := hx.x.g
    hN := hx.x.hN
    nd := hx.x.nd
    scr := ⟨hx.x.scr.vis, hx.x.scr.loc, hx.x.scr.glb, hx.x.scr.cf⟩
    kf := hx.x.kf
    un := hx.x.un
    tk := fun u s' ⟨_, _, _, _, _, _, _, _, _, _, _, _, _, _, _, _, w⟩ => w.elim
    cool := fun z => nomatch z
    fld := fun j n p f pos z hN hv1 h1 h2 => by
      cases z
      exact se_exFld hz hv (fun y hy => (hx.x.g.xs y (by rw [← hx.x.g.axs]; exact hy)).2.2.2.2.1) hx.x.g.axf (by rw [hx.x.hN]; exact hN) hv1 h1 h2
    exi := fun j n p p1 p2 pos x b z hN hv1 h1 h2 hgi hx1 hgx hdx hb => by
      cases z
      subst hb
      have hmi : X.mg "isinstance" = none := BN_none hx.x (by decide)
      have T : ∀ y ∈ C.ax.xs, ExcC X.K (He.ga X.K y) := fun y hy => (hx.x.g.xs y (by rw [← hx.x.g.axs]; exact hy)).2.2.2.2.2
      rcases hx1 with hx1 | rfl
      · have hm := (hx.x.g.xs x (by rw [← hx.x.g.axs]; exact hx1)).1
        exact se_exIs hz hv T (fun y hy => hx.x.g.kit y hy x hx1) (by rw [hx.x.hN]; exact hN) hv1 h1 h2 hgi hmi (pe_glob (X := X.suite a ((a, oe) :: pn)) (v := .ref (He.ga X.K x)) hgx hm rfl hdx) (fun u r => r) rfl
      · have e1 : ∀ y, subEx y "ValueError" = true := fun y => by simp [subEx]
        exact se_exIs hz hv T (fun y hy => by rw [e1]; exact hx.x.g.kiv y hy) (by rw [hx.x.hN]; exact hN) hv1 h1 h2 hgi hmi (pe_bltn (X := X.suite a ((a, oe) :: pn)) (v := .ty "ValueError") hgx (show X.mg "ValueError" = none from BN_none hx.x (by decide)) (by decide +kernel) rfl (by decide) hdx) (fun u r => r) rfl }
  sc := hx.sc
  fn := hx.fn
  cool := fun z => nomatch z
end
theorem sole_none {X : Cx} {e t : Expr} {line : Nat} (h : notComp e = true) : swapsWithSole [t] e line X.env = pure false := sw_none (X := X) (line := line) h (some t)
theorem names_eq : ∀ {ts : List Expr} {l : List (Str × Pos)}, namesOf ts = some l → ts = l.map fun q => .Name q.1 q.2
  | [], l, h => by cases h; rfl
  | t :: r, l, h => by
    cases t with
    | Name x p =>
      have h : (namesOf r).map ((x, p) :: ·) = some l := h
      obtain ⟨l', e1, rfl⟩ := Option.map_eq_some_iff.mp h
      rw [names_eq e1]
      rfl
    | _ => cases h
/-- THE statements -/
theorem ss_all {G : Gc} {N : List Str} {cl : Calls} {L : Nat} {ef : Nat} : ∀ (n : Nat) {hot : Hot} {sc : Scope} {X : Cx} {C : Sc} {st : Stmt} {c : CS}, SOk G C cl L N hot sc X → cmpS G N ef sc n hot st = some c → PS X st (TX X.K C (ExX C cl c))
  | 0, _, _, _, _, _, _, _, h => by cases h
  | n + 1, hot, sc, X, C, st, c, hs, h => by
    have ih : ∀ {hot : Hot} {X : Cx} {C : Sc} {st : Stmt} {c : CS}, SOk G C cl L N hot sc X → cmpS G N ef sc n hot st = some c → PS X st (TX X.K C (ExX C cl c)) := fun hs q => ss_all n hs q
    have ie : ∀ e c, cmpE G N hot ef sc e = some c → ES X C cl e c := fun e c q => es_all ef hs.x q
    have hNd : X.N.Nodup := by rw [hs.x.hN]; exact hs.x.nd
    have eg : ∀ {e : Expr} {c : CE}, cmpE G N hot ef sc e = some c → PE X e (RX X.K C (rD X.K C) fun env S => evg cl C.ex c env S) := fun {e c} q => se_gc (ie e c q).pe
    have hk := hs.x.kf
    replace h : cmpS1 G N hot sc (cmpE G N hot ef sc) (cmpT N ef sc) (cmpS G N ef sc n) st = some c := h
    have hsc := hs.sc
    unfold cmpS1 at h
    split at h
    case h_1 => cases h; exact ss_pass
    case h_2 => cases h; exact ss_brk
    case h_3 e p =>
      split at h
      case isFalse => cases h
      case isTrue hn =>
      obtain ⟨ce, e1, rfl⟩ := Option.map_eq_some_iff.mp h
      exact ss_expr (eg e1) (sw_none hn none)
    case h_4 => cases h; exact ss_retN
    case h_5 e p =>
      obtain ⟨ce, e1, rfl⟩ := Option.map_eq_some_iff.mp h
      exact ss_ret (eg e1)
    case h_6 x p e p2 =>
      split at h
      case isFalse => cases h
      case isTrue hc =>
      simp only [Bool.and_eq_true, Bool.or_eq_true, Bool.not_eq_true'] at hc
      obtain ⟨⟨h1, h2⟩, h3⟩ := hc
      split at h
      case h_2 => cases h
      case h_1 i ce e1 e2 =>
      cases h
      have hi : X.N[i]? = some x := by rw [hs.x.hN]; exact slot_get e1
      have hl := hs.x.scr.loc x h1
      rcases h2 with h2 | h2
      · exact ss_asg (eg e2) (sg_name hNd hi hl.1 hl.2) (sets_ok (line := p2.line) hk (by rw [hsc]; exact h2)) swap_name rfl
      · cases e with
        | ListComp elt gs scope pos =>
          obtain ⟨w1, w2⟩ := sw_ok (line := p2.line) hk (by rw [hsc]; exact h2)
          cases ef with
          | zero => cases e2
          | succ ef =>
            have e3 : cmpE1 G N hot (ef + 1) (cmpE G N hot ef) sc (.ListComp elt gs scope pos) = some ce := e2
            match gs, e3, w1 with
            | [⟨tg, iter, ifs, 0⟩], e3, w1 =>
              obtain ⟨fi, fc, fe, t, ht, hc, hi', ok, hg, hcn, he, hfs, e4⟩ := comp_in (rec := cmpE G N hot ef) hs.x (fun e c q => es_all ef hs.x q) (fun hx' hh q => by subst hh; exact es_all ef hx' q) e3
              have q := ss_setLc (spos := p2) ht hc hNd hi w2 w1 hi' ok hg hcn he hfs
              have e5 : (fun env S => Rf.thn (gcR S.length (bnd (fi env S) (kComp fc fe t ((ownOf N scope).map (·.2)) env))) env (kSet (fun d env S => setG (.n i) d env S) env)) = ExX C cl (.set (.t (.n i)) ce) := by
                funext env S
                have e6 : bnd (fi env S) (kComp fc fe t ((ownOf N scope).map (·.2)) env) = ev cl C.ex ce env S := congrFun (congrFun e4 env) S
                rw [e6]
                rfl
              rw [e5] at q
              exact q
        | _ => cases h2
    case h_7 a b p e p2 =>
      split at h
      case isFalse => cases h
      case isTrue hc =>
      rw [Bool.and_eq_true] at hc
      obtain ⟨h1, h2⟩ := hc
      split at h
      case h_2 => cases h
      case h_1 ca cb ce e1 e2 e3 =>
      cases h
      exact ss_ix (eg e3) (ie a ca e1).pe (ie b cb e2).pe (plainIx_of h1) (sole_none h2) swap_sub (fun v => by cases b <;> first | rfl | (simp [notSlice] at h1)) rfl
    case h_8 a b p1 c' d p2 kk p e pos =>
      split at h
      case isFalse => cases h
      case isTrue hc =>
      simp only [Bool.and_eq_true] at hc
      obtain ⟨⟨⟨h1, h2⟩, h3⟩, h4⟩ := hc
      split at h
      case h_2 => cases h
      case h_1 ca cb cc cd cv e1 e2 e3 e4 e5 =>
      cases h
      have hns : noSwap sc [.Subscript a b p1, .Subscript c' d p2] e = true := by
        cases e <;> first | rfl | (simp [noSwap])
      exact ss_ix2 (hs.x.cool h4).1 (eg e5) (ie a ca e1).pe (ie b cb e2).pe (ie c' cc e3).pe (ie d cd e4).pe (sole_none h3) (noswap_ok (by rw [hsc]; exact hns)) (fun v => by cases b <;> first | rfl | (simp [notSlice] at h1)) (fun v => by cases d <;> first | rfl | (simp [notSlice] at h2))
    case h_9 ts k p e pos _ =>
      split at h
      case isTrue => cases h
      case isFalse hc =>
      simp only [Bool.or_eq_true, Bool.not_eq_true', not_or, Bool.not_eq_false] at hc
      obtain ⟨h1, h2⟩ := hc
      have hcalm := (hs.x.cool h1).1
      have gen : ∀ {c : CS}, (if noSwap sc ts e = true then (match cmpT N ef sc (.Tuple ts k p), cmpE G N hot ef sc e with
          | some t, some c => some (CS.set (.t t) c)
          | _, _ => none) else none) = some c → PS X (.Assign [.Tuple ts k p] e pos) (TX X.K C (ExX C cl c)) := fun {c} h => by
        split at h
        case isFalse => cases h
        case isTrue hn =>
        split at h
        case h_2 => cases h
        case h_1 t ce e1 e2 =>
        cases h
        exact ss_asg (eg e2) (tg_ok hs.x.hN hs.x.nd hs.x.scr hcalm ef e1) (sole_none h2) (noswap_ok (by rw [hsc]; exact hn)) rfl
      split at h
      case h_1 a b k2 p2 x y hnm =>
        split at h
        case isTrue hp =>
          rw [Bool.and_eq_true, noStarL_eq] at hp
          split at h
          case h_2 => cases h
          case h_1 i j cs e1 e2 e3 =>
          cases h
          obtain ⟨x, px⟩ := x
          obtain ⟨y, py⟩ := y
          have hts : ts = [.Name x px, .Name y py] := by
            exact names_eq hnm
          subst hts
          obtain ⟨g1, g2, g3, g4⟩ := par2_ok (kt := k) (pt := p) (k2 := k2) (pt2 := p2) hk (by rw [hsc]; exact hp.1) hp.2
          have hi : X.N[i]? = some x := by rw [hs.x.hN]; exact slot_get e1
          have hj : X.N[j]? = some y := by rw [hs.x.hN]; exact slot_get e2
          exact ss_par2 hcalm hNd hi hj (fun z => by subst z; rw [hi] at hj; exact g3 (Option.some.inj hj)) g1 g2 (args_ok ie e3 hp.2) g4
        case isFalse => exact gen h
      case h_2 a b cc k2 p2 x y z hnm =>
        split at h
        case isTrue hp =>
          rw [Bool.and_eq_true, noStarL_eq] at hp
          split at h
          case h_2 => cases h
          case h_1 i j l cs e1 e2 e3 e4 =>
          cases h
          obtain ⟨x, px⟩ := x
          obtain ⟨y, py⟩ := y
          obtain ⟨z, pz⟩ := z
          have hts : ts = [.Name x px, .Name y py, .Name z pz] := by
            exact names_eq hnm
          subst hts
          obtain ⟨g1, g2, g3, n1, n2, n3, g4⟩ := par3_ok (kt := k) (pt := p) (k2 := k2) (pt2 := p2) hk (by rw [hsc]; exact hp.1) hp.2
          have hi : X.N[i]? = some x := by rw [hs.x.hN]; exact slot_get e1
          have hj : X.N[j]? = some y := by rw [hs.x.hN]; exact slot_get e2
          have hl : X.N[l]? = some z := by rw [hs.x.hN]; exact slot_get e3
          exact ss_par3 hcalm hNd hi hj hl (fun z => by subst z; rw [hi] at hj; exact n1 (Option.some.inj hj)) (fun z => by subst z; rw [hi] at hl; exact n2 (Option.some.inj hl)) (fun z => by subst z; rw [hj] at hl; exact n3 (Option.some.inj hl)) g1 g2 g3 (args_ok ie e4 hp.2) g4
        case isFalse => exact gen h
      case h_3 => exact gen h
    case h_10 cn a b p =>
      split at h
      case h_2 => cases h
      case h_1 cc ca cb e1 e2 e3 =>
      cases h
      have q := ss_if (pos := p) (st_gc (ie cn cc e1).pt) (block_ok (fun st c q => ih hs q) e2) (block_ok (fun st c q => ih hs q) e3)
      have e4 : (fun env S => Rf.thn (gcR S.length (onlyB (EvX C cl cc) env S)) env (kIf (ExX C cl ca) (ExX C cl cb) env)) = ExX C cl (.ite cc ca cb) := by
        funext env S
        exact gc_onlyB fun d S' hd => by cases d <;> first | rfl | exact absurd rfl (hd _)
      rw [e4] at q
      exact q
    case h_11 tg it body p =>
      split at h
      case isTrue => cases h
      case isFalse hc =>
      simp only [Bool.or_eq_true, Bool.not_eq_true', not_or, Bool.not_eq_false] at hc
      obtain ⟨h1, h2⟩ := hc
      split at h
      case h_2 => cases h
      case h_1 t ci cb e1 e2 e3 =>
      cases h
      have hcalm := (hs.x.cool h1).1
      obtain ⟨hi, hfs⟩ := iter_ok hs.x ie e2 h2
      exact ss_for (hs.cool (cool_no h1)).1 hcalm hi (tg_ok hs.x.hN hs.x.nd hs.x.scr hcalm ef e1) (block_ok (fun st c q => ih hs q) e3) hfs
    case h_12 cn body p =>
      split at h
      case isTrue => cases h
      case isFalse hc =>
      have h1 : hot.cool = true := by simpa using hc
      split at h
      case h_2 => cases h
      case h_1 cc cb e1 e2 =>
      cases h
      have q := ss_while (pos := p) (hs.cool (cool_no h1)).1 (st_gc (ie cn cc e1).pt) (block_ok (fun st c q => ih hs q) e2)
      have e4 : (fun env S => whileGo (fun env S => gcR S.length (onlyB (EvX C cl cc) env S)) (ExX C cl cb) FUEL env S) = ExX C cl (.while cc cb) := by
        funext env S
        exact while_onlyB FUEL env S
      rw [e4] at q
      exact q
    case h_13 x p1 args p2 p3 =>
      split at h
      case isFalse => cases h
      case isTrue hc =>
      simp only [Bool.and_eq_true, List.contains_iff_mem] at hc
      obtain ⟨⟨h1, h2⟩, h3⟩ := hc
      have hcool := hs.x.cool h2
      obtain ⟨g1, g2, g3⟩ := glb_of hs.x.scr h1
      obtain ⟨x1, x2, x3, x4, x5, x6⟩ := hs.x.g.xs x h3
      have hxa : x ∈ C.ax.xs := by rw [hs.x.g.axs]; exact h3
      split at h
      case h_1 e1 =>
        cases h
        exact ss_raise0 hcool.1 hs.x.tk (hs.x.g.x0 x h3 e1) x1 x2 (raises_own x3 x4) g1 g2 hxa rfl
      case h_2 a f e1 =>
        split at h
        case isFalse => cases h
        case isTrue hn =>
        rw [Bool.and_eq_true, noStarL_eq] at hn
        obtain ⟨cs, e2, rfl⟩ := Option.map_eq_some_iff.mp h
        obtain ⟨k1, k2, k3, k, fI, fd, ps, k4, k5, k6, k7, k8⟩ := hs.x.g.xf x f e1 (by simpa using hn.2)
        have q := ss_raise1 (p := p1) (pos := p2) (pos2 := p3) hcool.1 hs.x.tk k2 k5 k6 k3 k7 (hcool.2.mono k4) k8 g1 x1 (args_ok ie e2 hn.1) hn.1 g2 hxa k1
        have e4 : (fun env S => Rf.thn (EvXs C cl cs env S) env (kRaise x f env)) = ExX C cl (.raise x (some f) cs) := by
          funext env S
          show Rf.thn (EvXs C cl cs env S) env (kRaise x f env) = Rf.thn (EvXs C cl cs env S) env _
          congr 1
          funext ds S1
          cases ds with
          | nil => rfl
          | cons d r => cases r <;> rfl
        rw [e4] at q
        exact q
      case h_3 => cases h
    case h_14 body x np nm b₀ suite pos' pos =>
      split at h
      case isFalse => cases h
      case isTrue hc =>
      simp only [Bool.and_eq_true, Bool.or_eq_true, decide_eq_true_eq, List.contains_iff_mem] at hc
      obtain ⟨⟨h1, h2⟩, h3⟩ := hc
      have hno := cool_no h1
      subst hno
      obtain ⟨c1, c2, c3, c4, c5⟩ := hs.cool rfl
      obtain ⟨cv, n1, n2, _⟩ := names_ok hs.x h2 h3
      split at h
      case h_1 =>
        split at h
        case h_2 => cases h
        case h_1 cb ch e1 e2 =>
        cases h
        have hb : ∀ (W : WX) (pn : List (Addr × Obj)) (xe : Value → Shared → Prop), Takes (X.tr pn xe) W → PassesOwn (model X.prog X.w) X.A X.env xe → PSs (X.tr pn xe) body (TX X.K (C.wish W) (ExX C cl cb)) := fun W pn xe tk hp =>
          block_ok (C := C.wish W) (X := X.tr pn xe) (fun st c q => ih (hs.inTry tk hp) q) e1
        have q := ss_tryOnly (pos := pos) (np := np) (pos' := pos') (fh := fun e env S => exec cl (some e) ch env S) c2 c3 n1 hs.x.tk c4 c5 n2 hb fun a oe cls d pn e hz hv =>
          block_ok (C := C.suite e cls d none) (X := X.suite a ((a, oe) :: pn)) (fun st c q => ih (hs.inSuite hz hv) q) e2
        exact q
      case h_2 nm =>
        split at h
        case h_2 => cases h
        case h_1 i ei =>
        split at h
        case h_2 => cases h
        case h_1 cb ch e1 e2 =>
        cases h
        have hb : ∀ (W : WX) (pn : List (Addr × Obj)) (xe : Value → Shared → Prop), Takes (X.tr pn xe) W → PassesOwn (model X.prog X.w) X.A X.env xe → PSs (X.tr pn xe) body (TX X.K (C.wish W) (ExX C cl cb)) := fun W pn xe tk hp =>
          block_ok (C := C.wish W) (X := X.tr pn xe) (fun st c q => ih (hs.inTry tk hp) q) e1
        have hln : sc.names.lookup nm = some .local ∧ slot N nm = some i := by
          cases el : sc.names.lookup nm with
          | none => rw [el] at ei; cases ei
          | some k => rw [el] at ei; cases k <;> first | exact ⟨rfl, ei⟩ | cases ei
        have q := ss_tryAs (pos := pos) (np := np) (pos' := pos') (fh := fun e env S => exec cl (some e) ch env S) (i := i) c2 c3 hNd (by rw [hs.x.hN]; exact slot_get hln.2) (show X.env.scope.names.lookup nm = some .local by rw [hsc]; exact hln.1) n1 hs.x.tk c4 c5 n2 hb fun a oe cls d pn e hz hv =>
          block_ok (C := C.suite e cls d (some (i, a))) (X := X.suite a ((a, oe) :: pn)) (fun st c q => ih (hs.inSuiteAs hz hv) q) e2
        exact q
    case h_15 => cases h
end Rf
set_option Elab.async false
set_option linter.all false
set_option maxRecDepth 100000
/-! Functions, all of them. -/
namespace Rf
open PySem PySem.Spec PyProof.Rows L2

def fnRun (cl : Calls) (np ns : Nat) (c : CS) (ds : List D) (S : Store) : Option (R D) := if ds.length = np then atEnd S.length (exec cl none c (ds.map some ++ List.replicate (ns - np) none) S) else none
theorem start_sta {K : PySem.W.Frag} {C : Sc} {F H : Hp} {m : Nat → Addr} {S : Store} {N : List Str} (h1 : C.si = none) (h2 : C.ev = none) {ds : List D} {vs : List V} (r : Rep K C.ax F m S H) (h : RelDs K C.ax F m S.length ds vs) :
    Sta K C F m (ds.map some ++ List.replicate (N.length - ds.length) none) S (L2.start N vs) H := by
  have hl := h.length
  refine ⟨r, by simp [L2.start, hl], fun i d e => ?_, fun _ _ _ z => (by rw [h1] at z; cases z), fun _ _ z => (by rw [h2] at z; cases z)⟩
  by_cases hi : i < ds.length
  · rw [List.getElem?_append_left (by simpa using hi), List.getElem?_map] at e
    obtain ⟨d', e1, e2⟩ := Option.map_eq_some_iff.mp e
    cases e2
    obtain ⟨v, g1, g2⟩ := h.get e1
    refine ⟨v, ?_, g2⟩
    unfold L2.start
    rw [List.getElem?_append_left (by simp; omega), List.getElem?_map, g1]
    rfl
  · rw [List.getElem?_append_right (by simpa using hi), List.getElem?_replicate] at e
    split at e <;> cases e
theorem fn_ok {G : Gc} {ax : Aux} {cl : Calls} {L : Nat} {P : Program} {w : World} {K : PySem.W.Frag} {mg : Str → Option Value} {base : Heap} {x qual : Str} {params : Arguments} {body : List Stmt} {scope : Scope} {f : Addr} {fd : FuncData} {N ps : List Str} {c : CS}
    (g : GOk G ax cl L P w K mg base) (F : FunD K x qual params body scope [] [] f fd) (S : FnScope N ps scope) (hc : cmpB G N scope body = some c) : FnOk P w K mg base (L2.CX P w) (L + 1) f fd ps (spOf K ax ps.length (fnRun cl ps.length N.length c)) := by
  refine F.ok S (fun vs H Q E h => h.1) fun cdv A outer s H vs Q E hr hsp => ?_
  obtain ⟨_, Fh, m, St, ds, r, rep, rs, e, p⟩ := hsp
  let C : Sc := { ax := ax, W := fun cls d _ H => E cls d H, si := none, ev := none }
  have hs : SOk G C cl L N .no scope (cxOf (L2.CX P w) P w K mg base N qual scope f cdv A outer s H E) := {
    x := {
      g := g
      hN := rfl
      nd := S.nd
      scr := scr_def (X := cxOf (L2.CX P w) P w K mg base N qual scope f cdv A outer s H E) fun _ => rfl
      kf := S.kind
      un := by
        have := hr.un
        show (A.deeper (envOfC qual scope s.heap.objs.size f cdv)).units + 65 < cLine
        omega
      tk := takes_of rfl rfl rfl rfl
      cool := fun _ => ⟨rfl, hr⟩
      fld := fun _ _ _ _ _ z => nomatch z
      exi := fun _ _ _ _ _ _ _ _ z => nomatch z }
    sc := rfl
    fn := fun _ => rfl
    cool := fun _ => ⟨passes_of rfl, rfl, rfl, rfl, rfl⟩ }
  refine ⟨_, block_ok (C := C) (fun st c q => ss_all 40 hs q) hc, ?_⟩
  unfold fnRun at e
  split at e
  case isFalse => cases e
  case isTrue hl =>
  rw [← hl] at e
  cases e0 : exec cl none c (ds.map some ++ List.replicate (N.length - ds.length) none) St with
  | none => rw [e0] at e; cases e
  | some r0 =>
    refine ⟨Fh, m, _, St, r0, start_sta (C := C) rfl rfl rep rs, e0, ?_⟩
    rw [e0] at e
    obtain ⟨fl, S'⟩ := r0
    cases fl with
    | nx env' =>
      cases e
      refine fun F' m' σ' H' ev l st => p F' m' H' .non ev ?_ (st.rep.take _) rfl
      rw [List.length_take]; omega
    | rt d =>
      cases e
      refine fun F' m' v H' ev l rp rd => ?_
      obtain ⟨m2, r2, rd2, l2, ev2⟩ := rp.gc l rd
      exact p F' m2 H' v (ev.trans (Nat.le_refl _) ev2) l2 r2 rd2
    | bk env' => cases e
    | xc x env' =>
      cases e
      refine fun F' m' σ' H' cls d ev l st rx => p F' m' H' cls d ev ?_ (st.rep.take _) rx
      rw [List.length_take]; omega
/-- what is there of each function, whatever level it runs at -/
structure FnT (G : Gc) (ax : Aux) (Ph : Nat → Option FD) (K : PySem.W.Frag) (mg : Str → Option Value) (x : Str) (f : Nat) : Prop where
  ex : ∃ fd N ps params body scope qual c, mg x = some (.ref (ax.fa f)) ∧ FunD K x qual params body scope [] [] (ax.fa f) fd ∧ FnScope N ps scope ∧ cmpB G N scope body = some c ∧ Ph f = some ⟨ps.length, N.length, c⟩ ∧ Binds K fd ps []
theorem run_len {Ph : Nat → Option FD} {k f : Nat} {np ns : Nat} {c : CS} (hf : f ≠ 0) (h : Ph f = some ⟨np, ns, c⟩) : ∀ ds S r, run Ph k f ds S = some r → ds.length = np := by
  intro ds S r e
  cases k with
  | zero => simp [run, hf] at e
  | succ k =>
    simp only [run, hf, if_false, h] at e
    split at e
    · assumption
    · cases e
theorem run_eq {Ph : Nat → Option FD} {k f : Nat} {np ns : Nat} {c : CS} (hf : f ≠ 0) (h : Ph f = some ⟨np, ns, c⟩) : run Ph (k + 1) f = fnRun (run Ph k) np ns c := by
  funext ds S
  simp only [run, hf, if_false, h, fnRun]
/-- all levels: o the level below all -/
theorem tower {G : Gc} {ax : Aux} {Ph : Nat → Option FD} {o : Nat} {P : Program} {w : World} {K : PySem.W.Frag} {mg : Str → Option Value} {base : Heap} (g0 : GOk { G with fid := [] } ax (run Ph 0) o P w K mg base) (hT : ∀ x f, G.fid.lookup x = some f → f ≠ 0 → FnT G ax Ph K mg x f) :
    ∀ k, GOk G ax (run Ph k) (k + o) P w K mg base := by
  have up : ∀ k, (∀ x f, G.fid.lookup x = some f → f ≠ 0 → ∃ fd ps np, mg x = some (.ref (ax.fa f)) ∧ PySem.W.keepIn K (.ref (ax.fa f)) = true ∧ Binds K fd ps [] ∧ FnOk P w K mg base (L2.CX P w) (k + o) (ax.fa f) fd ps (spOf K ax np (run Ph k f)) ∧ ∀ ds S r, run Ph k f ds S = some r → ds.length = np) → GOk G ax (run Ph k) (k + o) P w K mg base := fun k h => {
    blt := g0.blt
    fid := h
    con := g0.con
    trk := g0.trk
    mgT := g0.mgT
    mkT := fun hl => by
      obtain ⟨_, k1, fI, fd, ps, h1, h2, h3, h4⟩ := g0.mkT hl
      refine ⟨fun ds S => ?_, k1, fI, fd, ps, by omega, h2, h3, h4⟩
      cases k <;> simp [run]
    axs := g0.axs
    xs := g0.xs
    x0 := g0.x0
    xf := fun x f h hl => by
      obtain ⟨h1, h2, h3, k1, fI, fd, ps, h4, h5⟩ := g0.xf x f h hl
      exact ⟨h1, h2, h3, k1, fI, fd, ps, by omega, h5⟩
    axf := g0.axf
    exm := g0.exm
    exv := g0.exv
    kit := g0.kit
    kiv := g0.kiv }
  intro k
  induction k with
  | zero =>
    refine up 0 fun x f h hf => ?_
    obtain ⟨fd, N, ps, params, body, scope, qual, c, h1, h2, h3, h4, h5, h6⟩ := (hT x f h hf).ex
    have no : ∀ ds S, run Ph 0 f ds S = none := fun ds S => by simp [run, hf]
    refine ⟨fd, ps, ps.length, h1, h2.kp, h6, ⟨fun vs H Q E z => z.1, fun A outer s H args us vs Q E _ _ _ _ z => ?_⟩, fun ds S r e => by rw [no] at e; cases e⟩
    obtain ⟨_, F, m, S, ds, r, _, _, e, _⟩ := z
    rw [no] at e
    cases e
  | succ k ih =>
    refine up (k + 1) fun x f h hf => ?_
    obtain ⟨fd, N, ps, params, body, scope, qual, c, h1, h2, h3, h4, h5, h6⟩ := (hT x f h hf).ex
    refine ⟨fd, ps, ps.length, h1, h2.kp, h6, ?_, run_len hf h5⟩
    rw [run_eq hf h5, show k + 1 + o = (k + o) + 1 by omega]
    exact fn_ok ih h2 h3 h4
end Rf
set_option Elab.async false
set_option linter.all false
set_option maxRecDepth 100000
/-! The inits; what the top has written, as one truth. -/
namespace Rf
open PySem PySem.Spec PyProof.Rows L2

/-! ### an error's init -/
def initBody (f : Str) : List Stmt → Bool
  | [.Assign [.Attribute (.Name x _) g _] (.Name y _) _] => decide (x = "self") && decide (g = f) && decide (y = f)
  | _ => false
theorem initBody_ok {f : Str} {b : List Stmt} (h : initBody f b = true) : ∃ p1 p2 p3 p4, b = [.Assign [.Attribute (.Name "self" p1) f p2] (.Name f p3) p4] := by
  unfold initBody at h
  split at h
  · simp only [Bool.and_eq_true, decide_eq_true_eq] at h
    obtain ⟨⟨rfl, rfl⟩, rfl⟩ := h
    exact ⟨_, _, _, _, rfl⟩
  · cases h
def scopeB (N ps : List Str) (sc : Scope) : Bool :=
  (match sc.kind with | .function => true | _ => false) && !sc.isCoroutine && !sc.isGenerator && decide N.Nodup && decide (N.take ps.length = ps) && (ps.all fun x => isLoc (sc.names.lookup x)) && sc.names.all fun y => match y.2 with | .free => false | _ => true
theorem scope_ok {N ps : List Str} {sc : Scope} (h : scopeB N ps sc = true) : FnScope N ps sc := by
  unfold scopeB at h
  simp only [Bool.and_eq_true, Bool.not_eq_true', decide_eq_true_eq, List.all_eq_true] at h
  obtain ⟨⟨⟨⟨⟨⟨h1, h2⟩, h3⟩, h4⟩, h5⟩, h6⟩, h7⟩ := h
  refine ⟨?_, h2, h3, h4, h5, fun x hx => loc_of (h6 x hx), fun y hy z => ?_⟩
  · cases e : sc.kind <;> rw [e] at h1 <;> first | rfl | cases h1
  · have := h7 y hy
    rw [z] at this
    cases this
theorem init_ok {P : Program} {w : World} {K : PySem.W.Frag} {mg : Str → Option Value} {base : Heap} {qual f : Str} {params : Arguments} {body : List Stmt} {scope : Scope} {fI : Addr} {fd : FuncData} (F : FunD K "__init__" qual params body scope [] [] fI fd) (hb : initBody f body = true) (hs : scopeB ["self", f] ["self", f] scope = true)
    (h1 : (f == ("__debug__" : Str)) = false) (h2 : (f == ("__classdict__" : Str)) = false) : FnOk P w K mg base (L2.CX P w) 1 fI fd ["self", f] (spInit K f) := by
  obtain ⟨p1, p2, p3, p4, rfl⟩ := initBody_ok hb
  have S := scope_ok hs
  have v0 : Vis scope "self" := (S.par "self" (by simp)).elim .inl fun h => .inr (.inl h)
  have v1 : Vis scope f := (S.par f (by simp)).elim .inl fun h => .inr (.inl h)
  refine F.ok S (fun vs H Q E h => ?_) fun cdv A outer s H vs Q E hr h => ⟨_, pss_one (ps_ost (pe_var (i := 0) rfl v0 (by decide) (by decide)) (pe_var (i := 1) rfl v1 h1 h2)), ?_⟩
  · obtain ⟨a, Ca, v, rfl, _⟩ := h
    rfl
  · obtain ⟨a, Ca, v, rfl, T, nf, ha, q⟩ := h
    exact ⟨v, rfl, .ref a, rfl, a, Ca, rfl, T, nf, .inl ⟨ha, q⟩⟩

/-! ### is_integer, is_within -/
def fdInteger : FD := ⟨1, 1, .ret (.and (.isi (.v 0) [.int]) (.not (.isi (.v 0) [.bool])))⟩
def fdWithin : FD := ⟨3, 3, .ret (.and (.call 1 (.cons (.v 0) .nil)) (.chn .le .le (.v 1) (.v 0) (.v 2)))⟩
theorem take_len {α : Type} (l : List α) : l.take l.length = l := List.take_length
def intOk (S : Store) (d : D) : Bool := match d with
  | .fn _ => false
  | .ref i => match S[i]? with
    | some _ => true
    | none => false
  | _ => true
def isIntD : D → Bool
  | .int _ => true
  | _ => false
theorem run_integer {Ph : Nat → Option FD} (h1 : Ph 1 = some fdInteger) (k : Nat) (d : D) (S : Store) (hd : intOk S d = true) : run Ph (k + 1) 1 [d] S = some (.ok (.bl (isIntD d)) S) := by
  have e0 : run Ph (k + 1) 1 [d] S = atEnd S.length (exec (run Ph k) none fdInteger.body [some d] S) := by
    simp only [run, h1]
    rfl
  rw [e0]
  have fin : ∀ b : Bool, exec (run Ph k) none fdInteger.body [some d] S = some (.rt (.bl b), S) → atEnd S.length (exec (run Ph k) none fdInteger.body [some d] S) = some (.ok (.bl b) S) := fun b h => by
    rw [h]
    show some (R.ok (D.bl b) (S.take S.length)) = _
    rw [take_len]
  have gcb : ∀ b : Bool, gcR S.length (some (R.ok (.bl b) S)) = some (R.ok (.bl b) S) := fun b => by
    show some (R.ok (D.bl b) (S.take S.length)) = _
    rw [take_len]
  have ex : ∀ b : Bool, ev (run Ph k) none (.and (.isi (.v 0) [.int]) (.not (.isi (.v 0) [.bool]))) [some d] S = some (.ok (.bl b) S) → exec (run Ph k) none fdInteger.body [some d] S = some (.rt (.bl b), S) := fun b h => by
    show Rf.thn (gcR S.length (ev _ _ _ _ _)) _ _ = _
    rw [h, gcb]
    rfl
  cases d with
  | fn f => cases hd
  | ref i =>
    cases eo : S[i]? with
    | none => simp [intOk, eo] at hd
    | some o =>
      refine fin _ (ex _ ?_)
      have e1 : isTys S (.ref i) [.int] = some false := by cases o <;> simp [isTys, isTy, eo]
      show bnd (bnd (some (R.ok (D.ref i) S)) fun x S => match isTys S x [.int] with | some b => some (R.ok (D.bl b) S) | none => none) (kAnd fun S => ev (run Ph k) none (.not (.isi (.v 0) [.bool])) [some (D.ref i)] S) = _
      simp only [bnd_ok, e1]
      rfl
  | _ => exact fin _ (ex _ rfl)
theorem run_within {Ph : Nat → Option FD} (h1 : Ph 1 = some fdInteger) (h2 : Ph 2 = some fdWithin) (k : Nat) (d : D) (lo hi : Int) (S : Store) (hd : intOk S d = true) : run Ph (k + 2) 2 [d, .int lo, .int hi] S = some (.ok (.bl (within d lo hi)) S) := by
  have e0 : run Ph (k + 2) 2 [d, .int lo, .int hi] S = atEnd S.length (exec (run Ph (k + 1)) none fdWithin.body [some d, some (.int lo), some (.int hi)] S) := by
    simp only [run, h2]
    rfl
  rw [e0]
  have e1 : ev (run Ph (k + 1)) none (.and (.call 1 (.cons (.v 0) .nil)) (.chn .le .le (.v 1) (.v 0) (.v 2))) [some d, some (.int lo), some (.int hi)] S = some (.ok (.bl (within d lo hi)) S) := by
    show bnd (run Ph (k + 1) 1 [d] S) _ = _
    rw [run_integer h1 k d S hd]
    simp only [bnd_ok]
    cases d with
    | int i =>
      show kChn .le .le (.int lo) (.int i) (fun S => some (R.ok (D.int hi) S)) S = _
      simp only [kChn, cmpop, ordLe, Option.map_some, within]
      by_cases h : lo ≤ i
      · simp [h, kCmp, cmpop, ordLe]
      · simp [h]
    | _ => rfl
  show atEnd S.length (Rf.thn (gcR S.length (ev _ _ _ _ _)) _ _) = _
  rw [e1]
  have gcb : gcR S.length (some (R.ok (D.bl (within d lo hi)) S)) = some (R.ok (.bl (within d lo hi)) S) := by
    show some (R.ok (D.bl _) (S.take S.length)) = _
    rw [take_len]
  rw [gcb]
  show some (R.ok (D.bl _) (S.take S.length)) = _
  rw [take_len]
end Rf
set_option Elab.async false
set_option linter.all false
set_option maxRecDepth 100000
/-! Track.__init__, walked by hand. -/
namespace Rf
open PySem PySem.Spec PyProof.Rows L2

/-! ### is_integer, is_within: nothing changes -/
def spInt (K : PySem.W.Frag) : Sp := fun vs H Q E => ∃ v t b1 b2, vs = [v] ∧ TyX K H v t ∧ PySem.W.kitOne K t (.type "int") = some b1 ∧ PySem.W.kitOne K t (.type "bool") = some b2 ∧ Q (.bl (b1 && !b2)) H
def spWit (K : PySem.W.Frag) : Sp := fun vs H Q E => ∃ v lo hi t b1 b2, vs = [v, .int lo, .int hi] ∧ TyX K H v t ∧ PySem.W.kitOne K t (.type "int") = some b1 ∧ PySem.W.kitOne K t (.type "bool") = some b2 ∧
  ((b1 && !b2) = true → ∃ i, v = .int i ∧ Q (.bl (decide (lo ≤ i) && decide (i ≤ hi))) H) ∧ ((b1 && !b2) = false → Q (.bl false) H)
def intBody (sc : Scope) : List Stmt → Bool
  | [.Return (some (.BoolOp .And [.Call (.Name a _) [.Name b _, .Name c _] [] _, .UnaryOp .Not (.Call (.Name d _) [.Name e _, .Name f _] [] _) _] _)) _] =>
    decide (a = "isinstance") && decide (b = "thing") && decide (c = "int") && decide (d = "isinstance") && decide (e = "thing") && decide (f = "bool") && glb sc "isinstance" && glb sc "int" && glb sc "bool"
  | _ => false
theorem intBody_ok {sc : Scope} {b : List Stmt} (h : intBody sc b = true) : (∃ p1 p2 p3 p4 p5 p6 p7 p8 p9 p10 p11, b = [.Return (some (.BoolOp .And [.Call (.Name "isinstance" p1) [.Name "thing" p2, .Name "int" p3] [] p4, .UnaryOp .Not (.Call (.Name "isinstance" p5) [.Name "thing" p6, .Name "bool" p7] [] p8) p9] p10)) p11]) ∧
    glb sc "isinstance" = true ∧ glb sc "int" = true ∧ glb sc "bool" = true := by
  unfold intBody at h
  split at h
  · simp only [Bool.and_eq_true, decide_eq_true_eq] at h
    obtain ⟨⟨⟨⟨⟨⟨⟨⟨rfl, rfl⟩, rfl⟩, rfl⟩, rfl⟩, rfl⟩, h1⟩, h2⟩, h3⟩ := h
    exact ⟨⟨_, _, _, _, _, _, _, _, _, _, _, rfl⟩, h1, h2, h3⟩
  · cases h
def witBody (sc : Scope) : List Stmt → Bool
  | [.Return (some (.BoolOp .And [.Call (.Name a _) [.Name b _] [] _, .Compare (.Name c _) [.LtE, .LtE] [.Name d _, .Name e _] _] _)) _] =>
    decide (a = "is_integer") && decide (b = "thing") && decide (c = "low") && decide (d = "thing") && decide (e = "high") && glb sc "is_integer"
  | _ => false
theorem witBody_ok {sc : Scope} {b : List Stmt} (h : witBody sc b = true) : (∃ p1 p2 p3 p4 p5 p6 p7 p8 p9, b = [.Return (some (.BoolOp .And [.Call (.Name "is_integer" p1) [.Name "thing" p2] [] p3, .Compare (.Name "low" p4) [.LtE, .LtE] [.Name "thing" p5, .Name "high" p6] p7] p8)) p9]) ∧ glb sc "is_integer" = true := by
  unfold witBody at h
  split at h
  · simp only [Bool.and_eq_true, decide_eq_true_eq] at h
    obtain ⟨⟨⟨⟨⟨rfl, rfl⟩, rfl⟩, rfl⟩, rfl⟩, h1⟩ := h
    exact ⟨⟨_, _, _, _, _, _, _, _, _, rfl⟩, h1⟩
  · cases h
section
variable {P : Program} {w : World} {K : PySem.W.Frag} {mg : Str → Option Value} {base : Heap} {params : Arguments} {body : List Stmt} {scope : Scope} {f fW fN : Addr} {fd fdW fdN : FuncData} {x qual : Str}
theorem glbX {N : List Str} {cd : Value} {A : Around} {outer : List PySem.Env} {s : Shared} {H : Hp} {E : XK} {y : Str} (h : glb scope y = true) : Gl (cxOf (L2.CX P w) P w K mg base N qual scope f cd A outer s H E) y :=
  (glb_of (X := cxOf (L2.CX P w) P w K mg base N qual scope f cd A outer s H E) (scr_def fun _ => rfl) h).1
theorem visP {N ps : List Str} (S : FnScope N ps scope) {y : Str} (h : y ∈ ps) : Vis scope y := (S.par y h).elim .inl fun h => .inr (.inl h)
theorem int_ok (F : FunD K x qual params body scope [] [] f fd) (hb : intBody scope body = true) (hs : scopeB ["thing"] ["thing"] scope = true) (m1 : mg "isinstance" = none) (m2 : mg "int" = none) (m3 : mg "bool" = none) : FnOk P w K mg base (L2.CX P w) 1 f fd ["thing"] (spInt K) := by
  obtain ⟨⟨p1, p2, p3, p4, p5, p6, p7, p8, p9, p10, p11, rfl⟩, g1, g2, g3⟩ := intBody_ok hb
  have S := scope_ok hs
  refine F.ok S (fun vs H Q E h => ?_) fun cdv A outer s H vs Q E hr h => ⟨_, pss_one (ps_ret (pe_and
    (pe_callB call_isi (glbX g1) m1 (by decide +kernel) (pa_cons (pe_var (i := 0) rfl (visP S (by simp))) (pa_cons (pe_bltn (v := .ty "int") (glbX g2) m2 (by decide +kernel) rfl) pa_nil)))
    (pe_one (pe_not (pe_callB call_isi (glbX g1) m1 (by decide +kernel) (pa_cons (pe_var (i := 0) rfl (visP S (by simp))) (pa_cons (pe_bltn (v := .ty "bool") (glbX g3) m3 (by decide +kernel) rfl) pa_nil))))))), ?_⟩
  · obtain ⟨v, t, b1, b2, rfl, _⟩ := h
    rfl
  · obtain ⟨v, t, b1, b2, rfl, ty, k1, k2, q⟩ := h
    refine ⟨v, rfl, v, .ty "int", t, .type "int", b1, rfl, .ty _, ty, k1, b1, rfl, ?_⟩
    cases b1 with
    | false => exact iteF q
    | true => exact iteT ⟨v, rfl, v, .ty "bool", t, .type "bool", b2, rfl, .ty _, ty, k2, b2, rfl, q⟩
theorem wit_ok (FN : FnOk P w K mg base (L2.CX P w) 1 fN fdN ["thing"] (spInt K)) (kN : PySem.W.keepIn K (.ref fN) = true) (bN : Binds K fdN ["thing"] []) (mN : mg "is_integer" = some (.ref fN)) (F : FunD K x qual params body scope [] [] f fd) (hb : witBody scope body = true)
    (hs : scopeB ["thing", "low", "high"] ["thing", "low", "high"] scope = true) : FnOk P w K mg base (L2.CX P w) 2 f fd ["thing", "low", "high"] (spWit K) := by
  obtain ⟨⟨p1, p2, p3, p4, p5, p6, p7, p8, p9, rfl⟩, g1⟩ := witBody_ok hb
  have S := scope_ok hs
  refine F.ok S (fun vs H Q E h => ?_) fun cdv A outer s H vs Q E hr h => ⟨_, pss_one (ps_ret (pe_and
    (pe_callS FN hr (glbX g1) mN kN bN (fun σ => passAt (W := fun cls d _ H => E cls d H) (takes_of rfl rfl rfl rfl) σ) (pa_cons (pe_var (i := 0) rfl (visP S (by simp))) pa_nil))
    (pe_one (pe_chain op_le op_le (pe_var (i := 1) rfl (visP S (by simp))) (pe_var (i := 0) rfl (visP S (by simp))) (pe_var (i := 2) rfl (visP S (by simp))) rfl)))), ?_⟩
  · obtain ⟨v, lo, hi, t, b1, b2, rfl, _⟩ := h
    rfl
  · obtain ⟨v, lo, hi, t, b1, b2, rfl, ty, k1, k2, q1, q2⟩ := h
    refine ⟨v, rfl, v, t, b1, b2, rfl, ty, k1, k2, b1 && !b2, rfl, ?_⟩
    cases e : (b1 && !b2) with
    | false => exact iteF (q2 e)
    | true =>
      obtain ⟨i, rfl, q⟩ := q1 e
      refine iteT ⟨.int lo, rfl, .int i, rfl, lo, i, rfl, rfl, decide (lo ≤ i), rfl, ?_⟩
      cases e2 : decide (lo ≤ i) with
      | false => rw [e2] at q; exact iteF q
      | true => rw [e2] at q; exact iteT ⟨.int hi, rfl, i, hi, rfl, rfl, q⟩
end
/-! ### Track.__init__ -/
def ifB (sc : Scope) (v m : Str) : Stmt → Bool
  | .If (.UnaryOp .Not (.Call (.Name a _) [.Name b _, .Constant (.int 1) _ _, .Name c _] [] _) _) [.Raise (some (.Call (.Name d _) [.Constant (.str e) _ _] [] _)) none _] [] _ =>
    decide (a = "is_within") && decide (b = v) && decide (c = "MOST_PLACES") && decide (d = "BadTrack") && decide (e = m) && glb sc "is_within" && glb sc "MOST_PLACES" && glb sc "BadTrack"
  | _ => false
def ifR (sc : Scope) : Stmt → Bool
  | .If (.UnaryOp .Not (.Call (.Name a _) [.Name b _, .Name c _] [] _) _) [.Raise (some (.Call (.Name d _) [.Constant (.str e) _ _] [] _)) none _] [] _ =>
    decide (a = "isinstance") && decide (b = "is_ring") && decide (c = "bool") && decide (d = "BadTrack") && decide (e = "is_ring") && glb sc "isinstance" && glb sc "bool" && glb sc "BadTrack"
  | _ => false
def fldB (f : Str) : Stmt → Bool
  | .Assign [.Attribute (.Name x _) g _] (.Name y _) _ => decide (x = "self") && decide (g = f) && decide (y = f)
  | _ => false
def trkBody (sc : Scope) : List Stmt → Bool
  | [a, b, c, d, e, f] => ifB sc "places" "places" a && ifB sc "length" "length" b && ifR sc c && fldB "places" d && fldB "length" e && fldB "is_ring" f
  | _ => false
theorem fldB_ok {f : Str} {s : Stmt} (h : fldB f s = true) : ∃ p1 p2 p3 p4, s = .Assign [.Attribute (.Name "self" p1) f p2] (.Name f p3) p4 := by
  unfold fldB at h
  split at h
  · simp only [Bool.and_eq_true, decide_eq_true_eq] at h
    obtain ⟨⟨rfl, rfl⟩, rfl⟩ := h
    exact ⟨_, _, _, _, rfl⟩
  · cases h
theorem ifB_ok {sc : Scope} {v m : Str} {s : Stmt} (h : ifB sc v m s = true) : (∃ p1 p2 j p3 p4 p5 p6 p7 i p8 p9 p10 p11, s = .If (.UnaryOp .Not (.Call (.Name "is_within" p1) [.Name v p2, .Constant (.int 1) j p3, .Name "MOST_PLACES" p4] [] p5) p6) [.Raise (some (.Call (.Name "BadTrack" p7) [.Constant (.str m) i p8] [] p9)) none p10] [] p11) ∧
    glb sc "is_within" = true ∧ glb sc "MOST_PLACES" = true ∧ glb sc "BadTrack" = true := by
  unfold ifB at h
  split at h
  · simp only [Bool.and_eq_true, decide_eq_true_eq] at h
    obtain ⟨⟨⟨⟨⟨⟨⟨rfl, rfl⟩, rfl⟩, rfl⟩, rfl⟩, h1⟩, h2⟩, h3⟩ := h
    exact ⟨⟨_, _, _, _, _, _, _, _, _, _, _, _, _, rfl⟩, h1, h2, h3⟩
  · cases h
theorem ifR_ok {sc : Scope} {s : Stmt} (h : ifR sc s = true) : (∃ p1 p2 p4 p5 p6 p7 i p8 p9 p10 p11, s = .If (.UnaryOp .Not (.Call (.Name "isinstance" p1) [.Name "is_ring" p2, .Name "bool" p4] [] p5) p6) [.Raise (some (.Call (.Name "BadTrack" p7) [.Constant (.str "is_ring") i p8] [] p9)) none p10] [] p11) ∧
    glb sc "isinstance" = true ∧ glb sc "bool" = true ∧ glb sc "BadTrack" = true := by
  unfold ifR at h
  split at h
  · simp only [Bool.and_eq_true, decide_eq_true_eq] at h
    obtain ⟨⟨⟨⟨⟨⟨⟨rfl, rfl⟩, rfl⟩, rfl⟩, rfl⟩, h1⟩, h2⟩, h3⟩ := h
    exact ⟨⟨_, _, _, _, _, _, _, _, _, _, _, rfl⟩, h1, h2, h3⟩
  · cases h
theorem int_tys {K : PySem.W.Frag} {ax : Aux} {F H : Hp} {m : Nat → Addr} {S : Store} {d : D} {v : V} (r : Rep K ax F m S H) (h : RelD K ax F m S.length d v) (hf : isFn d = false) : ∃ b1 b2, isTy S d .int = some b1 ∧ isTy S d .bool = some b2 ∧ (b1 && !b2) = isIntD d := by
  cases d with
  | fn f => cases hf
  | ref i =>
    obtain ⟨hi, rfl⟩ := h
    have e0 : S[i]? = some S[i] := List.getElem?_eq_getElem hi
    have q := r.at_ i _ e0
    cases ho : S[i] with
    | lst xs => exact ⟨false, false, by simp [isTy, e0, ho], by simp [isTy, e0, ho], rfl⟩
    | fzl xs => exact ⟨false, false, by simp [isTy, e0, ho], by simp [isTy, e0, ho], rfl⟩
    | dct _ => rw [ho] at q; exact q.elim
  | bl b => exact ⟨true, true, rfl, rfl, rfl⟩
  | int i => exact ⟨true, false, rfl, rfl, rfl⟩
  | _ => exact ⟨false, false, rfl, rfl, rfl⟩
theorem not_fn {d : D} (h : isFn d = false) (g : Nat) : d ≠ .fn g := fun e => by rw [e] at h; cases h
theorem wit_use {K : PySem.W.Frag} {ax : Aux} {F H : Hp} {m : Nat → Addr} {S : Store} {d : D} {v : V} {lo hi : Int} {Q : VK} {E : XK} (T : TrkOk K ax.CT) (r : Rep K ax F m S H) (h : RelD K ax F m S.length d v) (hf : isFn d = false) (q : Q (.bl (within d lo hi)) H) : spWit K [v, .int lo, .int hi] H Q E := by
  obtain ⟨u, ty, hk⟩ := ty_of T r (Nat.le_refl _) h (not_fn hf)
  obtain ⟨b1, b2, e1, e2, e3⟩ := int_tys r h hf
  refine ⟨v, lo, hi, u, b1, b2, rfl, ty, hk .int b1 e1, hk .bool b2 e2, fun e => ?_, fun e => ?_⟩
  · rw [e3] at e
    cases d with
    | int i => exact ⟨i, h, q⟩
    | _ => cases e
  · rw [e3] at e
    cases d with
    | int i => cases e
    | _ => exact q
theorem wit_call {K : PySem.W.Frag} {ax : Aux} {F H : Hp} {m : Nat → Addr} {S : Store} {d : D} {v : V} {lo hi : Int} {Q : VK} {E : L2.St → XK} {σ : L2.St} {i : Nat} (T : TrkOk K ax.CT) (r : Rep K ax F m S H) (hi' : σ[i]? = some (some v)) (h : RelD K ax F m S.length d v) (hf : isFn d = false)
    (q : Q (.bl (within d lo hi)) H) : tCallS (spWit K) E (tCons (tVar i) (tCons (tC (.int lo)) (tCons (tC (.int hi)) tNil))) σ H Q := ⟨v, hi', wit_use (E := E σ) T r h hf q⟩
/-- BadTrack -/
structure BtOk (P : Program) (w : World) (K : PySem.W.Frag) (mg : Str → Option Value) (base : Heap) (ax : Aux) : Prop where
  m : mg "BadTrack" = some (.ref (He.ga K "BadTrack"))
  T : OexC K (He.ga K "BadTrack")
  nf : PySem.W.findIn K (.ref (He.ga K "BadTrack")) "what" = some none
  ini : ∃ fI fd ps, PySem.W.findIn K (.ref (He.ga K "BadTrack")) "__init__" = some (some (.ref fI)) ∧ PySem.W.typeIn K (.ref fI) = some (.type "function") ∧ FnOk P w K mg base (L2.CX P w) 1 fI fd ps (spInit K "what") ∧ Binds K fd ps []
  xs : ("BadTrack" : Str) ∈ ax.xs
  xf : (("BadTrack" : Str), ("what" : Str)) ∈ ax.xf
section
variable {P : Program} {w : World} {K : PySem.W.Frag} {mg : Str → Option Value} {base : Heap} {params : Arguments} {body : List Stmt} {scope : Scope} {f fW : Addr} {fd fdW : FuncData} {x qual : Str} {ax : Aux}
abbrev TN : List Str := ["self", "places", "length", "is_ring"]
def rRaise (m : Str) (env : Env) (S : Store) : Out := Rf.thn (bnd (some (R.ok (D.str m) S)) fun d S => bnd (some (R.ok ([] : List D) S)) fun ds S => some (R.ok (d :: ds) S)) env (kRaise "BadTrack" "what" env)
theorem raise_ps (B : BtOk P w K mg base ax) {cd : Value} {A : Around} {outer : List PySem.Env} {s : Shared} {H : Hp} {E : XK} {N : List Str} {m : Str} {p7 p8 p9 p10 : Pos} {i : Nat} (hr : Room 2 (A.deeper (envOfC qual scope s.heap.objs.size f cd))) (g : glb scope "BadTrack" = true) :
    PS (cxOf (L2.CX P w) P w K mg base N qual scope f cd A outer s H E) (.Raise (some (.Call (.Name "BadTrack" p7) [.Constant (.str m) i p8] [] p9)) none p10) (TX K ⟨ax, fun cls d _ H => E cls d H, none, none⟩ (rRaise m)) := by
  obtain ⟨fI, fdI, ps, h1, h2, h3, h4⟩ := B.ini
  exact ss_raise1 (X := cxOf (L2.CX P w) P w K mg base N qual scope f cd A outer s H E) (C := ⟨ax, fun cls d _ H => E cls d H, none, none⟩) rfl (takes_of rfl rfl rfl rfl) B.T h1 h2 B.nf h3 hr h4 (glbX g) B.m (sa_cons rfl (se_con pe_str fun _ _ _ => rfl) sa_nil) rfl (by decide) B.xs B.xf
theorem raise_use {F H0 : Hp} {m : Nat → Addr} {S : Store} {σ : L2.St} {En : Ends} {E : XK} {t : Str} (hσ : σ.length = 4) (r : Rep K ax F m S H0) (q : ∀ F' m' H' cls d, Evo S.length F m F' m' → Rep K ax F' m' S H' → RelX K ax F' ⟨"BadTrack", some ("what", .str t)⟩ cls d → E cls d H') :
    TX K ⟨ax, fun cls d _ H => E cls d H, none, none⟩ (rRaise t) En σ H0 := by
  refine ⟨F, m, [none, none, none, none], S, (.xc ⟨"BadTrack", some ("what", .str t)⟩ [none, none, none, none], S), ⟨r, hσ.symm, fun i d e => ?_, fun _ _ _ z => (nomatch z), fun _ _ z => (nomatch z)⟩, rfl, fun F' m' σ' H' cls d ev l st rx => q F' m' H' cls d ev st.rep rx⟩
  match i, e with
  | 0, e => cases e
  | 1, e => cases e
  | 2, e => cases e
  | 3, e => cases e
  | i + 4, e => simp at e
theorem trk_ok (T : TrkOk K ax.CT) (B : BtOk P w K mg base ax) (FW : FnOk P w K mg base (L2.CX P w) 2 fW fdW ["thing", "low", "high"] (spWit K)) (kW : PySem.W.keepIn K (.ref fW) = true) (bW : Binds K fdW ["thing", "low", "high"] []) (mW : mg "is_within" = some (.ref fW))
    (mP : ∃ t, mg "MOST_PLACES" = some (.int 20 t)) (m1 : mg "isinstance" = none) (m3 : mg "bool" = none) (F : FunD K x qual params body scope [] [] f fd) (hb : trkBody scope body = true) (hs : scopeB TN TN scope = true) : FnOk P w K mg base (L2.CX P w) 3 f fd TN (spTrk K ax) := by
  obtain ⟨tk, mP⟩ := mP
  unfold trkBody at hb
  split at hb
  case h_2 => cases hb
  case h_1 s1 s2 s3 s4 s5 s6 =>
  simp only [Bool.and_eq_true] at hb
  obtain ⟨⟨⟨⟨⟨h1, h2⟩, h3⟩, h4⟩, h5⟩, h6⟩ := hb
  obtain ⟨⟨_, _, _, _, _, _, _, _, _, _, _, _, _, rfl⟩, g1, g2, g3⟩ := ifB_ok h1
  obtain ⟨⟨_, _, _, _, _, _, _, _, _, _, _, _, _, rfl⟩, _, _, _⟩ := ifB_ok h2
  obtain ⟨⟨_, _, _, _, _, _, _, _, _, _, _, rfl⟩, g4, g5, _⟩ := ifR_ok h3
  obtain ⟨_, _, _, _, rfl⟩ := fldB_ok h4
  obtain ⟨_, _, _, _, rfl⟩ := fldB_ok h5
  obtain ⟨_, _, _, _, rfl⟩ := fldB_ok h6
  have Sc := scope_ok hs
  refine F.ok Sc (fun vs H Q E h => h.1) fun cdv A outer s H vs Q E hr h => ?_
  have ps : ∀ σ, PassesAt (L2.CX P w) (cxOf (L2.CX P w) P w K mg base TN qual scope f cdv A outer s H E) σ (WE (fun cls d _ H => E cls d H) σ) := fun σ => passAt (W := fun cls d _ H => E cls d H) (takes_of rfl rfl rfl rfl) σ
  have v0 : Vis scope "self" := visP Sc (by simp)
  have v1 : Vis scope "places" := visP Sc (by simp)
  have v2 : Vis scope "length" := visP Sc (by simp)
  have v3 : Vis scope "is_ring" := visP Sc (by simp)
  refine ⟨_, pss_cons (ps_if (pt_not (pt_val (pe_callS FW hr (glbX g1) mW kW bW ps (pa_cons (pe_var (i := 1) rfl v1) (pa_cons pe_int (pa_cons (pe_glob (v := .int 20) (glbX g2) mP ⟨tk, rfl⟩) pa_nil)))) fun _ => rfl)) (pss_one (raise_ps B hr g3)) pss_nil)
    (pss_cons (ps_if (pt_not (pt_val (pe_callS FW hr (glbX g1) mW kW bW ps (pa_cons (pe_var (i := 2) rfl v2) (pa_cons pe_int (pa_cons (pe_glob (v := .int 20) (glbX g2) mP ⟨tk, rfl⟩) pa_nil)))) fun _ => rfl)) (pss_one (raise_ps B hr g3)) pss_nil)
    (pss_cons (ps_if (pt_not (pt_val (pe_callB call_isi (glbX g4) m1 (by decide +kernel) (pa_cons (pe_var (i := 3) rfl v3) (pa_cons (pe_bltn (v := .ty "bool") (glbX g5) m3 (by decide +kernel) rfl) pa_nil))) fun _ => rfl)) (pss_one (raise_ps B hr g3)) pss_nil)
    (pss_cons (ps_fld (pe_var (i := 0) rfl v0) (pe_var (i := 1) rfl v1) rfl) (pss_cons (ps_fld (pe_var (i := 0) rfl v0) (pe_var (i := 2) rfl v2) rfl) (pss_one (ps_fld (pe_var (i := 0) rfl v0) (pe_var (i := 3) rfl v3) rfl)))))), ?_⟩
  obtain ⟨_, Fh, m, St, ds, r, xa, dx, ws, rfl, hx, fx, mx, rep, rs, e, q⟩ := h
  unfold mkTrack at e
  split at e
  case h_2 => cases e
  case h_1 a b c =>
  obtain ⟨va, vb, vc, rfl, ra, rb, rc⟩ := three_of (C := ⟨ax, fun _ _ _ _ => False, none, none⟩) rs
  split at e
  case isTrue => cases e
  case isFalse hf =>
  simp only [Bool.or_eq_true, not_or, Bool.not_eq_true] at hf
  obtain ⟨⟨fa, fb⟩, fc⟩ := hf
  show tCallS (spWit K) _ (tCons (tVar 1) (tCons (tC (.int 1)) (tCons (tC (.int 20)) tNil))) _ H _
  refine wit_call (v := va) T rep rfl ra fa ?_
  refine ⟨_, rfl, ?_⟩
  split at e
  case isTrue hw =>
    cases e
    rw [hw]
    exact iteT (raise_use rfl rep q.2)
  case isFalse hw =>
  have wa : within a 1 20 = true := by simpa using hw
  rw [wa]
  refine iteF ?_
  show tCallS (spWit K) _ (tCons (tVar 2) (tCons (tC (.int 1)) (tCons (tC (.int 20)) tNil))) _ H _
  refine wit_call (v := vb) T rep rfl rb fb ?_
  refine ⟨_, rfl, ?_⟩
  split at e
  case isTrue hw =>
    cases e
    rw [hw]
    exact iteT (raise_use rfl rep q.2)
  case isFalse hw2 =>
  have wb : within b 1 20 = true := by simpa using hw2
  rw [wb]
  obtain ⟨u, ty, hk⟩ := ty_of T rep (Nat.le_refl _) rc (not_fn fc)
  obtain ⟨_, b2, _, e2, _⟩ := int_tys rep rc fc
  refine iteF ⟨vc, rfl, vc, .ty "bool", u, .type "bool", b2, rfl, .ty _, ty, hk .bool b2 e2, b2, rfl, ?_⟩
  have ha : ∃ n, a = .int n := by cases a <;> first | exact ⟨_, rfl⟩ | cases wa
  have hb : ∃ n, b = .int n := by cases b <;> first | exact ⟨_, rfl⟩ | cases wb
  obtain ⟨n, rfl⟩ := ha
  obtain ⟨k, rfl⟩ := hb
  obtain rfl : va = .int n := ra
  obtain rfl : vb = .int k := rb
  by_cases hc : ∃ t, c = .bl t
  · obtain ⟨t, rfl⟩ := hc
    obtain rfl : vc = .bl t := rc
    cases e
    cases e2
    obtain ⟨_, n', k', t', hd, hq⟩ := q
    cases hd
    refine iteF ⟨_, rfl, _, rfl, xa, ax.CT, dx, [], rfl, hx, T.cl, T.nP, by decide, _, rfl, _, rfl, xa, ax.CT, dx, _, rfl, upd_same, T.cl, T.nL, show 1 < 1000 by decide, _, rfl, _, rfl, xa, ax.CT, dx, _, rfl, upd_same, T.cl, T.nR, show 2 < 1000 by decide, ?_⟩
    have eH : ∀ (o1 o2 o3 : HO), upd (upd (upd H xa o1) xa o2) xa o3 = upd H xa o3 := fun o1 o2 o3 => by
      funext z
      by_cases hz : z = xa
      · rw [hz, upd_same, upd_same]
      · rw [upd_ne hz, upd_ne hz, upd_ne hz, upd_ne hz]
    show Q .non (upd (upd (upd H xa _) xa _) xa _)
    rw [eH]
    exact hq
  · have hb2 : b2 = false := by
      cases c with
      | bl t => exact absurd ⟨t, rfl⟩ hc
      | ref i =>
        simp only [isTy] at e2
        split at e2 <;> cases e2 <;> rfl
      | _ => first | (cases e2; rfl) | cases fc
    subst hb2
    have er : r = .ex ⟨"BadTrack", some ("what", .str "is_ring")⟩ St := by
      cases c <;> first | exact absurd ⟨_, rfl⟩ hc | (cases e; rfl)
    subst er
    exact iteT (raise_use rfl rep q.2)
end
end Rf
set_option Elab.async false
set_option linter.all false
set_option maxRecDepth 100000
/-! What the top has written, as one truth; all functions. -/
namespace Rf
open PySem PySem.Spec PyProof.Rows L2

/-! ### the text's defs -/
def findDef (x : Str) : List Stmt → Option (Arguments × List Stmt × Scope)
  | [] => none
  | .FunctionDef n a b _ _ _ sc _ _ _ :: r => if n = x then some (a, b, sc) else findDef x r
  | _ :: r => findDef x r
def findCls (x : Str) : List Stmt → List Stmt
  | [] => []
  | .ClassDef n _ _ b _ _ _ _ _ _ _ :: r => if n = x then b else findCls x r
  | _ :: r => findCls x r
def defD (bd : List Stmt) (x : Str) : He.DefD := match findDef x bd with
  | some (a, b, sc) => ⟨(x, none), x, x, a, b, sc, [], []⟩
  | none => ⟨(x, none), x, x, ⟨[], [], none, [], [], none, []⟩, [], ⟨.module, [], false, false, []⟩, [], []⟩
def initD (bd : List Stmt) (c : Str) : He.DefD := match findDef "__init__" (findCls c bd) with
  | some (a, b, sc) => ⟨(c, some "__init__"), "__init__", c ++ ".__init__", a, b, sc, [], []⟩
  | none => ⟨(c, some "__init__"), "__init__", c, ⟨[], [], none, [], [], none, []⟩, [], ⟨.module, [], false, false, []⟩, [], []⟩
/-- one function: its name, number, slots, parameters, what it is made to -/
structure Tb where
  x : Str
  id : Nat
  N : List Str
  ps : List Str
  c : CS
def argsB (a : Arguments) (ps : List Str) : Bool := match a with
  | ⟨[], as, none, [], [], none, []⟩ => decide (as.map (·.arg) = ps) && decide (ps.Nodup)
  | _ => false
theorem zip_lookup {ps : List Str} (hn : ps.Nodup) : ∀ {us : List Value}, us.length = ps.length → ∀ n ∈ ps, ((ps.zip us).lookup n).isSome = true := by
  induction ps with
  | nil => intro us h n hn; cases hn
  | cons p ps ih =>
    intro us h n hm
    cases us with
    | nil => simp at h
    | cons u us =>
      simp only [List.zip_cons_cons, List.lookup_cons]
      split
      · rfl
      · rename_i e
        rcases List.mem_cons.mp hm with rfl | hm
        · simp at e
        · exact ih (List.nodup_cons.mp hn).2 (by simpa using h) n hm
theorem zip_fm : ∀ {ps : List Str} {us : List Value}, ps.Nodup → us.length = ps.length → (ps.filterMap fun n => ((ps.zip us).lookup n).map (n, ·)) = ps.zip us := by
  have gen : ∀ (qs : List Str) (ps : List Str) (us : List Value), ps.Nodup → us.length = ps.length → ∀ (pre : List (Str × Value)), (∀ x ∈ ps, x ∉ pre.map (·.1)) → (ps.filterMap fun n => ((pre ++ ps.zip us).lookup n).map (n, ·)) = ps.zip us := by
    intro _ ps
    induction ps with
    | nil => intro us _ _ pre _; rfl
    | cons p ps ih =>
      intro us hn hl pre hp
      cases us with
      | nil => simp at hl
      | cons u us =>
        have e1 : (pre ++ (p, u) :: ps.zip us).lookup p = some u := by
          have : ∀ (l : List (Str × Value)), p ∉ l.map (·.1) → (l ++ (p, u) :: ps.zip us).lookup p = some u := by
            intro l
            induction l with
            | nil => intro _; simp
            | cons q l ihl =>
              intro h
              obtain ⟨q1, q2⟩ := q
              simp only [List.map_cons, List.mem_cons, not_or] at h
              have hq : (p == q1) = false := by simpa using h.1
              simp only [List.cons_append, List.lookup_cons, hq]
              exact ihl h.2
          exact this pre (hp p (by simp))
        have e2 : pre ++ (p, u) :: ps.zip us = (pre ++ [(p, u)]) ++ ps.zip us := by simp
        simp only [List.zip_cons_cons, List.filterMap_cons, e1, Option.map_some]
        congr 1
        rw [e2]
        refine ih us (List.nodup_cons.mp hn).2 (by simpa using hl) _ fun x hx => ?_
        simp only [List.map_append, List.mem_append, not_or, List.map_cons, List.map_nil, List.mem_singleton]
        exact ⟨hp x (by simp [hx]), fun z => (List.nodup_cons.mp hn).1 (z ▸ hx)⟩
  intro ps us hn hl
  exact gen [] ps us hn hl [] (by simp)
theorem bind_any {x qual : Str} {as : List Arg} {body : List Stmt} {scope : Scope} (hn : (as.map (·.arg)).Nodup) : ∀ (kV doc pm : Value) (an : Option Addr) (cdv ct : Value) (us : List Value), us.length = as.length →
    bindArgs (PySem.W.fnOf x qual ⟨[], as, none, [], [], none, []⟩ body scope .none kV doc pm an cdv ct) ⟨us, []⟩ = pure ((as.map (·.arg)).zip us) := by
  intro kV doc pm an cdv ct us hl
  have hl' : us.length = (as.map (·.arg)).length := by simpa using hl
  have h1 := zip_fm hn hl'
  have h2 : (((as.map (·.arg)).take (as.map (·.arg)).length).filter fun n => (((as.map (·.arg)).zip us).lookup n).isNone) = [] := by
    rw [List.take_length, List.filter_eq_nil_iff]
    intro n hm
    have := zip_lookup hn hl' n hm
    simpa using this
  have h0 : seqItems? (Value.none) = pure none := rfl
  generalize hps : as.map (·.arg) = ps at h1 h2 hl'
  unfold bindArgs PySem.W.fnOf
  dsimp only
  rw [hps]
  have e1 : (decide (us.length > ([] ++ ps).length) && (none : Option Arg).isNone) = false := by simp; omega
  have e2 : ps.length - ((#[] : Array Value).toList.drop ((#[] : Array Value).toList.length - ps.length)).length = ps.length := by simp
  simp only [List.map_nil, List.nil_append] at e1 ⊢
  show _ = _
  simp [h0, h1, h2, hl']
  intro y hy hz
  have hn' : ps.Nodup := hps ▸ hn
  obtain ⟨v, hv⟩ := Option.isSome_iff_exists.mp (zip_lookup hn' hl' y hy)
  exact absurd (PySem.mem_of_lookup hv) (hz v)
theorem binds_of {K : PySem.W.Frag} {x qual : Str} {params : Arguments} {body : List Stmt} {scope : Scope} {f : Addr} {fd : FuncData} {ps : List Str} (F : FunD K x qual params body scope [] [] f fd) (h : argsB params ps = true) : Binds K fd ps [] := by
  unfold argsB at h
  split at h
  · simp only [Bool.and_eq_true, decide_eq_true_eq] at h
    obtain ⟨rfl, h2⟩ := h
    exact F.bindsN fun kV doc pm an cdv ct us hl => bind_any h2 kV doc pm an cdv ct us (by simpa using hl)
  · cases h
/-! ### the truth -/
def conB (K : PySem.W.Frag) (q : Str × D) : Bool := match q.2 with
  | .int i => (He.Fa.int q.1 i).ok K
  | .str z => (He.Fa.str q.1 z).ok K
  | _ => false
def trkB (K : PySem.W.Frag) : Bool :=
  (He.Fa.glo "Track").ok K && ((He.Fa.cls "Track").ok K && ((He.Fa.mkr "Track").ok K && ((He.Fa.noat "Track" "places").ok K && ((He.Fa.noat "Track" "length").ok K && ((He.Fa.noat "Track" "is_ring").ok K &&
  (He.eqO (PySem.W.findIn K (.ref (He.ga K "Track")) "__class__") (some (some (.builtin "object.__class__"))) && (He.eqO (PySem.W.specialIn K (.builtin "object.__class__") "__get__") (some (some (.builtin "getset_descriptor.__get__"))) &&
  (decide (PySem.W.takesIn K (.builtin "object.__class__") = some true) && (decide (PySem.W.mroIn K (He.ga K "Track") (.type "object") = some true) &&
  ((["NoneType", "bool", "int", "str", "list", "tuple", "dict"].all fun T => decide (PySem.W.kitOne K (.type T) (.ref (He.ga K "Track")) = some false)) && ((["bool", "int", "str", "list", "tuple"].all fun T => decide (PySem.W.kitOne K (.ref (He.ga K "Track")) (.type T) = some false)) &&
  decide (PySem.W.kitOne K (.ref (He.ga K "Track")) (.ref (He.ga K "Track")) = some true))))))))))))
theorem trkB_ok {K : PySem.W.Frag} (h : trkB K = true) : TrkOk K (He.ga K "Track") ∧ (He.Fa.glo "Track").ok K = true ∧ Mk K (He.ga K "Track") (He.ma K (He.ga K "Track") "__init__") := by
  unfold trkB at h
  simp only [Bool.and_eq_true, decide_eq_true_eq, List.all_eq_true] at h
  obtain ⟨h1, h2, h3, h4, h5, h6, h7, h8, h9, h10, h11, h12, h13⟩ := h
  exact ⟨⟨He.cls_ok h2, He.eqO_ok h7, He.eqO_ok h8, h9, h10, He.noat_ok h4, He.noat_ok h5, He.noat_ok h6, h11, h12, h13⟩, h1, He.mkr_ok h3⟩
/-- an error class with an init of its own -/
def oexB (K : PySem.W.Frag) (Ca : Addr) : Bool := (match K.lookup Ca with
  | some ⟨.type "type", _, .cls cd, sl⟩ => (match cd.mro, sl.toList with
    | .ref c :: m, [_, _, _, _, some (.builtin n), _] => decide (c = Ca) && (decide (n = "ValueError.__new__") && (!cd.hasDel && (cd.hasDict && PySem.HandSPX.refsVE m)))
    | _, _ => false)
  | _ => false)
theorem oexB_ok {K : PySem.W.Frag} {Ca : Addr} (h : oexB K Ca = true) : ∃ nm q N bs bm sn sub ab col dd k0 k1 k2 k3 k5, K.lookup Ca = some (excClassObj nm q Ca N bs bm true sn sub ab col dd k0 k1 k2 k3 k5 "ValueError.__new__") ∧ PySem.HandSPX.refsVE bm = true := by
  unfold oexB at h
  split at h
  · rename_i dd cd sl ho
    split at h
    · rename_i c m k0 k1 k2 k3 n k5 hm hs
      simp only [Bool.and_eq_true, decide_eq_true_eq, Bool.not_eq_true'] at h
      obtain ⟨rfl, rfl, hd, hdct, hr⟩ := h
      obtain ⟨nm, bs, mro, ns, qn, hdc, sn, sub, ab, col, del⟩ := cd
      dsimp only at hm hd hdct
      subst hm hd hdct
      obtain ⟨l⟩ := sl
      dsimp only at hs
      subst hs
      exact ⟨nm, qn, ns, bs, m, sn, sub, ab, col, dd, k0, k1, k2, k3, k5, ho, hr⟩
    · cases h
  · cases h
def xB (K : PySem.W.Frag) (x : Str) : Bool := (He.Fa.glo x).ok K && (PySem.W.keepIn K (.ref (He.ga K x)) && (decide (PySem.W.subIn K (.ref (He.ga K x)) (.type "BaseException") = some true) && (decide (PySem.W.typeIn K (.ref (He.ga K x)) = some (.type "type")) && (xfB K (He.ga K x) &&
  (He.eqO (PySem.W.findIn K (.ref (He.ga K x)) "__class__") (some (some (.builtin "object.__class__"))) && (He.eqO (PySem.W.specialIn K (.builtin "object.__class__") "__get__") (some (some (.builtin "getset_descriptor.__get__"))) && (decide (PySem.W.takesIn K (.builtin "object.__class__") = some true) &&
  (decide (PySem.W.mroIn K (He.ga K x) (.type "object") = some true) && (decide (PySem.W.exmOne K (.ref (He.ga K x)) (.type "ValueError") = some true) && decide (PySem.W.kitOne K (.ref (He.ga K x)) (.type "ValueError") = some true))))))))))
theorem xB_ok {K : PySem.W.Frag} {x : Str} (h : xB K x = true) : (He.Fa.glo x).ok K = true ∧ PySem.W.keepIn K (.ref (He.ga K x)) = true ∧ PySem.W.subIn K (.ref (He.ga K x)) (.type "BaseException") = some true ∧ PySem.W.typeIn K (.ref (He.ga K x)) = some (.type "type") ∧ XfC K (He.ga K x) ∧ ExcC K (He.ga K x) ∧
    PySem.W.exmOne K (.ref (He.ga K x)) (.type "ValueError") = some true ∧ PySem.W.kitOne K (.ref (He.ga K x)) (.type "ValueError") = some true := by
  unfold xB at h
  simp only [Bool.and_eq_true, decide_eq_true_eq] at h
  obtain ⟨h1, h2, h3, h4, h5, h6, h7, h8, h9, h10, h11⟩ := h
  have T := xfB_ok h5
  exact ⟨h1, h2, h3, h4, T, ⟨T.ga, T.gg, h3, T.hdC, He.eqO_ok h6, He.eqO_ok h7, h8, h9⟩, h10, h11⟩
/-- a class with a field: its init -/
def fB (K : PySem.W.Frag) (q : Str × Str) : Bool := oexB K (He.ga K q.1) && (He.eqO (PySem.W.findIn K (.ref (He.ga K q.1)) "__setattr__") (some (some (.builtin "object.__setattr__"))) && (He.eqO (PySem.W.findIn K (.ref (He.ga K q.1)) q.2) (some none) &&
  (He.eqO (PySem.W.findIn K (.ref (He.ga K q.1)) "__init__") (some (some (.ref (He.ma K (He.ga K q.1) "__init__")))) && decide (PySem.W.typeIn K (.ref (He.ma K (He.ga K q.1) "__init__")) = some (.type "function")))))
def chk (G : Gc) (K : PySem.W.Frag) : Bool :=
  (BN.all fun x => (He.Fa.free x).ok K) && ((G.fid.all fun q => (He.Fa.glo q.1).ok K) && ((G.con.all (conB K)) && (trkB K && ((G.xs.all (xB K)) &&
  ((G.xs.all fun x => match G.xf.lookup x with | none => PySem.W.excIn K (He.ga K x) excTail "ValueError.__new__" | some _ => true) && ((G.xf.all (fB K)) &&
  (G.xs.all fun y => G.xs.all fun x => decide (PySem.W.exmOne K (.ref (He.ga K y)) (.ref (He.ga K x)) = some (subEx y x)) && decide (PySem.W.kitOne K (.ref (He.ga K y)) (.ref (He.ga K x)) = some (subEx y x)))))))))
end Rf
set_option Elab.async false
set_option linter.all false
set_option maxRecDepth 100000
/-! From the top's facts to all functions at all levels. -/
namespace Rf
open PySem PySem.Spec PyProof.Rows L2

def PhOf (tab : List Tb) (f : Nat) : Option FD := (tab.find? fun t => t.id == f).map fun t => ⟨t.ps.length, t.N.length, t.c⟩
def axOf (tab : List Tb) (G : Gc) (K : PySem.W.Frag) : Aux where
  CT := He.ga K "Track"
  fa := fun f => match tab.find? fun t => t.id == f with
    | some t => He.ga K t.x
    | none => 0
  xs := G.xs
  xf := G.xf
def fidOf (tab : List Tb) : List (Str × Nat) := tab.map fun t => (t.x, t.id)
def fnOf (bd : List Stmt) (tab : List Tb) (G : Gc) : List He.DefD := (tab.map fun t => defD bd t.x) ++ (initD bd "Track" :: G.xf.map fun q => initD bd q.1)
def stB (bd : List Stmt) (tab : List Tb) (G : Gc) : Bool :=
  (tab.all fun t => argsB (defD bd t.x).params t.ps && (scopeB t.N t.ps (defD bd t.x).scope && !(t.id == 0))) && (decide ((tab.map (·.id)).Nodup) &&
  (tab.any (fun t => decide (t.x = "is_integer")) && (tab.any (fun t => decide (t.x = "is_within")) &&
  (intBody (defD bd "is_integer").scope (defD bd "is_integer").body && (scopeB ["thing"] ["thing"] (defD bd "is_integer").scope && (argsB (defD bd "is_integer").params ["thing"] &&
  (witBody (defD bd "is_within").scope (defD bd "is_within").body && (scopeB ["thing", "low", "high"] ["thing", "low", "high"] (defD bd "is_within").scope && (argsB (defD bd "is_within").params ["thing", "low", "high"] &&
  (trkBody (initD bd "Track").scope (initD bd "Track").body && (scopeB TN TN (initD bd "Track").scope && (argsB (initD bd "Track").params TN &&
  ((G.xf.all fun q => initBody q.2 (initD bd q.1).body && (scopeB ["self", q.2] ["self", q.2] (initD bd q.1).scope && (argsB (initD bd q.1).params ["self", q.2] && (!(q.2 == ("__debug__" : Str)) && (!(q.2 == ("__classdict__" : Str)) && decide (q.1 ∈ G.xs)))))) &&
  (decide (("BadTrack" : Str) ∈ G.xs) && (decide ((("BadTrack" : Str), ("what" : Str)) ∈ G.xf) && (G.con.any fun q => decide (q.1 = "MOST_PLACES") && (match q.2 with | .int 20 => true | _ => false)))))))))))))))))
theorem defD_at (bd : List Stmt) (x : Str) : (defD bd x).at_ = (x, none) ∧ (defD bd x).dfl = [] ∧ (defD bd x).kwd = [] ∧ (defD bd x).name = x := by
  unfold defD
  split <;> exact ⟨rfl, rfl, rfl, rfl⟩
theorem initD_at (bd : List Stmt) (x : Str) : (initD bd x).at_ = (x, some ("__init__" : Str)) ∧ (initD bd x).dfl = [] ∧ (initD bd x).kwd = [] ∧ (initD bd x).name = "__init__" := by
  unfold initD
  split <;> exact ⟨rfl, rfl, rfl, rfl⟩
theorem says_def {fn : List He.DefD} {K : PySem.W.Frag} (c : He.SaysD [] fn K) {d : He.DefD} (hd : d ∈ fn) (h1 : d.dfl = []) (h2 : d.kwd = []) : ∃ fd, FunD K d.name d.qual d.params d.body d.scope [] [] (He.fAd K d.at_) fd := by
  obtain ⟨i, hi⟩ := List.getElem?_of_mem hd
  obtain ⟨fd, F⟩ := c.def_ i hi
  have e1 : d.dvs K = [] := by unfold He.DefD.dvs; rw [h1]; rfl
  have e2 : d.kws K = [] := by unfold He.DefD.kws; rw [h2]; rfl
  rw [e1, e2] at F
  exact ⟨fd, F⟩
theorem find_id {tab : List Tb} (hn : (tab.map (·.id)).Nodup) {t : Tb} (ht : t ∈ tab) : tab.find? (fun u => u.id == t.id) = some t := by
  induction tab with
  | nil => cases ht
  | cons u r ih =>
    rw [List.find?_cons]
    rcases List.mem_cons.mp ht with rfl | ht
    · simp
    · have hne : (u.id == t.id) = false := by
        have := (List.nodup_cons.mp hn).1
        simp only [beq_eq_false_iff_ne]
        exact fun e => this (by show u.id ∈ _; rw [e]; exact List.mem_map_of_mem ht)
      rw [hne]
      exact ih (List.nodup_cons.mp hn).2 ht
theorem lookup_fid {tab : List Tb} {x : Str} {f : Nat} (h : (fidOf tab).lookup x = some f) : ∃ t ∈ tab, t.x = x ∧ t.id = f := by
  have := PySem.mem_of_lookup h
  obtain ⟨t, ht, e⟩ := List.mem_map.mp this
  cases e
  exact ⟨t, ht, rfl, rfl⟩
theorem comp_at {bd : List Stmt} {tab : List Tb} {G : Gc} (h : (tab.map fun t => cmpB G t.N (defD bd t.x).scope (defD bd t.x).body) = tab.map fun t => some t.c) {t : Tb} (ht : t ∈ tab) : cmpB G t.N (defD bd t.x).scope (defD bd t.x).body = some t.c := by
  obtain ⟨i, hi⟩ := List.getElem?_of_mem ht
  have e := congrArg (fun l => l[i]?) h
  simp only [List.getElem?_map, hi, Option.map_some, Option.some.injEq] at e
  exact e
/-- ALL functions at ALL levels -/
theorem all_ok {bd : List Stmt} {tab : List Tb} {G : Gc} {P : Program} {w : World} {K : PySem.W.Frag} {mg : Str → Option Value} {base h : Heap} (X : K.In h) (N : h.Ns mainGlobals mg) (c : He.SaysD [] (fnOf bd tab G) K) (ck : chk G K = true) (st : stB bd tab G = true)
    (cp : (tab.map fun t => cmpB G t.N (defD bd t.x).scope (defD bd t.x).body) = tab.map fun t => some t.c) (hG : G.fid = fidOf tab) : ∀ k, GOk G (axOf tab G K) (run (PhOf tab) k) (k + 4) P w K mg base := by
  unfold chk at ck
  simp only [Bool.and_eq_true] at ck
  obtain ⟨c1, c2, c3, c4, c5, c6, c7, c8⟩ := ck
  have c1 := List.all_eq_true.mp c1
  have c2 := List.all_eq_true.mp c2
  have c3 := List.all_eq_true.mp c3
  have c5 := List.all_eq_true.mp c5
  have c6 := List.all_eq_true.mp c6
  have c7 := List.all_eq_true.mp c7
  have c8 := List.all_eq_true.mp c8
  unfold stB at st
  simp only [Bool.and_eq_true, decide_eq_true_eq] at st
  obtain ⟨s1, s2, s3, s4, s5, s6, s7, s8, s9, s10, s11, s12, s13, s14, s15, s16, s17⟩ := st
  have s1 := List.all_eq_true.mp s1
  have s14 := List.all_eq_true.mp s14
  obtain ⟨T, gT, M⟩ := trkB_ok c4
  have blt : ∀ x ∈ BN, mg x = none := fun x hx => He.free_ok X N (c1 x hx)
  -- the functions' objects
  have fun_of : ∀ t ∈ tab, ∃ fd, FunD K t.x (defD bd t.x).qual (defD bd t.x).params (defD bd t.x).body (defD bd t.x).scope [] [] (He.ga K t.x) fd := fun t ht => by
    obtain ⟨h1, h2, h3, h4⟩ := defD_at bd t.x
    obtain ⟨fd, F⟩ := says_def c (List.mem_append_left _ (List.mem_map_of_mem ht)) h2 h3
    rw [h1, h4] at F
    exact ⟨fd, F⟩
  have mg_of : ∀ t ∈ tab, mg t.x = some (.ref (He.ga K t.x)) := fun t ht => He.glo_ok X N (c2 (t.x, t.id) (by rw [hG]; exact List.mem_map_of_mem ht))
  -- the errors' inits
  have ini : ∀ q ∈ G.xf, ∃ fd, FnOk P w K mg base (L2.CX P w) 1 (He.ma K (He.ga K q.1) "__init__") fd ["self", q.2] (spInit K q.2) ∧ Binds K fd ["self", q.2] [] := fun q hq => by
    obtain ⟨h1, h2, h3, h4⟩ := initD_at bd q.1
    obtain ⟨fd, F⟩ := says_def c (List.mem_append_right _ (List.mem_cons_of_mem _ (List.mem_map_of_mem hq))) h2 h3
    rw [h1, h4] at F
    have z := s14 q hq
    simp only [Bool.and_eq_true, Bool.not_eq_true'] at z
    obtain ⟨z1, z2, z3, z4, z5, _⟩ := z
    exact ⟨fd, init_ok F z1 z2 z4 z5, binds_of F z3⟩
  have fld : ∀ q ∈ G.xf, OexC K (He.ga K q.1) ∧ PySem.W.findIn K (.ref (He.ga K q.1)) q.2 = some none ∧ PySem.W.findIn K (.ref (He.ga K q.1)) "__init__" = some (some (.ref (He.ma K (He.ga K q.1) "__init__"))) ∧ PySem.W.typeIn K (.ref (He.ma K (He.ga K q.1) "__init__")) = some (.type "function") ∨ q.1 ∉ G.xs := fun q hq => by
    by_cases hx : q.1 ∈ G.xs
    · refine .inl ?_
      have z := c7 q hq
      unfold fB at z
      simp only [Bool.and_eq_true, decide_eq_true_eq] at z
      obtain ⟨z1, z2, z3, z4, z5⟩ := z
      obtain ⟨y1, y2, y3, y4, y5, y6, y7, y8⟩ := xB_ok (c5 _ hx)
      exact ⟨⟨oexB_ok z1, He.eqO_ok z2, y3, y4, y2⟩, He.eqO_ok z3, He.eqO_ok z4, z5⟩
    · exact .inr hx
  -- BadTrack, is_integer, is_within, Track.__init__
  have bt : BtOk P w K mg base (axOf tab G K) := by
    obtain ⟨fd, f1, f2⟩ := ini _ s16
    rcases fld _ s16 with ⟨h1, h2, h3, h4⟩ | h1
    · exact ⟨He.glo_ok X N (xB_ok (c5 _ s15)).1, h1, h2, ⟨_, fd, _, h3, h4, f1, f2⟩, s15, s16⟩
    · exact absurd s15 h1
  obtain ⟨tI, hI, eI⟩ := List.any_eq_true.mp s3
  obtain ⟨tW, hW, eW⟩ := List.any_eq_true.mp s4
  have eI : tI.x = "is_integer" := by simpa using eI
  have eW : tW.x = "is_within" := by simpa using eW
  obtain ⟨fdI, FI⟩ := fun_of tI hI
  obtain ⟨fdW, FW⟩ := fun_of tW hW
  rw [eI] at FI
  rw [eW] at FW
  have okI := int_ok (P := P) (w := w) (mg := mg) (base := base) FI s5 s6 (blt _ (by decide)) (blt _ (by decide)) (blt _ (by decide))
  have mI := mg_of tI hI
  have mW := mg_of tW hW
  rw [eI] at mI
  rw [eW] at mW
  have okW := wit_ok okI FI.kp (binds_of FI s7) mI FW s8 s9
  have mP : ∃ t, mg "MOST_PLACES" = some (.int 20 t) := by
    obtain ⟨q, hq, e⟩ := List.any_eq_true.mp s17
    rw [Bool.and_eq_true] at e
    have e1 : q.1 = "MOST_PLACES" := by simpa using e.1
    have e2 : q.2 = .int 20 := by
      obtain ⟨q1, q2⟩ := q
      have e2 := e.2
      dsimp only at e2 ⊢
      split at e2
      · rfl
      · cases e2
    have z := c3 q hq
    unfold conB at z
    rw [e2, e1] at z
    exact He.int_ok X N z
  have trk : ∃ fd, FnOk P w K mg base (L2.CX P w) 3 (He.ma K (He.ga K "Track") "__init__") fd TN (spTrk K (axOf tab G K)) ∧ Binds K fd TN [] := by
    obtain ⟨h1, h2, h3, h4⟩ := initD_at bd "Track"
    obtain ⟨fd, F⟩ := says_def c (List.mem_append_right _ (List.mem_cons_self ..)) h2 h3
    rw [h1] at F
    exact ⟨fd, trk_ok (ax := axOf tab G K) T bt okW FW.kp (binds_of FW s10) mW mP (blt _ (by decide)) (blt _ (by decide)) F s11 s12, binds_of F s13⟩
  refine tower ?_ ?_
  · exact {
      blt := blt
      fid := fun x f h => by cases h
      con := fun x d hd => by
        have z := c3 _ (PySem.mem_of_lookup hd)
        unfold conB at z
        cases d with
        | int i =>
          obtain ⟨t, e⟩ := He.int_ok X N z
          exact ⟨_, .int i, e, ⟨t, rfl⟩, fun _ _ _ => rfl⟩
        | str s =>
          obtain ⟨t, e⟩ := He.str_ok X N z
          exact ⟨_, .str s, e, ⟨t, rfl⟩, fun _ _ _ => rfl⟩
        | _ => cases z
      trk := T
      mgT := He.glo_ok X N gT
      mkT := fun _ => by
        obtain ⟨fd, f1, f2⟩ := trk
        exact ⟨fun ds S => by simp [run], 3, _, fd, _, Nat.le_refl _, M, f1, f2⟩
      axs := rfl
      xs := fun x hx => by
        obtain ⟨y1, y2, y3, y4, y5, y6, y7, y8⟩ := xB_ok (c5 x hx)
        exact ⟨He.glo_ok X N y1, y2, y3, y4, y5, y6⟩
      x0 := fun x hx h0 => by
        have z := c6 x hx
        have h0 : G.xf.lookup x = none := h0
        rw [h0] at z
        exact z
      xf := fun x f hl _ => by
        have hm := PySem.mem_of_lookup (show G.xf.lookup x = some f from hl)
        obtain ⟨fd, f1, f2⟩ := ini _ hm
        have z := c7 _ hm
        unfold fB at z
        simp only [Bool.and_eq_true, decide_eq_true_eq] at z
        obtain ⟨z1, z2, z3, z4, z5⟩ := z
        have z' := s14 _ hm
        simp only [Bool.and_eq_true, decide_eq_true_eq] at z'
        obtain ⟨y1, y2, y3, y4, y5, y6, y7, y8⟩ := xB_ok (c5 _ z'.2.2.2.2.2)
        exact ⟨hm, ⟨oexB_ok z1, He.eqO_ok z2, y3, y4, y2⟩, He.eqO_ok z3, 1, _, fd, _, by omega, He.eqO_ok z4, z5, f1, f2⟩
      axf := fun q hq => by
        have z := c7 q hq
        unfold fB at z
        simp only [Bool.and_eq_true, decide_eq_true_eq] at z
        exact He.eqO_ok z.2.2.1
      exm := fun y hy x hx => by
        have z := List.all_eq_true.mp (c8 y hy) x hx
        simp only [Bool.and_eq_true, decide_eq_true_eq] at z
        exact z.1
      exv := fun y hy => (xB_ok (c5 y hy)).2.2.2.2.2.2.1
      kit := fun y hy x hx => by
        have z := List.all_eq_true.mp (c8 y hy) x hx
        simp only [Bool.and_eq_true, decide_eq_true_eq] at z
        exact z.2
      kiv := fun y hy => (xB_ok (c5 y hy)).2.2.2.2.2.2.2 }
  · intro x f hl hf
    rw [hG] at hl
    obtain ⟨t, ht, rfl, rfl⟩ := lookup_fid hl
    obtain ⟨fd, F⟩ := fun_of t ht
    have z := s1 t ht
    simp only [Bool.and_eq_true] at z
    have fa : (axOf tab G K).fa t.id = He.ga K t.x := by
      show (match tab.find? (fun u => u.id == t.id) with | some t => He.ga K t.x | none => 0) = _
      rw [find_id s2 ht]
    refine ⟨fd, t.N, t.ps, _, _, _, _, t.c, by rw [fa]; exact mg_of t ht, by rw [fa]; exact F, scope_ok z.2.1, comp_at cp ht, ?_, binds_of F z.1⟩
    unfold PhOf
    rw [find_id s2 ht]
    rfl
end Rf
set_option Elab.async false
set_option linter.all false
set_option maxRecDepth 100000
/-! The law's end. -/
namespace Rf
open PySem PySem.Spec PyProof.Rows L2

abbrev AlX : Type := He.AlD × Bool
def obsX (n : Nat) (fn : List He.DefD) (G : Gc) (g : Addr → Option Obj) : AlX := (He.obsD [] fn (He.frG g (He.asD g n)), chk G (He.frG g (He.asD g n)))
def SaysX (fn : List He.DefD) (G : Gc) (K : PySem.W.Frag) : Prop := He.SaysD [] fn K ∧ chk G K = true
def hookX (n : Nat) (fn : List He.DefD) (G : Gc) : PySem.W.Hook where
  α := AlX
  obs := fun s => obsX n fn G s.heap.get?
  val := fun _ => (He.valD fn, true)
  says := fun _ h => ∃ K : PySem.W.Frag, K.In h ∧ SaysX fn G K
  of := fun _ _ e => ⟨_, He.frG_in, congrArg (fun z : AlX => z.1) e, congrArg (fun z : AlX => z.2) e⟩
  keeps := fun _ _ _ ⟨K, hK, c⟩ k => ⟨K, PySem.W.Frag.In.keeps hK k, c⟩
theorem obsX_eq {n : Nat} {fn : List He.DefD} {G : Gc} {g : Addr → Option Obj} {s : Shared} (h : ∀ a, g a = s.heap.get? a) : obsX n fn G g = (hookX n fn G).obs s := by
  have e : g = s.heap.get? := funext h
  rw [e] <;> rfl
/-- the names of the top other than the law -/
def topNames : List Stmt → List Str
  | [] => []
  | .FunctionDef n _ _ _ _ _ _ _ _ _ :: r => n :: topNames r
  | .ClassDef n _ _ _ _ _ _ _ _ _ _ :: r => n :: topNames r
  | .Assign [.Name n _] _ _ :: r => if n == ("__name__" : Str) then topNames r else n :: topNames r
  | _ :: r => topNames r
theorem scr_rel {K : PySem.W.Frag} {ax : Aux} {H : Hp} {a : Addr} {ns : List Int} (h : SqL K H a (ns.map V.int)) {m : Nat → Addr} : RelDs K ax H m 0 [.scr ns] [.ref a] := ⟨_, [], rfl, ⟨a, rfl, h⟩, rfl⟩
theorem rep_nil {K : PySem.W.Frag} {ax : Aux} {H : Hp} {m : Nat → Addr} : Rep K ax H m [] H := ⟨fun _ _ h => h, fun i o h => by simp at h, fun i j h => by simp at h⟩
/-- what the walk asks of the law -/
theorem law_F {bd : List Stmt} {tab : List Tb} {G : Gc} {l : PySem.W.OpenLaw} {n k : Nat} (st : stB bd tab G = true) (cp : (tab.map fun t => cmpB G t.N (defD bd t.x).scope (defD bd t.x).body) = tab.map fun t => some t.c) (hG : G.fid = fidOf tab)
    {t : Tb} (ht : t ∈ tab) (hx : t.x = "law") (hps : t.ps = [("script" : Str)]) (main : ∀ ns : List Int, ns.length ≤ n → ∃ S', run (PhOf tab) (k + 1) t.id [.scr ns] [] = some (.ok (.bl true) S'))
    {w : World} {mg : Str → Option Value} {fa : Addr} {h : Heap} (Y : ∃ K : PySem.W.Frag, K.In h ∧ SaysX (fnOf bd tab G) G K) (N : h.Ns mainGlobals mg) (hm : mg ("law" : Str) = some (.ref fa)) :
    ∃ (K : PySem.W.Frag) (fd : FuncData) (sp : Sp), K.In h ∧ (∀ (s : Shared) (u : Value), BindsTo s fd ⟨[u], []⟩ [("script", u)]) ∧
      (∀ (H : Hp) (a : Addr) (ns : List Int), ns.length ≤ n → Only H → SqL K H a (ns.map V.int) → sp [.ref a] H (fun v _ => v = .bl true) fun _ _ _ => False) ∧
      ∀ base : Heap, K.In base → base.Ns mainGlobals mg → FnOk l.prog w K mg base (L2.CX l.prog w) (k + 5) fa fd ["script"] sp := by
  obtain ⟨K, KX, c, ck⟩ := Y
  have st' := st
  unfold stB at st'
  simp only [Bool.and_eq_true, decide_eq_true_eq] at st'
  have z := List.all_eq_true.mp st'.1 t ht
  simp only [Bool.and_eq_true, Bool.not_eq_true'] at z
  have hf : t.id ≠ 0 := by simpa using z.2.2
  obtain ⟨h1, h2, h3, h4⟩ := defD_at bd t.x
  obtain ⟨fd, F⟩ := says_def c (List.mem_append_left _ (List.mem_map_of_mem ht)) h2 h3
  rw [h1, h4] at F
  have hfa : He.fAd K (t.x, none) = fa := by
    have ck' := ck
    unfold chk at ck'
    simp only [Bool.and_eq_true] at ck'
    have e := He.glo_ok KX N (List.all_eq_true.mp ck'.2.1 (t.x, t.id) (by rw [hG]; exact List.mem_map_of_mem ht))
    rw [hx, hm] at e
    cases e
    rw [hx]
    rfl
  rw [hfa] at F
  have hPh : PhOf tab t.id = some ⟨t.ps.length, t.N.length, t.c⟩ := by
    unfold PhOf
    rw [find_id st'.2.1 ht]
    rfl
  refine ⟨K, fd, spOf K (axOf tab G K) t.ps.length (fnRun (run (PhOf tab) k) t.ps.length t.N.length t.c), KX, fun s u => ?_, fun H a ns hl _ hS => ?_, fun base KB NB => ?_⟩
  · have ha := z.1
    rw [hps] at ha
    generalize (defD bd t.x).params = pp at F ha
    unfold argsB at ha
    split at ha
    · simp only [Bool.and_eq_true, decide_eq_true_eq] at ha
      have b := F.bindsA (ps := [("script" : Str)]) (fun kV doc pm an cdv ct us hl => by
        have := bind_any (x := t.x) (qual := (defD bd t.x).qual) (body := (defD bd t.x).body) (scope := (defD bd t.x).scope) (by rw [ha.1]; exact ha.2) kV doc pm an cdv ct us (by rw [hl, ← ha.1]; simp)
        rw [ha.1] at this
        exact this) s [u] rfl
      exact b
    · cases ha
  · refine ⟨by rw [hps]; rfl, H, fun _ => 0, [], [.scr ns], ?_⟩
    obtain ⟨S', e⟩ := main ns hl
    rw [run_eq hf hPh] at e
    exact ⟨_, rep_nil, scr_rel hS, e, fun F' m' H' v _ _ _ rv => rv⟩
  · have g := all_ok (P := l.prog) (w := w) (base := base) KX N c ck st cp hG k
    have := fn_ok g F (scope_ok z.2.1) (comp_at cp ht)
    rw [hps] at this ⊢
    exact this
theorem cx_no {P : Program} {w : World} : ∀ (H : Hp) (s : Shared) (e : Value) (s' : Shared), L2.CX P w [] H s (fun _ _ _ => False) e s' → False := fun H s e s' ⟨_, _, _, _, _, _, _, _, _, _, _, _, z⟩ => z
end Rf
set_option Elab.async false
set_option linter.all false
set_option maxRecDepth 100000
set_option maxHeartbeats 0
/-! The law's functions, made to the small language; the head. -/
namespace Lw
open PySem PySem.Spec PyProof.Rows L2 Rf
abbrev R : PySem.W.OpenRow := PySem.W.OpenLaw.row PySem.Challenge.rw_stretchturns_k04_whole_turns
def bd : List Stmt := R.prog.main.body
def c_is_integer : CS := (.ret (.and (.isi (.v 0) [.int]) (.not (.isi (.v 0) [.bool]))))
def c_is_within : CS := (.ret (.and (.call 1 (.cons (.v 0) .nil)) (.chn .le .le (.v 1) (.v 0) (.v 2))))
def c_check_track : CS := (.ite (.not (.isi (.v 0) [.track])) (.raise "NoTrack" none .nil) .pass)
def c_are_things : CS := (.ret (.and (.isi (.v 0) [.tup]) (.bi .all (.cons (.comp (.seq (.v 0)) (.n 1) [1] .none (.call 2 (.cons (.v 1) (.cons (.k (.int 0)) (.cons (.k (.int 99)) .nil))))) .nil))))
def c_fits_track : CS := (.ret (.and (.call 4 (.cons (.v 1) .nil)) (.cmp .eq (.bi .len (.cons (.v 1) .nil)) (.att (.v 0) 0))))
def c_check_row : CS := (.seq (.ex (.call 3 (.cons (.v 0) .nil))) (.ite (.not (.call 5 (.cons (.v 0) (.cons (.v 1) .nil)))) (.raise "BadRow" none .nil) .pass))
def c_starts_of : CS := (.seq (.ite (.cmp .gt (.att (.v 0) 1) (.att (.v 0) 0)) (.ret (.lst .nil)) .pass) (.ret (.rngL (.rng1 (.ite (.att (.v 0) 2) (.att (.v 0) 0) (.bin .add (.bin .sub (.att (.v 0) 0) (.att (.v 0) 1)) (.k (.int 1))))))))
def c_starts : CS := (.seq (.ex (.call 3 (.cons (.v 0) .nil))) (.ret (.bi .tuple (.cons (.call 7 (.cons (.v 0) .nil)) .nil))))
def c_is_start : CS := (.ret (.and (.call 2 (.cons (.v 1) (.cons (.k (.int 0)) (.cons (.bin .sub (.att (.v 0) 0) (.k (.int 1))) .nil)))) (.cmp .isin (.v 1) (.call 7 (.cons (.v 0) .nil)))))
def c_led_place : CS := (.seq (.set (.t (.n 3)) (.bin .mod (.bin .sub (.v 2) (.v 1)) (.att (.v 0) 0))) (.seq (.ite (.cmp .ge (.v 3) (.att (.v 0) 1)) (.ret (.v 2)) .pass) (.ret (.bin .mod (.bin .sub (.bin .sub (.bin .add (.v 1) (.att (.v 0) 1)) (.k (.int 1))) (.v 3)) (.att (.v 0) 0)))))
def c_behind : CS := (.seq (.set (.t (.n 3)) (.bi .list (.cons (.v 1) .nil))) (.seq (.for (.n 4) (.rng1 (.att (.v 0) 1)) (.seq (.set (.t (.n 5)) (.bin .mod (.bin .add (.v 2) (.v 4)) (.att (.v 0) 0))) (.set (.ix (.v 3) (.call 10 (.cons (.v 0) (.cons (.v 2) (.cons (.v 5) .nil))))) (.idx (.v 1) (.v 5))))) (.ret (.bi .tuple (.cons (.v 3) .nil)))))
def c_turned : CS := (.seq (.ex (.call 6 (.cons (.v 0) (.cons (.v 1) .nil)))) (.seq (.ite (.not (.call 9 (.cons (.v 0) (.cons (.v 2) .nil)))) (.raise "BadStart" none .nil) .pass) (.ret (.call 11 (.cons (.v 0) (.cons (.v 1) (.cons (.v 2) .nil)))))))
def c_p_law_hand : CS := (.seq (.set (.t (.n 1)) (.comp (.seq (.sl (.v 0) .none (.some (.k (.int 63))))) (.n 2) [2] .none (.bi .abs (.cons (.bi .int (.cons (.v 2) .nil)) .nil)))) (.ret (.lst (.cons (.v 1) (.cons (.k (.int 0)) (.cons (.k (.int 0)) (.cons (.bin .add (.k (.int 67)) (.bin .mul (.k (.int 5)) (.bi .len (.cons (.v 1) .nil)))) (.cons (.k (.int 0)) .nil))))))))
def c_p_law_draw : CS := (.seq (.ite (.and (.cmp .eq (.idx (.v 0) (.k (.int 2))) (.k (.int 0))) (.cmp .lt (.idx (.v 0) (.k (.int 1))) (.bi .len (.cons (.idx (.v 0) (.k (.int 0))) .nil)))) (.seq (.set (.t (.n 3)) (.idx (.idx (.v 0) (.k (.int 0))) (.idx (.v 0) (.k (.int 1))))) (.seq (.set (.ix (.v 0) (.k (.int 1))) (.bin .add (.idx (.v 0) (.k (.int 1))) (.k (.int 1)))) (.seq (.set (.ix (.v 0) (.k (.int 3))) (.bin .mod (.bi .int (.cons (.bin .add (.bin .add (.bin .mul (.idx (.v 0) (.k (.int 3))) (.k (.int 69621))) (.bin .mul (.v 3) (.k (.int 40692)))) (.k (.int 37))) .nil)) (.k (.int 2147483629)))) (.ite (.cmp .ge (.v 3) (.bin .pow (.k (.int 10)) (.k (.int 18)))) (.set (.ix (.v 0) (.k (.int 2))) (.v 3)) .pass)))) .pass) (.seq (.ite (.cmp .gt (.idx (.v 0) (.k (.int 2))) (.k (.int 0))) (.seq (.set (.t (.n 4)) (.bin .mod (.bi .int (.cons (.idx (.v 0) (.k (.int 2))) .nil)) (.v 1))) (.seq (.set (.ix (.v 0) (.k (.int 2))) (.bin .fdiv (.idx (.v 0) (.k (.int 2))) (.v 1))) (.ret (.v 4)))) .pass) (.seq (.set (.ix (.v 0) (.k (.int 4))) (.bin .add (.idx (.v 0) (.k (.int 4))) (.k (.int 1)))) (.seq (.set (.t (.n 2)) (.bin .mod (.bi .int (.cons (.bin .mul (.bi .int (.cons (.bin .add (.idx (.v 0) (.k (.int 3))) (.bin .mul (.k (.int 7919)) (.idx (.v 0) (.k (.int 4))))) .nil)) (.k (.int 48271))) .nil)) (.k (.int 2147483647)))) (.seq (.set (.t (.n 2)) (.bin .mod (.bi .int (.cons (.bin .mul (.v 2) (.bin .add (.bin .fdiv (.v 2) (.k (.int 1009))) (.k (.int 69621)))) .nil)) (.k (.int 2147483647)))) (.seq (.set (.t (.n 2)) (.bin .mod (.bi .int (.cons (.bin .mul (.v 2) (.bin .add (.bin .fdiv (.v 2) (.k (.int 2003))) (.k (.int 40014)))) .nil)) (.k (.int 2147483563)))) (.ret (.bin .mod (.bi .int (.cons (.bin .fdiv (.v 2) (.k (.int 16))) .nil)) (.v 1)))))))))
def c_p_law_any : CS := (.ret (.idx (.v 1) (.call 14 (.cons (.v 0) (.cons (.bi .len (.cons (.v 1) .nil)) .nil)))))
def c_p_law_mixed : CS := (.seq (.par [2, 3] (.cons (.bi .list (.cons (.v 1) .nil)) (.cons (.lst .nil) .nil))) (.seq (.while (.cmp .gt (.bi .len (.cons (.v 2) .nil)) (.k (.int 0))) (.ex (.mt .append (.v 3) (.cons (.mt .popAt (.v 2) (.cons (.call 14 (.cons (.v 0) (.cons (.bi .len (.cons (.v 2) .nil)) .nil))) .nil)) .nil)))) (.ret (.v 3))))
def c_p_law_same : CS := (.seq (.ite (.isi (.v 1) [.tup, .lst]) (.seq (.ite (.or (.cmp .ne (.isi (.v 0) [.tup]) (.isi (.v 1) [.tup])) (.not (.isi (.v 0) [.tup, .lst]))) (.ret (.k (.bl false))) .pass) (.ret (.and (.cmp .eq (.bi .len (.cons (.v 0) .nil)) (.bi .len (.cons (.v 1) .nil))) (.bi .all (.cons (.comp (.zip (.v 0) (.v 1)) (.tup (.cons (.n 2) (.cons (.n 3) .nil))) [2, 3] .none (.call 17 (.cons (.v 2) (.cons (.v 3) .nil)))) .nil))))) .pass) (.seq (.ite (.or (.isi (.v 1) [.bool]) (.or (.isi (.v 0) [.bool]) (.or (.cmp .is (.v 1) (.k .non)) (.cmp .is (.v 0) (.k .non))))) (.ret (.and (.cmp .eq (.isi (.v 0) [.bool]) (.isi (.v 1) [.bool])) (.and (.cmp .eq (.cmp .is (.v 0) (.k .non)) (.cmp .is (.v 1) (.k .non))) (.cmp .eq (.v 0) (.v 1))))) .pass) (.ret (.and (.cmp .eq (.isi (.v 0) [.str]) (.isi (.v 1) [.str])) (.and (.isi (.v 0) [.int, .str]) (.cmp .eq (.v 0) (.v 1)))))))
def c_p_law_track : CS := (.seq (.par [2, 3, 4] (.cons (.bin .add (.k (.int 1)) (.call 14 (.cons (.v 0) (.cons (.v 1) .nil)))) (.cons (.call 14 (.cons (.v 0) (.cons (.k (.int 6)) .nil))) (.cons (.cmp .eq (.call 14 (.cons (.v 0) (.cons (.k (.int 2)) .nil))) (.k (.int 1))) .nil)))) (.seq (.ite (.cmp .eq (.v 3) (.k (.int 0))) (.ret (.lst (.cons (.v 2) (.cons (.bin .add (.k (.int 1)) (.call 14 (.cons (.v 0) (.cons (.k (.int 20)) .nil)))) (.cons (.v 4) .nil))))) .pass) (.seq (.ite (.cmp .eq (.v 3) (.k (.int 1))) (.ret (.lst (.cons (.v 2) (.cons (.bi .max2 (.cons (.k (.int 1)) (.cons (.bin .sub (.v 2) (.call 14 (.cons (.v 0) (.cons (.k (.int 2)) .nil)))) .nil))) (.cons (.v 4) .nil))))) .pass) (.seq (.ite (.cmp .eq (.v 3) (.k (.int 2))) (.seq (.set (.t (.n 5)) (.bin .add (.k (.int 3)) (.bin .mul (.k (.int 2)) (.call 14 (.cons (.v 0) (.cons (.bin .fdiv (.bin .sub (.v 1) (.k (.int 3))) (.k (.int 2))) .nil)))))) (.ret (.lst (.cons (.bin .add (.v 5) (.k (.int 2))) (.cons (.v 5) (.cons (.k (.bl false)) .nil)))))) .pass) (.seq (.ite (.cmp .eq (.v 3) (.k (.int 3))) (.seq (.set (.t (.n 5)) (.bin .add (.k (.int 3)) (.bin .mul (.k (.int 2)) (.call 14 (.cons (.v 0) (.cons (.bin .fdiv (.bin .sub (.v 1) (.k (.int 4))) (.k (.int 2))) .nil)))))) (.seq (.set (.t (.n 2)) (.bin .add (.bin .add (.v 5) (.k (.int 3))) (.call 14 (.cons (.v 0) (.cons (.bin .sub (.bin .sub (.v 1) (.v 5)) (.k (.int 2))) .nil))))) (.ret (.lst (.cons (.ite (.v 4) (.bin .sub (.v 2) (.bin .mod (.bi .int (.cons (.v 2) .nil)) (.k (.int 2)))) (.v 2)) (.cons (.v 5) (.cons (.v 4) .nil))))))) .pass) (.seq (.ite (.cmp .eq (.v 3) (.k (.int 4))) (.seq (.set (.t (.n 5)) (.bin .add (.k (.int 2)) (.bin .mul (.k (.int 2)) (.call 14 (.cons (.v 0) (.cons (.bin .fdiv (.bin .sub (.v 1) (.k (.int 2))) (.k (.int 2))) .nil)))))) (.ret (.lst (.cons (.bin .add (.bin .add (.v 5) (.k (.int 2))) (.call 14 (.cons (.v 0) (.cons (.bin .sub (.bin .sub (.v 1) (.v 5)) (.k (.int 1))) .nil)))) (.cons (.v 5) (.cons (.v 4) .nil)))))) .pass) (.seq (.set (.t (.n 2)) (.bin .add (.k (.int 5)) (.bin .mul (.k (.int 2)) (.call 14 (.cons (.v 0) (.cons (.bin .fdiv (.bin .sub (.v 1) (.k (.int 3))) (.k (.int 2))) .nil)))))) (.ret (.lst (.cons (.v 2) (.cons (.bin .add (.k (.int 2)) (.call 14 (.cons (.v 0) (.cons (.bin .sub (.v 2) (.k (.int 3))) .nil)))) (.cons (.k (.bl true)) .nil))))))))))))
def c_p_law_row : CS := (.seq (.set (.t (.tup (.cons (.n 2) (.cons (.n 3) .nil)))) (.tup (.cons (.bin .add (.k (.int 1)) (.call 14 (.cons (.v 0) (.cons (.k (.int 5)) .nil)))) (.cons (.call 14 (.cons (.v 0) (.cons (.k (.int 5)) .nil))) .nil)))) (.seq (.set (.t (.n 4)) (.call 14 (.cons (.v 0) (.cons (.bin .sub (.k (.int 100)) (.bin .mul (.v 2) (.bin .sub (.v 1) (.k (.int 1))))) .nil)))) (.seq (.set (.t (.n 5)) (.call 16 (.cons (.v 0) (.cons (.comp (.rng1 (.v 1)) (.n 7) [7] .none (.bin .add (.v 4) (.bin .mul (.v 2) (.v 7)))) .nil)))) (.seq (.ite (.cmp .eq (.v 3) (.k (.int 1))) (.seq (.set (.t (.n 6)) (.sl (.v 5) .none (.some (.bin .add (.k (.int 2)) (.call 14 (.cons (.v 0) (.cons (.k (.int 2)) .nil))))))) (.set (.t (.n 5)) (.comp (.rng1 (.v 1)) (.n 7) [7] .none (.call 15 (.cons (.v 0) (.cons (.v 6) .nil)))))) .pass) (.seq (.ite (.cmp .eq (.v 3) (.k (.int 2))) (.set (.ix (.v 5) (.call 14 (.cons (.v 0) (.cons (.v 1) .nil)))) (.idx (.v 5) (.call 14 (.cons (.v 0) (.cons (.v 1) .nil))))) .pass) (.seq (.ite (.and (.cmp .eq (.v 3) (.k (.int 3))) (.cmp .gt (.v 1) (.k (.int 2)))) (.seq (.set (.t (.n 7)) (.call 14 (.cons (.v 0) (.cons (.bin .sub (.v 1) (.k (.int 2))) .nil)))) (.set (.ix (.v 5) (.bin .add (.v 7) (.k (.int 2)))) (.idx (.v 5) (.v 7)))) .pass) (.ret (.bi .tuple (.cons (.v 5) .nil)))))))))
def c_p_law_starts : CS := (.seq (.set (.t (.tup (.cons (.n 1) (.cons (.n 2) (.cons (.n 3) .nil))))) (.v 0)) (.seq (.ite (.cmp .gt (.v 2) (.v 1)) (.ret (.lst .nil)) .pass) (.ret (.ite (.v 3) (.rngL (.rng1 (.v 1))) (.rngL (.rng1 (.bin .add (.bin .sub (.v 1) (.v 2)) (.k (.int 1)))))))))
def c_p_law_behind : CS := (.seq (.set (.t (.tup (.cons (.n 3) (.cons (.n 4) (.cons (.n 5) .nil))))) (.v 0)) (.seq (.set (.t (.n 6)) (.bi .list (.cons (.v 1) .nil))) (.seq (.for (.n 7) (.rng1 (.bin .fdiv (.v 4) (.k (.int 2)))) (.seq (.par [8, 9] (.cons (.bin .mod (.bi .int (.cons (.bin .add (.v 2) (.v 7)) .nil)) (.v 3)) (.cons (.bin .mod (.bi .int (.cons (.bin .sub (.bin .sub (.bin .add (.v 2) (.v 4)) (.k (.int 1))) (.v 7)) .nil)) (.v 3)) .nil))) (.set (.ix2 (.v 6) (.v 8) (.v 6) (.v 9)) (.tup (.cons (.idx (.v 6) (.v 9)) (.cons (.idx (.v 6) (.v 8)) .nil)))))) (.ret (.bi .tuple (.cons (.v 6) .nil))))))
def c_p_law_told : CS := (.seq (.set (.t (.n 3)) (.k .non)) (.seq (.tryAs (.set (.t (.n 3)) (.tup (.cons (.k (.str "told")) (.cons (.call 12 (.cons (.v 0) (.cons (.v 1) (.cons (.v 2) .nil)))) .nil)))) "BadStart" 4 (.set (.t (.n 3)) (.tup (.cons (.k (.str "refused")) (.cons (.exIs 4 "TurnFault") .nil))))) (.ret (.v 3))))
def c_p_law_are_right : CS := (.seq (.set (.t (.tup (.cons (.n 3) (.cons (.n 4) (.cons (.n 5) .nil))))) (.v 1)) (.seq (.par [6, 7] (.cons (.mkT (.cons (.v 3) (.cons (.v 4) (.cons (.v 5) .nil)))) (.cons (.call 20 (.cons (.v 1) .nil)) .nil))) (.seq (.ite (.not (.call 17 (.cons (.call 8 (.cons (.v 6) .nil)) (.cons (.bi .tuple (.cons (.v 7) .nil)) .nil)))) (.ret (.k (.bl false))) .pass) (.seq (.for (.n 8) (.seq (.v 7)) (.seq (.set (.t (.n 10)) (.call 21 (.cons (.v 1) (.cons (.v 2) (.cons (.v 8) .nil))))) (.ite (.or (.not (.call 17 (.cons (.call 12 (.cons (.v 6) (.cons (.v 2) (.cons (.v 8) .nil)))) (.cons (.v 10) .nil)))) (.not (.call 17 (.cons (.call 12 (.cons (.v 6) (.cons (.v 10) (.cons (.v 8) .nil)))) (.cons (.v 2) .nil))))) (.ret (.k (.bl false))) .pass))) (.seq (.set (.t (.n 9)) (.lst (.cons (.bi .len (.cons (.v 7) .nil)) (.cons (.neg (.k (.int 1))) (.cons (.v 3) (.cons (.bin .add (.bin .sub (.v 3) (.v 4)) (.k (.int 1))) (.cons (.neg (.v 3)) (.cons (.k .non) (.cons (.k (.bl true)) (.cons (.k (.bl false)) (.cons (.k (.str "0")) (.cons (.tup (.cons (.k (.int 0)) .nil)) (.cons (.bin .pow (.k (.int 10)) (.k (.int 11))) .nil))))))))))))) (.seq (.for (.n 8) (.seq (.sl (.call 16 (.cons (.v 0) (.cons (.v 9) .nil))) .none (.some (.k (.int 6))))) (.seq (.set (.t (.n 11)) (.and (.isi (.v 8) [.int]) (.and (.not (.isi (.v 8) [.bool])) (.cmp .isin (.v 8) (.v 7))))) (.seq (.ite (.cmp .ne (.cmp .eq (.idx (.call 22 (.cons (.v 6) (.cons (.v 2) (.cons (.v 8) .nil)))) (.k (.int 0))) (.k (.str "told"))) (.v 11)) (.ret (.k (.bl false))) .pass) (.ite (.and (.not (.v 11)) (.not (.call 17 (.cons (.call 22 (.cons (.v 6) (.cons (.v 2) (.cons (.v 8) .nil)))) (.cons (.tup (.cons (.k (.str "refused")) (.cons (.k (.bl true)) .nil))) .nil))))) (.ret (.k (.bl false))) .pass)))) (.ret (.k (.bl true)))))))))
def c_p_law_are_known : CS := (.seq (.set (.t (.n 0)) (.lst (.cons (.call 12 (.cons (.mkT (.cons (.k (.int 5)) (.cons (.k (.int 3)) (.cons (.k (.bl false)) .nil)))) (.cons (.tup (.cons (.k (.int 1)) (.cons (.k (.int 2)) (.cons (.k (.int 3)) (.cons (.k (.int 4)) (.cons (.k (.int 5)) .nil)))))) (.cons (.k (.int 1)) .nil)))) (.cons (.call 12 (.cons (.mkT (.cons (.k (.int 5)) (.cons (.k (.int 3)) (.cons (.k (.bl true)) .nil)))) (.cons (.tup (.cons (.k (.int 1)) (.cons (.k (.int 2)) (.cons (.k (.int 3)) (.cons (.k (.int 4)) (.cons (.k (.int 5)) .nil)))))) (.cons (.k (.int 4)) .nil)))) .nil)))) (.seq (.ex (.mt .extend (.v 0) (.cons (.lst (.cons (.call 12 (.cons (.mkT (.cons (.k (.int 4)) (.cons (.k (.int 4)) (.cons (.k (.bl true)) .nil)))) (.cons (.tup (.cons (.k (.int 1)) (.cons (.k (.int 2)) (.cons (.k (.int 3)) (.cons (.k (.int 4)) .nil))))) (.cons (.k (.int 1)) .nil)))) (.cons (.call 12 (.cons (.mkT (.cons (.k (.int 3)) (.cons (.k (.int 1)) (.cons (.k (.bl true)) .nil)))) (.cons (.tup (.cons (.k (.int 1)) (.cons (.k (.int 2)) (.cons (.k (.int 3)) .nil)))) (.cons (.k (.int 2)) .nil)))) .nil))) .nil))) (.seq (.ex (.mt .extend (.v 0) (.cons (.lst (.cons (.call 12 (.cons (.mkT (.cons (.k (.int 6)) (.cons (.k (.int 5)) (.cons (.k (.bl true)) .nil)))) (.cons (.tup (.cons (.k (.int 1)) (.cons (.k (.int 2)) (.cons (.k (.int 3)) (.cons (.k (.int 4)) (.cons (.k (.int 5)) (.cons (.k (.int 6)) .nil))))))) (.cons (.k (.int 3)) .nil)))) (.cons (.call 8 (.cons (.mkT (.cons (.k (.int 3)) (.cons (.k (.int 4)) (.cons (.k (.bl true)) .nil)))) .nil)) (.cons (.call 8 (.cons (.mkT (.cons (.k (.int 2)) (.cons (.k (.int 2)) (.cons (.k (.bl true)) .nil)))) .nil)) .nil)))) .nil))) (.seq (.set (.t (.n 1)) (.lst (.cons (.tup (.cons (.k (.int 1)) (.cons (.k (.int 4)) (.cons (.k (.int 3)) (.cons (.k (.int 2)) (.cons (.k (.int 5)) .nil)))))) (.cons (.tup (.cons (.k (.int 1)) (.cons (.k (.int 5)) (.cons (.k (.int 3)) (.cons (.k (.int 4)) (.cons (.k (.int 2)) .nil)))))) (.cons (.tup (.cons (.k (.int 2)) (.cons (.k (.int 1)) (.cons (.k (.int 4)) (.cons (.k (.int 3)) .nil))))) (.cons (.tup (.cons (.k (.int 1)) (.cons (.k (.int 2)) (.cons (.k (.int 3)) .nil)))) (.cons (.tup (.cons (.k (.int 5)) (.cons (.k (.int 4)) (.cons (.k (.int 3)) (.cons (.k (.int 2)) (.cons (.k (.int 1)) (.cons (.k (.int 6)) .nil))))))) (.cons (.tup .nil) (.cons (.tup (.cons (.k (.int 0)) (.cons (.k (.int 1)) .nil))) .nil))))))))) (.ret (.call 17 (.cons (.v 0) (.cons (.v 1) .nil))))))))
def c_law : CS := (.seq (.set (.t (.n 1)) (.call 13 (.cons (.v 0) .nil))) (.seq (.ite (.not (.call 24 .nil)) (.ret (.k (.bl false))) .pass) (.seq (.for (.n 2) (.rng1 (.k (.int 6))) (.seq (.set (.t (.n 3)) (.call 18 (.cons (.v 1) (.cons (.k (.int 20)) .nil)))) (.ite (.not (.call 23 (.cons (.v 1) (.cons (.v 3) (.cons (.call 19 (.cons (.v 1) (.cons (.idx (.v 3) (.k (.int 0))) .nil))) .nil))))) (.ret (.k (.bl false))) .pass))) (.ret (.call 23 (.cons (.v 1) (.cons (.lst (.cons (.k (.int 20)) (.cons (.bin .add (.k (.int 1)) (.call 14 (.cons (.v 1) (.cons (.k (.int 20)) .nil)))) (.cons (.cmp .eq (.call 14 (.cons (.v 1) (.cons (.k (.int 2)) .nil))) (.k (.int 0))) .nil)))) (.cons (.rngT (.rng1 (.k (.int 20)))) .nil))))))))
def tab : List Tb := [
  ⟨"is_integer", 1, ["thing"], ["thing"], c_is_integer⟩,
  ⟨"is_within", 2, ["thing", "low", "high"], ["thing", "low", "high"], c_is_within⟩,
  ⟨"check_track", 3, ["track"], ["track"], c_check_track⟩,
  ⟨"are_things", 4, ["thing", "one"], ["thing"], c_are_things⟩,
  ⟨"fits_track", 5, ["track", "thing"], ["track", "thing"], c_fits_track⟩,
  ⟨"check_row", 6, ["track", "row"], ["track", "row"], c_check_row⟩,
  ⟨"starts_of", 7, ["track"], ["track"], c_starts_of⟩,
  ⟨"starts", 8, ["track"], ["track"], c_starts⟩,
  ⟨"is_start", 9, ["track", "thing"], ["track", "thing"], c_is_start⟩,
  ⟨"led_place", 10, ["track", "start", "place", "far"], ["track", "start", "place"], c_led_place⟩,
  ⟨"behind", 11, ["track", "row", "start", "found", "far", "place"], ["track", "row", "start"], c_behind⟩,
  ⟨"turned", 12, ["track", "row", "start"], ["track", "row", "start"], c_turned⟩,
  ⟨"_law_hand", 13, ["script", "cells", "cell"], ["script"], c_p_law_hand⟩,
  ⟨"_law_draw", 14, ["hand", "many", "number", "cell", "digit"], ["hand", "many"], c_p_law_draw⟩,
  ⟨"_law_any", 15, ["hand", "some"], ["hand", "some"], c_p_law_any⟩,
  ⟨"_law_mixed", 16, ["hand", "some", "left", "found"], ["hand", "some"], c_p_law_mixed⟩,
  ⟨"_law_same", 17, ["one", "due", "two", "other"], ["one", "due"], c_p_law_same⟩,
  ⟨"_law_track", 18, ["hand", "most", "places", "shape", "is_ring", "length"], ["hand", "most"], c_p_law_track⟩,
  ⟨"_law_row", 19, ["hand", "places", "step", "sort_of", "base", "found", "some", "at"], ["hand", "places"], c_p_law_row⟩,
  ⟨"_law_starts", 20, ["track", "places", "length", "is_ring"], ["track"], c_p_law_starts⟩,
  ⟨"_law_behind", 21, ["some", "row", "start", "places", "length", "is_ring", "found", "at", "one", "other"], ["some", "row", "start"], c_p_law_behind⟩,
  ⟨"_law_told", 22, ["track", "row", "start", "found", "e"], ["track", "row", "start"], c_p_law_told⟩,
  ⟨"_law_are_right", 23, ["hand", "some", "row", "places", "length", "is_ring", "track", "due", "start", "odd", "behind_v", "is_one"], ["hand", "some", "row"], c_p_law_are_right⟩,
  ⟨"_law_are_known", 24, ["found", "due"], [], c_p_law_are_known⟩,
  ⟨"law", 25, ["script", "hand", "turn", "some"], ["script"], c_law⟩]
def G : Gc := { fid := fidOf tab, con := [("MOST_PLACES", .int 20), ("MOST_THING", .int 99)], xs := ["TurnFault", "BadRow", "BadStart", "BadTrack", "NoTrack"], xf := [("BadTrack", "what")], low := false, lowX := false }

theorem st : stB bd tab G = true := by kernel_rfl
theorem cp : (tab.map fun t => cmpB G t.N (defD bd t.x).scope (defD bd t.x).body) = tab.map fun t => some t.c := by kernel_rfl
abbrev hk : PySem.W.Hook := hookX 5 (fnOf bd tab G) G
def ob (s : PySem.W.SharedT) : AlX := obsX 5 (fnOf bd tab G) G (HandSHeadRun.getT s)
theorem ob_eq (s : PySem.W.SharedT) : ob s = hk.obs s.abs := obsX_eq (HandSHeadRun.getT_eq s)
def loose : List Str := (topNames bd).filter (fun x => x != ("law" : Str))
theorem run_ok (w : World) : HandSHeadRun.RunEq R (PySem.W.view R.prog [36]) hk ob 20000 loose w := by
  intro os
  kernel_rfl
end Lw
set_option Elab.async false
set_option linter.all false
set_option maxRecDepth 100000
/-! Running the small language by hand: small facts. -/
namespace Rf
open PySem

@[simp] theorem gcR_int (n : Nat) (i : Int) (S : Store) : gcR n (some (.ok (.int i) S)) = some (.ok (.int i) (S.take n)) := rfl
@[simp] theorem gcR_bl (n : Nat) (i : Bool) (S : Store) : gcR n (some (.ok (.bl i) S)) = some (.ok (.bl i) (S.take n)) := rfl
@[simp] theorem gcR_non (n : Nat) (S : Store) : gcR n (some (.ok .non S)) = some (.ok .non (S.take n)) := rfl
@[simp] theorem gcR_str (n : Nat) (s : Str) (S : Store) : gcR n (some (.ok (.str s) S)) = some (.ok (.str s) (S.take n)) := rfl
@[simp] theorem gcR_trk (n : Nat) (a b : Int) (c : Bool) (S : Store) : gcR n (some (.ok (.trk a b c) S)) = some (.ok (.trk a b c) (S.take n)) := rfl
@[simp] theorem gcR_ex (n : Nat) (e : Ex) (S : Store) : gcR n (some (.ex e S)) = some (.ex e S) := rfl
@[simp] theorem gcR_none (n : Nat) : gcR n none = none := rfl
theorem take_ge {n : Nat} {S : Store} (h : S.length ≤ n) : S.take n = S := List.take_of_length_le h
@[simp] theorem take_self (S : Store) : S.take S.length = S := List.take_length
@[simp] theorem take_set_self (S : Store) (i : Nat) (o : O) : (S.set i o).take S.length = S.set i o := List.take_of_length_le (by simp)
theorem gc_lt {n : Nat} {d : D} {S : Store} (h : D.lt n d = true) : gc n d S = (d, S.take n) := by unfold gc; rw [if_pos h]
theorem gcR_lt {n : Nat} {d : D} {S : Store} (h : D.lt n d = true) : gcR n (some (.ok d S)) = some (.ok d (S.take n)) := by
  show some (R.ok (gc n d S).1 (gc n d S).2) = _
  rw [gc_lt h]
/-- a reference to an older object -/
theorem gcR_ref {n i : Nat} {S : Store} (h : i < n) : gcR n (some (.ok (.ref i) S)) = some (.ok (.ref i) (S.take n)) := gcR_lt (by simp [D.lt, h])
/-- a new object, the only one -/
theorem gcR_new {S : Store} {o : O} (h : O.lt S.length o = true) : gcR S.length (some (.ok (.ref S.length) (S ++ [o]))) = some (.ok (.ref S.length) (S ++ [o])) := by
  show some (R.ok (gc S.length (.ref S.length) (S ++ [o])).1 _) = _
  have e : gc S.length (.ref S.length) (S ++ [o]) = (.ref S.length, S ++ [o]) := by
    unfold gc
    simp [D.lt, h]
  rw [e]
/-- a function of the table -/
theorem run_fn' {Ph : Nat → Option FD} {k f np ns : Nat} {c : CS} (hf : f ≠ 0) (h : Ph f = some ⟨np, ns, c⟩) (ds : List D) (hl : ds.length = np) (S : Store) : run Ph (k + 1) f ds S = atEnd S.length (exec (run Ph k) none c (ds.map some ++ List.replicate (ns - np) none) S) := by
  simp only [run, hf, if_false, h, hl, if_true]
/-! ### the hand -/
def hnd (cs : List Int) (a b c d : Int) : O := .lst [.lst (cs.map .int), .int a, .int b, .int c, .int d]
def HOk (S : Store) (h : Nat) : Prop := ∃ cs a b c d, S[h]? = some (hnd cs a b c d) ∧ (∀ x ∈ cs, 0 ≤ x) ∧ 0 ≤ a ∧ 0 ≤ b ∧ 0 ≤ c ∧ 0 ≤ d
/-- only the hand changes -/
def HR (h : Nat) (S S' : Store) : Prop := (∃ o, S' = S.set h o) ∧ HOk S' h
theorem HR.len {h : Nat} {S S' : Store} (r : HR h S S') : S'.length = S.length := by
  obtain ⟨⟨o, rfl⟩, _⟩ := r
  simp
theorem HR.trans {h : Nat} {S S1 S2 : Store} (a : HR h S S1) (b : HR h S1 S2) : HR h S S2 := by
  obtain ⟨⟨o, rfl⟩, _⟩ := a
  obtain ⟨⟨o2, rfl⟩, hb⟩ := b
  exact ⟨⟨o2, by simp⟩, hb⟩
theorem HR.refl {h : Nat} {S : Store} (a : HOk S h) : HR h S S := by
  obtain ⟨cs, x, b, c, d, e, r⟩ := a
  refine ⟨⟨hnd cs x b c d, ?_⟩, cs, x, b, c, d, e, r⟩
  apply List.ext_getElem?
  intro i
  by_cases hi : h = i
  · subst hi
    rw [List.getElem?_set_self (List.getElem?_eq_some_iff.mp e).1, e]
  · rw [List.getElem?_set_ne hi]
theorem HR.get {h i : Nat} {S S' : Store} (r : HR h S S') (hi : h ≠ i) : S'[i]? = S[i]? := by
  obtain ⟨⟨o, rfl⟩, _⟩ := r
  exact List.getElem?_set_ne hi

/-- drawing, behind what is taken from the script -/
def drawN (a b c d many : Int) : Int :=
  let n0 := ((c + 7919 * (d + 1)) * 48271) % 2147483647
  let n1 := (n0 * (n0 / 1009 + 69621)) % 2147483647
  let n2 := (n1 * (n1 / 2003 + 40014)) % 2147483563
  (n2 / 16) % many
def c_drawEnd : CS := (.seq (.ite (.cmp .gt (.idx (.v 0) (.k (.int 2))) (.k (.int 0))) (.seq (.set (.t (.n 2)) (.bin .mod (.bi .int (.cons (.idx (.v 0) (.k (.int 2))) .nil)) (.v 1))) (.seq (.set (.ix (.v 0) (.k (.int 2))) (.bin .fdiv (.idx (.v 0) (.k (.int 2))) (.v 1))) (.ret (.v 2)))) .pass) (.seq (.set (.ix (.v 0) (.k (.int 4))) (.bin .add (.idx (.v 0) (.k (.int 4))) (.k (.int 1)))) (.seq (.set (.t (.n 4)) (.bin .mod (.bin .mul (.bi .int (.cons (.bin .add (.idx (.v 0) (.k (.int 3))) (.bin .mul (.k (.int 7919)) (.idx (.v 0) (.k (.int 4))))) .nil)) (.k (.int 48271))) (.k (.int 2147483647)))) .pass)))
end Rf
set_option Elab.async false
set_option linter.all false
set_option maxRecDepth 100000
/-! Drawing. -/
namespace Rf
open PySem

def c_draw2 : CS := (.seq (.ite (.cmp .gt (.idx (.v 0) (.k (.int 2))) (.k (.int 0))) (.seq (.set (.t (.n 4)) (.bin .mod (.bi .int (.cons (.idx (.v 0) (.k (.int 2))) .nil)) (.v 1))) (.seq (.set (.ix (.v 0) (.k (.int 2))) (.bin .fdiv (.idx (.v 0) (.k (.int 2))) (.v 1))) (.ret (.v 4)))) .pass) (.seq (.set (.ix (.v 0) (.k (.int 4))) (.bin .add (.idx (.v 0) (.k (.int 4))) (.k (.int 1)))) (.seq (.set (.t (.n 2)) (.bin .mod (.bi .int (.cons (.bin .mul (.bi .int (.cons (.bin .add (.idx (.v 0) (.k (.int 3))) (.bin .mul (.k (.int 7919)) (.idx (.v 0) (.k (.int 4))))) .nil)) (.k (.int 48271))) .nil)) (.k (.int 2147483647)))) (.seq (.set (.t (.n 2)) (.bin .mod (.bi .int (.cons (.bin .mul (.v 2) (.bin .add (.bin .fdiv (.v 2) (.k (.int 1009))) (.k (.int 69621)))) .nil)) (.k (.int 2147483647)))) (.seq (.set (.t (.n 2)) (.bin .mod (.bi .int (.cons (.bin .mul (.v 2) (.bin .add (.bin .fdiv (.v 2) (.k (.int 2003))) (.k (.int 40014)))) .nil)) (.k (.int 2147483563)))) (.ret (.bin .mod (.bi .int (.cons (.bin .fdiv (.v 2) (.k (.int 16))) .nil)) (.v 1))))))))
theorem small_mod (a m : Int) (h : 0 < m) (h2 : m ≤ 4294967296) : small64 (a % m) = true := by
  unfold small64
  have h3 := Int.emod_nonneg a (Int.ne_of_gt h)
  have h4 := Int.emod_lt_of_pos a h
  simp only [Bool.and_eq_true, decide_eq_true_eq]
  omega
/-- the hand's items -/
theorem idx_hnd {S : Store} {h : Nat} {cs : List Int} {a b c d : Int} (e : S[h]? = some (hnd cs a b c d)) :
    index (.ref h) (.int 0) S = some (.lst (cs.map .int)) ∧ index (.ref h) (.int 1) S = some (.int a) ∧ index (.ref h) (.int 2) S = some (.int b) ∧ index (.ref h) (.int 3) S = some (.int c) ∧ index (.ref h) (.int 4) S = some (.int d) := by
  have e' : seqOf S (.ref h) = some [.lst (cs.map .int), .int a, .int b, .int c, .int d] := by simp only [seqOf, e, hnd]
  refine ⟨?_, ?_, ?_, ?_, ?_⟩ <;> (unfold index; rw [e']; rfl)
theorem set_hnd {S : Store} {h : Nat} {cs : List Int} {a b c d x : Int} (e : S[h]? = some (hnd cs a b c d)) :
    setIndex (.ref h) (.int 1) (.int x) S = some (S.set h (hnd cs x b c d)) ∧ setIndex (.ref h) (.int 2) (.int x) S = some (S.set h (hnd cs a x c d)) ∧ setIndex (.ref h) (.int 3) (.int x) S = some (S.set h (hnd cs a b x d)) ∧ setIndex (.ref h) (.int 4) (.int x) S = some (S.set h (hnd cs a b c x)) := by
  have e' : mutL (.ref h) S = some (h, [.lst (cs.map .int), .int a, .int b, .int c, .int d]) := by simp only [mutL, e, hnd]
  refine ⟨?_, ?_, ?_, ?_⟩ <;> (unfold setIndex; simp only [frz]; rw [e']; rfl)
theorem get_set {S : Store} {h : Nat} {o o' : O} (e : S[h]? = some o) : (S.set h o')[h]? = some o' := List.getElem?_set_self (List.getElem?_eq_some_iff.mp e).1
theorem set_set {S : Store} {h : Nat} {o o' : O} : (S.set h o).set h o' = S.set h o' := by simp
theorem draw_rest {cl : Calls} {S : Store} {h : Nat} {cs : List Int} {a b c d many : Int} {x3 : Option D} (e : S[h]? = some (hnd cs a b c d)) (hc : ∀ x ∈ cs, 0 ≤ x) (ha : 0 ≤ a) (hb : 0 ≤ b) (hcc : 0 ≤ c) (hd : 0 ≤ d) (hm : 0 < many) (hm2 : many < 1073741824) :
    ∃ r o, exec cl none c_draw2 [some (.ref h), some (.int many), none, x3, none] S = some (.rt (.int r), S.set h o) ∧ 0 ≤ r ∧ r < many ∧ HOk (S.set h o) h := by
  obtain ⟨i0, i1, i2, i3, i4⟩ := idx_hnd e
  by_cases hb0 : 0 < b
  · refine ⟨b % many, hnd cs a (b / many) c d, ?_, Int.emod_nonneg _ (Int.ne_of_gt hm), Int.emod_lt_of_pos _ hm, cs, a, b / many, c, d, get_set e, hc, ha, Int.ediv_nonneg hb (Int.le_of_lt hm), hcc, hd⟩
    simp [c_draw2, exec, ev, evs, evg, i2, cmpop, ordGt, hb0, binop, hm, hm2, setG, setT, (set_hnd e).2.1, builtin, un1, bInt]
  · have e2 := get_set (o' := hnd cs a b c (d + 1)) e
    obtain ⟨j0, j1, j2, j3, j4⟩ := idx_hnd e2
    have m1 := small_mod ((c + 7919 * (d + 1)) * 48271) 2147483647 (by decide) (by decide)
    have m2 := small_mod ((c + 7919 * (d + 1)) * 48271 % 2147483647 * ((c + 7919 * (d + 1)) * 48271 % 2147483647 / 1009 + 69621)) 2147483647 (by decide) (by decide)
    have s1 : small64 48271 = true := by decide
    have s2 : small64 7919 = true := by decide
    refine ⟨_, hnd cs a b c (d + 1), by
      simp [c_draw2, exec, ev, evs, evg, i2, i4, j3, j4, cmpop, ordGt, hb0, binop, hm, setG, setT, (set_hnd e).2.2.2, builtin, un1, bInt, m1, m2, s1, s2]
      rfl, Int.emod_nonneg _ (Int.ne_of_gt hm), Int.emod_lt_of_pos _ hm, cs, a, b, c, d + 1, e2, hc, ha, hb, hcc, by omega⟩
def c_p_law_draw : CS := (.seq (.ite (.and (.cmp .eq (.idx (.v 0) (.k (.int 2))) (.k (.int 0))) (.cmp .lt (.idx (.v 0) (.k (.int 1))) (.bi .len (.cons (.idx (.v 0) (.k (.int 0))) .nil)))) (.seq (.set (.t (.n 3)) (.idx (.idx (.v 0) (.k (.int 0))) (.idx (.v 0) (.k (.int 1))))) (.seq (.set (.ix (.v 0) (.k (.int 1))) (.bin .add (.idx (.v 0) (.k (.int 1))) (.k (.int 1)))) (.seq (.set (.ix (.v 0) (.k (.int 3))) (.bin .mod (.bi .int (.cons (.bin .add (.bin .add (.bin .mul (.idx (.v 0) (.k (.int 3))) (.k (.int 69621))) (.bin .mul (.v 3) (.k (.int 40692)))) (.k (.int 37))) .nil)) (.k (.int 2147483629)))) (.ite (.cmp .ge (.v 3) (.bin .pow (.k (.int 10)) (.k (.int 18)))) (.set (.ix (.v 0) (.k (.int 2))) (.v 3)) .pass)))) .pass) c_draw2)
theorem nth_cells {cs : List Int} {a : Int} (h0 : 0 ≤ a) (h1 : a < cs.length) : ∃ x ∈ cs, ∀ S, index (.lst (cs.map .int)) (.int a) S = some (.int x) := by
  have hl : a.toNat < cs.length := by omega
  refine ⟨cs[a.toNat], List.getElem_mem hl, fun S => ?_⟩
  unfold index seqOf ixOf
  simp [h0, h1, List.getElem?_eq_getElem hl]
theorem draw_ok {Ph : Nat → Option FD} (hP : Ph 14 = some ⟨2, 5, c_p_law_draw⟩) {k : Nat} {S : Store} {h : Nat} {many : Int} (hH : HOk S h) (hm : 0 < many) (hm2 : many < 1073741824) :
    ∃ r S', run Ph (k + 1) 14 [.ref h, .int many] S = some (.ok (.int r) S') ∧ 0 ≤ r ∧ r < many ∧ HR h S S' := by
  obtain ⟨cs, a, b, c, d, e, hc, ha, hb, hcc, hd⟩ := hH
  obtain ⟨i0, i1, i2, i3, i4⟩ := idx_hnd e
  have fin : ∀ {S1 : Store} {x3 : Option D} {cs a b c d}, S1[h]? = some (hnd cs a b c d) → (∀ x ∈ cs, 0 ≤ x) → 0 ≤ a → 0 ≤ b → 0 ≤ c → 0 ≤ d → (∃ o, S1 = S.set h o) ∨ S1 = S →
      (exec (run Ph k) none c_p_law_draw [some (.ref h), some (.int many), none, none, none] S = exec (run Ph k) none c_draw2 [some (.ref h), some (.int many), none, x3, none] S1) → ∃ r S', run Ph (k + 1) 14 [.ref h, .int many] S = some (.ok (.int r) S') ∧ 0 ≤ r ∧ r < many ∧ HR h S S' := by
    intro S1 x3 cs a b c d e hc ha hb hcc hd hS hx
    obtain ⟨r, o, h1, h2, h3, h4⟩ := draw_rest (cl := run Ph k) (x3 := x3) e hc ha hb hcc hd hm hm2
    rw [run_fn' (by decide) hP _ rfl]
    refine ⟨r, S1.set h o, ?_, h2, h3, ?_, h4⟩
    · show atEnd S.length (exec (run Ph k) none c_p_law_draw [some (.ref h), some (.int many), none, none, none] S) = _
      rw [hx, h1]
      show some (R.ok (gc S.length (.int r) (S1.set h o)).1 (gc S.length (.int r) (S1.set h o)).2) = _
      rw [gc_lt rfl]
      have hl : (S1.set h o).length ≤ S.length := by
        rcases hS with ⟨o', rfl⟩ | rfl <;> simp
      rw [take_ge hl]
    · rcases hS with ⟨o', rfl⟩ | rfl
      · exact ⟨o, by simp⟩
      · exact ⟨o, rfl⟩
  by_cases h0 : b = 0 ∧ a < cs.length
  · obtain ⟨rfl, h1⟩ := h0
    obtain ⟨x, hx, ix⟩ := nth_cells ha h1
    have e2 := get_set (o' := hnd cs (a + 1) 0 c d) e
    have e3 := get_set (o' := hnd cs (a + 1) 0 ((c * 69621 + x * 40692 + 37) % 2147483629) d) e
    have e4 := get_set (o' := hnd cs (a + 1) x ((c * 69621 + x * 40692 + 37) % 2147483629) d) e
    have hx0 := hc x hx
    have s1 : small64 69621 = true := by decide
    have s2 : small64 40692 = true := by decide
    have s3 : small64 10 = true := by decide
    obtain ⟨j0, j1, j2, j3, j4⟩ := idx_hnd e2
    have nn : 0 ≤ (c * 69621 + x * 40692 + 37) % 2147483629 := Int.emod_nonneg _ (by decide)
    have rs : res S (.int 0) = some (.int 0) := rfl
    by_cases hbig : 1000000000000000000 ≤ x
    · refine fin (x3 := some (.int x)) e4 hc (by omega) hx0 nn hd (.inl ⟨_, rfl⟩) ?_
      simp [c_p_law_draw, exec, ev, evs, evg, i0, i1, i2, j3, ix, cmpop, ordLt, ordGe, rs, D.eqv, binop, setG, setT, (set_hnd e).1, (set_hnd e2).2.2.1, (set_hnd e3).2.1, builtin, un1, bInt, bLen, seqOf, h1, s1, s2, s3, hbig]
    · refine fin (x3 := some (.int x)) e3 hc (by omega) (Int.le_refl _) nn hd (.inl ⟨_, rfl⟩) ?_
      simp [c_p_law_draw, exec, ev, evs, evg, i0, i1, i2, j3, ix, cmpop, ordLt, ordGe, rs, D.eqv, binop, setG, setT, (set_hnd e).1, (set_hnd e2).2.2.1, builtin, un1, bInt, bLen, seqOf, h1, s1, s2, s3, hbig]
  · refine fin (x3 := none) e hc ha hb hcc hd (.inr rfl) ?_
    have rs : res S (.int 0) = some (.int 0) := rfl
    have rb : res S (.int b) = some (.int b) := rfl
    by_cases hb1 : b = 0
    · have h1 : ¬ a < cs.length := fun z => h0 ⟨hb1, z⟩
      simp [c_p_law_draw, exec, ev, evs, evg, i0, i1, i2, cmpop, ordLt, rs, rb, D.eqv, builtin, un1, bLen, seqOf, h1, hb1]
    · have hb2 : (b == 0) = false := by simpa using hb1
      simp [c_p_law_draw, exec, ev, evs, evg, i0, i1, i2, cmpop, ordLt, rs, rb, D.eqv, builtin, un1, bLen, seqOf, hb2]
end Rf
set_option Elab.async false
set_option linter.all false
set_option maxRecDepth 100000
/-! Loops of the small language. -/
namespace Rf
open PySem

/-- no list by its reference -/
def noRef : D → Bool
  | .ref _ => false
  | _ => true
theorem frz_no {y : D} {S : Store} (h : noRef y = true) : frz y S = (y, S) := by
  cases y <;> first | rfl | cases h
section
variable {cnd : Env → Store → Option (R Bool)} {elt : Env → Store → Option (R D)} {tg : CT} {env : Env} {n : Nat} {p : List (Nat × O)}
/-- a comprehension: the base store S, the list so far acc -/
theorem comp_ind (Inv : List D → List D → Store → Prop) (hn : ∀ xs acc S, Inv xs acc S → S.length = n) (hp : ∀ xs acc S, Inv xs acc S → pinned p (S ++ [.lst acc]) = true)
    (step : ∀ x xs acc S, Inv (x :: xs) acc S → ∃ env' S1 b, setG tg x env (S ++ [.lst acc]) = some env' ∧ cnd env' (S ++ [.lst acc]) = some (.ok b S1) ∧
      (b = true → ∃ y S2, gcR (n + 1) (elt env' S1) = some (.ok y (S2 ++ [.lst acc])) ∧ S2.length = n ∧ noRef y = true ∧ D.lt n y = true ∧ acc.length < maxLen ∧ Inv xs (acc ++ [y]) S2) ∧
      (b = false → ∃ S2 S3, S1 = S2 ++ [.lst acc] ++ S3 ∧ S2.length = n ∧ Inv xs acc S2)) :
    ∀ (xs acc : List D) (S : Store), Inv xs acc S → ∃ acc' S', compGo cnd elt xs p tg env n acc (S ++ [.lst acc]) = some (.ok () (S' ++ [.lst acc'])) ∧ Inv [] acc' S'
  | [], acc, S, h => ⟨acc, S, by simp only [compGo, hp _ _ _ h, if_true], h⟩
  | x :: xs, acc, S, h => by
    obtain ⟨env', S1, b, e1, e2, ht, hf⟩ := step x xs acc S h
    simp only [compGo, hp _ _ _ h, if_true, e1, e2]
    cases b with
    | true =>
      obtain ⟨y, S2, e3, l2, r1, r2, r3, r4⟩ := ht rfl
      have g1 : (S2 ++ [O.lst acc])[n]? = some (.lst acc) := by rw [← l2]; simp
      have g2 : ((S2 ++ [O.lst acc]).take (n + 1)).set n (.lst (acc ++ [y])) = S2 ++ [.lst (acc ++ [y])] := by
        rw [List.take_of_length_le (by simp [l2]), ← l2]
        simp
      simp only [e3, frz_no r1, r2, g1, decide_true, Bool.and_true, r3, if_true, g2]
      exact comp_ind Inv hn hp step xs (acc ++ [y]) S2 r4
    | false =>
      obtain ⟨S2, S3, rfl, l2, r4⟩ := hf rfl
      have g1 : (S2 ++ [O.lst acc] ++ S3)[n]? = some (.lst acc) := by rw [← l2]; simp
      have g2 : (S2 ++ [O.lst acc] ++ S3).take (n + 1) = S2 ++ [.lst acc] := by
        rw [List.take_append_of_le_length (by simp [l2]), List.take_of_length_le (by simp [l2])]
      simp only [g1, decide_true, if_true, g2]
      exact comp_ind Inv hn hp step xs acc S2 r4
/-- .. the elements by a function, nothing else changes -/
theorem comp_map {f : D → D} {S : Store} (hn : S.length = n) (xs : List D) (hl : xs.length ≤ maxLen) (h : ∀ x ∈ xs, ∀ acc, ∃ env', setG tg x env (S ++ [.lst acc]) = some env' ∧ gcR (n + 1) (elt env' (S ++ [.lst acc])) = some (.ok (f x) (S ++ [.lst acc])) ∧ noRef (f x) = true ∧ D.lt n (f x) = true)
    (hp : ∀ acc, pinned p (S ++ [.lst acc]) = true) : compGo (fun _ S => some (.ok true S)) elt xs p tg env n [] (S ++ [.lst []]) = some (.ok () (S ++ [.lst (xs.map f)])) := by
  have main := comp_ind (cnd := fun _ S => some (.ok true S)) (elt := elt) (tg := tg) (env := env) (n := n) (p := p) (fun ys acc S' => S' = S ∧ acc ++ ys.map f = xs.map f ∧ (∀ y ∈ ys, y ∈ xs))
    (fun _ _ _ h => by rw [h.1]; exact hn) (fun _ acc _ h => by rw [h.1]; exact hp acc) (fun x ys acc S' ⟨e, e1, e2⟩ => by
      subst e
      obtain ⟨env', g1, g2, g3, g4⟩ := h x (e2 x (by simp)) acc
      have hlen : acc.length < maxLen := by
        have := congrArg List.length e1
        simp at this
        omega
      exact ⟨env', _, true, g1, rfl, fun _ => ⟨f x, S', g2, hn, g3, g4, hlen, rfl, by rw [← e1]; simp, fun y hy => e2 y (by simp [hy])⟩, fun z => by cases z⟩) xs [] S ⟨rfl, rfl, fun _ h => h⟩
  obtain ⟨acc', S', e, rfl, e1, _⟩ := main
  rw [e]
  simp at e1
  rw [e1]
end
/-- for: Inv of what is left, the slots and the store -/
theorem for_ind {body : Env → Store → Out} {tg : CT} {p : List (Nat × O)} (Inv : List D → Env → Store → Prop) (hp : ∀ xs env S, Inv xs env S → pinned p S = true)
    (step : ∀ x xs env S, Inv (x :: xs) env S → ∃ env1 env2 S2, setG tg x env S = some env1 ∧ body env1 S = some (.nx env2, S2) ∧ Inv xs env2 S2) :
    ∀ (xs : List D) (env : Env) (S : Store), Inv xs env S → ∃ env' S', forGo body xs p tg env S = some (.nx env', S') ∧ Inv [] env' S'
  | [], env, S, h => ⟨env, S, by simp only [forGo, hp _ _ _ h, if_true], h⟩
  | x :: xs, env, S, h => by
    obtain ⟨env1, env2, S2, e1, e2, h2⟩ := step x xs env S h
    simp only [forGo, hp _ _ _ h, if_true, e1, e2]
    exact for_ind Inv hp step xs env2 S2 h2
/-- while, at most m turns -/
theorem while_ind {test : Env → Store → Option (R D)} {body : Env → Store → Out} (Inv : Nat → Env → Store → Prop) (Fin : Env → Store → Prop)
    (step : ∀ m env S, Inv m env S → ∃ b S1, test env S = some (.ok (.bl b) S1) ∧ (b = true → ∃ m' env2 S2, m = m' + 1 ∧ body env S1 = some (.nx env2, S2) ∧ Inv m' env2 S2) ∧ (b = false → Fin env S1)) :
    ∀ (m n : Nat) (env : Env) (S : Store), m < n → Inv m env S → ∃ env' S', whileGo test body n env S = some (.nx env', S') ∧ Fin env' S'
  | m, 0, _, _, h, _ => absurd h (Nat.not_lt_zero _)
  | m, n + 1, env, S, hm, h => by
    obtain ⟨b, S1, e1, ht, hf⟩ := step m env S h
    simp only [whileGo, e1, thn_ok]
    cases b with
    | true =>
      obtain ⟨m', env2, S2, rfl, e2, h2⟩ := ht rfl
      simp only [e2]
      exact while_ind Inv Fin step m' n env2 S2 (by omega) h2
    | false => exact ⟨env, S1, rfl, hf rfl⟩
/-! ### pieces of expressions -/
section
variable {cl : Calls} {ex : Option Ex} {env : Env} {S S1 : Store}
/-- what is walked: a tuple -/
theorem evI_tup {e : CE} {xs : List D} (h : ev cl ex e env S = some (.ok (.tup xs) S)) : evI cl ex (.seq e) env S = some (.ok (xs, []) S) := by
  have e1 : freshR S.length (some (R.ok (D.tup xs) S)) = some (R.ok (D.tup xs) S) := by
    unfold freshR
    have : gcR S.length (some (R.ok (D.tup xs) S)) = some (R.ok (D.tup xs) S) := by
      show some (R.ok (gc S.length (.tup xs) S).1 (gc S.length (.tup xs) S).2) = _
      unfold gc
      split
      · rw [take_self]
      · rfl
    rw [this]
    rfl
  simp only [evI, h, e1, bnd_ok]
  rfl
/-- a list as a value -/
theorem evI_lst {e : CE} {xs : List D} (h : ev cl ex e env S = some (.ok (.lst xs) S)) : evI cl ex (.seq e) env S = some (.ok (xs, []) S) := by
  have e1 : freshR S.length (some (R.ok (D.lst xs) S)) = some (R.ok (D.lst xs) S) := by
    unfold freshR
    have : gcR S.length (some (R.ok (D.lst xs) S)) = some (R.ok (D.lst xs) S) := by
      show some (R.ok (gc S.length (.lst xs) S).1 (gc S.length (.lst xs) S).2) = _
      unfold gc
      split
      · rw [take_self]
      · rfl
    rw [this]
    rfl
  simp only [evI, h, e1, bnd_ok]
  rfl
/-- a new list without references -/
theorem evI_new {e : CE} {xs : List D} (h : ev cl ex e env S = some (.ok (.ref S1.length) (S1 ++ [.lst xs]))) (hl : S1.length = S.length) (hx : D.lts 0 xs = true) : evI cl ex (.seq e) env S = some (.ok (xs, []) S1) := by
  have hx2 : D.lts S.length xs = true := D.lts_of (Nat.zero_le _) hx
  have g1 : gcR S.length (some (R.ok (D.ref S1.length) (S1 ++ [O.lst xs]))) = some (R.ok (D.ref S1.length) (S1 ++ [O.lst xs])) := by
    rw [← hl] at hx2 ⊢
    exact gcR_new hx2
  have fz : frz (.ref S1.length) (S1 ++ [O.lst xs]) = (.lst xs, S1 ++ [O.fzl xs]) := by
    unfold frz
    simp [hx]
  have f1 : fresh S.length (.ref S1.length) (S1 ++ [O.lst xs]) = (.lst xs, S1) := by
    unfold fresh
    rw [fz]
    have h2 : D.lt S.length (.lst xs) = true := hx2
    simp only [h2, if_true, hl, Nat.le_refl]
    rw [← hl]
    simp
  simp only [evI, h]
  unfold freshR
  rw [g1]
  simp only [f1, bnd_ok, seqOf, pinOf]
theorem evc_none : (fun env S => evc cl ex .none env S) = fun _ S => some (.ok true S) := rfl
/-- [elt for tg in it], the elements by a function, nothing else changes -/
theorem ev_map {it : CI} {tg : CT} {own : List Nat} {elt : CE} {xs : List D} {p : List (Nat × O)} {f : D → D} (hi : evI cl ex it env S = some (.ok (xs, p) S1)) (hl : xs.length ≤ maxLen)
    (h : ∀ x ∈ xs, ∀ acc, ∃ env', setG tg x (wipe env own) (S1 ++ [.lst acc]) = some env' ∧ gcR (S1.length + 1) (ev cl ex elt env' (S1 ++ [.lst acc])) = some (.ok (f x) (S1 ++ [.lst acc])) ∧ noRef (f x) = true ∧ D.lt S1.length (f x) = true)
    (hp : ∀ acc, pinned p (S1 ++ [.lst acc]) = true) : ev cl ex (.comp it tg own .none elt) env S = some (.ok (.ref S1.length) (S1 ++ [.lst (xs.map f)])) := by
  simp only [ev, hi, bnd_ok]
  rw [show (fun env S => evc cl ex .none env S) = fun _ S => some (.ok true S) from rfl, comp_map (f := f) rfl xs hl h hp]
  rfl
end
/-- a function of the table, at its slots -/
theorem run_at {Ph : Nat → Option FD} {k f np ns : Nat} {c : CS} (h : Ph f = some ⟨np, ns, c⟩) {ds : List D} {env : Env} (S : Store) (hf : f ≠ 0 := by decide) (hl : ds.length = np := by rfl) (he : ds.map some ++ List.replicate (ns - np) none = env := by rfl) :
    run Ph (k + 1) f ds S = atEnd S.length (exec (run Ph k) none c env S) := by
  rw [run_fn' hf h ds hl S, he]
theorem atEnd_rt {n : Nat} {d : D} {S : Store} : atEnd n (some (.rt d, S)) = some (.ok (gc n d S).1 (gc n d S).2) := rfl
theorem atEnd_nx {n : Nat} {env : Env} {S : Store} : atEnd n (some (.nx env, S)) = some (.ok .non (S.take n)) := rfl
theorem atEnd_xc {n : Nat} {env : Env} {e : Ex} {S : Store} : atEnd n (some (.xc e env, S)) = some (.ex e (S.take n)) := rfl
end Rf
set_option Elab.async false
set_option linter.all false
set_option maxRecDepth 100000
/-! Rules for running the small language step by step. -/
namespace Rf
open PySem
section
variable {cl : Calls} {ex : Option Ex} {env env1 : Env} {S S1 S2 S3 : Store} {a b c e : CE} {d x y z : D} {r : Option (R D)} {es : CEs} {ds : List D} {i : Nat}
theorem e_v (h : env[i]? = some (some d)) : ev cl ex (.v i) env S = some (.ok d S) := by simp only [ev, h]
theorem e_k : ev cl ex (.k d) env S = some (.ok d S) := rfl
theorem e_and_t (ha : ev cl ex a env S = some (.ok (.bl true) S1)) : ev cl ex (.and a b) env S = ev cl ex b env S1 := by simp only [ev, ha, bnd_ok]
theorem e_and_f (ha : ev cl ex a env S = some (.ok (.bl false) S1)) : ev cl ex (.and a b) env S = some (.ok (.bl false) S1) := by simp only [ev, ha, bnd_ok]
theorem e_or_t (ha : ev cl ex a env S = some (.ok (.bl true) S1)) : ev cl ex (.or a b) env S = some (.ok (.bl true) S1) := by simp only [ev, ha, bnd_ok]
theorem e_or_f (ha : ev cl ex a env S = some (.ok (.bl false) S1)) : ev cl ex (.or a b) env S = ev cl ex b env S1 := by simp only [ev, ha, bnd_ok]
theorem e_not {k : Bool} (ha : ev cl ex a env S = some (.ok (.bl k) S1)) : ev cl ex (.not a) env S = some (.ok (.bl (!k)) S1) := by simp only [ev, ha, bnd_ok]
theorem e_neg {k : Int} (ha : ev cl ex a env S = some (.ok (.int k) S1)) : ev cl ex (.neg a) env S = some (.ok (.int (-k)) S1) := by simp only [ev, ha, bnd_ok]
theorem e_ite_t (h : ev cl ex c env S = some (.ok (.bl true) S1)) : ev cl ex (.ite c a b) env S = ev cl ex a env S1 := by simp only [ev, h, bnd_ok]
theorem e_ite_f (h : ev cl ex c env S = some (.ok (.bl false) S1)) : ev cl ex (.ite c a b) env S = ev cl ex b env S1 := by simp only [ev, h, bnd_ok]
theorem e_bin {o : Bop} (ha : ev cl ex a env S = some (.ok x S1)) (hb : ev cl ex b env S1 = some (.ok y S2)) (h : binop o x y S2 = some (d, S3)) : ev cl ex (.bin o a b) env S = some (.ok d S3) := by simp only [ev, ha, hb, bnd_ok, h, lift_some]
theorem e_cmp {o : Cop} (ha : ev cl ex a env S = some (.ok x S1)) (hb : ev cl ex b env S1 = some (.ok y S2)) (h : cmpop o x y S2 = some d) : ev cl ex (.cmp o a b) env S = some (.ok d S2) := by simp only [ev, ha, hb, bnd_ok, h]
theorem e_isi {ts : List Ty} {k : Bool} (ha : ev cl ex a env S = some (.ok x S1)) (h : isTys S1 x ts = some k) : ev cl ex (.isi a ts) env S = some (.ok (.bl k) S1) := by simp only [ev, ha, bnd_ok, h]
theorem e_att {f : Nat} (ha : ev cl ex a env S = some (.ok x S1)) (h : attr x f = some d) : ev cl ex (.att a f) env S = some (.ok d S1) := by simp only [ev, ha, bnd_ok, h]
theorem e_idx (ha : ev cl ex a env S = some (.ok x S1)) (hb : ev cl ex b env S1 = some (.ok y S2)) (h : index x y S2 = some d) : ev cl ex (.idx a b) env S = some (.ok d S2) := by simp only [ev, ha, hb, bnd_ok, h]
theorem es_nil : evs cl ex .nil env S = some (.ok [] S) := rfl
theorem es_cons (ha : ev cl ex a env S = some (.ok x S1)) (hr : evs cl ex es env S1 = some (.ok ds S2)) : evs cl ex (.cons a es) env S = some (.ok (x :: ds) S2) := by simp only [evs, ha, hr, bnd_ok]
theorem e_call {f : Nat} (h : evs cl ex es env S = some (.ok ds S1)) : ev cl ex (.call f es) env S = cl f ds S1 := by simp only [ev, h, bnd_ok]
theorem e_mkT (h : evs cl ex es env S = some (.ok ds S1)) : ev cl ex (.mkT es) env S = cl 0 ds S1 := by simp only [ev, h, bnd_ok]
theorem e_bi {f : Bi} (h : evs cl ex es env S = some (.ok ds S1)) (h2 : builtin f ds S1 = some (d, S2)) : ev cl ex (.bi f es) env S = some (.ok d S2) := by simp only [ev, h, bnd_ok, h2, lift_some]
theorem e_mt {f : Mt} (ha : ev cl ex a env S = some (.ok x S1)) (hl : isL x = true) (h : evs cl ex es env S1 = some (.ok ds S2)) (h2 : method f x ds S2 = some (d, S3)) : ev cl ex (.mt f a es) env S = some (.ok d S3) := by simp only [ev, ha, bnd_ok, hl, if_true, h, h2, lift_some]
theorem e_tup (h : evs cl ex es env S = some (.ok ds S1)) (h2 : newT (frzs ds S1).1 (frzs ds S1).2 = some (d, S2)) : ev cl ex (.tup es) env S = some (.ok d S2) := by simp only [ev, h, bnd_ok, h2, lift_some]
theorem e_lst (h : evs cl ex es env S = some (.ok ds S1)) (h2 : newL (frzs ds S1).1 (frzs ds S1).2 = some (d, S2)) : ev cl ex (.lst es) env S = some (.ok d S2) := by simp only [ev, h, bnd_ok, h2, lift_some]
/-- items that are no references -/
theorem frzs_no : ∀ {ds : List D}, ds.all noRef = true → frzs ds S = (ds, S)
  | [], _ => rfl
  | d :: ds, h => by
    rw [List.all_cons, Bool.and_eq_true] at h
    simp only [frzs, frz_no h.1, frzs_no h.2]
theorem newT_ok {xs : List D} (h : xs.length ≤ maxLen) : newT xs S = some (.tup xs, S) := by unfold newT; rw [if_pos h]
theorem newL_ok {xs : List D} (h : xs.length ≤ maxLen) : newL xs S = some (.ref S.length, S ++ [.lst xs]) := by unfold newL; rw [if_pos h]
theorem e_rng1L {n : Int} (ha : ev cl ex a env S = some (.ok (.int n) S1)) (h1 : okR n = true) (h : n.toNat ≤ maxLen) : ev cl ex (.rngL (.rng1 a)) env S = some (.ok (.ref S1.length) (S1 ++ [.lst (rangeD 0 1 n.toNat)])) := by
  simp only [ev, evI, ha, bnd_ok, h1, if_true]
  rw [newL_ok (by simpa [rangeD] using h)]
  rfl
theorem evI_rng1 {n : Int} (ha : ev cl ex a env S = some (.ok (.int n) S1)) (h1 : okR n = true) : evI cl ex (.rng1 a) env S = some (.ok (rangeD 0 1 n.toNat, []) S1) := by simp only [evI, ha, bnd_ok, h1, if_true]
/-! statements -/
variable {p q : CS} {fl : Fl} {cl2 : Calls}
theorem x_ret (h : ev cl2 ex e env S = some (.ok d S1)) : exec cl2 ex (.ret e) env S = some (.rt (gc S.length d S1).1, (gc S.length d S1).2) := by
  simp only [exec, evg, h]
  rfl
theorem x_ret_ex {er : Ex} (h : ev cl2 ex e env S = some (.ex er S1)) : exec cl2 ex (.ret e) env S = some (.xc er env, S1) := by
  simp only [exec, evg, h]
  rfl
theorem x_ex (h : ev cl2 ex e env S = some (.ok d S1)) : exec cl2 ex (.ex e) env S = some (.nx env, (gc S.length d S1).2) := by
  simp only [exec, evg, h]
  rfl
theorem x_ex_ex {er : Ex} (h : ev cl2 ex e env S = some (.ex er S1)) : exec cl2 ex (.ex e) env S = some (.xc er env, S1) := by
  simp only [exec, evg, h]
  rfl
theorem x_set {t : CT} (h : ev cl2 ex e env S = some (.ok d S1)) (h2 : setG t (gc S.length d S1).1 env (gc S.length d S1).2 = some env1) : exec cl2 ex (.set (.t t) e) env S = some (.nx env1, (gc S.length d S1).2) := by
  have : exec cl2 ex (.set (.t t) e) env S = Rf.thn (some (.ok (gc S.length d S1).1 (gc S.length d S1).2)) env fun d S1 => match setG t d env S1 with
    | some env1 => some (.nx env1, S1)
    | none => none := by
    simp only [exec, evg, h]
    rfl
  rw [this, thn_ok, h2]
theorem x_seq (h : exec cl2 ex p env S = some (.nx env1, S1)) : exec cl2 ex (.seq p q) env S = exec cl2 ex q env1 S1 := by simp only [exec, h]
theorem x_seq_rt (h : exec cl2 ex p env S = some (.rt d, S1)) : exec cl2 ex (.seq p q) env S = some (.rt d, S1) := by simp only [exec, h]
theorem x_seq_xc {er : Ex} (h : exec cl2 ex p env S = some (.xc er env1, S1)) : exec cl2 ex (.seq p q) env S = some (.xc er env1, S1) := by simp only [exec, h]
theorem x_ite_t (h : ev cl2 ex c env S = some (.ok (.bl true) S1)) : exec cl2 ex (.ite c p q) env S = exec cl2 ex p env (S1.take S.length) := by
  simp only [exec, evg, h, gcR_bl, thn_ok]
theorem x_ite_f (h : ev cl2 ex c env S = some (.ok (.bl false) S1)) : exec cl2 ex (.ite c p q) env S = exec cl2 ex q env (S1.take S.length) := by
  simp only [exec, evg, h, gcR_bl, thn_ok]
theorem x_pass : exec cl2 ex .pass env S = some (.nx env, S) := rfl
theorem x_retN : exec cl2 ex .retN env S = some (.rt .non, S) := rfl
theorem x_raise0 {x : Str} : exec cl2 ex (.raise x none .nil) env S = some (.xc ⟨x, none⟩ env, S) := rfl
theorem x_for {t : CT} {it : CI} {xs : List D} {pn : List (Nat × O)} (h : evI cl2 ex it env S = some (.ok (xs, pn) S1)) : exec cl2 ex (.for t it p) env S = forGo (fun env S => exec cl2 ex p env S) xs pn t env S1 := by simp only [exec, h, thn_ok]
theorem x_while {c : CE} : exec cl2 ex (.while c p) env S = whileGo (fun env S => evg cl2 ex c env S) (fun env S => exec cl2 ex p env S) FUEL env S := by simp only [exec]
theorem x_par {is : List Nat} (h : evs cl2 ex es env S = some (.ok ds S1)) (h2 : setAll is ds env = some env1) : exec cl2 ex (.par is es) env S = some (.nx env1, S1) := by simp only [exec, h, thn_ok, h2]
theorem x_ix (h : ev cl2 ex e env S = some (.ok d S1)) (ha : ev cl2 ex a env (gc S.length d S1).2 = some (.ok x S2)) (hb : ev cl2 ex b env S2 = some (.ok y S3)) {S4 : Store} (h2 : setIndex x y (gc S.length d S1).1 S3 = some S4) : exec cl2 ex (.set (.ix a b) e) env S = some (.nx env, S4) := by
  have : exec cl2 ex (.set (.ix a b) e) env S = Rf.thn (some (.ok (gc S.length d S1).1 (gc S.length d S1).2)) env fun d S1 => Rf.thn (ev cl2 ex a env S1) env fun x S2 => Rf.thn (ev cl2 ex b env S2) env fun y S3 => match setIndex x y d S3 with
    | some S4 => some (.nx env, S4)
    | none => none := by
    simp only [exec, evg, h]
    rfl
  rw [this, thn_ok, ha, thn_ok, hb, thn_ok, h2]
end
end Rf
set_option linter.all false
/-! What the functions are made to (printed by gen.py). -/
namespace Rf
open PySem
def c_check_track : CS := (.ite (.not (.isi (.v 0) [.track])) (.raise "NoTrack" none .nil) .pass)
def c_are_things : CS := (.ret (.and (.isi (.v 0) [.tup]) (.bi .all (.cons (.comp (.seq (.v 0)) (.n 1) [1] .none (.call 2 (.cons (.v 1) (.cons (.k (.int 0)) (.cons (.k (.int 99)) .nil))))) .nil))))
def c_fits_track : CS := (.ret (.and (.call 4 (.cons (.v 1) .nil)) (.cmp .eq (.bi .len (.cons (.v 1) .nil)) (.att (.v 0) 0))))
def c_check_row : CS := (.seq (.ex (.call 3 (.cons (.v 0) .nil))) (.ite (.not (.call 5 (.cons (.v 0) (.cons (.v 1) .nil)))) (.raise "BadRow" none .nil) .pass))
def c_starts_of : CS := (.seq (.ite (.cmp .gt (.att (.v 0) 1) (.att (.v 0) 0)) (.ret (.lst .nil)) .pass) (.ret (.rngL (.rng1 (.ite (.att (.v 0) 2) (.att (.v 0) 0) (.bin .add (.bin .sub (.att (.v 0) 0) (.att (.v 0) 1)) (.k (.int 1))))))))
def c_starts : CS := (.seq (.ex (.call 3 (.cons (.v 0) .nil))) (.ret (.bi .tuple (.cons (.call 7 (.cons (.v 0) .nil)) .nil))))
def c_is_start : CS := (.ret (.and (.call 2 (.cons (.v 1) (.cons (.k (.int 0)) (.cons (.bin .sub (.att (.v 0) 0) (.k (.int 1))) .nil)))) (.cmp .isin (.v 1) (.call 7 (.cons (.v 0) .nil)))))
def c_led_place : CS := (.seq (.set (.t (.n 3)) (.bin .mod (.bin .sub (.v 2) (.v 1)) (.att (.v 0) 0))) (.seq (.ite (.cmp .ge (.v 3) (.att (.v 0) 1)) (.ret (.v 2)) .pass) (.ret (.bin .mod (.bin .sub (.bin .sub (.bin .add (.v 1) (.att (.v 0) 1)) (.k (.int 1))) (.v 3)) (.att (.v 0) 0)))))
def c_behind : CS := (.seq (.set (.t (.n 3)) (.bi .list (.cons (.v 1) .nil))) (.seq (.for (.n 4) (.rng1 (.att (.v 0) 1)) (.seq (.set (.t (.n 5)) (.bin .mod (.bin .add (.v 2) (.v 4)) (.att (.v 0) 0))) (.set (.ix (.v 3) (.call 10 (.cons (.v 0) (.cons (.v 2) (.cons (.v 5) .nil))))) (.idx (.v 1) (.v 5))))) (.ret (.bi .tuple (.cons (.v 3) .nil)))))
def c_turned : CS := (.seq (.ex (.call 6 (.cons (.v 0) (.cons (.v 1) .nil)))) (.seq (.ite (.not (.call 9 (.cons (.v 0) (.cons (.v 2) .nil)))) (.raise "BadStart" none .nil) .pass) (.ret (.call 11 (.cons (.v 0) (.cons (.v 1) (.cons (.v 2) .nil)))))))
def c_p_law_hand : CS := (.seq (.set (.t (.n 1)) (.comp (.seq (.sl (.v 0) .none (.some (.k (.int 63))))) (.n 2) [2] .none (.bi .abs (.cons (.bi .int (.cons (.v 2) .nil)) .nil)))) (.ret (.lst (.cons (.v 1) (.cons (.k (.int 0)) (.cons (.k (.int 0)) (.cons (.bin .add (.k (.int 67)) (.bin .mul (.k (.int 5)) (.bi .len (.cons (.v 1) .nil)))) (.cons (.k (.int 0)) .nil))))))))
def c_p_law_any : CS := (.ret (.idx (.v 1) (.call 14 (.cons (.v 0) (.cons (.bi .len (.cons (.v 1) .nil)) .nil)))))
def c_p_law_mixed : CS := (.seq (.par [2, 3] (.cons (.bi .list (.cons (.v 1) .nil)) (.cons (.lst .nil) .nil))) (.seq (.while (.cmp .gt (.bi .len (.cons (.v 2) .nil)) (.k (.int 0))) (.ex (.mt .append (.v 3) (.cons (.mt .popAt (.v 2) (.cons (.call 14 (.cons (.v 0) (.cons (.bi .len (.cons (.v 2) .nil)) .nil))) .nil)) .nil)))) (.ret (.v 3))))
def c_p_law_same : CS := (.seq (.ite (.isi (.v 1) [.tup, .lst]) (.seq (.ite (.or (.cmp .ne (.isi (.v 0) [.tup]) (.isi (.v 1) [.tup])) (.not (.isi (.v 0) [.tup, .lst]))) (.ret (.k (.bl false))) .pass) (.ret (.and (.cmp .eq (.bi .len (.cons (.v 0) .nil)) (.bi .len (.cons (.v 1) .nil))) (.bi .all (.cons (.comp (.zip (.v 0) (.v 1)) (.tup (.cons (.n 2) (.cons (.n 3) .nil))) [2, 3] .none (.call 17 (.cons (.v 2) (.cons (.v 3) .nil)))) .nil))))) .pass) (.seq (.ite (.or (.isi (.v 1) [.bool]) (.or (.isi (.v 0) [.bool]) (.or (.cmp .is (.v 1) (.k .non)) (.cmp .is (.v 0) (.k .non))))) (.ret (.and (.cmp .eq (.isi (.v 0) [.bool]) (.isi (.v 1) [.bool])) (.and (.cmp .eq (.cmp .is (.v 0) (.k .non)) (.cmp .is (.v 1) (.k .non))) (.cmp .eq (.v 0) (.v 1))))) .pass) (.ret (.and (.cmp .eq (.isi (.v 0) [.str]) (.isi (.v 1) [.str])) (.and (.isi (.v 0) [.int, .str]) (.cmp .eq (.v 0) (.v 1)))))))
def c_p_law_track : CS := (.seq (.par [2, 3, 4] (.cons (.bin .add (.k (.int 1)) (.call 14 (.cons (.v 0) (.cons (.v 1) .nil)))) (.cons (.call 14 (.cons (.v 0) (.cons (.k (.int 6)) .nil))) (.cons (.cmp .eq (.call 14 (.cons (.v 0) (.cons (.k (.int 2)) .nil))) (.k (.int 1))) .nil)))) (.seq (.ite (.cmp .eq (.v 3) (.k (.int 0))) (.ret (.lst (.cons (.v 2) (.cons (.bin .add (.k (.int 1)) (.call 14 (.cons (.v 0) (.cons (.k (.int 20)) .nil)))) (.cons (.v 4) .nil))))) .pass) (.seq (.ite (.cmp .eq (.v 3) (.k (.int 1))) (.ret (.lst (.cons (.v 2) (.cons (.bi .max2 (.cons (.k (.int 1)) (.cons (.bin .sub (.v 2) (.call 14 (.cons (.v 0) (.cons (.k (.int 2)) .nil)))) .nil))) (.cons (.v 4) .nil))))) .pass) (.seq (.ite (.cmp .eq (.v 3) (.k (.int 2))) (.seq (.set (.t (.n 5)) (.bin .add (.k (.int 3)) (.bin .mul (.k (.int 2)) (.call 14 (.cons (.v 0) (.cons (.bin .fdiv (.bin .sub (.v 1) (.k (.int 3))) (.k (.int 2))) .nil)))))) (.ret (.lst (.cons (.bin .add (.v 5) (.k (.int 2))) (.cons (.v 5) (.cons (.k (.bl false)) .nil)))))) .pass) (.seq (.ite (.cmp .eq (.v 3) (.k (.int 3))) (.seq (.set (.t (.n 5)) (.bin .add (.k (.int 3)) (.bin .mul (.k (.int 2)) (.call 14 (.cons (.v 0) (.cons (.bin .fdiv (.bin .sub (.v 1) (.k (.int 4))) (.k (.int 2))) .nil)))))) (.seq (.set (.t (.n 2)) (.bin .add (.bin .add (.v 5) (.k (.int 3))) (.call 14 (.cons (.v 0) (.cons (.bin .sub (.bin .sub (.v 1) (.v 5)) (.k (.int 2))) .nil))))) (.ret (.lst (.cons (.ite (.v 4) (.bin .sub (.v 2) (.bin .mod (.bi .int (.cons (.v 2) .nil)) (.k (.int 2)))) (.v 2)) (.cons (.v 5) (.cons (.v 4) .nil))))))) .pass) (.seq (.ite (.cmp .eq (.v 3) (.k (.int 4))) (.seq (.set (.t (.n 5)) (.bin .add (.k (.int 2)) (.bin .mul (.k (.int 2)) (.call 14 (.cons (.v 0) (.cons (.bin .fdiv (.bin .sub (.v 1) (.k (.int 2))) (.k (.int 2))) .nil)))))) (.ret (.lst (.cons (.bin .add (.bin .add (.v 5) (.k (.int 2))) (.call 14 (.cons (.v 0) (.cons (.bin .sub (.bin .sub (.v 1) (.v 5)) (.k (.int 1))) .nil)))) (.cons (.v 5) (.cons (.v 4) .nil)))))) .pass) (.seq (.set (.t (.n 2)) (.bin .add (.k (.int 5)) (.bin .mul (.k (.int 2)) (.call 14 (.cons (.v 0) (.cons (.bin .fdiv (.bin .sub (.v 1) (.k (.int 3))) (.k (.int 2))) .nil)))))) (.ret (.lst (.cons (.v 2) (.cons (.bin .add (.k (.int 2)) (.call 14 (.cons (.v 0) (.cons (.bin .sub (.v 2) (.k (.int 3))) .nil)))) (.cons (.k (.bl true)) .nil))))))))))))
def c_p_law_row : CS := (.seq (.set (.t (.tup (.cons (.n 2) (.cons (.n 3) .nil)))) (.tup (.cons (.bin .add (.k (.int 1)) (.call 14 (.cons (.v 0) (.cons (.k (.int 5)) .nil)))) (.cons (.call 14 (.cons (.v 0) (.cons (.k (.int 5)) .nil))) .nil)))) (.seq (.set (.t (.n 4)) (.call 14 (.cons (.v 0) (.cons (.bin .sub (.k (.int 100)) (.bin .mul (.v 2) (.bin .sub (.v 1) (.k (.int 1))))) .nil)))) (.seq (.set (.t (.n 5)) (.call 16 (.cons (.v 0) (.cons (.comp (.rng1 (.v 1)) (.n 7) [7] .none (.bin .add (.v 4) (.bin .mul (.v 2) (.v 7)))) .nil)))) (.seq (.ite (.cmp .eq (.v 3) (.k (.int 1))) (.seq (.set (.t (.n 6)) (.sl (.v 5) .none (.some (.bin .add (.k (.int 2)) (.call 14 (.cons (.v 0) (.cons (.k (.int 2)) .nil))))))) (.set (.t (.n 5)) (.comp (.rng1 (.v 1)) (.n 7) [7] .none (.call 15 (.cons (.v 0) (.cons (.v 6) .nil)))))) .pass) (.seq (.ite (.cmp .eq (.v 3) (.k (.int 2))) (.set (.ix (.v 5) (.call 14 (.cons (.v 0) (.cons (.v 1) .nil)))) (.idx (.v 5) (.call 14 (.cons (.v 0) (.cons (.v 1) .nil))))) .pass) (.seq (.ite (.and (.cmp .eq (.v 3) (.k (.int 3))) (.cmp .gt (.v 1) (.k (.int 2)))) (.seq (.set (.t (.n 7)) (.call 14 (.cons (.v 0) (.cons (.bin .sub (.v 1) (.k (.int 2))) .nil)))) (.set (.ix (.v 5) (.bin .add (.v 7) (.k (.int 2)))) (.idx (.v 5) (.v 7)))) .pass) (.ret (.bi .tuple (.cons (.v 5) .nil)))))))))
def c_p_law_starts : CS := (.seq (.set (.t (.tup (.cons (.n 1) (.cons (.n 2) (.cons (.n 3) .nil))))) (.v 0)) (.seq (.ite (.cmp .gt (.v 2) (.v 1)) (.ret (.lst .nil)) .pass) (.ret (.ite (.v 3) (.rngL (.rng1 (.v 1))) (.rngL (.rng1 (.bin .add (.bin .sub (.v 1) (.v 2)) (.k (.int 1)))))))))
def c_p_law_behind : CS := (.seq (.set (.t (.tup (.cons (.n 3) (.cons (.n 4) (.cons (.n 5) .nil))))) (.v 0)) (.seq (.set (.t (.n 6)) (.bi .list (.cons (.v 1) .nil))) (.seq (.for (.n 7) (.rng1 (.bin .fdiv (.v 4) (.k (.int 2)))) (.seq (.par [8, 9] (.cons (.bin .mod (.bi .int (.cons (.bin .add (.v 2) (.v 7)) .nil)) (.v 3)) (.cons (.bin .mod (.bi .int (.cons (.bin .sub (.bin .sub (.bin .add (.v 2) (.v 4)) (.k (.int 1))) (.v 7)) .nil)) (.v 3)) .nil))) (.set (.ix2 (.v 6) (.v 8) (.v 6) (.v 9)) (.tup (.cons (.idx (.v 6) (.v 9)) (.cons (.idx (.v 6) (.v 8)) .nil)))))) (.ret (.bi .tuple (.cons (.v 6) .nil))))))
end Rf
set_option Elab.async false
set_option linter.all false
set_option maxRecDepth 100000
/-! Tracks, rows, starts. -/
namespace Rf
open PySem

def row (r : List Int) : D := .tup (r.map .int)
theorem lts_ints (n : Nat) : ∀ r : List Int, D.lts n (r.map .int) = true
  | [] => rfl
  | i :: r => by simp only [List.map_cons, D.lts, D.lt, lts_ints n r, Bool.and_self]
theorem lt_row (n : Nat) (r : List Int) : D.lt n (row r) = true := lts_ints n r
theorem gc_row (n : Nat) (r : List Int) (S : Store) : gc n (row r) S = (row r, S.take n) := gc_lt (lt_row n r)
@[simp] theorem gcR_row (n : Nat) (r : List Int) (S : Store) : gcR n (some (.ok (row r) S)) = some (.ok (row r) (S.take n)) := gcR_lt (lt_row n r)
@[simp] theorem take_app (S T : Store) : (S ++ T).take S.length = S := by simp
theorem blsOf_map {α : Type} (f : α → Bool) : ∀ l : List α, blsOf (l.map fun x => .bl (f x)) = some (l.map f)
  | [] => rfl
  | x :: r => by simp only [List.map_cons, blsOf, blsOf_map f r, Option.map_some]
section
variable {Ph : Nat → Option FD}
/-- within, of what is no reference -/
theorem within_ok (h1 : Ph 1 = some fdInteger) (h2 : Ph 2 = some fdWithin) {k : Nat} (hk : 2 ≤ k) (d : D) (lo hi : Int) (S : Store) (hd : intOk S d = true) : run Ph k 2 [d, .int lo, .int hi] S = some (.ok (.bl (within d lo hi)) S) := by
  obtain ⟨j, rfl⟩ : ∃ j, k = j + 2 := ⟨k - 2, by omega⟩
  exact run_within h1 h2 j d lo hi S hd
theorem check_track_ok (h3 : Ph 3 = some ⟨1, 1, c_check_track⟩) {k : Nat} (n l : Int) (r : Bool) (S : Store) : run Ph (k + 1) 3 [.trk n l r] S = some (.ok .non S) := by
  rw [run_fn' (by decide) h3 _ rfl]
  simp [c_check_track, exec, ev, evg, isTys, isTy, atEnd]
def isRow (r : List Int) : Bool := r.all fun x => decide (0 ≤ x) && decide (x ≤ 99)
theorem take_one {S : Store} {o : O} : (S ++ [o]).take (S.length + 1) = S ++ [o] := List.take_of_length_le (by simp)
theorem gcR_one_bl {S : Store} {o : O} {b : Bool} : gcR (S.length + 1) (some (.ok (.bl b) (S ++ [o]))) = some (.ok (.bl b) (S ++ [o])) := by rw [gcR_bl, take_one]
theorem gc_bl' (n : Nat) (b : Bool) (S : Store) : gc n (.bl b) S = (.bl b, S.take n) := gc_lt rfl
theorem gc_int (n : Nat) (i : Int) (S : Store) : gc n (.int i) S = (.int i, S.take n) := gc_lt rfl
theorem gc_non (n : Nat) (S : Store) : gc n .non S = (.non, S.take n) := gc_lt rfl
/-- are_things of a tuple without references -/
theorem are_things_ok (h1 : Ph 1 = some fdInteger) (h2 : Ph 2 = some fdWithin) (h4 : Ph 4 = some ⟨1, 2, c_are_things⟩) {k : Nat} (hk : 2 ≤ k) (xs : List D) (hx : ∀ x ∈ xs, ∀ S, intOk S x = true) (hl : xs.length ≤ maxLen) (S : Store) :
    run Ph (k + 1) 4 [.tup xs] S = some (.ok (.bl (xs.all fun x => within x 0 99)) S) := by
  rw [run_at (env := [some (.tup xs), none]) h4 S]
  have e4 := ev_map (cl := run Ph k) (ex := none) (it := .seq (.v 0)) (tg := .n 1) (own := [1]) (elt := .call 2 (.cons (.v 1) (.cons (.k (.int 0)) (.cons (.k (.int 99)) .nil)))) (f := fun x => .bl (within x 0 99)) (evI_tup (env := [some (.tup xs), none]) (S := S) (e := .v 0) rfl) hl (fun x hm acc => by
      refine ⟨[some (.tup xs), some x], by simp [setG, setT, wipe], ?_, rfl, rfl⟩
      rw [e_call (es_cons (e_v rfl) (es_cons e_k (es_cons e_k es_nil))), within_ok h1 h2 hk x 0 99 _ (hx x hm _), gcR_one_bl]) (fun _ => rfl)
  have e2 : bAll (.ref S.length) (S ++ [.lst (xs.map fun x => .bl (within x 0 99))]) = some (.bl (xs.all fun x => within x 0 99), S ++ [.lst (xs.map fun x => .bl (within x 0 99))]) := by
    unfold bAll lstOf
    simp [blsOf_map, List.all_map]
  have e5 := (e_and_t (e_isi (k := true) (ts := [.tup]) (e_v (cl := run Ph k) (ex := none) (env := [some (.tup xs), none]) (S := S) (i := 0) rfl) rfl)).trans (e_bi (f := .all) (es_cons e4 es_nil) e2)
  rw [c_are_things, x_ret e5, atEnd_rt, gc_bl', gc_bl', take_app, take_self]
/-- rows of ints -/
theorem row_things (h1 : Ph 1 = some fdInteger) (h2 : Ph 2 = some fdWithin) (h4 : Ph 4 = some ⟨1, 2, c_are_things⟩) {k : Nat} (hk : 2 ≤ k) {r : List Int} (hr : isRow r = true) (hl : r.length ≤ maxLen) (S : Store) : run Ph (k + 1) 4 [row r] S = some (.ok (.bl true) S) := by
  rw [row, are_things_ok h1 h2 h4 hk _ (fun x hx S => by obtain ⟨i, _, rfl⟩ := List.mem_map.mp hx; rfl) (by simpa using hl)]
  have : ((r.map D.int).all fun x => within x 0 99) = true := by
    rw [List.all_map]
    exact hr
  rw [this]
theorem fits_ok (h1 : Ph 1 = some fdInteger) (h2 : Ph 2 = some fdWithin) (h4 : Ph 4 = some ⟨1, 2, c_are_things⟩) (h5 : Ph 5 = some ⟨2, 2, c_fits_track⟩) {k : Nat} (hk : 3 ≤ k) {r : List Int} (hr : isRow r = true) (hl : r.length ≤ maxLen) (l : Int) (q : Bool) (S : Store) :
    run Ph (k + 1) 5 [.trk r.length l q, row r] S = some (.ok (.bl true) S) := by
  obtain ⟨j, rfl⟩ : ∃ j, k = j + 1 := ⟨k - 1, by omega⟩
  rw [run_at (env := [some (.trk r.length l q), some (row r)]) h5 S]
  have e1 : ev (run Ph (j + 1)) none (.call 4 (.cons (.v 1) .nil)) [some (.trk r.length l q), some (row r)] S = some (.ok (.bl true) S) := by
    rw [e_call (es_cons (e_v rfl) es_nil), row_things h1 h2 h4 (by omega) hr hl]
  have e2 : ev (run Ph (j + 1)) none (.cmp .eq (.bi .len (.cons (.v 1) .nil)) (.att (.v 0) 0)) [some (.trk r.length l q), some (row r)] S = some (.ok (.bl true) S) := by
    refine e_cmp (e_bi (d := .int r.length) (es_cons (e_v rfl) es_nil) ?_) (e_att (d := .int r.length) (e_v rfl) rfl) ?_
    · simp [builtin, un1, bLen, seqOf, row]
    · simp [cmpop, res, res0, D.dat, D.shp, D.eqv]
  rw [c_fits_track, x_ret ((e_and_t e1).trans e2), atEnd_rt, gc_bl', gc_bl', take_self, take_self]
theorem check_row_ok (h1 : Ph 1 = some fdInteger) (h2 : Ph 2 = some fdWithin) (h3 : Ph 3 = some ⟨1, 1, c_check_track⟩) (h4 : Ph 4 = some ⟨1, 2, c_are_things⟩) (h5 : Ph 5 = some ⟨2, 2, c_fits_track⟩) (h6 : Ph 6 = some ⟨2, 2, c_check_row⟩) {k : Nat} (hk : 4 ≤ k) {r : List Int} (hr : isRow r = true) (hl : r.length ≤ maxLen) (l : Int) (q : Bool) (S : Store) :
    run Ph (k + 1) 6 [.trk r.length l q, row r] S = some (.ok .non S) := by
  obtain ⟨j, rfl⟩ : ∃ j, k = j + 1 := ⟨k - 1, by omega⟩
  rw [run_at (env := [some (.trk r.length l q), some (row r)]) h6 S]
  have e1 : ev (run Ph (j + 1)) none (.call 3 (.cons (.v 0) .nil)) [some (.trk r.length l q), some (row r)] S = some (.ok .non S) := by
    rw [e_call (es_cons (e_v rfl) es_nil), check_track_ok h3]
  have e2 : ev (run Ph (j + 1)) none (.not (.call 5 (.cons (.v 0) (.cons (.v 1) .nil)))) [some (.trk r.length l q), some (row r)] S = some (.ok (.bl false) S) := by
    refine e_not (k := true) ?_
    rw [e_call (es_cons (e_v rfl) (es_cons (e_v rfl) es_nil)), fits_ok h1 h2 h4 h5 (by omega) hr hl]
  rw [c_check_row, x_seq (x_ex e1), gc_non, take_self, x_ite_f e2, take_self, x_pass, atEnd_nx, take_self]
/-! ### starts -/
/-- the places where a turn may begin -/
def startsN (n l : Int) (q : Bool) : Nat := if n < l then 0 else if q then n.toNat else (n - l + 1).toNat
def startsL (n l : Int) (q : Bool) : List D := rangeD 0 1 (startsN n l q)
theorem starts_of_ok (h7 : Ph 7 = some ⟨1, 1, c_starts_of⟩) {k : Nat} {n l : Int} {q : Bool} (hn : 0 ≤ n ∧ n ≤ 20) (hl : 0 ≤ l ∧ l ≤ 20) (S : Store) : run Ph (k + 1) 7 [.trk n l q] S = some (.ok (.ref S.length) (S ++ [.lst (startsL n l q)])) := by
  rw [run_at (env := [some (.trk n l q)]) h7 S]
  have v : ∀ S, ev (run Ph k) none (.v 0) [some (.trk n l q)] S = some (.ok (.trk n l q) S) := fun S => e_v rfl
  have e1 : ev (run Ph k) none (.cmp .gt (.att (.v 0) 1) (.att (.v 0) 0)) [some (.trk n l q)] S = some (.ok (.bl (decide (n < l))) S) := e_cmp (e_att (v S) rfl) (e_att (v S) rfl) rfl
  have mx : maxLen = 1000000 := rfl
  by_cases h : n < l
  · have e2 : ev (run Ph k) none (.lst .nil) [some (.trk n l q)] S = some (.ok (.ref S.length) (S ++ [.lst []])) := e_lst es_nil (newL_ok (Nat.zero_le _))
    have hs : startsL n l q = [] := by simp [startsL, startsN, h, rangeD]
    rw [decide_eq_true h] at e1
    rw [c_starts_of, x_seq_rt (env := [some (.trk n l q)]) (d := .ref S.length) (S1 := S ++ [.lst []]) (by
      rw [x_ite_t e1, take_self, x_ret e2]
      have := gcR_new (S := S) (o := .lst []) rfl
      have g : gc S.length (.ref S.length) (S ++ [O.lst []]) = (.ref S.length, S ++ [.lst []]) := by unfold gc; simp [D.lt, O.lt, D.lts]
      rw [g]), atEnd_rt, hs]
    have g : gc S.length (.ref S.length) (S ++ [O.lst []]) = (.ref S.length, S ++ [.lst []]) := by unfold gc; simp [D.lt, O.lt, D.lts]
    rw [g]
  · rw [decide_eq_false h] at e1
    have g : ∀ xs : List D, D.lts S.length xs = true → gc S.length (.ref S.length) (S ++ [O.lst xs]) = (.ref S.length, S ++ [.lst xs]) := fun xs hx => by unfold gc; simp [D.lt, O.lt, hx]
    have hr : ∀ m, D.lts S.length (rangeD 0 1 m) = true := fun m => by
      unfold rangeD
      generalize List.range m = ys
      induction ys with
      | nil => rfl
      | cons y ys ih => simp only [List.map_cons, D.lts, D.lt, ih, Bool.and_self]
    have e3 : ev (run Ph k) none (.ite (.att (.v 0) 2) (.att (.v 0) 0) (.bin .add (.bin .sub (.att (.v 0) 0) (.att (.v 0) 1)) (.k (.int 1)))) [some (.trk n l q)] S = some (.ok (.int (if q then n else n - l + 1)) S) := by
      have c0 : ev (run Ph k) none (.att (.v 0) 2) [some (.trk n l q)] S = some (.ok (.bl q) S) := e_att (v S) rfl
      cases q with
      | true => exact (e_ite_t c0).trans (e_att (v S) rfl)
      | false => exact (e_ite_f c0).trans (e_bin (e_bin (e_att (v S) rfl) (e_att (v S) rfl) rfl) e_k rfl)
    have e4 := e_rng1L (cl := run Ph k) (ex := none) e3 (by cases q <;> simp [okR] <;> omega) (by cases q <;> simp <;> omega)
    have hs : rangeD 0 1 (if q then n else n - l + 1).toNat = startsL n l q := by
      unfold startsL startsN
      rw [if_neg h]
      cases q <;> rfl
    rw [hs] at e4
    rw [c_starts_of, x_seq (env1 := [some (.trk n l q)]) (S1 := S) (by rw [x_ite_f e1, take_self, x_pass]), x_ret e4, atEnd_rt, g (startsL n l q) (hr _), g (startsL n l q) (hr _)]
end
end Rf
set_option Elab.async false
set_option linter.all false
set_option maxRecDepth 100000
/-! Turns. -/
namespace Rf
open PySem

theorem for_range {body : Env → Store → Out} {tg : CT} {lo : Int} {L : Nat} (P : Nat → Env → Store → Prop)
    (step : ∀ i env S, i < L → P i env S → ∃ env1 env2 S2, setG tg (.int (lo + i)) env S = some env1 ∧ body env1 S = some (.nx env2, S2) ∧ P (i + 1) env2 S2) {env : Env} {S : Store} (h0 : P 0 env S) :
    ∃ env' S', forGo body (rangeD lo 1 L) [] tg env S = some (.nx env', S') ∧ P L env' S' := by
  obtain ⟨env', S', e, i, h1, h2, h3⟩ := for_ind (body := body) (tg := tg) (p := []) (fun xs env S => ∃ i, xs = (rangeD lo 1 L).drop i ∧ i ≤ L ∧ P i env S) (fun _ _ _ _ => rfl) (fun x xs env S ⟨i, e1, e2, e3⟩ => by
    have hl : (rangeD lo 1 L).length = L := by simp [rangeD]
    have hi : i < L := by
      have := congrArg List.length e1
      simp [hl] at this
      omega
    have e4 : (rangeD lo 1 L).drop i = (.int (lo + i)) :: (rangeD lo 1 L).drop (i + 1) := by
      rw [List.drop_eq_getElem_cons (by rw [hl]; exact hi)]
      congr 1
      simp [rangeD]
    rw [e4] at e1
    cases e1
    obtain ⟨env1, env2, S2, g1, g2, g3⟩ := step i env S hi e3
    exact ⟨env1, env2, S2, g1, g2, i + 1, rfl, hi, g3⟩) (rangeD lo 1 L) env S ⟨0, by simp, Nat.zero_le _, h0⟩
  have hi : i = L := by
    have := congrArg List.length h1
    simp [rangeD] at this
    omega
  subst hi
  exact ⟨env', S', e, h3⟩
theorem lts_range (n : Nat) (lo c : Int) (m : Nat) : D.lts n (rangeD lo c m) = true := by
  unfold rangeD
  generalize List.range m = ys
  induction ys with
  | nil => rfl
  | cons y ys ih => simp only [List.map_cons, D.lts, D.lt, ih, Bool.and_self]
theorem shps_range (k : Nat) (lo c : Int) (m : Nat) : D.shps k (rangeD lo c m) = true := by
  unfold rangeD
  generalize List.range m = ys
  induction ys with
  | nil => cases k <;> rfl
  | cons y ys ih => cases k <;> (simp only [List.map_cons, D.shps, D.shp, Bool.true_and]; exact ih)
theorem hasIn_range (i lo : Int) (m : Nat) : hasIn (.int i) (rangeD lo 1 m) = (decide (lo ≤ i) && decide (i < lo + m)) := by
  unfold hasIn rangeD
  rw [List.any_map]
  apply Bool.eq_iff_iff.mpr
  simp only [List.any_eq_true, List.mem_range, Function.comp, D.eqv, beq_iff_eq, Bool.and_eq_true, decide_eq_true_eq]
  constructor
  · rintro ⟨j, hj, e⟩
    omega
  · intro h
    exact ⟨(i - lo).toNat, by omega, by omega⟩
theorem gc_new {S : Store} {xs : List D} (h : D.lts S.length xs = true) : gc S.length (.ref S.length) (S ++ [O.lst xs]) = (.ref S.length, S ++ [.lst xs]) := by
  unfold gc
  simp [D.lt, O.lt, h]
def isStartB (n l : Int) (q : Bool) (d : D) : Bool := match d with
  | .int i => decide (0 ≤ i) && decide (i < startsN n l q)
  | _ => false
theorem startsN_le {n l : Int} {q : Bool} (hn : 0 ≤ n) (hl : 1 ≤ l) : (startsN n l q : Int) ≤ n := by
  unfold startsN
  split
  · exact hn
  · split <;> omega
section
variable {Ph : Nat → Option FD} {k : Nat} {n l : Int} {q : Bool} {S : Store}
theorem starts_ok (h3 : Ph 3 = some ⟨1, 1, c_check_track⟩) (h7 : Ph 7 = some ⟨1, 1, c_starts_of⟩) (h8 : Ph 8 = some ⟨1, 1, c_starts⟩) (hk : 1 ≤ k) (hn : 0 ≤ n ∧ n ≤ 20) (hl : 0 ≤ l ∧ l ≤ 20) : run Ph (k + 1) 8 [.trk n l q] S = some (.ok (.tup (startsL n l q)) S) := by
  obtain ⟨j, rfl⟩ : ∃ j, k = j + 1 := ⟨k - 1, by omega⟩
  rw [run_at (env := [some (.trk n l q)]) h8 S]
  have e1 : ev (run Ph (j + 1)) none (.call 3 (.cons (.v 0) .nil)) [some (.trk n l q)] S = some (.ok .non S) := by
    rw [e_call (es_cons (e_v rfl) es_nil), check_track_ok h3]
  have e2 : ev (run Ph (j + 1)) none (.call 7 (.cons (.v 0) .nil)) [some (.trk n l q)] S = some (.ok (.ref S.length) (S ++ [.lst (startsL n l q)])) := by
    rw [e_call (es_cons (e_v rfl) es_nil), starts_of_ok h7 hn hl]
  have e3 : ev (run Ph (j + 1)) none (.bi .tuple (.cons (.call 7 (.cons (.v 0) .nil)) .nil)) [some (.trk n l q)] S = some (.ok (.tup (startsL n l q)) (S ++ [.lst (startsL n l q)])) :=
    e_bi (es_cons e2 es_nil) (by simp [builtin, un1, bTuple, lstOf])
  have g : ∀ T, gc S.length (.tup (startsL n l q)) T = (.tup (startsL n l q), T.take S.length) := fun T => gc_lt (lts_range _ _ _ _)
  rw [c_starts, x_seq (x_ex e1), gc_non, take_self, x_ret e3, atEnd_rt, g, g, take_app, take_self]
theorem is_start_ok (h1 : Ph 1 = some fdInteger) (h2 : Ph 2 = some fdWithin) (h7 : Ph 7 = some ⟨1, 1, c_starts_of⟩) (h9 : Ph 9 = some ⟨2, 2, c_is_start⟩) (hk : 2 ≤ k) (hn : 1 ≤ n ∧ n ≤ 20) (hl : 1 ≤ l ∧ l ≤ 20) (d : D) (hd : ∀ S, intOk S d = true) :
    run Ph (k + 1) 9 [.trk n l q, d] S = some (.ok (.bl (isStartB n l q d)) S) := by
  obtain ⟨j, rfl⟩ : ∃ j, k = j + 1 := ⟨k - 1, by omega⟩
  rw [run_at (env := [some (.trk n l q), some d]) h9 S]
  have v0 : ∀ S, ev (run Ph (j + 1)) none (.v 0) [some (.trk n l q), some d] S = some (.ok (.trk n l q) S) := fun S => e_v rfl
  have v1 : ∀ S, ev (run Ph (j + 1)) none (.v 1) [some (.trk n l q), some d] S = some (.ok d S) := fun S => e_v rfl
  have e1 : ev (run Ph (j + 1)) none (.call 2 (.cons (.v 1) (.cons (.k (.int 0)) (.cons (.bin .sub (.att (.v 0) 0) (.k (.int 1))) .nil)))) [some (.trk n l q), some d] S = some (.ok (.bl (within d 0 (n - 1))) S) := by
    rw [e_call (es_cons (v1 S) (es_cons e_k (es_cons (e_bin (e_att (v0 S) rfl) e_k rfl) es_nil))), within_ok h1 h2 (by omega) d 0 (n - 1) S (hd S)]
  have e2 : ev (run Ph (j + 1)) none (.call 7 (.cons (.v 0) .nil)) [some (.trk n l q), some d] S = some (.ok (.ref S.length) (S ++ [.lst (startsL n l q)])) := by
    rw [e_call (es_cons (v0 S) es_nil), starts_of_ok h7 ⟨by omega, hn.2⟩ ⟨by omega, hl.2⟩]
  have hN := startsN_le (q := q) (show 0 ≤ n by omega) hl.1
  cases hw : within d 0 (n - 1) with
  | false =>
    rw [hw] at e1
    have hb : isStartB n l q d = false := by
      cases d with
      | int i =>
        simp only [within, Bool.and_eq_false_iff, decide_eq_false_iff_not] at hw
        simp only [isStartB, Bool.and_eq_false_iff, decide_eq_false_iff_not]
        omega
      | _ => rfl
    rw [c_is_start, x_ret (e_and_f e1), atEnd_rt, gc_bl', gc_bl', take_self, take_self, hb]
  | true =>
    rw [hw] at e1
    have hi : ∃ i, d = .int i := by cases d <;> first | exact ⟨_, rfl⟩ | cases hw
    obtain ⟨i, rfl⟩ := hi
    have hin : cmpop .isin (.int i) (.ref S.length) (S ++ [O.lst (startsL n l q)]) = some (.bl (isStartB n l q (.int i))) := by
      have r1 : res (S ++ [O.lst (startsL n l q)]) (.ref S.length) = some (.lst (startsL n l q)) := by
        have : res0 (S ++ [O.lst (startsL n l q)]) (.ref S.length) = .lst (startsL n l q) := by simp [res0]
        unfold res
        rw [this]
        have : D.dat (.lst (startsL n l q)) = true := shps_range 7 _ _ _
        rw [if_pos this]
      have r2 : res (S ++ [O.lst (startsL n l q)]) (.int i) = some (.int i) := rfl
      show (inop _ _ _).map D.bl = _
      unfold inop
      rw [r1, r2]
      simp only [Option.map_some]
      rw [startsL, hasIn_range]
      simp [isStartB]
    have e3 := (e_and_t e1).trans (e_cmp (o := .isin) (v1 S) e2 hin)
    rw [c_is_start, x_ret e3, atEnd_rt, gc_bl', gc_bl', take_app, take_self]
theorem b_mod {a b : Int} {S : Store} (h : 0 < b) : binop .mod (.int a) (.int b) S = some (.int (a % b), S) := by
  simp only [binop, decide_eq_true h, if_true]
/-- where a place's thing goes -/
def ledF (n l s p : Int) : Int := if l ≤ (p - s) % n then p else (s + l - 1 - (p - s) % n) % n
theorem led_ok (h10 : Ph 10 = some ⟨3, 4, c_led_place⟩) (hn : 1 ≤ n) (s p : Int) : run Ph (k + 1) 10 [.trk n l q, .int s, .int p] S = some (.ok (.int (ledF n l s p)) S) := by
  rw [run_at (env := [some (.trk n l q), some (.int s), some (.int p), none]) h10 S]
  have hn' : decide (0 < n) = true := by simp; omega
  have e1 : ev (run Ph k) none (.bin .mod (.bin .sub (.v 2) (.v 1)) (.att (.v 0) 0)) [some (.trk n l q), some (.int s), some (.int p), none] S = some (.ok (.int ((p - s) % n)) S) :=
    e_bin (e_bin (e_v rfl) (e_v rfl) rfl) (e_att (e_v rfl) rfl) (b_mod (by omega))
  have x1 := x_set (t := .n 3) e1 (env1 := [some (.trk n l q), some (.int s), some (.int p), some (.int ((p - s) % n))]) rfl
  rw [gc_int, take_self] at x1
  have e2 : ev (run Ph k) none (.cmp .ge (.v 3) (.att (.v 0) 1)) [some (.trk n l q), some (.int s), some (.int p), some (.int ((p - s) % n))] S = some (.ok (.bl (decide (l ≤ (p - s) % n))) S) := e_cmp (e_v rfl) (e_att (e_v rfl) rfl) rfl
  rw [c_led_place, x_seq x1]
  by_cases h : l ≤ (p - s) % n
  · rw [decide_eq_true h] at e2
    rw [x_seq_rt (by rw [x_ite_t e2, take_self, x_ret (e_v rfl), gc_int, take_self]), atEnd_rt, gc_int, take_self]
    simp [ledF, h]
  · rw [decide_eq_false h] at e2
    rw [x_seq (by rw [x_ite_f e2, take_self, x_pass]), x_ret (e_bin (e_bin (e_bin (e_bin (e_v rfl) (e_att (e_v rfl) rfl) rfl) e_k rfl) (e_v rfl) rfl) (e_att (e_v rfl) rfl) (b_mod (by omega))), gc_int, take_self, atEnd_rt, gc_int, take_self]
    rw [ledF, if_neg h]
end
end Rf
set_option Elab.async false
set_option linter.all false
set_option maxRecDepth 100000
/-! A turn, as the program does it. -/
namespace Rf
open PySem

def behS (n l s : Int) (r : List Int) : Nat → List Int
  | 0 => r
  | i + 1 => (behS n l s r i).set (ledF n l s ((s + i) % n)).toNat (r.getD ((s + i) % n).toNat 0)
theorem behS_length (n l s : Int) (r : List Int) : ∀ i, (behS n l s r i).length = r.length
  | 0 => rfl
  | i + 1 => by simp only [behS, List.length_set, behS_length n l s r i]
theorem index_ints {r : List Int} {p : Int} {S : Store} (h0 : 0 ≤ p) (h1 : p < r.length) : index (row r) (.int p) S = some (.int (r.getD p.toNat 0)) := by
  have hl : p.toNat < r.length := by omega
  unfold index seqOf ixOf row
  simp [h0, h1, List.getElem?_eq_getElem hl]
theorem index_ref_ints {r : List Int} {p : Int} {S : Store} {h : Nat} (e : S[h]? = some (.lst (r.map .int))) (h0 : 0 ≤ p) (h1 : p < r.length) : index (.ref h) (.int p) S = some (.int (r.getD p.toNat 0)) := by
  have hl : p.toNat < r.length := by omega
  have e' : seqOf S (.ref h) = some (r.map .int) := by simp only [seqOf, e]
  unfold index
  rw [e']
  unfold ixOf
  simp [h0, h1, List.getElem?_eq_getElem hl]
theorem set_last {S : Store} {ys : List Int} {j x : Int} (h0 : 0 ≤ j) (h1 : j < ys.length) : setIndex (.ref S.length) (.int j) (.int x) (S ++ [O.lst (ys.map .int)]) = some (S ++ [O.lst ((ys.set j.toNat x).map .int)]) := by
  have hl : j.toNat < ys.length := by omega
  unfold setIndex
  simp only [frz]
  have e' : mutL (.ref S.length) (S ++ [O.lst (ys.map .int)]) = some (S.length, ys.map .int) := by simp [mutL]
  rw [e']
  unfold ixOf
  simp [h0, h1, D.lt, List.map_set]
theorem led_range {n l s p : Int} (hn : 1 ≤ n) (h0 : 0 ≤ p) (h1 : p < n) : 0 ≤ ledF n l s p ∧ ledF n l s p < n := by
  unfold ledF
  split
  · exact ⟨h0, h1⟩
  · exact ⟨Int.emod_nonneg _ (by omega), Int.emod_lt_of_pos _ (by omega)⟩
section
variable {Ph : Nat → Option FD} {k : Nat} {n l : Int} {q : Bool} {S : Store}
theorem behind_ok (h10 : Ph 10 = some ⟨3, 4, c_led_place⟩) (h11 : Ph 11 = some ⟨3, 6, c_behind⟩) (hk : 1 ≤ k) (hl : 0 ≤ l ∧ l ≤ 20) (s : Int) {r : List Int} (hr : (r.length : Int) = n) (hn : 1 ≤ n ∧ n ≤ 20) :
    run Ph (k + 1) 11 [.trk n l q, row r, .int s] S = some (.ok (row (behS n l s r l.toNat)) S) := by
  obtain ⟨j, rfl⟩ : ∃ j, k = j + 1 := ⟨k - 1, by omega⟩
  rw [run_at (env := [some (.trk n l q), some (row r), some (.int s), none, none, none]) h11 S]
  have mx : maxLen = 1000000 := rfl
  have e1 : ev (run Ph (j + 1)) none (.bi .list (.cons (.v 1) .nil)) [some (.trk n l q), some (row r), some (.int s), none, none, none] S = some (.ok (.ref S.length) (S ++ [.lst (r.map .int)])) :=
    e_bi (es_cons (e_v rfl) es_nil) (by
      show bList (row r) S = _
      unfold bList seqOf row
      exact newL_ok (by simp; omega))
  have x1 := x_set (t := .n 3) e1 (env1 := [some (.trk n l q), some (row r), some (.int s), some (.ref S.length), none, none]) (by rw [gc_new (lts_ints _ _)]; rfl)
  rw [gc_new (lts_ints _ _)] at x1
  have e2 : evI (run Ph (j + 1)) none (.rng1 (.att (.v 0) 1)) [some (.trk n l q), some (row r), some (.int s), some (.ref S.length), none, none] (S ++ [.lst (r.map .int)]) = some (.ok (rangeD 0 1 l.toNat, []) (S ++ [.lst (r.map .int)])) :=
    evI_rng1 (e_att (e_v rfl) rfl) (by simp [okR]; omega)
  obtain ⟨env', S', x2, x4, x5, rfl, rfl⟩ := for_range (lo := 0) (L := l.toNat) (tg := .n 4) (body := fun env S => exec (run Ph (j + 1)) none (.seq (.set (.t (.n 5)) (.bin .mod (.bin .add (.v 2) (.v 4)) (.att (.v 0) 0))) (.set (.ix (.v 3) (.call 10 (.cons (.v 0) (.cons (.v 2) (.cons (.v 5) .nil))))) (.idx (.v 1) (.v 5)))) env S)
    (fun i env T => ∃ x4 x5, env = [some (.trk n l q), some (row r), some (.int s), some (.ref S.length), x4, x5] ∧ T = S ++ [.lst ((behS n l s r i).map .int)])
    (fun i env T hi ⟨x4, x5, he, hT⟩ => by
      subst he hT
      have hp0 := Int.emod_nonneg (s + i) (show n ≠ 0 by omega)
      have hp1 := Int.emod_lt_of_pos (s + i) (show 0 < n by omega)
      have y1 : ev (run Ph (j + 1)) none (.bin .mod (.bin .add (.v 2) (.v 4)) (.att (.v 0) 0)) [some (.trk n l q), some (row r), some (.int s), some (.ref S.length), some (.int (0 + (i : Nat))), x5] (S ++ [.lst ((behS n l s r i).map .int)]) = some (.ok (.int ((s + i) % n)) (S ++ [.lst ((behS n l s r i).map .int)])) := by
        rw [Int.zero_add]
        exact e_bin (e_bin (e_v rfl) (e_v rfl) rfl) (e_att (e_v rfl) rfl) (b_mod (by omega))
      have z1 := x_set (t := .n 5) y1 (env1 := [some (.trk n l q), some (row r), some (.int s), some (.ref S.length), some (.int (0 + (i : Nat))), some (.int ((s + i) % n))]) rfl
      rw [gc_int, take_self] at z1
      have y2 : ev (run Ph (j + 1)) none (.idx (.v 1) (.v 5)) [some (.trk n l q), some (row r), some (.int s), some (.ref S.length), some (.int (0 + (i : Nat))), some (.int ((s + i) % n))] (S ++ [.lst ((behS n l s r i).map .int)]) = some (.ok (.int (r.getD ((s + i) % n).toNat 0)) (S ++ [.lst ((behS n l s r i).map .int)])) :=
        e_idx (e_v rfl) (e_v rfl) (index_ints hp0 (by omega))
      have lr := led_range (l := l) (s := s) hn.1 hp0 hp1
      have z2 := x_ix (a := .v 3) (b := .call 10 (.cons (.v 0) (.cons (.v 2) (.cons (.v 5) .nil)))) y2 (x := .ref S.length) (y := .int (ledF n l s ((s + i) % n))) (S2 := S ++ [.lst ((behS n l s r i).map .int)]) (S3 := S ++ [.lst ((behS n l s r i).map .int)]) (S4 := S ++ [.lst ((behS n l s r (i + 1)).map .int)])
        (by rw [gc_int, take_self]; exact e_v rfl) (by rw [e_call (es_cons (e_v rfl) (es_cons (e_v rfl) (es_cons (e_v rfl) es_nil))), led_ok h10 hn.1]) (by
          rw [gc_int]
          exact set_last lr.1 (by rw [behS_length]; omega))
      exact ⟨[some (.trk n l q), some (row r), some (.int s), some (.ref S.length), some (.int (0 + (i : Nat))), x5], _, _, rfl, (x_seq z1).trans z2, _, _, rfl, rfl⟩) (env := [some (.trk n l q), some (row r), some (.int s), some (.ref S.length), none, none]) (S := S ++ [.lst (r.map .int)]) ⟨none, none, rfl, rfl⟩
  have e3 : ev (run Ph (j + 1)) none (.bi .tuple (.cons (.v 3) .nil)) [some (.trk n l q), some (row r), some (.int s), some (.ref S.length), x4, x5] (S ++ [.lst ((behS n l s r l.toNat).map .int)]) = some (.ok (row (behS n l s r l.toNat)) (S ++ [.lst ((behS n l s r l.toNat).map .int)])) :=
    e_bi (es_cons (e_v rfl) es_nil) (by simp [builtin, un1, bTuple, lstOf, row])
  rw [c_behind, x_seq x1, x_seq (by rw [x_for e2, x2]), x_ret e3, atEnd_rt, gc_row, gc_row, take_self, take_app]
theorem turned_ok (h1 : Ph 1 = some fdInteger) (h2 : Ph 2 = some fdWithin) (h3 : Ph 3 = some ⟨1, 1, c_check_track⟩) (h4 : Ph 4 = some ⟨1, 2, c_are_things⟩) (h5 : Ph 5 = some ⟨2, 2, c_fits_track⟩) (h6 : Ph 6 = some ⟨2, 2, c_check_row⟩) (h7 : Ph 7 = some ⟨1, 1, c_starts_of⟩) (h9 : Ph 9 = some ⟨2, 2, c_is_start⟩)
    (h10 : Ph 10 = some ⟨3, 4, c_led_place⟩) (h11 : Ph 11 = some ⟨3, 6, c_behind⟩) (h12 : Ph 12 = some ⟨3, 3, c_turned⟩) (hk : 5 ≤ k) (hl : 1 ≤ l ∧ l ≤ 20) {r : List Int} (hrow : isRow r = true) (hr : (r.length : Int) = n) (hn : 1 ≤ n ∧ n ≤ 20) (d : D) (hd : ∀ S, intOk S d = true) :
    run Ph (k + 1) 12 [.trk n l q, row r, d] S = (match d with
      | .int s => if isStartB n l q d then some (.ok (row (behS n l s r l.toNat)) S) else some (.ex ⟨"BadStart", none⟩ S)
      | _ => some (.ex ⟨"BadStart", none⟩ S)) := by
  obtain ⟨j, rfl⟩ : ∃ j, k = j + 1 := ⟨k - 1, by omega⟩
  rw [run_at (env := [some (.trk n l q), some (row r), some d]) h12 S]
  have mx : maxLen = 1000000 := rfl
  have e1 : ev (run Ph (j + 1)) none (.call 6 (.cons (.v 0) (.cons (.v 1) .nil))) [some (.trk n l q), some (row r), some d] S = some (.ok .non S) := by
    subst hr
    rw [e_call (es_cons (e_v rfl) (es_cons (e_v rfl) es_nil)), check_row_ok h1 h2 h3 h4 h5 h6 (by omega) hrow (by omega)]
  have e2 : ev (run Ph (j + 1)) none (.not (.call 9 (.cons (.v 0) (.cons (.v 2) .nil)))) [some (.trk n l q), some (row r), some d] S = some (.ok (.bl (!isStartB n l q d)) S) := by
    refine e_not ?_
    rw [e_call (es_cons (e_v rfl) (es_cons (e_v rfl) es_nil)), is_start_ok h1 h2 h7 h9 (by omega) hn hl d hd]
  rw [c_turned, x_seq (x_ex e1), gc_non, take_self]
  cases hb : isStartB n l q d with
  | false =>
    rw [hb] at e2
    have z : atEnd S.length (exec (run Ph (j + 1)) none (.seq (.ite (.not (.call 9 (.cons (.v 0) (.cons (.v 2) .nil)))) (.raise "BadStart" none .nil) .pass) (.ret (.call 11 (.cons (.v 0) (.cons (.v 1) (.cons (.v 2) .nil)))))) [some (.trk n l q), some (row r), some d] S) = some (.ex ⟨"BadStart", none⟩ S) := by
      rw [x_seq_xc (by rw [x_ite_t e2, take_self, x_raise0]), atEnd_xc, take_self]
    rw [z]
    cases d <;> rfl
  | true =>
    rw [hb] at e2
    have hi : ∃ s, d = .int s := by cases d <;> first | exact ⟨_, rfl⟩ | cases hb
    obtain ⟨s, rfl⟩ := hi
    have e3 : ev (run Ph (j + 1)) none (.call 11 (.cons (.v 0) (.cons (.v 1) (.cons (.v 2) .nil)))) [some (.trk n l q), some (row r), some (.int s)] S = some (.ok (row (behS n l s r l.toNat)) S) := by
      rw [e_call (es_cons (e_v rfl) (es_cons (e_v rfl) (es_cons (e_v rfl) es_nil))), behind_ok h10 h11 (by omega) ⟨by omega, hl.2⟩ s hr hn]
    rw [x_seq (by rw [x_ite_f e2, take_self, x_pass]), x_ret e3, atEnd_rt, gc_row, gc_row, take_self, take_self]
    simp [hb]
end
end Rf
set_option Elab.async false
set_option linter.all false
set_option maxRecDepth 100000
/-! One of some; some in a drawn order. -/
namespace Rf
open PySem

theorem HOk.lt {S : Store} {h : Nat} (e : HOk S h) : h < S.length := by
  obtain ⟨cs, a, b, c, d, e, _⟩ := e
  exact (List.getElem?_eq_some_iff.mp e).1
theorem HOk.app {S T : Store} {h : Nat} (e : HOk S h) : HOk (S ++ T) h := by
  have hl := e.lt
  obtain ⟨cs, a, b, c, d, e, r⟩ := e
  exact ⟨cs, a, b, c, d, by rw [List.getElem?_append_left hl]; exact e, r⟩
/-- the hand below new objects -/
theorem HR.below {S T S' : Store} {h : Nat} (hl : h < S.length) (r : HR h (S ++ T) S') : ∃ S1, S' = S1 ++ T ∧ HR h S S1 := by
  obtain ⟨⟨o, rfl⟩, cs, a, b, c, d, e, q⟩ := r
  refine ⟨S.set h o, by rw [List.set_append_left _ _ hl], ⟨o, rfl⟩, cs, a, b, c, d, ?_, q⟩
  rw [List.set_append_left _ _ hl, List.getElem?_append_left (by simpa using hl)] at e
  exact e
theorem set_app0 {S : Store} {a b c : O} : (S ++ [a, b]).set S.length c = S ++ [c, b] := by
  rw [List.set_append_right _ _ (Nat.le_refl _)]
  simp
theorem set_app1 {S : Store} {a b c : O} : (S ++ [a, b]).set (S.length + 1) c = S ++ [a, c] := by
  rw [List.set_append_right _ _ (by omega)]
  simp
theorem get_app0 {S : Store} {a b : O} : (S ++ [a, b])[S.length]? = some a := by simp
theorem get_app1 {S : Store} {a b : O} : (S ++ [a, b])[S.length + 1]? = some b := by
  rw [List.getElem?_append_right (by omega)]
  simp
theorem seqOf_HR {S S' : Store} {h : Nat} {x : D} (r : HR h S S') (hx : x ≠ .ref h) : seqOf S' x = seqOf S x := by
  cases x with
  | ref i =>
    have : h ≠ i := fun e => hx (by rw [e])
    simp only [seqOf, r.get this]
  | _ => rfl
section
variable {Ph : Nat → Option FD} {k : Nat} {S : Store} {h : Nat}
theorem any_ok (h14 : Ph 14 = some ⟨2, 5, c_p_law_draw⟩) (h15 : Ph 15 = some ⟨2, 2, c_p_law_any⟩) (hk : 1 ≤ k) (hH : HOk S h) {x : D} {xs : List D} (hx : x ≠ .ref h) (hs : seqOf S x = some xs) (h0 : 0 < xs.length) (hl : xs.length ≤ maxLen) (h0' : D.lts 0 xs = true) (hni : ∀ s, x ≠ .str s) :
    ∃ d S', run Ph (k + 1) 15 [.ref h, x] S = some (.ok d S') ∧ d ∈ xs ∧ HR h S S' := by
  obtain ⟨j, rfl⟩ : ∃ j, k = j + 1 := ⟨k - 1, by omega⟩
  rw [run_at (env := [some (.ref h), some x]) h15 S]
  have mx : maxLen = 1000000 := rfl
  have e1 : ev (run Ph (j + 1)) none (.bi .len (.cons (.v 1) .nil)) [some (.ref h), some x] S = some (.ok (.int xs.length) S) :=
    e_bi (es_cons (e_v rfl) es_nil) (by
      show bLen x S = _
      unfold bLen
      split
      · exact absurd rfl (hni _)
      · rw [hs]; rfl)
  obtain ⟨r, S1, e2, r0, r1, hr⟩ := draw_ok (k := j) h14 hH (many := xs.length) (by omega) (by omega)
  have hlt : r.toNat < xs.length := by omega
  have e3 : index x (.int r) S1 = some xs[r.toNat] := by
    unfold index
    simp only [seqOf_HR hr hx, hs]
    unfold ixOf
    simp [r0, r1, List.getElem?_eq_getElem hlt]
  have e4 : ev (run Ph (j + 1)) none (.idx (.v 1) (.call 14 (.cons (.v 0) (.cons (.bi .len (.cons (.v 1) .nil)) .nil)))) [some (.ref h), some x] S = some (.ok xs[r.toNat] S1) :=
    e_idx (e_v rfl) (by rw [e_call (es_cons (e_v rfl) (es_cons e1 es_nil)), e2]) e3
  have hd : ∀ m, D.lt m xs[r.toNat] = true := fun m => by
    have : ∀ (ys : List D), D.lts 0 ys = true → ∀ y ∈ ys, D.lt 0 y = true := fun ys => by
      induction ys with
      | nil => intro _ y hy; cases hy
      | cons z ys ih =>
        intro hz y hy
        simp only [D.lts, Bool.and_eq_true] at hz
        rcases List.mem_cons.mp hy with rfl | hy
        · exact hz.1
        · exact ih hz.2 y hy
    exact D.lt_of (Nat.zero_le _) (this _ h0' _ (List.getElem_mem hlt))
  refine ⟨xs[r.toNat], S1, ?_, List.getElem_mem hlt, hr⟩
  rw [c_p_law_any, x_ret e4, atEnd_rt, gc_lt (hd _), gc_lt (hd _), take_ge (Nat.le_of_eq hr.len), take_ge (Nat.le_of_eq hr.len)]
theorem perm_erase {α : Type} : ∀ {l : List α} {i : Nat} (h : i < l.length), (l[i] :: l.eraseIdx i).Perm l
  | x :: l, 0, _ => by simp
  | x :: l, i + 1, h => by
    have h' : i < l.length := by simpa using h
    simp only [List.getElem_cons_succ, List.eraseIdx_cons_succ]
    exact (List.Perm.swap _ _ _).trans ((perm_erase h').cons x)
theorem fuel_big {m : Nat} (h : m ≤ maxLen) : m < FUEL := by
  have mx : maxLen = 1000000 := rfl
  have : FUEL = 2 ^ 64 := rfl
  omega
theorem lts_perm {n : Nat} : ∀ {xs ys : List D}, xs.Perm ys → D.lts n xs = true → D.lts n ys = true := by
  have key : ∀ xs : List D, D.lts n xs = true ↔ ∀ x ∈ xs, D.lt n x = true := fun xs => by
    induction xs with
    | nil => simp [D.lts]
    | cons x xs ih => simp [D.lts, ih]
  intro xs ys p hx
  rw [key] at hx ⊢
  exact fun y hy => hx y (p.mem_iff.mpr hy)
theorem mixed_ok (h14 : Ph 14 = some ⟨2, 5, c_p_law_draw⟩) (h16 : Ph 16 = some ⟨2, 4, c_p_law_mixed⟩) (hk : 1 ≤ k) (hH : HOk S h) {x : D} {xs : List D} (hs : seqOf S x = some xs) (hl : xs.length ≤ maxLen) (h0 : D.lts 0 xs = true) :
    ∃ ys S', run Ph (k + 1) 16 [.ref h, x] S = some (.ok (.ref S'.length) (S' ++ [.lst ys])) ∧ ys.Perm xs ∧ HR h S S' := by
  obtain ⟨j, rfl⟩ : ∃ j, k = j + 1 := ⟨k - 1, by omega⟩
  rw [run_at (env := [some (.ref h), some x, none, none]) h16 S]
  have mx : maxLen = 1000000 := rfl
  have hh := hH.lt
  let n := S.length
  have e1 : evs (run Ph (j + 1)) none (.cons (.bi .list (.cons (.v 1) .nil)) (.cons (.lst .nil) .nil)) [some (.ref h), some x, none, none] S = some (.ok [.ref S.length, .ref (S.length + 1)] (S ++ [.lst xs, .lst []])) := by
    refine es_cons (S1 := S ++ [.lst xs]) (e_bi (es_cons (e_v rfl) es_nil) ?_) (es_cons (S1 := S ++ [.lst xs, .lst []]) (e_lst es_nil ?_) es_nil)
    · show bList x S = _
      unfold bList
      rw [hs]
      exact newL_ok hl
    · show newL [] (S ++ [.lst xs]) = _
      rw [newL_ok (Nat.zero_le _)]
      simp
  have hN : ∀ {S1}, HR h S S1 → S1.length = S.length := fun r => r.len
  obtain ⟨env', T, e2, S1, found, hr, rfl, hp, he⟩ := while_ind (test := fun env S => evg (run Ph (j + 1)) none (.cmp .gt (.bi .len (.cons (.v 2) .nil)) (.k (.int 0))) env S)
    (body := fun env S => exec (run Ph (j + 1)) none (.ex (.mt .append (.v 3) (.cons (.mt .popAt (.v 2) (.cons (.call 14 (.cons (.v 0) (.cons (.bi .len (.cons (.v 2) .nil)) .nil))) .nil)) .nil))) env S)
    (fun m env T => ∃ S1 left found, HR h S S1 ∧ T = S1 ++ [O.lst left, O.lst found] ∧ left.length = m ∧ (found ++ left).Perm xs ∧ env = [some (.ref h), some x, some (.ref S.length), some (.ref (S.length + 1))])
    (fun env T => ∃ S1 found, HR h S S1 ∧ T = S1 ++ [O.lst [], O.lst found] ∧ found.Perm xs ∧ env = [some (.ref h), some x, some (.ref S.length), some (.ref (S.length + 1))])
    (fun m env T ⟨S1, left, found, hr, hT, hm, hp, he⟩ => by
      subst hT he
      have ln := hN hr
      have y1 : ev (run Ph (j + 1)) none (.bi .len (.cons (.v 2) .nil)) [some (.ref h), some x, some (.ref S.length), some (.ref (S.length + 1))] (S1 ++ [O.lst left, O.lst found]) = some (.ok (.int left.length) (S1 ++ [O.lst left, O.lst found])) :=
        e_bi (es_cons (e_v rfl) es_nil) (by
          show bLen (.ref S.length) (S1 ++ [O.lst left, O.lst found]) = _
          rw [← ln]
          simp only [bLen, seqOf, get_app0]
          rfl)
      have y2 : evg (run Ph (j + 1)) none (.cmp .gt (.bi .len (.cons (.v 2) .nil)) (.k (.int 0))) [some (.ref h), some x, some (.ref S.length), some (.ref (S.length + 1))] (S1 ++ [O.lst left, O.lst found]) = some (.ok (.bl (decide (0 < (left.length : Int)))) (S1 ++ [O.lst left, O.lst found])) := by
        unfold evg
        rw [e_cmp (o := .gt) (d := .bl (decide (0 < (left.length : Int)))) y1 e_k rfl, gcR_bl, take_self]
      refine ⟨_, _, y2, fun hb => ?_, fun hb => ?_⟩
      · have hpos : 0 < left.length := by have := of_decide_eq_true hb; omega
        have hlen : left.length ≤ xs.length := by
          have := hp.length_eq
          simp at this
          omega
        have flen : found.length < maxLen := by
          have := hp.length_eq
          simp at this
          omega
        obtain ⟨r, T', d1, r0, r1, hr2⟩ := draw_ok (k := j) h14 (hr.2.app (T := [O.lst left, O.lst found])) (many := left.length) (by omega) (by omega)
        obtain ⟨S2, rfl, hr3⟩ := HR.below (by rw [ln]; exact hh) hr2
        have hr4 := hr.trans hr3
        have ln2 := hN hr4
        have hlt : r.toNat < left.length := by omega
        have h1 : ev (run Ph (j + 1)) none (.mt .popAt (.v 2) (.cons (.call 14 (.cons (.v 0) (.cons (.bi .len (.cons (.v 2) .nil)) .nil))) .nil)) [some (.ref h), some x, some (.ref S.length), some (.ref (S.length + 1))] (S1 ++ [O.lst left, O.lst found]) = some (.ok left[r.toNat] (S2 ++ [O.lst (left.eraseIdx r.toNat), O.lst found])) := by
          refine e_mt (e_v rfl) rfl (es_cons (by rw [e_call (es_cons (e_v rfl) (es_cons y1 es_nil)), d1]) es_nil) ?_
          show mPopAt (.ref S.length) (.int r) (S2 ++ [O.lst left, O.lst found]) = _
          rw [← ln2]
          unfold mPopAt mutL
          simp only [get_app0]
          unfold ixOf
          simp [r0, r1, List.getElem?_eq_getElem hlt]
        have hnr : noRef left[r.toNat] = true ∧ ∀ m, D.lt m left[r.toNat] = true := by
          have hm : left[r.toNat] ∈ xs := hp.mem_iff.mp (List.mem_append_right _ (List.getElem_mem hlt))
          have h2 : D.lt 0 left[r.toNat] = true := by
            have : ∀ (ys : List D), D.lts 0 ys = true → ∀ y ∈ ys, D.lt 0 y = true := fun ys => by
              induction ys with
              | nil => intro _ y hy; cases hy
              | cons z ys ih =>
                intro hz y hy
                simp only [D.lts, Bool.and_eq_true] at hz
                rcases List.mem_cons.mp hy with rfl | hy
                · exact hz.1
                · exact ih hz.2 y hy
            exact this xs h0 _ hm
          exact ⟨by cases hq : left[r.toNat] <;> first | rfl | (rw [hq] at h2; simp [D.lt] at h2), fun m => D.lt_of (Nat.zero_le _) h2⟩
        have h2 : ev (run Ph (j + 1)) none (.mt .append (.v 3) (.cons (.mt .popAt (.v 2) (.cons (.call 14 (.cons (.v 0) (.cons (.bi .len (.cons (.v 2) .nil)) .nil))) .nil)) .nil)) [some (.ref h), some x, some (.ref S.length), some (.ref (S.length + 1))] (S1 ++ [O.lst left, O.lst found]) = some (.ok .non (S2 ++ [O.lst (left.eraseIdx r.toNat), O.lst (found ++ [left[r.toNat]])])) := by
          refine e_mt (e_v rfl) rfl (es_cons h1 es_nil) ?_
          show mAppend (.ref (S.length + 1)) left[r.toNat] (S2 ++ [O.lst (left.eraseIdx r.toNat), O.lst found]) = _
          rw [← ln2]
          unfold mAppend
          rw [frz_no hnr.1]
          unfold mutL
          simp only [get_app1, hnr.2, flen, decide_true, Bool.and_self, if_true, set_app1]
        refine ⟨left.length - 1, _, _, by omega, x_ex h2, S2, left.eraseIdx r.toNat, found ++ [left[r.toNat]], hr4, ?_, by rw [List.length_eraseIdx_of_lt hlt], ?_, rfl⟩
        · rw [gc_non]
          refine take_ge ?_
          simp [ln, ln2]
        · have p1 : (left[r.toNat] :: left.eraseIdx r.toNat).Perm left := perm_erase hlt
          rw [List.append_assoc]
          exact (List.Perm.append_left found p1).trans hp
      · have hz : left = [] := by
          have := of_decide_eq_false hb
          cases left with
          | nil => rfl
          | cons _ _ => simp at this
        subst hz
        exact ⟨S1, found, hr, rfl, by simpa using hp, rfl⟩) xs.length FUEL [some (.ref h), some x, some (.ref S.length), some (.ref (S.length + 1))] (S ++ [.lst xs, .lst []]) (fuel_big hl) ⟨S, xs, [], .refl hH, rfl, rfl, by simp, rfl⟩
  subst he
  have ln := hN hr
  have hlt : D.lts S.length found = true := lts_perm hp.symm (D.lts_of (Nat.zero_le _) h0)
  refine ⟨found, S1, ?_, hp, hr⟩
  rw [c_p_law_mixed, x_seq (x_par (env1 := [some (.ref h), some x, some (.ref S.length), some (.ref (S.length + 1))]) e1 rfl), x_seq (by rw [x_while, e2]), x_ret (e_v rfl), atEnd_rt]
  have g1 : gc (S1 ++ [O.lst [], O.lst found]).length (.ref (S.length + 1)) (S1 ++ [O.lst [], O.lst found]) = (.ref (S.length + 1), S1 ++ [O.lst [], O.lst found]) := by
    rw [gc_lt (by simp [D.lt, ln]), take_self]
  have g2 : gc S.length (.ref (S.length + 1)) (S1 ++ [O.lst [], O.lst found]) = (.ref S1.length, S1 ++ [O.lst found]) := by
    rw [← ln] at hlt ⊢
    unfold gc
    have : D.lt S1.length (.ref (S1.length + 1)) = false := by simp [D.lt]
    simp only [this, Bool.false_eq_true, if_false, get_app1]
    have h3 : O.lt S1.length (.lst found) = true := hlt
    simp [h3]
  rw [g1, g2]
end
end Rf
set_option Elab.async false
set_option linter.all false
set_option maxRecDepth 100000
/-! The law's equality: a thing is the same as itself. -/
namespace Rf
open PySem

mutual
theorem shp_lt : ∀ (k : Nat) (d : D) (n : Nat), D.shp k d = true → D.lt n d = true
  | k, .non, _, _ => rfl
  | k, .bl _, _, _ => rfl
  | k, .int _, _, _ => rfl
  | k, .str _, _, _ => rfl
  | 0, .tup _, _, h => by simp [D.shp] at h
  | 0, .lst _, _, h => by simp [D.shp] at h
  | k + 1, .tup xs, n, h => shps_lt k xs n h
  | k + 1, .lst xs, n, h => shps_lt k xs n h
  | k, .scr _, _, h => by cases k <;> simp [D.shp] at h
  | k, .trk _ _ _, _, h => by cases k <;> simp [D.shp] at h
  | k, .fn _, _, h => by cases k <;> simp [D.shp] at h
  | k, .ref _, _, h => by cases k <;> simp [D.shp] at h
theorem shps_lt : ∀ (k : Nat) (ds : List D) (n : Nat), D.shps k ds = true → D.lts n ds = true
  | _, [], _, _ => rfl
  | k, x :: xs, n, h => by
    simp only [D.shps, Bool.and_eq_true] at h
    simp only [D.lts, shp_lt k x n h.1, shps_lt k xs n h.2, Bool.and_self]
end
theorem shps_mem {k : Nat} : ∀ {ds : List D}, D.shps k ds = true → ∀ d ∈ ds, D.shp k d = true
  | x :: xs, h, d, hd => by
    simp only [D.shps, Bool.and_eq_true] at h
    rcases List.mem_cons.mp hd with rfl | hd
    · exact h.1
    · exact shps_mem h.2 d hd
theorem eqv_refl : ∀ (k : Nat) (d : D), D.shp k d = true → D.eqv d d = true
  | k, .non, _ => rfl
  | k, .bl _, _ => by simp [D.eqv]
  | k, .int _, _ => by simp [D.eqv]
  | k, .str _, _ => by simp [D.eqv]
  | 0, .tup _, h => by simp [D.shp] at h
  | 0, .lst _, h => by simp [D.shp] at h
  | k + 1, .tup xs, h => by
    have : ∀ xs : List D, D.shps k xs = true → D.eqvs xs xs = true := fun xs => by
      induction xs with
      | nil => intro _; rfl
      | cons x xs ih =>
        intro h
        simp only [D.shps, Bool.and_eq_true] at h
        simp only [D.eqvs, eqv_refl k x h.1, ih h.2, Bool.and_self]
    exact this xs h
  | k + 1, .lst xs, h => by
    have : ∀ xs : List D, D.shps k xs = true → D.eqvs xs xs = true := fun xs => by
      induction xs with
      | nil => intro _; rfl
      | cons x xs ih =>
        intro h
        simp only [D.shps, Bool.and_eq_true] at h
        simp only [D.eqvs, eqv_refl k x h.1, ih h.2, Bool.and_self]
    exact this xs h
  | k, .scr _, h => by cases k <;> simp [D.shp] at h
  | k, .trk _ _ _, h => by cases k <;> simp [D.shp] at h
  | k, .fn _, h => by cases k <;> simp [D.shp] at h
  | k, .ref _, h => by cases k <;> simp [D.shp] at h
/-- small data: nested at most m deep, no sequence too long -/
def shortD : Nat → D → Bool
  | 0, .tup _ => false
  | 0, .lst _ => false
  | m + 1, .tup xs => decide (xs.length ≤ maxLen) && xs.all (shortD m)
  | m + 1, .lst xs => decide (xs.length ≤ maxLen) && xs.all (shortD m)
  | _, _ => true
/-- a value, or a list of it by a reference -/
def Is (S : Store) (x d : D) : Prop := x = d ∨ ∃ i xs, x = .ref i ∧ S[i]? = some (.lst xs) ∧ d = .lst xs
theorem Is.app {S T : Store} {x d : D} (h : Is S x d) : Is (S ++ T) x d := by
  rcases h with h | ⟨i, xs, h1, h2, h3⟩
  · exact .inl h
  · exact .inr ⟨i, xs, h1, by rw [List.getElem?_append_left (List.getElem?_eq_some_iff.mp h2).1]; exact h2, h3⟩
/-- a sequence -/
structure Cont (S : Store) (x : D) (t : Bool) (xs : List D) : Prop where
  t1 : isTys S x [.tup] = some t
  t2 : isTys S x [.tup, .lst] = some true
  sq : seqOf S x = some xs
  ln : bLen x S = some (.int xs.length, S)
  l : isL x = !t
  fr : freshR S.length (some (.ok x S)) = some (.ok x S)
  pn : ∀ T, pinned (pinOf x S) (S ++ T) = true
theorem fr_val {S : Store} {x : D} (h : D.lt S.length x = true) : freshR S.length (some (.ok x S)) = some (.ok x S) := by
  unfold freshR
  rw [gcR_lt h, take_self]
  dsimp only
  have : fresh S.length x S = (x, S) := by
    cases x with
    | ref i =>
      have hi : i < S.length := by simpa [D.lt] using h
      unfold fresh
      simp; omega
    | _ => rfl
  rw [this]
theorem Is.cont {S : Store} {x d : D} (h : Is S x d) (m : Nat) (hs : D.shp m d = true) : (∀ xs, d = .tup xs → Cont S x true xs) ∧ ∀ xs, d = .lst xs → Cont S x false xs := by
  refine ⟨fun xs e => ?_, fun xs e => ?_⟩
  · subst e
    rcases h with rfl | ⟨_, _, _, _, z⟩
    · exact ⟨rfl, rfl, rfl, rfl, rfl, fr_val (shp_lt _ _ _ hs), fun _ => rfl⟩
    · cases z
  · subst e
    rcases h with rfl | ⟨i, ys, rfl, e2, e3⟩
    · exact ⟨rfl, rfl, rfl, rfl, rfl, fr_val (shp_lt _ _ _ hs), fun _ => rfl⟩
    · cases e3
      have hi := (List.getElem?_eq_some_iff.mp e2).1
      refine ⟨by simp [isTys, isTy, e2], by simp [isTys, isTy, e2], by simp [seqOf, e2], ?_, rfl, fr_val (by simp [D.lt, hi]), fun T => ?_⟩
      · unfold bLen
        simp [seqOf, e2]
      · have : pinOf (.ref i) S = [(i, .lst xs)] := by simp only [pinOf, e2]
        rw [this]
        simp [pinned, List.getElem?_append_left hi, e2]
section
variable {Ph : Nat → Option FD} {k : Nat}
theorem same_cont (h17 : Ph 17 = some ⟨2, 4, c_p_law_same⟩) {S : Store} {x y : D} {t : Bool} {xs : List D} (cx : Cont S x t xs) (cy : Cont S y t xs) (hl : xs.length ≤ maxLen) (hr : ∀ a ∈ xs, ∀ acc, run Ph k 17 [a, a] (S ++ [.lst acc]) = some (.ok (.bl true) (S ++ [.lst acc]))) :
    run Ph (k + 1) 17 [x, y] S = some (.ok (.bl true) S) := by
  rw [run_at (env := [some x, some y, none, none]) h17 S]
  have v0 : ev (run Ph k) none (.v 0) [some x, some y, none, none] S = some (.ok x S) := e_v rfl
  have v1 : ev (run Ph k) none (.v 1) [some x, some y, none, none] S = some (.ok y S) := e_v rfl
  have e1 := e_isi v1 cy.t2
  have rb : ∀ b : Bool, res S (.bl b) = some (.bl b) := fun b => rfl
  have e2 : ev (run Ph k) none (.or (.cmp .ne (.isi (.v 0) [.tup]) (.isi (.v 1) [.tup])) (.not (.isi (.v 0) [.tup, .lst]))) [some x, some y, none, none] S = some (.ok (.bl false) S) := by
    have a1 : ev (run Ph k) none (.cmp .ne (.isi (.v 0) [.tup]) (.isi (.v 1) [.tup])) [some x, some y, none, none] S = some (.ok (.bl false) S) := e_cmp (e_isi v0 cx.t1) (e_isi v1 cy.t1) (by simp [cmpop, rb, D.eqv])
    exact (e_or_f a1).trans (e_not (k := true) (e_isi v0 cx.t2))
  have e3 : ev (run Ph k) none (.cmp .eq (.bi .len (.cons (.v 0) .nil)) (.bi .len (.cons (.v 1) .nil))) [some x, some y, none, none] S = some (.ok (.bl true) S) :=
    e_cmp (e_bi (es_cons v0 es_nil) cx.ln) (e_bi (es_cons v1 es_nil) cy.ln) (by simp [cmpop, res, res0, D.dat, D.shp, D.eqv])
  have e4 : evI (run Ph k) none (.zip (.v 0) (.v 1)) [some x, some y, none, none] S = some (.ok ((xs.zip xs).map fun p => .tup [p.1, p.2], pinOf x S ++ pinOf y S) S) := by
    simp only [evI, v0, v1, cx.fr, cy.fr, bnd_ok, cx.sq, cy.sq, cx.l, cy.l, beq_self_eq_true, if_true]
  have e5 := ev_map (cl := run Ph k) (ex := none) (tg := .tup (.cons (.n 2) (.cons (.n 3) .nil))) (own := [2, 3]) (elt := .call 17 (.cons (.v 2) (.cons (.v 3) .nil))) (f := fun _ => .bl true) e4 (by simp; omega) (fun p hp acc => by
    obtain ⟨⟨a, b⟩, hab, rfl⟩ := List.mem_map.mp hp
    have hz : ∀ (l : List D) (a b : D), (a, b) ∈ l.zip l → a = b ∧ a ∈ l := fun l => by
      induction l with
      | nil => intro a b h; simp at h
      | cons z l ih =>
        intro a b h
        simp only [List.zip_cons_cons, List.mem_cons, Prod.mk.injEq] at h
        rcases h with ⟨rfl, rfl⟩ | h
        · exact ⟨rfl, by simp⟩
        · obtain ⟨h1, h2⟩ := ih a b h
          exact ⟨h1, by simp [h2]⟩
    obtain ⟨rfl, ha⟩ := hz xs a b hab
    refine ⟨[some x, some y, some a, some a], rfl, ?_, rfl, rfl⟩
    rw [e_call (es_cons (e_v rfl) (es_cons (e_v rfl) es_nil)), hr a ha, gcR_one_bl]) (fun acc => by
      unfold pinned
      rw [List.all_append, Bool.and_eq_true]
      exact ⟨cx.pn _, cy.pn _⟩)
  have e6 : bAll (.ref S.length) (S ++ [.lst (((xs.zip xs).map fun p => D.tup [p.1, p.2]).map fun _ => .bl true)]) = some (.bl true, S ++ [.lst (((xs.zip xs).map fun p => D.tup [p.1, p.2]).map fun _ => .bl true)]) := by
    unfold bAll
    have : lstOf (S ++ [O.lst (((xs.zip xs).map fun p => D.tup [p.1, p.2]).map fun _ => .bl true)]) (.ref S.length) = some (((xs.zip xs).map fun p => D.tup [p.1, p.2]).map fun _ => .bl true) := by simp [lstOf]
    rw [this]
    dsimp only
    rw [blsOf_map (fun _ => true)]
    simp
  have e7 := (e_and_t e3).trans (e_bi (f := .all) (es_cons e5 es_nil) e6)
  rw [c_p_law_same, x_seq_rt (d := .bl true) (S1 := S) (by
    rw [x_ite_t e1, take_self, x_seq (by rw [x_ite_f e2, take_self, x_pass]), x_ret e7, gc_bl', take_app]), atEnd_rt, gc_bl', take_self]
theorem same_flat (h17 : Ph 17 = some ⟨2, 4, c_p_law_same⟩) {S : Store} {d : D} (hd : D.flat d = true) (hs : D.shp 0 d = true) : run Ph (k + 1) 17 [d, d] S = some (.ok (.bl true) S) := by
  rw [run_at (env := [some d, some d, none, none]) h17 S]
  have v0 : ev (run Ph k) none (.v 0) [some d, some d, none, none] S = some (.ok d S) := e_v rfl
  have v1 : ev (run Ph k) none (.v 1) [some d, some d, none, none] S = some (.ok d S) := e_v rfl
  have rb : ∀ b : Bool, res S (.bl b) = some (.bl b) := fun b => rfl
  have hshp : ∀ k, D.shp k d = true := fun k => by
    cases d with
    | str s => simpa [D.shp] using hs
    | non => cases k <;> rfl
    | bl _ => cases k <;> rfl
    | int _ => cases k <;> rfl
    | _ => cases hd
  have rd : res S d = some d := by
    have : res0 S d = d := by cases d <;> first | rfl | cases hd
    unfold res
    rw [this, if_pos (show D.dat d = true from hshp 8)]
  have eqd : cmpop .eq d d S = some (.bl true) := by
    simp only [cmpop, rd, eqv_refl 0 d hs]
  have eqb : ∀ b c : Bool, cmpop .eq (.bl b) (.bl c) S = some (.bl (b == c)) := fun b c => by simp only [cmpop, rb, D.eqv]
  obtain ⟨tb, htb⟩ : ∃ b, isTys S d [.bool] = some b := by cases d <;> first | exact ⟨_, rfl⟩ | cases hd
  obtain ⟨ts, hts⟩ : ∃ b, isTys S d [.str] = some b := by cases d <;> first | exact ⟨_, rfl⟩ | cases hd
  have htl : isTys S d [.tup, .lst] = some false := by cases d <;> first | rfl | cases hd
  have isn : cmpop .is d .non S = some (.bl (decide (d = .non))) := rfl
  have c1 := e_isi v1 htl
  have skip : exec (run Ph k) none c_p_law_same [some d, some d, none, none] S = exec (run Ph k) none (.seq (.ite (.or (.isi (.v 1) [.bool]) (.or (.isi (.v 0) [.bool]) (.or (.cmp .is (.v 1) (.k .non)) (.cmp .is (.v 0) (.k .non))))) (.ret (.and (.cmp .eq (.isi (.v 0) [.bool]) (.isi (.v 1) [.bool])) (.and (.cmp .eq (.cmp .is (.v 0) (.k .non)) (.cmp .is (.v 1) (.k .non))) (.cmp .eq (.v 0) (.v 1))))) .pass) (.ret (.and (.cmp .eq (.isi (.v 0) [.str]) (.isi (.v 1) [.str])) (.and (.isi (.v 0) [.int, .str]) (.cmp .eq (.v 0) (.v 1)))))) [some d, some d, none, none] S := by
    rw [c_p_law_same, x_seq (env1 := [some d, some d, none, none]) (S1 := S) (by rw [x_ite_f c1, take_self, x_pass])]
  rw [skip]
  have b1 : ev (run Ph k) none (.isi (.v 1) [.bool]) [some d, some d, none, none] S = some (.ok (.bl tb) S) := e_isi v1 htb
  have b0 : ev (run Ph k) none (.isi (.v 0) [.bool]) [some d, some d, none, none] S = some (.ok (.bl tb) S) := e_isi v0 htb
  have n1 : ev (run Ph k) none (.cmp .is (.v 1) (.k .non)) [some d, some d, none, none] S = some (.ok (.bl (decide (d = .non))) S) := e_cmp v1 e_k isn
  have n0 : ev (run Ph k) none (.cmp .is (.v 0) (.k .non)) [some d, some d, none, none] S = some (.ok (.bl (decide (d = .non))) S) := e_cmp v0 e_k isn
  have cond : ev (run Ph k) none (.or (.isi (.v 1) [.bool]) (.or (.isi (.v 0) [.bool]) (.or (.cmp .is (.v 1) (.k .non)) (.cmp .is (.v 0) (.k .non))))) [some d, some d, none, none] S = some (.ok (.bl (tb || decide (d = .non))) S) := by
    cases tb with
    | true => exact e_or_t b1
    | false =>
      rw [e_or_f b1, e_or_f b0]
      cases hn : decide (d = .non) with
      | true => rw [hn] at n1; exact e_or_t n1
      | false => rw [hn] at n1 n0; exact (e_or_f n1).trans n0
  cases hc : (tb || decide (d = .non)) with
  | true =>
    rw [hc] at cond
    have r1 : ev (run Ph k) none (.and (.cmp .eq (.isi (.v 0) [.bool]) (.isi (.v 1) [.bool])) (.and (.cmp .eq (.cmp .is (.v 0) (.k .non)) (.cmp .is (.v 1) (.k .non))) (.cmp .eq (.v 0) (.v 1)))) [some d, some d, none, none] S = some (.ok (.bl true) S) := by
      rw [e_and_t (e_cmp b0 b1 (by rw [eqb]; simp)), e_and_t (e_cmp n0 n1 (by rw [eqb]; simp))]
      exact e_cmp v0 v1 eqd
    rw [x_seq_rt (d := .bl true) (S1 := S) (by rw [x_ite_t cond, take_self, x_ret r1, gc_bl', take_self]), atEnd_rt, gc_bl', take_self]
  | false =>
    rw [hc] at cond
    have hti : isTys S d [.int, .str] = some true := by
      cases d with
      | non => simp at hc
      | bl b =>
        have : tb = true := by have := htb; simpa [isTys, isTy] using this.symm
        subst this
        simp at hc
      | int i => rfl
      | str s => rfl
      | _ => cases hd
    have s0 := e_isi v0 hts
    have s1 := e_isi v1 hts
    have r1 : ev (run Ph k) none (.and (.cmp .eq (.isi (.v 0) [.str]) (.isi (.v 1) [.str])) (.and (.isi (.v 0) [.int, .str]) (.cmp .eq (.v 0) (.v 1)))) [some d, some d, none, none] S = some (.ok (.bl true) S) := by
      rw [e_and_t (e_cmp s0 s1 (by rw [eqb]; simp)), e_and_t (e_isi v0 hti)]
      exact e_cmp v0 v1 eqd
    rw [x_seq (env1 := [some d, some d, none, none]) (S1 := S) (by rw [x_ite_f cond, take_self, x_pass]), x_ret r1, gc_bl', take_self, atEnd_rt, gc_bl', take_self]
/-- a thing is the same as itself, also a list by its reference -/
theorem same_ok (h17 : Ph 17 = some ⟨2, 4, c_p_law_same⟩) : ∀ (m : Nat) {S : Store} {x y d : D}, D.shp m d = true → shortD m d = true → Is S x d → Is S y d → run Ph (k + m + 1) 17 [x, y] S = some (.ok (.bl true) S)
  | 0, S, x, y, d, hs, hsh, hx, hy => by
    have hf : D.flat d = true := by cases d <;> first | rfl | (simp [D.shp] at hs)
    have e1 : x = d := by rcases hx with e | ⟨_, _, _, _, rfl⟩; exact e; cases hf
    have e2 : y = d := by rcases hy with e | ⟨_, _, _, _, rfl⟩; exact e; cases hf
    rw [e1, e2]
    exact same_flat h17 hf hs
  | m + 1, S, x, y, d, hs, hsh, hx, hy => by
    have go : ∀ xs, D.shps m xs = true → xs.all (shortD m) = true → ∀ a ∈ xs, ∀ acc, run Ph (k + m + 1) 17 [a, a] (S ++ [.lst acc]) = some (.ok (.bl true) (S ++ [.lst acc])) := fun xs h1 h2 a ha acc =>
      same_ok h17 m (shps_mem h1 a ha) (List.all_eq_true.mp h2 a ha) (.inl rfl) (.inl rfl)
    by_cases hf : D.flat d = true
    · have e1 : x = d := by rcases hx with e | ⟨_, _, _, _, rfl⟩; exact e; cases hf
      have e2 : y = d := by rcases hy with e | ⟨_, _, _, _, rfl⟩; exact e; cases hf
      rw [e1, e2]
      refine same_flat h17 hf ?_
      cases d with
      | str s => exact (show strOk s = true from hs)
      | non => rfl
      | bl _ => rfl
      | int _ => rfl
      | _ => cases hf
    · obtain ⟨a1, a2⟩ := hx.cont _ hs
      obtain ⟨b1, b2⟩ := hy.cont _ hs
      cases d with
      | tup xs =>
        simp only [shortD, Bool.and_eq_true, decide_eq_true_eq] at hsh
        exact same_cont h17 (a1 xs rfl) (b1 xs rfl) hsh.1 (go xs hs hsh.2)
      | lst xs =>
        simp only [shortD, Bool.and_eq_true, decide_eq_true_eq] at hsh
        exact same_cont h17 (a2 xs rfl) (b2 xs rfl) hsh.1 (go xs hs hsh.2)
      | scr _ => simp [D.shp] at hs
      | trk _ _ _ => simp [D.shp] at hs
      | fn _ => simp [D.shp] at hs
      | ref _ => simp [D.shp] at hs
      | _ => exact absurd rfl hf
end
end Rf
set_option Elab.async false
set_option linter.all false
set_option maxRecDepth 100000
/-! More rules; the law's hand, its tracks and starts. -/
namespace Rf
open PySem
section
variable {cl : Calls} {ex : Option Ex} {env env1 : Env} {S S1 S2 S3 : Store} {a b c e : CE} {p q : CS} {d x y : D} {es : CEs} {ds : List D}
theorem x_skip (h : ev cl ex c env S = some (.ok (.bl false) S)) : exec cl ex (.seq (.ite c p .pass) q) env S = exec cl ex q env S := x_seq (by rw [x_ite_f h, take_self, x_pass])
theorem x_into (h : ev cl ex c env S = some (.ok (.bl true) S)) (hp : exec cl ex p env S = some (.rt d, S1)) : exec cl ex (.seq (.ite c p .pass) q) env S = some (.rt d, S1) := x_seq_rt (by rw [x_ite_t h, take_self, hp])
theorem x_thru (h : ev cl ex c env S = some (.ok (.bl true) S)) (hp : exec cl ex p env S = some (.nx env1, S1)) : exec cl ex (.seq (.ite c p .pass) q) env S = exec cl ex q env1 S1 := x_seq (by rw [x_ite_t h, take_self, hp])
theorem x_setv {i : Nat} (h : ev cl ex e env S = some (.ok d S1)) (hl : S1.length = S.length) (hd : D.lt S.length d = true) (hi : i < env.length) : exec cl ex (.set (.t (.n i)) e) env S = some (.nx (env.set i (some d)), S1) := by
  have g : gc S.length d S1 = (d, S1) := by rw [gc_lt hd, take_ge (Nat.le_of_eq hl)]
  rw [x_set h (env1 := env.set i (some d)) (by rw [g]; simp [setG, setT, hi]), g]
theorem x_setn {i : Nat} {xs : List D} (h : ev cl ex e env S = some (.ok (.ref S1.length) (S1 ++ [.lst xs]))) (hl : S1.length = S.length) (hd : D.lts S.length xs = true) (hi : i < env.length) : exec cl ex (.set (.t (.n i)) e) env S = some (.nx (env.set i (some (.ref S.length))), S1 ++ [.lst xs]) := by
  have g : gc S.length (.ref S1.length) (S1 ++ [O.lst xs]) = (.ref S.length, S1 ++ [.lst xs]) := by
    rw [← hl] at hd ⊢
    exact gc_new hd
  rw [x_set h (env1 := env.set i (some (.ref S.length))) (by rw [g]; simp [setG, setT, hi]), g]
theorem e_sl0 {k : Int} (ha : ev cl ex a env S = some (.ok x S1)) (hb : ev cl ex b env S1 = some (.ok (.int k) S2)) (h : slice x none (some k) S2 = some (d, S3)) : ev cl ex (.sl a .none (.some b)) env S = some (.ok d S3) := by
  simp only [ev, evo, ha, hb, bnd_ok, h, lift_some]
theorem e_eqi {i j : Int} (ha : ev cl ex a env S = some (.ok (.int i) S1)) (hb : ev cl ex b env S1 = some (.ok (.int j) S2)) : ev cl ex (.cmp .eq a b) env S = some (.ok (.bl (decide (i = j))) S2) := by
  refine e_cmp ha hb ?_
  have r : ∀ i, res S2 (.int i) = some (.int i) := fun _ => rfl
  simp only [cmpop, r, D.eqv]
  congr 1
end
/-! the hand -/
section
variable {Ph : Nat → Option FD} {k : Nat} {S : Store} {h : Nat}
theorem hand_ok (h13 : Ph 13 = some ⟨1, 3, c_p_law_hand⟩) (ns : List Int) (hl : ns.length ≤ maxLen) : ∃ o, run Ph (k + 1) 13 [.scr ns] S = some (.ok (.ref S.length) (S ++ [o])) ∧ HOk (S ++ [o]) S.length := by
  rw [run_at (env := [some (.scr ns), none, none]) h13 S]
  have mx : maxLen = 1000000 := rfl
  let xs : List Int := ns.take 63
  have cutE : cut (ns.map D.int) none (some 63) = xs.map .int := by
    unfold cut sIx
    simp only [List.length_map, List.drop_zero, Nat.sub_zero, show ¬ ((63 : Int) < 0) by decide, if_false]
    rw [← List.map_take]
    congr 1
    show List.take (min (Int.toNat 63) ns.length) ns = List.take 63 ns
    rw [show (63 : Int).toNat = 63 from rfl, List.take_eq_take_iff]
    omega
  have e1 : evI (run Ph k) none (.seq (.sl (.v 0) .none (.some (.k (.int 63))))) [some (.scr ns), none, none] S = some (.ok (xs.map .int, []) S) := by
    refine evI_new (S1 := S) (e_sl0 (e_v rfl) e_k ?_) rfl (lts_ints _ _)
    show newL (cut (ns.map .int) none (some 63)) S = _
    rw [cutE, newL_ok (by simp [xs]; omega)]
  have e2 := ev_map (cl := run Ph k) (ex := none) (tg := .n 2) (own := [2]) (elt := .bi .abs (.cons (.bi .int (.cons (.v 2) .nil)) .nil)) (f := fun d => match d with
    | .int i => .int (if i < 0 then -i else i)
    | d => d) e1 (by simp [xs]; omega) (fun x hx acc => by
    obtain ⟨i, hi, rfl⟩ := List.mem_map.mp hx
    refine ⟨[some (.scr ns), none, some (.int i)], rfl, ?_, rfl, rfl⟩
    rw [e_bi (f := .abs) (es_cons (e_bi (f := .int) (es_cons (e_v rfl) es_nil) rfl) es_nil) rfl, gcR_int, take_one]) (fun acc => rfl)
  let cs : List Int := xs.map fun i => if i < 0 then -i else i
  have hcs : (xs.map D.int).map (fun d => match d with
    | .int i => D.int (if i < 0 then -i else i)
    | d => d) = cs.map .int := by simp [cs, List.map_map, Function.comp_def]
  rw [hcs] at e2
  have x1 := x_setn (i := 1) e2 rfl (lts_ints _ _) (by simp)
  have lc : cs.length ≤ 63 := by simp [cs, xs]; omega
  have e3 : ev (run Ph k) none (.lst (.cons (.v 1) (.cons (.k (.int 0)) (.cons (.k (.int 0)) (.cons (.bin .add (.k (.int 67)) (.bin .mul (.k (.int 5)) (.bi .len (.cons (.v 1) .nil)))) (.cons (.k (.int 0)) .nil)))))) [some (.scr ns), some (.ref S.length), none] (S ++ [.lst (cs.map .int)]) = some (.ok (.ref (S.length + 1)) (S ++ [.fzl (cs.map .int), hnd cs 0 0 (67 + 5 * cs.length) 0])) := by
    have el : ev (run Ph k) none (.bi .len (.cons (.v 1) .nil)) [some (.scr ns), some (.ref S.length), none] (S ++ [.lst (cs.map .int)]) = some (.ok (.int cs.length) (S ++ [.lst (cs.map .int)])) := e_bi (es_cons (e_v rfl) es_nil) (by
      show bLen (.ref S.length) _ = _
      simp [bLen, seqOf])
    have em : ev (run Ph k) none (.bin .mul (.k (.int 5)) (.bi .len (.cons (.v 1) .nil))) [some (.scr ns), some (.ref S.length), none] (S ++ [.lst (cs.map .int)]) = some (.ok (.int (5 * cs.length)) (S ++ [.lst (cs.map .int)])) := e_bin e_k el (by simp [binop, show small64 5 = true by decide])
    refine e_lst (es_cons (e_v rfl) (es_cons e_k (es_cons e_k (es_cons (e_bin e_k em rfl) (es_cons e_k es_nil))))) ?_
    · have fz : frz (.ref S.length) (S ++ [O.lst (cs.map .int)]) = (.lst (cs.map .int), S ++ [.fzl (cs.map .int)]) := by
        unfold frz
        simp [lts_ints]
      have : frzs [D.ref S.length, .int 0, .int 0, .int (67 + 5 * cs.length), .int 0] (S ++ [O.lst (cs.map .int)]) = ([D.lst (cs.map .int), .int 0, .int 0, .int (67 + 5 * cs.length), .int 0], S ++ [.fzl (cs.map .int)]) := by
        simp only [frzs, fz, frz_no (show noRef (.int _) = true from rfl)]
      rw [this, newL_ok (by simp [maxLen])]
      simp [hnd]
  refine ⟨hnd cs 0 0 (67 + 5 * cs.length) 0, ?_, cs, 0, 0, 67 + 5 * cs.length, 0, by simp, fun x hx => ?_, by omega, by omega, by omega, by omega⟩
  · have g1 : ∀ m, O.lt m (hnd cs 0 0 (67 + 5 * cs.length) 0) = true := fun m => by simp [hnd, O.lt, D.lts, D.lt, lts_ints]
    have g : gc S.length (.ref (S.length + 1)) (S ++ [O.fzl (cs.map .int), hnd cs 0 0 (67 + 5 * cs.length) 0]) = (.ref S.length, S ++ [hnd cs 0 0 (67 + 5 * cs.length) 0]) := by
      unfold gc
      rw [if_neg (by simp [D.lt])]
      simp only [get_app1, g1, if_true]
      rw [List.take_left]
    have g' : gc (S ++ [O.lst (cs.map .int)]).length (.ref (S.length + 1)) (S ++ [O.fzl (cs.map .int), hnd cs 0 0 (67 + 5 * cs.length) 0]) = (.ref (S.length + 1), S ++ [O.fzl (cs.map .int), hnd cs 0 0 (67 + 5 * cs.length) 0]) := by
      unfold gc
      rw [if_neg (by simp [D.lt])]
      simp only [get_app1, g1, if_true]
      have : List.take (S ++ [O.lst (cs.map .int)]).length (S ++ [O.fzl (cs.map .int), hnd cs 0 0 (67 + 5 * cs.length) 0]) = S ++ [O.fzl (cs.map .int)] := by
        rw [show S ++ [O.fzl (cs.map .int), hnd cs 0 0 (67 + 5 * cs.length) 0] = (S ++ [O.fzl (cs.map .int)]) ++ [hnd cs 0 0 (67 + 5 * cs.length) 0] by simp]
        rw [show (S ++ [O.lst (cs.map .int)]).length = (S ++ [O.fzl (cs.map .int)]).length by simp, List.take_left]
      rw [this]
      simp
    rw [c_p_law_hand, x_seq x1]
    show atEnd S.length (exec (run Ph k) none _ [some (.scr ns), some (.ref S.length), none] _) = _
    rw [x_ret e3, atEnd_rt, g', g]
  · obtain ⟨i, hi, rfl⟩ := List.mem_map.mp hx
    show 0 ≤ (if i < 0 then -i else i)
    split <;> omega
/-- a draw within an expression -/
theorem e_draw {ex : Option Ex} {env : Env} {c : CE} {m : Int} (h14 : Ph 14 = some ⟨2, 5, c_p_law_draw⟩) (v0 : env[0]? = some (some (.ref h))) (hH : HOk S h) (em : ev (run Ph (k + 1)) ex c env S = some (.ok (.int m) S)) (h0 : 0 < m) (h1 : m < 1073741824) :
    ∃ r S', ev (run Ph (k + 1)) ex (.call 14 (.cons (.v 0) (.cons c .nil))) env S = some (.ok (.int r) S') ∧ 0 ≤ r ∧ r < m ∧ HR h S S' := by
  obtain ⟨r, S', e1, e2, e3, e4⟩ := draw_ok (k := k) h14 hH h0 h1
  exact ⟨r, S', by rw [e_call (es_cons (e_v v0) (es_cons em es_nil)), e1], e2, e3, e4⟩
theorem HR.ok {S S' : Store} (r : HR h S S') : HOk S' h := r.2
/-- a new list as what a function returns -/
theorem ret_new {cl : Calls} {env : Env} {S0 S1 T : Store} {e : CE} {xs : List D} (h : ev cl none e env T = some (.ok (.ref S1.length) (S1 ++ [.lst xs]))) (hl : S1.length = S0.length) (hT : T.length = S0.length) (hx : D.lts 0 xs = true) : atEnd S0.length (exec cl none (.ret e) env T) = some (.ok (.ref S1.length) (S1 ++ [.lst xs])) := by
  have hx2 : D.lts S1.length xs = true := D.lts_of (Nat.zero_le _) hx
  have g := gc_new hx2
  rw [x_ret h, hT, ← hl, g, atEnd_rt, g]
theorem rt_new {cl : Calls} {env : Env} {S1 T : Store} {e : CE} {xs : List D} (h : ev cl none e env T = some (.ok (.ref S1.length) (S1 ++ [.lst xs]))) (hl : S1.length = T.length) (hx : D.lts 0 xs = true) : exec cl none (.ret e) env T = some (.rt (.ref S1.length), S1 ++ [.lst xs]) := by
  have hx2 : D.lts S1.length xs = true := D.lts_of (Nat.zero_le _) hx
  have g := gc_new hx2
  rw [x_ret h, ← hl, g]
/-- the law's tracks -/
def trkL (n l : Int) (q : Bool) : O := .lst [.int n, .int l, .bl q]
theorem e_lst3 {cl : Calls} {ex : Option Ex} {env : Env} {S1 S2 S3 : Store} {a b c : CE} {n l : Int} {q : Bool} (ha : ev cl ex a env S = some (.ok (.int n) S1)) (hb : ev cl ex b env S1 = some (.ok (.int l) S2)) (hc : ev cl ex c env S2 = some (.ok (.bl q) S3)) : ev cl ex (.lst (.cons a (.cons b (.cons c .nil)))) env S = some (.ok (.ref S3.length) (S3 ++ [trkL n l q])) :=
  e_lst (es_cons ha (es_cons hb (es_cons hc es_nil))) (by
    rw [frzs_no rfl]
    exact newL_ok (by simp [maxLen]))
end
end Rf
namespace Rf
open PySem
section
variable {Ph : Nat → Option FD} {k : Nat} {S : Store} {h : Nat}
theorem rt_trk {cl : Calls} {env : Env} {S1 T : Store} {e : CE} {n l : Int} {q : Bool} (h : ev cl none e env T = some (.ok (.ref S1.length) (S1 ++ [trkL n l q]))) (hl : S1.length = T.length) : exec cl none (.ret e) env T = some (.rt (.ref S1.length), S1 ++ [trkL n l q]) := rt_new h hl rfl
theorem b_half {a : Int} {S : Store} : binop .fdiv (.int a) (.int 2) S = some (.int (a / 2), S) := rfl
theorem b_two {a : Int} {S : Store} : binop .mul (.int 2) (.int a) S = some (.int (2 * a), S) := by simp [binop, show small64 2 = true by decide]
theorem track_ok (h14 : Ph 14 = some ⟨2, 5, c_p_law_draw⟩) (h18 : Ph 18 = some ⟨2, 6, c_p_law_track⟩) (hk : 1 ≤ k) (hH : HOk S h) {m : Int} (hm : 6 ≤ m ∧ m ≤ 20) :
    ∃ n l q S', run Ph (k + 1) 18 [.ref h, .int m] S = some (.ok (.ref S'.length) (S' ++ [trkL n l q])) ∧ (1 ≤ n ∧ n ≤ m) ∧ (1 ≤ l ∧ l ≤ 20) ∧ HR h S S' := by
  obtain ⟨j, rfl⟩ : ∃ j, k = j + 1 := ⟨k - 1, by omega⟩
  rw [run_at (env := [some (.ref h), some (.int m), none, none, none, none]) h18 S]
  obtain ⟨n0, S1, d1, n00, n01, r1⟩ := e_draw (k := j) (ex := none) (env := [some (.ref h), some (.int m), none, none, none, none]) (c := .v 1) h14 rfl hH (e_v rfl) (m := m) (by omega) (by omega)
  obtain ⟨sh, S2, d2, s0, s1, r2⟩ := e_draw (k := j) (ex := none) (env := [some (.ref h), some (.int m), none, none, none, none]) (c := .k (.int 6)) h14 rfl r1.ok e_k (by omega) (by omega)
  obtain ⟨q0, S3, d3, q00, q01, r3⟩ := e_draw (k := j) (ex := none) (env := [some (.ref h), some (.int m), none, none, none, none]) (c := .k (.int 2)) h14 rfl r2.ok e_k (by omega) (by omega)
  have R3 := r1.trans (r2.trans r3)
  have p1 := x_par (cl2 := run Ph (j + 1)) (ex := none) (is := [2, 3, 4]) (env1 := [some (.ref h), some (.int m), some (.int (1 + n0)), some (.int sh), some (.bl (decide (q0 = 1))), none]) (es_cons (e_bin (o := .add) (a := .k (.int 1)) (x := .int 1) e_k d1 rfl) (es_cons d2 (es_cons (e_eqi d3 e_k) es_nil))) rfl
  rw [c_p_law_track, x_seq p1]
  generalize decide (q0 = 1) = q
  have ln3 := R3.len
  -- how it ends
  have fin : ∀ {S' n l q'}, (1 ≤ n ∧ n ≤ m) → (1 ≤ l ∧ l ≤ 20) → HR h S S' → ∀ {p}, exec (run Ph (j + 1)) none p [some (.ref h), some (.int m), some (.int (1 + n0)), some (.int sh), some (.bl q), none] S3 = some (.rt (.ref S'.length), S' ++ [trkL n l q']) →
      ∃ n l q1 S', atEnd S.length (exec (run Ph (j + 1)) none p [some (.ref h), some (.int m), some (.int (1 + n0)), some (.int sh), some (.bl q), none] S3) = some (.ok (.ref S'.length) (S' ++ [trkL n l q1])) ∧ (1 ≤ n ∧ n ≤ m) ∧ (1 ≤ l ∧ l ≤ 20) ∧ HR h S S' := by
    intro S' n l q' hn hl hr p hp
    refine ⟨n, l, q', S', ?_, hn, hl, hr⟩
    rw [hp, atEnd_rt, ← hr.len]
    have g := gc_new (S := S') (xs := [.int n, .int l, .bl q']) rfl
    rw [show trkL n l q' = O.lst [.int n, .int l, .bl q'] from rfl, g]
  have v0 : ∀ {S}, ev (run Ph (j + 1)) none (.v 2) [some (.ref h), some (.int m), some (.int (1 + n0)), some (.int sh), some (.bl q), none] S = some (.ok (.int (1 + n0)) S) := e_v rfl
  have v1 : ∀ {S}, ev (run Ph (j + 1)) none (.v 1) [some (.ref h), some (.int m), some (.int (1 + n0)), some (.int sh), some (.bl q), none] S = some (.ok (.int m) S) := e_v rfl
  have v4 : ∀ {S}, ev (run Ph (j + 1)) none (.v 4) [some (.ref h), some (.int m), some (.int (1 + n0)), some (.int sh), some (.bl q), none] S = some (.ok (.bl q) S) := e_v rfl
  have vs : ∀ i : Int, ev (run Ph (j + 1)) none (.cmp .eq (.v 3) (.k (.int i))) [some (.ref h), some (.int m), some (.int (1 + n0)), some (.int sh), some (.bl q), none] S3 = some (.ok (.bl (decide (sh = i))) S3) := fun i => e_eqi (e_v rfl) e_k
  have w0 : ∀ {S x}, ev (run Ph (j + 1)) none (.v 5) [some (.ref h), some (.int m), some (.int (1 + n0)), some (.int sh), some (.bl q), some (.int x)] S = some (.ok (.int x) S) := e_v rfl
  have w1 : ∀ {S x}, ev (run Ph (j + 1)) none (.v 1) [some (.ref h), some (.int m), some (.int (1 + n0)), some (.int sh), some (.bl q), some (.int x)] S = some (.ok (.int m) S) := e_v rfl
  have w4 : ∀ {S x}, ev (run Ph (j + 1)) none (.v 4) [some (.ref h), some (.int m), some (.int (1 + n0)), some (.int sh), some (.bl q), some (.int x)] S = some (.ok (.bl q) S) := e_v rfl
  by_cases c0 : sh = 0
  · subst c0
    obtain ⟨a, S4, d4, a0, a1, r4⟩ := e_draw (k := j) (ex := none) (env := [some (.ref h), some (.int m), some (.int (1 + n0)), some (.int 0), some (.bl q), none]) (c := .k (.int 20)) h14 rfl r3.ok e_k (by omega) (by omega)
    exact fin (n := 1 + n0) (l := 1 + a) ⟨by omega, by omega⟩ ⟨by omega, by omega⟩ (R3.trans r4) (x_into (vs 0) (rt_trk (e_lst3 v0 (e_bin (o := .add) (x := .int 1) (d := .int (1 + a)) e_k d4 rfl) v4) r4.len))
  have n0' := vs 0
  rw [decide_eq_false c0] at n0'
  rw [x_skip n0']
  by_cases c1 : sh = 1
  · subst c1
    obtain ⟨a, S4, d4, a0, a1, r4⟩ := e_draw (k := j) (ex := none) (env := [some (.ref h), some (.int m), some (.int (1 + n0)), some (.int 1), some (.bl q), none]) (c := .k (.int 2)) h14 rfl r3.ok e_k (by omega) (by omega)
    have e5 : ev (run Ph (j + 1)) none (.bi .max2 (.cons (.k (.int 1)) (.cons (.bin .sub (.v 2) (.call 14 (.cons (.v 0) (.cons (.k (.int 2)) .nil)))) .nil))) [some (.ref h), some (.int m), some (.int (1 + n0)), some (.int 1), some (.bl q), none] S3 = some (.ok (.int (if (1 + n0) - a > 1 then (1 + n0) - a else 1)) S4) :=
      e_bi (f := .max2) (ds := [.int 1, .int ((1 + n0) - a)]) (es_cons e_k (es_cons (e_bin (o := .sub) (d := .int ((1 + n0) - a)) v0 d4 rfl) es_nil)) rfl
    have hb : 1 ≤ (if (1 + n0) - a > 1 then (1 + n0) - a else 1) ∧ (if (1 + n0) - a > 1 then (1 + n0) - a else 1) ≤ 20 := by split <;> omega
    exact fin (n := 1 + n0) ⟨by omega, by omega⟩ hb (R3.trans r4) (x_into (vs 1) (rt_trk (e_lst3 v0 e5 v4) r4.len))
  have n1' := vs 1
  rw [decide_eq_false c1] at n1'
  rw [x_skip n1']
  by_cases c2 : sh = 2
  · subst c2
    obtain ⟨a, S4, d4, a0, a1, r4⟩ := e_draw (k := j) (ex := none) (env := [some (.ref h), some (.int m), some (.int (1 + n0)), some (.int 2), some (.bl q), none]) (c := .bin .fdiv (.bin .sub (.v 1) (.k (.int 3))) (.k (.int 2))) h14 rfl r3.ok (e_bin (e_bin v1 e_k rfl) e_k b_half) (by omega) (by omega)
    have x5 := x_setv (i := 5) (e_bin (o := .add) (a := .k (.int 3)) e_k (e_bin (o := .mul) e_k d4 b_two) rfl) r4.len rfl (by simp)
    refine fin (l := 3 + 2 * a) (n := 3 + 2 * a + 2) ⟨by omega, by omega⟩ ⟨by omega, by omega⟩ (R3.trans r4) (x_into (vs 2) ((x_seq x5).trans (rt_trk (e_lst3 (e_bin (o := .add) w0 e_k rfl) w0 e_k) rfl)))
  have n2' := vs 2
  rw [decide_eq_false c2] at n2'
  rw [x_skip n2']
  by_cases c3 : sh = 3
  · subst c3
    obtain ⟨a, S4, d4, a0, a1, r4⟩ := e_draw (k := j) (ex := none) (env := [some (.ref h), some (.int m), some (.int (1 + n0)), some (.int 3), some (.bl q), none]) (c := .bin .fdiv (.bin .sub (.v 1) (.k (.int 4))) (.k (.int 2))) h14 rfl r3.ok (e_bin (e_bin v1 e_k rfl) e_k b_half) (by omega) (by omega)
    have x5 := x_setv (i := 5) (e_bin (o := .add) (a := .k (.int 3)) e_k (e_bin (o := .mul) e_k d4 b_two) rfl) r4.len rfl (by simp)
    obtain ⟨b, S5, d5, b0, b1, r5⟩ := e_draw (k := j) (ex := none) (env := [some (.ref h), some (.int m), some (.int (1 + n0)), some (.int 3), some (.bl q), some (.int (3 + 2 * a))]) (c := .bin .sub (.bin .sub (.v 1) (.v 5)) (.k (.int 2))) h14 rfl r4.ok (e_bin (e_bin w1 w0 rfl) e_k rfl) (by omega) (by omega)
    have x2 := x_setv (i := 2) (e_bin (o := .add) (a := .bin .add (.v 5) (.k (.int 3))) (e_bin w0 e_k rfl) d5 rfl) r5.len rfl (by simp)
    have u2 : ∀ {S}, ev (run Ph (j + 1)) none (.v 2) [some (.ref h), some (.int m), some (.int (3 + 2 * a + 3 + b)), some (.int 3), some (.bl q), some (.int (3 + 2 * a))] S = some (.ok (.int (3 + 2 * a + 3 + b)) S) := e_v rfl
    have u4 : ∀ {S}, ev (run Ph (j + 1)) none (.v 4) [some (.ref h), some (.int m), some (.int (3 + 2 * a + 3 + b)), some (.int 3), some (.bl q), some (.int (3 + 2 * a))] S = some (.ok (.bl q) S) := e_v rfl
    have u5 : ∀ {S}, ev (run Ph (j + 1)) none (.v 5) [some (.ref h), some (.int m), some (.int (3 + 2 * a + 3 + b)), some (.int 3), some (.bl q), some (.int (3 + 2 * a))] S = some (.ok (.int (3 + 2 * a)) S) := e_v rfl
    have e6 : ev (run Ph (j + 1)) none (.ite (.v 4) (.bin .sub (.v 2) (.bin .mod (.bi .int (.cons (.v 2) .nil)) (.k (.int 2)))) (.v 2)) [some (.ref h), some (.int m), some (.int (3 + 2 * a + 3 + b)), some (.int 3), some (.bl q), some (.int (3 + 2 * a))] S5 = some (.ok (.int (if q then (3 + 2 * a + 3 + b) - (3 + 2 * a + 3 + b) % 2 else 3 + 2 * a + 3 + b)) S5) := by
      cases q with
      | true => exact (e_ite_t u4).trans (e_bin u2 (e_bin (e_bi (f := .int) (es_cons u2 es_nil) rfl) e_k (b_mod (by decide))) rfl)
      | false => exact (e_ite_f u4).trans u2
    refine fin (l := 3 + 2 * a) ?_ ⟨by omega, by omega⟩ (R3.trans (r4.trans r5)) (x_into (vs 3) ((x_seq x5).trans ((x_seq x2).trans (rt_trk (e_lst3 e6 u5 u4) rfl))))
    split <;> omega
  have n3' := vs 3
  rw [decide_eq_false c3] at n3'
  rw [x_skip n3']
  by_cases c4 : sh = 4
  · subst c4
    obtain ⟨a, S4, d4, a0, a1, r4⟩ := e_draw (k := j) (ex := none) (env := [some (.ref h), some (.int m), some (.int (1 + n0)), some (.int 4), some (.bl q), none]) (c := .bin .fdiv (.bin .sub (.v 1) (.k (.int 2))) (.k (.int 2))) h14 rfl r3.ok (e_bin (e_bin v1 e_k rfl) e_k b_half) (by omega) (by omega)
    have x5 := x_setv (i := 5) (e_bin (o := .add) (a := .k (.int 2)) e_k (e_bin (o := .mul) e_k d4 b_two) rfl) r4.len rfl (by simp)
    obtain ⟨b, S5, d5, b0, b1, r5⟩ := e_draw (k := j) (ex := none) (env := [some (.ref h), some (.int m), some (.int (1 + n0)), some (.int 4), some (.bl q), some (.int (2 + 2 * a))]) (c := .bin .sub (.bin .sub (.v 1) (.v 5)) (.k (.int 1))) h14 rfl r4.ok (e_bin (e_bin w1 w0 rfl) e_k rfl) (by omega) (by omega)
    refine fin (l := 2 + 2 * a) (n := 2 + 2 * a + 2 + b) ⟨by omega, by omega⟩ ⟨by omega, by omega⟩ (R3.trans (r4.trans r5)) (x_into (vs 4) ((x_seq x5).trans (rt_trk (e_lst3 (e_bin (o := .add) (e_bin (o := .add) w0 e_k rfl) d5 rfl) w0 w4) r5.len)))
  have n4' := vs 4
  rw [decide_eq_false c4] at n4'
  rw [x_skip n4']
  obtain ⟨a, S4, d4, a0, a1, r4⟩ := e_draw (k := j) (ex := none) (env := [some (.ref h), some (.int m), some (.int (1 + n0)), some (.int sh), some (.bl q), none]) (c := .bin .fdiv (.bin .sub (.v 1) (.k (.int 3))) (.k (.int 2))) h14 rfl r3.ok (e_bin (e_bin v1 e_k rfl) e_k b_half) (by omega) (by omega)
  have x2 := x_setv (i := 2) (e_bin (o := .add) (a := .k (.int 5)) e_k (e_bin (o := .mul) e_k d4 b_two) rfl) r4.len rfl (by simp)
  have u2 : ∀ {S}, ev (run Ph (j + 1)) none (.v 2) [some (.ref h), some (.int m), some (.int (5 + 2 * a)), some (.int sh), some (.bl q), none] S = some (.ok (.int (5 + 2 * a)) S) := e_v rfl
  obtain ⟨b, S5, d5, b0, b1, r5⟩ := e_draw (k := j) (ex := none) (env := [some (.ref h), some (.int m), some (.int (5 + 2 * a)), some (.int sh), some (.bl q), none]) (c := .bin .sub (.v 2) (.k (.int 3))) h14 rfl r4.ok (e_bin u2 e_k rfl) (by omega) (by omega)
  exact fin (n := 5 + 2 * a) (l := 2 + b) ⟨by omega, by omega⟩ ⟨by omega, by omega⟩ (R3.trans (r4.trans r5)) ((x_seq x2).trans (rt_trk (e_lst3 u2 (e_bin (o := .add) e_k d5 rfl) e_k) r5.len))
end
end Rf
set_option Elab.async false
set_option linter.all false
set_option maxRecDepth 100000
/-! A turn's plain law: the swaps are the led places. -/
namespace Rf
open PySem

theorem rot_inv {n s d : Int} (h0 : 0 ≤ d) (h1 : d < n) : ((s + d) % n - s) % n = d := by
  rw [Int.sub_emod, Int.emod_emod_of_dvd _ (Int.dvd_refl n), ← Int.sub_emod, show s + d - s = d by omega, Int.emod_eq_of_lt h0 h1]
theorem rot_rot {n s p : Int} (h0 : 0 ≤ p) (h1 : p < n) : (s + (p - s) % n) % n = p := by
  rw [Int.add_emod, Int.emod_emod_of_dvd _ (Int.dvd_refl n), ← Int.add_emod, show s + (p - s) = p by omega, Int.emod_eq_of_lt h0 h1]
theorem rot_inj {n s d e : Int} (h0 : 0 ≤ d) (h1 : d < n) (h2 : 0 ≤ e) (h3 : e < n) (h : (s + d) % n = (s + e) % n) : d = e := by
  rw [← rot_inv (s := s) h0 h1, ← rot_inv (s := s) h2 h3, h]
theorem rot_in {n s d : Int} (hn : 0 < n) : 0 ≤ (s + d) % n ∧ (s + d) % n < n := ⟨Int.emod_nonneg _ (by omega), Int.emod_lt_of_pos _ hn⟩
/-- the row as seen from the start -/
def seen (n s : Int) (r : List Int) (d : Int) : Int := r.getD ((s + d) % n).toNat 0
theorem seen_ext {n s : Int} {r t : List Int} (hr : (r.length : Int) = n) (ht : (t.length : Int) = n) (h : ∀ d, 0 ≤ d → d < n → seen n s r d = seen n s t d) : r = t := by
  apply List.ext_getElem (by omega)
  intro i h1 h2
  have hi : (i : Int) < n := by omega
  have hn : 0 < n := by omega
  have := h ((i - s) % n) (Int.emod_nonneg _ (by omega)) (Int.emod_lt_of_pos _ hn)
  unfold seen at this
  rw [rot_rot (by omega) hi] at this
  simpa [List.getD_eq_getElem?_getD, h1, h2] using this
theorem seen_set {n s : Int} {r : List Int} (hr : (r.length : Int) = n) {d e x : Int} (h0 : 0 ≤ d) (h1 : d < n) (h2 : 0 ≤ e) (h3 : e < n) : seen n s (r.set ((s + e) % n).toNat x) d = if d = e then x else seen n s r d := by
  have hn : 0 < n := by omega
  obtain ⟨a0, a1⟩ := rot_in (s := s) (d := d) hn
  obtain ⟨b0, b1⟩ := rot_in (s := s) (d := e) hn
  unfold seen
  by_cases hde : d = e
  · subst hde
    rw [if_pos rfl]
    have hl : ((s + d) % n).toNat < r.length := by omega
    simp [List.getD_eq_getElem?_getD, hl]
  · rw [if_neg hde]
    have hne : ((s + e) % n).toNat ≠ ((s + d) % n).toNat := fun z => hde (rot_inj (s := s) h0 h1 h2 h3 (by omega))
    simp only [List.getD_eq_getElem?_getD, List.getElem?_set_ne hne]
theorem led_rot {n l s d : Int} (h0 : 0 ≤ d) (h1 : d < n) : ledF n l s ((s + d) % n) = (s + (if d < l then l - 1 - d else d)) % n := by
  unfold ledF
  rw [rot_inv h0 h1]
  by_cases h : l ≤ d
  · rw [if_pos h, if_neg (by omega)]
  · rw [if_neg h, if_pos (by omega)]
    congr 1
    omega
theorem behS_seen {n l s : Int} {r : List Int} (hr : (r.length : Int) = n) (hl : l ≤ n) : ∀ (i : Nat), (i : Int) ≤ l → ∀ d, 0 ≤ d → d < n → seen n s (behS n l s r i) d = if l - 1 - i < d ∧ d < l then seen n s r (l - 1 - d) else seen n s r d
  | 0, _, d, h0, h1 => by
    rw [if_neg (by omega)]
    rfl
  | i + 1, hi, d, h0, h1 => by
    have hl' : ((behS n l s r i).length : Int) = n := by rw [behS_length]; exact hr
    simp only [behS]
    rw [led_rot (by omega) (by omega), if_pos (show (i : Int) < l by omega), seen_set hl' h0 h1 (by omega) (by omega), behS_seen hr hl i (by omega) d h0 h1]
    by_cases hd : d = l - 1 - i
    · rw [if_pos hd, if_pos (by omega)]
      subst hd
      unfold seen
      rw [show l - 1 - (l - 1 - (i : Int)) = i by omega]
    · rw [if_neg hd]
      by_cases hc : l - 1 - (i : Int) < d ∧ d < l
      · rw [if_pos hc, if_pos (by omega)]
      · rw [if_neg hc, if_neg (by omega)]
/-- the law's swaps -/
def swapS (n l s : Int) (r : List Int) : Nat → List Int
  | 0 => r
  | i + 1 => ((swapS n l s r i).set ((s + i) % n).toNat ((swapS n l s r i).getD ((s + l - 1 - i) % n).toNat 0)).set ((s + l - 1 - i) % n).toNat ((swapS n l s r i).getD ((s + i) % n).toNat 0)
theorem swapS_length (n l s : Int) (r : List Int) : ∀ i, (swapS n l s r i).length = r.length
  | 0 => rfl
  | i + 1 => by simp only [swapS, List.length_set, swapS_length n l s r i]
theorem swapS_seen {n l s : Int} {r : List Int} (hr : (r.length : Int) = n) (hl : l ≤ n) : ∀ (i : Nat), 2 * (i : Int) ≤ l → ∀ d, 0 ≤ d → d < n → seen n s (swapS n l s r i) d = if d < i ∨ (l - 1 - i < d ∧ d < l) then seen n s r (l - 1 - d) else seen n s r d
  | 0, _, d, h0, h1 => by
    rw [if_neg (by omega)]
    rfl
  | i + 1, hi, d, h0, h1 => by
    have hl' : ((swapS n l s r i).length : Int) = n := by rw [swapS_length]; exact hr
    have ha := swapS_seen (s := s) hr hl i (by omega) i (by omega) (by omega)
    have hb := swapS_seen (s := s) hr hl i (by omega) (l - 1 - i) (by omega) (by omega)
    have hd' := swapS_seen (s := s) hr hl i (by omega) d h0 h1
    rw [if_neg (by omega)] at ha hb
    have e1 : s + l - 1 - (i : Int) = s + (l - 1 - i) := by omega
    simp only [swapS, e1]
    have ga : (swapS n l s r i).getD ((s + (i : Int)) % n).toNat 0 = seen n s r i := ha
    have gb : (swapS n l s r i).getD ((s + (l - 1 - (i : Int))) % n).toNat 0 = seen n s r (l - 1 - i) := hb
    rw [ga, gb, seen_set (by rw [List.length_set]; exact hl') h0 h1 (by omega) (by omega), seen_set hl' h0 h1 (by omega) (by omega), hd']
    by_cases c1 : d = l - 1 - i
    · rw [if_pos c1, if_pos (by omega)]
      congr 1
      omega
    · rw [if_neg c1]
      by_cases c2 : d = i
      · rw [if_pos c2, if_pos (by omega)]
        congr 1
        omega
      · rw [if_neg c2]
        by_cases c3 : d < i ∨ (l - 1 - (i : Int) < d ∧ d < l)
        · rw [if_pos c3, if_pos (by omega)]
        · rw [if_neg c3, if_neg (by omega)]
theorem swap_beh {n l s : Int} {r : List Int} (hr : (r.length : Int) = n) (h0 : 0 ≤ l) (hl : l ≤ n) : swapS n l s r (l / 2).toNat = behS n l s r l.toNat := by
  refine seen_ext (n := n) (s := s) (by rw [swapS_length]; exact hr) (by rw [behS_length]; exact hr) fun d d0 d1 => ?_
  rw [swapS_seen hr hl _ (by omega) d d0 d1, behS_seen hr hl _ (by omega) d d0 d1]
  by_cases c : d < l
  · rw [if_pos (show l - 1 - (l.toNat : Int) < d ∧ d < l by omega)]
    by_cases c2 : d < ((l / 2).toNat : Int) ∨ (l - 1 - ((l / 2).toNat : Int) < d ∧ d < l)
    · rw [if_pos c2]
    · rw [if_neg c2]
      congr 1
      omega
  · rw [if_neg (by omega), if_neg (by omega)]
/-- twice the same turn: nothing is turned -/
theorem beh_beh {n l s : Int} {r : List Int} (hr : (r.length : Int) = n) (h0 : 0 ≤ l) (hl : l ≤ n) : behS n l s (behS n l s r l.toNat) l.toNat = r := by
  have hb : ((behS n l s r l.toNat).length : Int) = n := by rw [behS_length]; exact hr
  refine seen_ext (n := n) (s := s) (by rw [behS_length]; exact hb) hr fun d d0 d1 => ?_
  rw [behS_seen hb hl _ (by omega) d d0 d1, behS_seen hr hl _ (by omega) d d0 d1]
  by_cases c : d < l
  · rw [if_pos (by omega), behS_seen hr hl _ (by omega) _ (by omega) (by omega), if_pos (by omega)]
    congr 1
    omega
  · rw [if_neg (by omega), if_neg (by omega)]
theorem isRow_set {r : List Int} (h : isRow r = true) {i : Nat} {x : Int} (hx : 0 ≤ x ∧ x ≤ 99) : isRow (r.set i x) = true := by
  unfold isRow at h ⊢
  rw [List.all_eq_true] at h ⊢
  intro y hy
  rcases List.mem_or_eq_of_mem_set hy with hy | rfl
  · exact h y hy
  · simp [hx]
theorem isRow_getD {r : List Int} (h : isRow r = true) (i : Nat) : 0 ≤ r.getD i 0 ∧ r.getD i 0 ≤ 99 := by
  unfold isRow at h
  rw [List.all_eq_true] at h
  rw [List.getD_eq_getElem?_getD]
  cases e : r[i]? with
  | none => simp
  | some x => have := h x (List.mem_of_getElem? e); simp at this; simpa using this
theorem behS_row {n l s : Int} {r : List Int} (h : isRow r = true) : ∀ i, isRow (behS n l s r i) = true
  | 0 => h
  | i + 1 => isRow_set (behS_row h i) (isRow_getD h _)
end Rf
set_option Elab.async false
set_option linter.all false
set_option maxRecDepth 100000
/-! The law's starts, its turn and its rows. -/
namespace Rf
open PySem
theorem x_ix2 {cl : Calls} {ex : Option Ex} {env : Env} {S S1 S2 S3 : Store} {e a b c d : CE} {p q i j : Int} {x : D} (h : ev cl ex e env S = some (.ok (.tup [.int p, .int q]) S)) (ha : ev cl ex a env S = some (.ok x S)) (hb : ev cl ex b env S = some (.ok (.int i) S)) (h2 : setIndex x (.int i) (.int p) S = some S2)
    (hc : ev cl ex c env S2 = some (.ok x S2)) (hd : ev cl ex d env S2 = some (.ok (.int j) S2)) (h3 : setIndex x (.int j) (.int q) S2 = some S3) : exec cl ex (.set (.ix2 a b c d) e) env S = some (.nx env, S3) := by
  have g : gcR S.length (some (R.ok (D.tup [.int p, .int q]) S)) = some (R.ok (D.tup [.int p, .int q]) S) := by rw [gcR_lt rfl, take_self]
  simp only [exec, evg, h, g, thn_ok, ha, hb, h2, hc, hd, h3]
theorem x_unp {cl : Calls} {ex : Option Ex} {env env1 : Env} {S : Store} {t : Nat} {n l : Int} {q : Bool} {ts : CTs} {i : Nat} (he : env[i]? = some (some (.ref t))) (ht : S[t]? = some (trkL n l q)) (h2 : setTs ts [.int n, .int l, .bl q] env = some env1) : exec cl ex (.set (.t (.tup ts)) (.v i)) env S = some (.nx env1, S) := by
  have hl := (List.getElem?_eq_some_iff.mp ht).1
  have g : gc S.length (.ref t) S = (.ref t, S) := by rw [gc_lt (by simp [D.lt, hl]), take_self]
  rw [x_set (e_v he) (env1 := env1) (by
    rw [g]
    have hu : unref (.ref t) S = .lst [.int n, .int l, .bl q] := by
      simp only [unref, ht, trkL]
    show setT (.tup ts) (unref (.ref t) S) env = some env1
    rw [hu]
    exact h2), g]
section
variable {Ph : Nat → Option FD} {k : Nat} {n l : Int} {q : Bool} {S : Store} {t : Nat}
theorem rngN_eq (h : ¬ n < l) : (if q then n else n - l + 1).toNat = startsN n l q := by
  unfold startsN
  rw [if_neg h]
  cases q <;> rfl
theorem law_starts_ok (h20 : Ph 20 = some ⟨1, 4, c_p_law_starts⟩) (hn : 0 ≤ n ∧ n ≤ 20) (hl : 0 ≤ l ∧ l ≤ 20) (ht : S[t]? = some (trkL n l q)) : run Ph (k + 1) 20 [.ref t] S = some (.ok (.ref S.length) (S ++ [.lst (startsL n l q)])) := by
  rw [run_at (env := [some (.ref t), none, none, none]) h20 S]
  have mx : maxLen = 1000000 := rfl
  have u := x_unp (cl := run Ph k) (ex := none) (env := [some (.ref t), none, none, none]) (env1 := [some (.ref t), some (.int n), some (.int l), some (.bl q)]) (ts := .cons (.n 1) (.cons (.n 2) (.cons (.n 3) .nil))) (i := 0) rfl ht rfl
  have v1 : ∀ S, ev (run Ph k) none (.v 1) [some (.ref t), some (.int n), some (.int l), some (.bl q)] S = some (.ok (.int n) S) := fun S => e_v rfl
  have v2 : ∀ S, ev (run Ph k) none (.v 2) [some (.ref t), some (.int n), some (.int l), some (.bl q)] S = some (.ok (.int l) S) := fun S => e_v rfl
  have e1 : ev (run Ph k) none (.cmp .gt (.v 2) (.v 1)) [some (.ref t), some (.int n), some (.int l), some (.bl q)] S = some (.ok (.bl (decide (n < l))) S) := e_cmp (v2 S) (v1 S) rfl
  rw [c_p_law_starts, x_seq u]
  have g := gc_new (S := S) (lts_range S.length 0 1 (startsN n l q))
  by_cases h : n < l
  · rw [decide_eq_true h] at e1
    have hs : startsL n l q = [] := by simp [startsL, startsN, h, rangeD]
    rw [x_into e1 (rt_new (S1 := S) (e_lst es_nil (newL_ok (Nat.zero_le _))) rfl rfl), atEnd_rt, hs]
    have g2 := gc_new (S := S) (xs := []) rfl
    show some (R.ok (gc S.length (.ref S.length) (S ++ [O.lst []])).1 (gc S.length (.ref S.length) (S ++ [O.lst []])).2) = _
    rw [g2]
  · rw [decide_eq_false h] at e1
    have e3 : ev (run Ph k) none (.ite (.v 3) (.rngL (.rng1 (.v 1))) (.rngL (.rng1 (.bin .add (.bin .sub (.v 1) (.v 2)) (.k (.int 1)))))) [some (.ref t), some (.int n), some (.int l), some (.bl q)] S = some (.ok (.ref S.length) (S ++ [.lst (startsL n l q)])) := by
      have c0 : ev (run Ph k) none (.v 3) [some (.ref t), some (.int n), some (.int l), some (.bl q)] S = some (.ok (.bl q) S) := e_v rfl
      have hq := rngN_eq (q := q) h
      unfold startsL
      rw [← hq]
      cases q with
      | true => exact (e_ite_t c0).trans (e_rng1L (v1 S) (by simp [okR]; omega) (by omega))
      | false => exact (e_ite_f c0).trans (e_rng1L (e_bin (e_bin (v1 S) (v2 S) rfl) e_k rfl) (by simp [okR]; omega) (by omega))
    rw [x_skip e1, rt_new e3 rfl (lts_range _ _ _ _), atEnd_rt]
    show some (R.ok (gc S.length (.ref S.length) (S ++ [O.lst (rangeD 0 1 (startsN n l q))])).1 (gc S.length (.ref S.length) (S ++ [O.lst (rangeD 0 1 (startsN n l q))])).2) = _
    rw [g]
    rfl
theorem law_behind_ok (h21 : Ph 21 = some ⟨3, 10, c_p_law_behind⟩) (hn : 1 ≤ n ∧ n ≤ 20) (hl : 0 ≤ l ∧ l ≤ 20) (ht : S[t]? = some (trkL n l q)) (s : Int) {r : List Int} (hr : (r.length : Int) = n) : run Ph (k + 1) 21 [.ref t, row r, .int s] S = some (.ok (row (swapS n l s r (l / 2).toNat)) S) := by
  rw [run_at (env := [some (.ref t), some (row r), some (.int s), none, none, none, none, none, none, none]) h21 S]
  have mx : maxLen = 1000000 := rfl
  have htl := (List.getElem?_eq_some_iff.mp ht).1
  have u := x_unp (cl := run Ph k) (ex := none) (env := [some (.ref t), some (row r), some (.int s), none, none, none, none, none, none, none]) (env1 := [some (.ref t), some (row r), some (.int s), some (.int n), some (.int l), some (.bl q), none, none, none, none]) (ts := .cons (.n 3) (.cons (.n 4) (.cons (.n 5) .nil))) (i := 0) rfl ht rfl
  have e1 : ev (run Ph k) none (.bi .list (.cons (.v 1) .nil)) [some (.ref t), some (row r), some (.int s), some (.int n), some (.int l), some (.bl q), none, none, none, none] S = some (.ok (.ref S.length) (S ++ [.lst (r.map .int)])) :=
    e_bi (es_cons (e_v rfl) es_nil) (by
      show bList (row r) S = _
      unfold bList seqOf row
      exact newL_ok (by simp; omega))
  have x1 := x_setn (i := 6) e1 rfl (lts_ints _ _) (by simp)
  have e2 : evI (run Ph k) none (.rng1 (.bin .fdiv (.v 4) (.k (.int 2)))) [some (.ref t), some (row r), some (.int s), some (.int n), some (.int l), some (.bl q), some (.ref S.length), none, none, none] (S ++ [.lst (r.map .int)]) = some (.ok (rangeD 0 1 (l / 2).toNat, []) (S ++ [.lst (r.map .int)])) :=
    evI_rng1 (e_bin (e_v rfl) e_k b_half) (by simp [okR]; omega)
  obtain ⟨env', S', x2, x7, x8, x9, rfl, rfl⟩ := for_range (lo := 0) (L := (l / 2).toNat) (tg := .n 7) (body := fun env S => exec (run Ph k) none (.seq (.par [8, 9] (.cons (.bin .mod (.bi .int (.cons (.bin .add (.v 2) (.v 7)) .nil)) (.v 3)) (.cons (.bin .mod (.bi .int (.cons (.bin .sub (.bin .sub (.bin .add (.v 2) (.v 4)) (.k (.int 1))) (.v 7)) .nil)) (.v 3)) .nil))) (.set (.ix2 (.v 6) (.v 8) (.v 6) (.v 9)) (.tup (.cons (.idx (.v 6) (.v 9)) (.cons (.idx (.v 6) (.v 8)) .nil))))) env S)
    (fun i env T => ∃ x7 x8 x9, env = [some (.ref t), some (row r), some (.int s), some (.int n), some (.int l), some (.bl q), some (.ref S.length), x7, x8, x9] ∧ T = S ++ [.lst ((swapS n l s r i).map .int)])
    (fun i env T hi ⟨x7, x8, x9, he, hT⟩ => by
      subst he hT
      have ha0 := Int.emod_nonneg (s + i) (show n ≠ 0 by omega)
      have ha1 := Int.emod_lt_of_pos (s + i) (show 0 < n by omega)
      have hb0 := Int.emod_nonneg (s + l - 1 - i) (show n ≠ 0 by omega)
      have hb1 := Int.emod_lt_of_pos (s + l - 1 - i) (show 0 < n by omega)
      have hlen := swapS_length n l s r i
      let W : List Int := swapS n l s r i
      let A : Int := (s + i) % n
      let B : Int := (s + l - 1 - i) % n
      have hW : (W.length : Int) = n := by simp only [W]; omega
      have p1 := x_par (cl2 := run Ph k) (ex := none) (is := [8, 9]) (S := S ++ [.lst (W.map .int)]) (env := [some (.ref t), some (row r), some (.int s), some (.int n), some (.int l), some (.bl q), some (.ref S.length), some (.int (0 + (i : Nat))), x8, x9])
        (env1 := [some (.ref t), some (row r), some (.int s), some (.int n), some (.int l), some (.bl q), some (.ref S.length), some (.int (0 + (i : Nat))), some (.int A), some (.int B)])
        (es := .cons (.bin .mod (.bi .int (.cons (.bin .add (.v 2) (.v 7)) .nil)) (.v 3)) (.cons (.bin .mod (.bi .int (.cons (.bin .sub (.bin .sub (.bin .add (.v 2) (.v 4)) (.k (.int 1))) (.v 7)) .nil)) (.v 3)) .nil)) (ds := [.int A, .int B]) (S1 := S ++ [.lst (W.map .int)])
        (es_cons (by
          rw [Int.zero_add]
          exact e_bin (e_bi (f := .int) (es_cons (e_bin (o := .add) (e_v rfl) (e_v rfl) rfl) es_nil) rfl) (e_v rfl) (b_mod (by omega))) (es_cons (by
          rw [Int.zero_add]
          exact e_bin (e_bi (f := .int) (es_cons (e_bin (o := .sub) (e_bin (o := .sub) (e_bin (o := .add) (e_v rfl) (e_v rfl) rfl) e_k rfl) (e_v rfl) rfl) es_nil) rfl) (e_v rfl) (b_mod (by omega))) es_nil)) rfl
      have gl : ∀ V : List Int, (S ++ [O.lst (V.map .int)])[S.length]? = some (.lst (V.map .int)) := fun V => by simp
      have e4 : ev (run Ph k) none (.tup (.cons (.idx (.v 6) (.v 9)) (.cons (.idx (.v 6) (.v 8)) .nil))) [some (.ref t), some (row r), some (.int s), some (.int n), some (.int l), some (.bl q), some (.ref S.length), some (.int (0 + (i : Nat))), some (.int A), some (.int B)] (S ++ [.lst (W.map .int)]) = some (.ok (.tup [.int (W.getD B.toNat 0), .int (W.getD A.toNat 0)]) (S ++ [.lst (W.map .int)])) := by
        refine e_tup (es_cons (e_idx (e_v rfl) (e_v rfl) (index_ref_ints (gl W) hb0 (by omega))) (es_cons (e_idx (e_v rfl) (e_v rfl) (index_ref_ints (gl W) ha0 (by omega))) es_nil)) ?_
        rw [frzs_no rfl]
        exact newT_ok (by simp [maxLen])
      have z2 := x_ix2 (a := .v 6) (b := .v 8) (c := .v 6) (d := .v 9) (x := .ref S.length) (S1 := []) e4 (e_v rfl) (e_v rfl) (set_last ha0 (by omega)) (e_v rfl) (e_v rfl) (set_last hb0 (by rw [List.length_set]; omega))
      exact ⟨[some (.ref t), some (row r), some (.int s), some (.int n), some (.int l), some (.bl q), some (.ref S.length), some (.int (0 + (i : Nat))), x8, x9], _, _, rfl, (x_seq p1).trans z2, _, _, _, rfl, rfl⟩) (env := [some (.ref t), some (row r), some (.int s), some (.int n), some (.int l), some (.bl q), some (.ref S.length), none, none, none]) (S := S ++ [.lst (r.map .int)]) ⟨none, none, none, rfl, rfl⟩
  have e3 : ev (run Ph k) none (.bi .tuple (.cons (.v 6) .nil)) [some (.ref t), some (row r), some (.int s), some (.int n), some (.int l), some (.bl q), some (.ref S.length), x7, x8, x9] (S ++ [.lst ((swapS n l s r (l / 2).toNat).map .int)]) = some (.ok (row (swapS n l s r (l / 2).toNat)) (S ++ [.lst ((swapS n l s r (l / 2).toNat).map .int)])) :=
    e_bi (es_cons (e_v rfl) es_nil) (by simp [builtin, un1, bTuple, lstOf, row])
  rw [c_p_law_behind, x_seq u, x_seq x1]
  show atEnd S.length (exec (run Ph k) none _ [some (.ref t), some (row r), some (.int s), some (.int n), some (.int l), some (.bl q), some (.ref S.length), none, none, none] _) = _
  rw [x_seq (by rw [x_for e2, x2]), x_ret e3, atEnd_rt, gc_row, gc_row, take_self, take_app]
end
end Rf
set_option Elab.async false
set_option linter.all false
set_option maxRecDepth 100000
/-! The law's rows. -/
namespace Rf
open PySem
theorem ints_row : ∀ {ys : List D}, (∀ y ∈ ys, ∃ i : Int, y = .int i ∧ 0 ≤ i ∧ i ≤ 99) → ∃ r : List Int, ys = r.map .int ∧ isRow r = true
  | [], _ => ⟨[], rfl, rfl⟩
  | y :: ys, h => by
    obtain ⟨i, rfl, h0, h1⟩ := h y (by simp)
    obtain ⟨r, rfl, hr⟩ := ints_row (ys := ys) fun z hz => h z (List.mem_cons_of_mem _ hz)
    refine ⟨i :: r, rfl, ?_⟩
    unfold isRow at hr ⊢
    simp [h0, h1, hr]
theorem row_ints {r : List Int} (h : isRow r = true) : ∀ y ∈ r.map D.int, ∃ i : Int, y = .int i ∧ 0 ≤ i ∧ i ≤ 99 := by
  intro y hy
  obtain ⟨i, hi, rfl⟩ := List.mem_map.mp hy
  unfold isRow at h
  rw [List.all_eq_true] at h
  have := h i hi
  simp at this
  exact ⟨i, rfl, this.1, this.2⟩
theorem setIndex_ints {S : Store} {fi : Nat} {r : List Int} {j x : Int} (e : S[fi]? = some (.lst (r.map .int))) (h0 : 0 ≤ j) (h1 : j < r.length) : setIndex (.ref fi) (.int j) (.int x) S = some (S.set fi (.lst ((r.set j.toNat x).map .int))) := by
  unfold setIndex
  simp only [frz]
  have e' : mutL (.ref fi) S = some (fi, r.map .int) := by simp only [mutL, e]
  rw [e']
  unfold ixOf
  simp [h0, h1, D.lt, List.map_set]
theorem gc_new2 {n : Nat} {S : Store} {a : O} {xs : List D} (hn : S.length = n) (h : D.lts 0 xs = true) : gc n (.ref (n + 1)) (S ++ [a, .lst xs]) = (.ref n, S ++ [.lst xs]) := by
  subst hn
  have h2 : D.lts S.length xs = true := D.lts_of (Nat.zero_le _) h
  unfold gc
  rw [if_neg (by simp [D.lt])]
  simp only [get_app1, O.lt, h2, if_true]
  rw [List.take_left]
section
variable {Ph : Nat → Option FD} {k : Nat} {S : Store} {h : Nat}
/-- the row as it stands, behind the mixing -/
structure RowSt (S : Store) (h : Nat) (n srt : Int) (env : Env) (T : Store) : Prop where
  ex : ∃ S1 U fi r x2 x4 x6 x7, env = [some (.ref h), some (.int n), x2, some (.int srt), x4, some (.ref fi), x6, x7] ∧ T = S1 ++ U ∧ HR h S S1 ∧ S.length ≤ fi ∧ T[fi]? = some (.lst (r.map .int)) ∧ isRow r = true ∧ (r.length : Int) = n
theorem set_above {S1 U : Store} {fi : Nat} {o : O} (hf : S1.length ≤ fi) : (S1 ++ U).set fi o = S1 ++ U.set (fi - S1.length) o := by
  rw [List.set_append_right _ _ hf]
theorem row1 (h14 : Ph 14 = some ⟨2, 5, c_p_law_draw⟩) (h15 : Ph 15 = some ⟨2, 2, c_p_law_any⟩) {n srt : Int} (hn : 1 ≤ n ∧ n ≤ 20) (hh : h < S.length) {env : Env} {T : Store} (st : RowSt S h n srt env T) :
    ∃ env' T', exec (run Ph (k + 2)) none (.seq (.set (.t (.n 6)) (.sl (.v 5) .none (.some (.bin .add (.k (.int 2)) (.call 14 (.cons (.v 0) (.cons (.k (.int 2)) .nil))))))) (.set (.t (.n 5)) (.comp (.rng1 (.v 1)) (.n 7) [7] .none (.call 15 (.cons (.v 0) (.cons (.v 6) .nil)))))) env T = some (.nx env', T') ∧ RowSt S h n srt env' T' := by
  obtain ⟨S1, U, fi, r, x2, x4, x6, x7, rfl, rfl, hr, hfi, hg, hrow, hlen⟩ := st.ex
  have mx : maxLen = 1000000 := rfl
  have l1 := hr.len
  obtain ⟨a, T1, d1, a0, a1, r1⟩ := e_draw (k := k + 1) (ex := none) (env := [some (.ref h), some (.int n), x2, some (.int srt), x4, some (.ref fi), x6, x7]) (c := .k (.int 2)) h14 rfl (hr.ok.app (T := U)) e_k (by omega) (by omega)
  obtain ⟨S2, rfl, r2⟩ := HR.below (by omega) r1
  have hg2 : (S2 ++ U)[fi]? = some (.lst (r.map .int)) := by rw [r1.get (by omega)]; exact hg
  let sm : List Int := r.take (2 + a).toNat
  have cutE : cut (r.map D.int) none (some (2 + a)) = sm.map .int := by
    unfold cut sIx
    simp only [List.length_map, List.drop_zero, Nat.sub_zero, if_neg (show ¬ (2 + a < 0) by omega)]
    rw [← List.map_take]
    congr 1
    rw [List.take_eq_take_iff]
    omega
  have e1 : ev (run Ph (k + 2)) none (.sl (.v 5) .none (.some (.bin .add (.k (.int 2)) (.call 14 (.cons (.v 0) (.cons (.k (.int 2)) .nil)))))) [some (.ref h), some (.int n), x2, some (.int srt), x4, some (.ref fi), x6, x7] (S1 ++ U) = some (.ok (.ref (S2 ++ U).length) ((S2 ++ U) ++ [.lst (sm.map .int)])) := by
    refine e_sl0 (e_v rfl) (e_bin (o := .add) (a := .k (.int 2)) (x := .int 2) e_k d1 rfl) ?_
    have hl : lstOf (S2 ++ U) (.ref fi) = some (r.map .int) := by simp only [lstOf, hg2]
    show slice (.ref fi) none (some (2 + a)) (S2 ++ U) = _
    simp only [slice, hl, cutE]
    exact newL_ok (by simp [sm]; omega)
  have lT : (S2 ++ U).length = (S1 ++ U).length := r1.len
  have x1 := x_setn (i := 6) e1 lT (lts_ints _ _) (by simp)
  have hok : HOk (S2 ++ U ++ [O.lst (sm.map .int)]) h := r1.ok.app
  have hsm : isRow sm = true := by
    unfold isRow at hrow ⊢
    rw [List.all_eq_true] at hrow ⊢
    exact fun y hy => hrow y (List.mem_of_mem_take hy)
  have hsl : 0 < sm.length := by
    simp only [sm, List.length_take]
    omega
  have hfU : fi < (S2 ++ U).length := (List.getElem?_eq_some_iff.mp hg2).1
  have eI : evI (run Ph (k + 2)) none (.rng1 (.v 1)) [some (.ref h), some (.int n), x2, some (.int srt), x4, some (.ref fi), some (.ref (S1 ++ U).length), x7] (S2 ++ U ++ [O.lst (sm.map .int)]) = some (.ok (rangeD 0 1 n.toNat, []) (S2 ++ U ++ [O.lst (sm.map .int)])) := evI_rng1 (e_v rfl) (by simp [okR]; omega)
  obtain ⟨acc, B, e2, hB, hacc, hal⟩ := comp_ind (cnd := fun _ S => some (.ok true S)) (elt := fun env S => ev (run Ph (k + 2)) none (.call 15 (.cons (.v 0) (.cons (.v 6) .nil))) env S) (tg := .n 7) (p := []) (env := [some (.ref h), some (.int n), x2, some (.int srt), x4, some (.ref fi), some (.ref (S1 ++ U).length), none]) (n := (S2 ++ U ++ [O.lst (sm.map .int)]).length)
    (fun xs acc B => HR h (S2 ++ U ++ [O.lst (sm.map .int)]) B ∧ (∀ y ∈ acc, y ∈ sm.map D.int) ∧ acc.length + xs.length = n.toNat) (fun _ _ _ q => q.1.len) (fun _ _ _ _ => rfl) (fun x xs acc B ⟨q1, q2, q3⟩ => by
      have q4 : h < (S2 ++ U ++ [O.lst (sm.map .int)]).length := by simp; simp at lT hfU; omega
      have hs : seqOf (B ++ [O.lst acc]) (.ref (S1 ++ U).length) = some (sm.map .int) := by
        have w : B[(S1 ++ U).length]? = some (.lst (sm.map .int)) := by
          rw [q1.get (by simp; simp at lT hfU; omega), ← lT]
          simp
        have w2 := (List.getElem?_eq_some_iff.mp w).1
        have : (B ++ [O.lst acc])[(S1 ++ U).length]? = some (.lst (sm.map .int)) := by rw [List.getElem?_append_left w2]; exact w
        simp only [seqOf, this]
      obtain ⟨d, B2, f1, f2, f3⟩ := any_ok (k := k + 1) h14 h15 (by omega) (q1.ok.app (T := [O.lst acc])) (x := .ref (S1 ++ U).length) (xs := sm.map .int) (fun z => by
        injection z with z
        have : (S1 ++ U).length = S1.length + U.length := List.length_append
        omega) hs (by simpa using hsl) (by simp [sm]; omega) (lts_ints _ _) (fun s z => by cases z)
      obtain ⟨B3, rfl, f4⟩ := HR.below (by rw [q1.len]; exact q4) f3
      obtain ⟨i, hi, rfl⟩ := List.mem_map.mp f2
      refine ⟨[some (.ref h), some (.int n), x2, some (.int srt), x4, some (.ref fi), some (.ref (S1 ++ U).length), some x], _, true, rfl, rfl, fun _ => ⟨.int i, B3, ?_, ?_, rfl, rfl, ?_, q1.trans f4, ?_, ?_⟩, fun z => by cases z⟩
      · rw [e_call (es_cons (e_v rfl) (es_cons (e_v rfl) es_nil)), f1, gcR_int, take_ge]
        rw [List.length_append, f4.len, q1.len]
        simp
      · rw [f4.len, q1.len]
      · simp at q3; omega
      · intro y hy
        rcases List.mem_append.mp hy with hy | hy
        · exact q2 y hy
        · simp at hy; subst hy; exact f2
      · simp at q3 ⊢; omega) (rangeD 0 1 n.toNat) [] (S2 ++ U ++ [O.lst (sm.map .int)]) ⟨HR.refl hok, by simp, by simp [rangeD]⟩
  simp only [List.length_nil, Nat.add_zero] at hal
  obtain ⟨r', rfl, hr'⟩ := ints_row (ys := acc) fun y hy => row_ints hsm y (hacc y hy)
  have e3 : ev (run Ph (k + 2)) none (.comp (.rng1 (.v 1)) (.n 7) [7] .none (.call 15 (.cons (.v 0) (.cons (.v 6) .nil)))) [some (.ref h), some (.int n), x2, some (.int srt), x4, some (.ref fi), some (.ref (S1 ++ U).length), x7] (S2 ++ U ++ [O.lst (sm.map .int)]) = some (.ok (.ref B.length) (B ++ [.lst (r'.map .int)])) := by
    simp only [ev, eI, bnd_ok]
    rw [hB.len]
    rw [show (fun env S => evc (run Ph (k + 2)) none .none env S) = fun _ S => some (.ok true S) from rfl]
    show bnd (compGo _ _ (rangeD 0 1 n.toNat) [] (.n 7) [some (.ref h), some (.int n), x2, some (.int srt), x4, some (.ref fi), some (.ref (S1 ++ U).length), none] _ [] _) _ = _
    have e2' := e2
    simp only [ev] at e2'
    rw [e2']
    rfl
  have x2' := x_setn (i := 5) e3 hB.len (lts_ints _ _) (by simp)
  have hq : ∃ B0, B = B0 ++ (U ++ [O.lst (sm.map .int)]) ∧ HR h S2 B0 := by
    have : S2 ++ U ++ [O.lst (sm.map .int)] = S2 ++ (U ++ [O.lst (sm.map .int)]) := by simp
    rw [this] at hB
    exact HR.below (by rw [r2.len, l1]; exact hh) hB
  obtain ⟨B0, rfl, r5⟩ := hq
  refine ⟨_, _, (x_seq x1).trans x2', ⟨B0, (U ++ [O.lst (sm.map .int)]) ++ [O.lst (r'.map .int)], (S2 ++ U ++ [O.lst (sm.map .int)]).length, r', x2, x4, some (.ref (S1 ++ U).length), x7, rfl, by simp, hr.trans (r2.trans r5), ?_, ?_, hr', by simp at hal; omega⟩⟩
  · simp; rw [r2.len]; omega
  · rw [← hB.len]
    simp
theorem row2 (h14 : Ph 14 = some ⟨2, 5, c_p_law_draw⟩) {n srt : Int} (hn : 1 ≤ n ∧ n ≤ 20) (hh : h < S.length) {env : Env} {T : Store} (st : RowSt S h n srt env T) :
    ∃ env' T', exec (run Ph (k + 2)) none (.set (.ix (.v 5) (.call 14 (.cons (.v 0) (.cons (.v 1) .nil)))) (.idx (.v 5) (.call 14 (.cons (.v 0) (.cons (.v 1) .nil))))) env T = some (.nx env', T') ∧ RowSt S h n srt env' T' := by
  obtain ⟨S1, U, fi, r, x2, x4, x6, x7, rfl, rfl, hr, hfi, hg, hrow, hlen⟩ := st.ex
  have l1 := hr.len
  obtain ⟨a, T1, d1, a0, a1, r1⟩ := e_draw (k := k + 1) (ex := none) (env := [some (.ref h), some (.int n), x2, some (.int srt), x4, some (.ref fi), x6, x7]) (c := .v 1) h14 rfl (hr.ok.app (T := U)) (e_v rfl) (m := n) (by omega) (by omega)
  have hg1 : T1[fi]? = some (.lst (r.map .int)) := by rw [r1.get (by omega)]; exact hg
  obtain ⟨b, T2, d2, b0, b1, r2⟩ := e_draw (k := k + 1) (ex := none) (env := [some (.ref h), some (.int n), x2, some (.int srt), x4, some (.ref fi), x6, x7]) (c := .v 1) h14 rfl r1.ok (e_v rfl) (m := n) (by omega) (by omega)
  have hg2 : T2[fi]? = some (.lst (r.map .int)) := by rw [r2.get (by omega)]; exact hg1
  have hgc : gc (S1 ++ U).length (.int (r.getD a.toNat 0)) T1 = (.int (r.getD a.toNat 0), T1) := by rw [gc_int, take_ge (Nat.le_of_eq r1.len)]
  have x1 := x_ix (cl2 := run Ph (k + 2)) (ex := none) (a := .v 5) (b := .call 14 (.cons (.v 0) (.cons (.v 1) .nil))) (e_idx (a := .v 5) (e_v rfl) d1 (index_ref_ints hg1 a0 (by omega))) (by rw [hgc]; exact e_v rfl) d2 (by rw [hgc]; exact setIndex_ints hg2 b0 (by omega))
  obtain ⟨S3, rfl, r3⟩ := HR.below (by omega) (r1.trans r2)
  rw [set_above (by rw [r3.len]; omega)] at x1
  refine ⟨_, _, x1, ⟨S3, _, fi, r.set b.toNat (r.getD a.toNat 0), x2, x4, x6, x7, rfl, rfl, hr.trans r3, hfi, ?_, isRow_set hrow (isRow_getD hrow _), by rw [List.length_set]; exact hlen⟩⟩
  rw [← set_above (by rw [r3.len]; omega), List.getElem?_set_self (List.getElem?_eq_some_iff.mp hg2).1]
theorem row3 (h14 : Ph 14 = some ⟨2, 5, c_p_law_draw⟩) {n srt : Int} (hn : 3 ≤ n ∧ n ≤ 20) (hh : h < S.length) {env : Env} {T : Store} (st : RowSt S h n srt env T) :
    ∃ env' T', exec (run Ph (k + 2)) none (.seq (.set (.t (.n 7)) (.call 14 (.cons (.v 0) (.cons (.bin .sub (.v 1) (.k (.int 2))) .nil)))) (.set (.ix (.v 5) (.bin .add (.v 7) (.k (.int 2)))) (.idx (.v 5) (.v 7)))) env T = some (.nx env', T') ∧ RowSt S h n srt env' T' := by
  obtain ⟨S1, U, fi, r, x2, x4, x6, x7, rfl, rfl, hr, hfi, hg, hrow, hlen⟩ := st.ex
  have l1 := hr.len
  obtain ⟨a, T1, d1, a0, a1, r1⟩ := e_draw (k := k + 1) (ex := none) (env := [some (.ref h), some (.int n), x2, some (.int srt), x4, some (.ref fi), x6, x7]) (c := .bin .sub (.v 1) (.k (.int 2))) h14 rfl (hr.ok.app (T := U)) (e_bin (e_v rfl) e_k rfl) (m := n - 2) (by omega) (by omega)
  have hg1 : T1[fi]? = some (.lst (r.map .int)) := by rw [r1.get (by omega)]; exact hg
  have x0 := x_setv (i := 7) d1 r1.len rfl (by simp)
  have hgc : gc T1.length (.int (r.getD a.toNat 0)) T1 = (.int (r.getD a.toNat 0), T1) := by rw [gc_int, take_self]
  have x1 := x_ix (cl2 := run Ph (k + 2)) (ex := none) (env := [some (.ref h), some (.int n), x2, some (.int srt), x4, some (.ref fi), x6, some (.int a)]) (a := .v 5) (b := .bin .add (.v 7) (.k (.int 2))) (S2 := T1) (S3 := T1) (e_idx (a := .v 5) (b := .v 7) (e_v rfl) (e_v rfl) (index_ref_ints hg1 a0 (by omega))) (by rw [hgc]; exact e_v rfl) (e_bin (o := .add) (e_v rfl) e_k rfl) (by rw [hgc]; exact setIndex_ints hg1 (by omega) (by omega))
  obtain ⟨S3, rfl, r3⟩ := HR.below (by omega) r1
  rw [set_above (by rw [r3.len]; omega)] at x1
  refine ⟨_, _, (x_seq x0).trans x1, ⟨S3, _, fi, r.set (a + 2).toNat (r.getD a.toNat 0), x2, x4, x6, some (.int a), rfl, rfl, hr.trans r3, hfi, ?_, isRow_set hrow (isRow_getD hrow _), by rw [List.length_set]; exact hlen⟩⟩
  rw [← set_above (by rw [r3.len]; omega), List.getElem?_set_self (List.getElem?_eq_some_iff.mp hg1).1]
end
end Rf
namespace Rf
open PySem
section
variable {Ph : Nat → Option FD} {k : Nat} {S : Store} {h : Nat}
theorem row_ok (h14 : Ph 14 = some ⟨2, 5, c_p_law_draw⟩) (h15 : Ph 15 = some ⟨2, 2, c_p_law_any⟩) (h16 : Ph 16 = some ⟨2, 4, c_p_law_mixed⟩) (h19 : Ph 19 = some ⟨2, 8, c_p_law_row⟩) (hk : 2 ≤ k) (hH : HOk S h) {n : Int} (hn : 1 ≤ n ∧ n ≤ 20) :
    ∃ r S', run Ph (k + 1) 19 [.ref h, .int n] S = some (.ok (row r) S') ∧ isRow r = true ∧ (r.length : Int) = n ∧ HR h S S' := by
  obtain ⟨j, rfl⟩ : ∃ j, k = j + 2 := ⟨k - 2, by omega⟩
  have mx : maxLen = 1000000 := rfl
  have hh := hH.lt
  rw [run_at (env := [some (.ref h), some (.int n), none, none, none, none, none, none]) h19 S]
  obtain ⟨a, S1, d1, a0, a1, r1⟩ := e_draw (k := j + 1) (ex := none) (env := [some (.ref h), some (.int n), none, none, none, none, none, none]) (c := .k (.int 5)) h14 rfl hH e_k (by omega) (by omega)
  obtain ⟨b, S2, d2, b0, b1, r2⟩ := e_draw (k := j + 1) (ex := none) (env := [some (.ref h), some (.int n), none, none, none, none, none, none]) (c := .k (.int 5)) h14 rfl r1.ok e_k (by omega) (by omega)
  have l2 := (r1.trans r2).len
  have e1 : ev (run Ph (j + 2)) none (.tup (.cons (.bin .add (.k (.int 1)) (.call 14 (.cons (.v 0) (.cons (.k (.int 5)) .nil)))) (.cons (.call 14 (.cons (.v 0) (.cons (.k (.int 5)) .nil))) .nil))) [some (.ref h), some (.int n), none, none, none, none, none, none] S = some (.ok (.tup [.int (1 + a), .int b]) S2) := by
    refine e_tup (es_cons (e_bin (o := .add) (a := .k (.int 1)) (x := .int 1) e_k d1 rfl) (es_cons d2 es_nil)) ?_
    rw [frzs_no rfl]
    exact newT_ok (by simp [maxLen])
  have g1 : gc S.length (.tup [.int (1 + a), .int b]) S2 = (.tup [.int (1 + a), .int b], S2) := by rw [gc_lt rfl, take_ge (Nat.le_of_eq l2)]
  have x1 := x_set (t := .tup (.cons (.n 2) (.cons (.n 3) .nil))) e1 (env1 := [some (.ref h), some (.int n), some (.int (1 + a)), some (.int b), none, none, none, none]) (by rw [g1]; rfl)
  rw [g1] at x1
  have hm0 : 0 ≤ (1 + a) * (n - 1) := Int.mul_nonneg (by omega) (by omega)
  have hm1 : (1 + a) * (n - 1) ≤ 5 * 19 := Int.mul_le_mul (by omega) (by omega) (by omega) (by omega)
  have sm : small64 (1 + a) = true := by simp [small64]; omega
  obtain ⟨c, S3, d3, c0, c1, r3⟩ := e_draw (k := j + 1) (ex := none) (env := [some (.ref h), some (.int n), some (.int (1 + a)), some (.int b), none, none, none, none]) (c := .bin .sub (.k (.int 100)) (.bin .mul (.v 2) (.bin .sub (.v 1) (.k (.int 1))))) h14 rfl r2.ok (m := 100 - (1 + a) * (n - 1)) (e_bin (o := .sub) (x := .int 100) (y := .int ((1 + a) * (n - 1))) e_k (e_bin (o := .mul) (x := .int (1 + a)) (y := .int (n - 1)) (e_v rfl) (e_bin (o := .sub) (x := .int n) (e_v rfl) e_k rfl) (by simp [binop, sm])) rfl) (by omega) (by omega)
  have x4 := x_setv (i := 4) d3 r3.len rfl (by simp)
  have R3 := r1.trans (r2.trans r3)
  have eI : evI (run Ph (j + 2)) none (.rng1 (.v 1)) [some (.ref h), some (.int n), some (.int (1 + a)), some (.int b), some (.int c), none, none, none] S3 = some (.ok (rangeD 0 1 n.toNat, []) S3) := evI_rng1 (e_v rfl) (by simp [okR]; omega)
  have e5 := ev_map (cl := run Ph (j + 2)) (ex := none) (tg := .n 7) (own := [7]) (elt := .bin .add (.v 4) (.bin .mul (.v 2) (.v 7))) (f := fun d => match d with
    | .int i => .int (c + (1 + a) * i)
    | d => d) eI (by simp [rangeD]; omega) (fun x hx acc => by
    obtain ⟨i, hi, rfl⟩ := List.mem_map.mp hx
    refine ⟨[some (.ref h), some (.int n), some (.int (1 + a)), some (.int b), some (.int c), none, none, some (.int (0 + (i : Int) * 1))], rfl, ?_, rfl, rfl⟩
    rw [e_bin (o := .add) (x := .int c) (y := .int ((1 + a) * (0 + (i : Int) * 1))) (d := .int (c + (1 + a) * (0 + (i : Int) * 1))) (S3 := S3 ++ [.lst acc]) (e_v rfl) (e_bin (o := .mul) (x := .int (1 + a)) (y := .int (0 + (i : Int) * 1)) (S3 := S3 ++ [.lst acc]) (e_v rfl) (e_v rfl) (by simp only [binop, sm, Bool.true_or, if_true])) rfl, gcR_int, take_one]) (fun acc => rfl)
  have hL : ∀ y ∈ (rangeD 0 1 n.toNat).map (fun d => match d with
    | .int i => D.int (c + (1 + a) * i)
    | d => d), ∃ i : Int, y = .int i ∧ 0 ≤ i ∧ i ≤ 99 := by
    intro y hy
    obtain ⟨d, hd, rfl⟩ := List.mem_map.mp hy
    obtain ⟨i, hi, rfl⟩ := List.mem_map.mp hd
    simp only [List.mem_range] at hi
    have p0 : 0 ≤ (1 + a) * (0 + (i : Int) * 1) := Int.mul_nonneg (by omega) (by omega)
    have p1 : (1 + a) * (0 + (i : Int) * 1) ≤ (1 + a) * (n - 1) := Int.mul_le_mul_of_nonneg_left (by omega) (by omega)
    exact ⟨_, rfl, by omega, by omega⟩
  obtain ⟨w, hw, hwr⟩ := ints_row hL
  have hwl : (w.length : Int) = n := by
    have := congrArg List.length hw
    simp [rangeD] at this
    omega
  rw [hw] at e5
  have hs : seqOf (S3 ++ [O.lst (w.map .int)]) (.ref S3.length) = some (w.map .int) := by simp [seqOf]
  obtain ⟨ys, S4, m1, m2, m3⟩ := mixed_ok (k := j + 1) h14 h16 (by omega) (r3.ok.app (T := [O.lst (w.map .int)])) hs (by simp; omega) (lts_ints _ _)
  obtain ⟨r, rfl, hrr⟩ := ints_row (ys := ys) fun y hy => row_ints hwr y (m2.mem_iff.mp hy)
  have hrl : (r.length : Int) = n := by
    have := m2.length_eq
    simp at this
    omega
  have e6 : ev (run Ph (j + 2)) none (.call 16 (.cons (.v 0) (.cons (.comp (.rng1 (.v 1)) (.n 7) [7] .none (.bin .add (.v 4) (.bin .mul (.v 2) (.v 7)))) .nil))) [some (.ref h), some (.int n), some (.int (1 + a)), some (.int b), some (.int c), none, none, none] S3 = some (.ok (.ref S4.length) (S4 ++ [.lst (r.map .int)])) := by
    rw [e_call (es_cons (e_v rfl) (es_cons e5 es_nil)), m1]
  obtain ⟨S5, rfl, r5⟩ := HR.below (by rw [R3.len]; exact hh) m3
  have l5 := r5.len
  have g6 : gc S3.length (.ref (S5 ++ [O.lst (w.map .int)]).length) ((S5 ++ [O.lst (w.map .int)]) ++ [O.lst (r.map .int)]) = (.ref S3.length, S5 ++ [.lst (r.map .int)]) := by
    rw [show (S5 ++ [O.lst (w.map .int)]).length = S3.length + 1 by simp [l5], List.append_assoc]
    exact gc_new2 l5 (lts_ints _ _)
  have x5 := x_set (t := .n 5) e6 (env1 := [some (.ref h), some (.int n), some (.int (1 + a)), some (.int b), some (.int c), some (.ref S3.length), none, none]) (by rw [g6]; rfl)
  rw [g6] at x5
  have st0 : RowSt S h n b [some (.ref h), some (.int n), some (.int (1 + a)), some (.int b), some (.int c), some (.ref S3.length), none, none] (S5 ++ [.lst (r.map .int)]) :=
    ⟨S5, [.lst (r.map .int)], S3.length, r, _, _, _, _, rfl, rfl, R3.trans r5, by rw [R3.len]; exact Nat.le_refl _, by rw [← l5]; simp, hrr, hrl⟩
  rw [c_p_law_row, x_seq x1, x_seq x4]
  show ∃ r S', atEnd S.length (exec (run Ph (j + 2)) none _ [some (.ref h), some (.int n), some (.int (1 + a)), some (.int b), some (.int c), none, none, none] S3) = _ ∧ _
  rw [x_seq x5]
  -- the rest, from any such row
  have cmpb : ∀ (i : Int) {env T}, RowSt S h n b env T → ev (run Ph (j + 2)) none (.cmp .eq (.v 3) (.k (.int i))) env T = some (.ok (.bl (decide (b = i))) T) := by
    intro i env T st
    obtain ⟨S1, U, fi, r, x2, x4, x6, x7, rfl, rfl, _⟩ := st.ex
    exact e_eqi (e_v rfl) e_k
  have cmpn : ∀ {env T}, RowSt S h n b env T → ev (run Ph (j + 2)) none (.cmp .gt (.v 1) (.k (.int 2))) env T = some (.ok (.bl (decide (2 < n))) T) := by
    intro env T st
    obtain ⟨S1, U, fi, r, x2, x4, x6, x7, rfl, rfl, _⟩ := st.ex
    exact e_cmp (e_v rfl) e_k rfl
  have fin : ∀ {env T}, RowSt S h n b env T → ∃ r S', atEnd S.length (exec (run Ph (j + 2)) none (.ret (.bi .tuple (.cons (.v 5) .nil))) env T) = some (.ok (row r) S') ∧ isRow r = true ∧ (r.length : Int) = n ∧ HR h S S' := by
    intro env T st
    obtain ⟨S1, U, fi, r, x2, x4, x6, x7, rfl, rfl, q1, q2, q3, q4, q5⟩ := st.ex
    have e7 : ev (run Ph (j + 2)) none (.bi .tuple (.cons (.v 5) .nil)) [some (.ref h), some (.int n), x2, some (.int b), x4, some (.ref fi), x6, x7] (S1 ++ U) = some (.ok (row r) (S1 ++ U)) := by
      refine e_bi (es_cons (e_v rfl) es_nil) ?_
      have : lstOf (S1 ++ U) (.ref fi) = some (r.map .int) := by simp only [lstOf, q3]
      show bTuple (.ref fi) (S1 ++ U) = _
      simp only [bTuple, this]
      rfl
    refine ⟨r, S1, ?_, q4, q5, q1⟩
    rw [x_ret e7, atEnd_rt, gc_row, gc_row, take_self, ← q1.len, List.take_left]
  have s3 : ∀ {env T}, RowSt S h n b env T → ∃ r S', atEnd S.length (exec (run Ph (j + 2)) none (.seq (.ite (.and (.cmp .eq (.v 3) (.k (.int 3))) (.cmp .gt (.v 1) (.k (.int 2)))) (.seq (.set (.t (.n 7)) (.call 14 (.cons (.v 0) (.cons (.bin .sub (.v 1) (.k (.int 2))) .nil)))) (.set (.ix (.v 5) (.bin .add (.v 7) (.k (.int 2)))) (.idx (.v 5) (.v 7)))) .pass) (.ret (.bi .tuple (.cons (.v 5) .nil)))) env T) = some (.ok (row r) S') ∧ isRow r = true ∧ (r.length : Int) = n ∧ HR h S S' := by
    intro env T st
    have ca := cmpb 3 st
    have cb := cmpn st
    by_cases hc : b = 3
    · rw [decide_eq_true hc] at ca
      by_cases hc2 : 2 < n
      · rw [decide_eq_true hc2] at cb
        obtain ⟨env', T', q1, q2⟩ := row3 (k := j) h14 ⟨by omega, hn.2⟩ hh st
        rw [x_thru ((e_and_t ca).trans cb) q1]
        exact fin q2
      · rw [decide_eq_false hc2] at cb
        rw [x_skip ((e_and_t ca).trans cb)]
        exact fin st
    · rw [decide_eq_false hc] at ca
      rw [x_skip (e_and_f ca)]
      exact fin st
  have s2 : ∀ {env T}, RowSt S h n b env T → ∃ r S', atEnd S.length (exec (run Ph (j + 2)) none (.seq (.ite (.cmp .eq (.v 3) (.k (.int 2))) (.set (.ix (.v 5) (.call 14 (.cons (.v 0) (.cons (.v 1) .nil)))) (.idx (.v 5) (.call 14 (.cons (.v 0) (.cons (.v 1) .nil))))) .pass) (.seq (.ite (.and (.cmp .eq (.v 3) (.k (.int 3))) (.cmp .gt (.v 1) (.k (.int 2)))) (.seq (.set (.t (.n 7)) (.call 14 (.cons (.v 0) (.cons (.bin .sub (.v 1) (.k (.int 2))) .nil)))) (.set (.ix (.v 5) (.bin .add (.v 7) (.k (.int 2)))) (.idx (.v 5) (.v 7)))) .pass) (.ret (.bi .tuple (.cons (.v 5) .nil))))) env T) = some (.ok (row r) S') ∧ isRow r = true ∧ (r.length : Int) = n ∧ HR h S S' := by
    intro env T st
    have ca := cmpb 2 st
    by_cases hc : b = 2
    · rw [decide_eq_true hc] at ca
      obtain ⟨env', T', q1, q2⟩ := row2 (k := j) h14 hn hh st
      rw [x_thru ca q1]
      exact s3 q2
    · rw [decide_eq_false hc] at ca
      rw [x_skip ca]
      exact s3 st
  have ca := cmpb 1 st0
  by_cases hc : b = 1
  · rw [decide_eq_true hc] at ca
    obtain ⟨env', T', q1, q2⟩ := row1 (k := j) h14 h15 hn hh st0
    rw [x_thru ca q1]
    exact s2 q2
  · rw [decide_eq_false hc] at ca
    rw [x_skip ca]
    exact s2 st0
end
end Rf
set_option Elab.async false
set_option linter.all false
set_option maxRecDepth 100000
/-! The law of turns: what is told, and that all is right. -/
namespace Rf
open PySem
def c_p_law_told : CS := (.seq (.set (.t (.n 3)) (.k .non)) (.seq (.tryAs (.set (.t (.n 3)) (.tup (.cons (.k (.str "told")) (.cons (.call 12 (.cons (.v 0) (.cons (.v 1) (.cons (.v 2) .nil)))) .nil)))) "BadStart" 4 (.set (.t (.n 3)) (.tup (.cons (.k (.str "refused")) (.cons (.exIs 4 "TurnFault") .nil))))) (.ret (.v 3))))
theorem x_set_ex {cl : Calls} {ex : Option Ex} {env : Env} {S S1 : Store} {e : CE} {t : CT} {er : Ex} (h : ev cl ex e env S = some (.ex er S1)) : exec cl ex (.set (.t t) e) env S = some (.xc er env, S1) := by
  have : exec cl ex (.set (.t t) e) env S = Rf.thn (some (.ex er S1)) env fun d S1 => match setG t d env S1 with
    | some env1 => some (.nx env1, S1)
    | none => none := by
    simp only [exec, evg, h]
    rfl
  rw [this, thn_ex]
/-- the functions of a turn -/
structure TurnF (Ph : Nat → Option FD) : Prop where
  h1 : Ph 1 = some fdInteger
  h2 : Ph 2 = some fdWithin
  h3 : Ph 3 = some ⟨1, 1, c_check_track⟩
  h4 : Ph 4 = some ⟨1, 2, c_are_things⟩
  h5 : Ph 5 = some ⟨2, 2, c_fits_track⟩
  h6 : Ph 6 = some ⟨2, 2, c_check_row⟩
  h7 : Ph 7 = some ⟨1, 1, c_starts_of⟩
  h8 : Ph 8 = some ⟨1, 1, c_starts⟩
  h9 : Ph 9 = some ⟨2, 2, c_is_start⟩
  h10 : Ph 10 = some ⟨3, 4, c_led_place⟩
  h11 : Ph 11 = some ⟨3, 6, c_behind⟩
  h12 : Ph 12 = some ⟨3, 3, c_turned⟩
def refusedD : D := .tup [.str "refused", .bl true]
section
variable {Ph : Nat → Option FD} {k : Nat} {S : Store} {n l : Int} {q : Bool}
theorem told_ok (F : TurnF Ph) (h22 : Ph 22 = some ⟨3, 5, c_p_law_told⟩) (hk : 6 ≤ k) (hl : 1 ≤ l ∧ l ≤ 20) {r : List Int} (hrow : isRow r = true) (hr : (r.length : Int) = n) (hn : 1 ≤ n ∧ n ≤ 20) (d : D) (hd : ∀ S, intOk S d = true) :
    ∃ w, run Ph (k + 1) 22 [.trk n l q, row r, d] S = some (.ok (if isStartB n l q d then .tup [.str "told", row w] else refusedD) S) := by
  obtain ⟨j, rfl⟩ : ∃ j, k = j + 1 := ⟨k - 1, by omega⟩
  rw [run_at (env := [some (.trk n l q), some (row r), some d, none, none]) h22 S]
  have x1 : exec (run Ph (j + 1)) none (.set (.t (.n 3)) (.k .non)) [some (.trk n l q), some (row r), some d, none, none] S = some (.nx [some (.trk n l q), some (row r), some d, some .non, none], S) := x_setv (i := 3) e_k rfl rfl (by simp)
  rw [c_p_law_told, x_seq x1]
  have t := turned_ok (S := S) (q := q) F.h1 F.h2 F.h3 F.h4 F.h5 F.h6 F.h7 F.h9 F.h10 F.h11 F.h12 (k := j) (by omega) hl hrow hr hn d hd
  cases hb : isStartB n l q d with
  | true =>
    have hi : ∃ s, d = .int s := by cases d <;> first | exact ⟨_, rfl⟩ | cases hb
    obtain ⟨s, rfl⟩ := hi
    simp only [hb, if_true] at t
    refine ⟨behS n l s r l.toNat, ?_⟩
    have e1 : ev (run Ph (j + 1)) none (.tup (.cons (.k (.str "told")) (.cons (.call 12 (.cons (.v 0) (.cons (.v 1) (.cons (.v 2) .nil)))) .nil))) [some (.trk n l q), some (row r), some (.int s), some .non, none] S = some (.ok (.tup [.str "told", row (behS n l s r l.toNat)]) S) := by
      refine e_tup (es_cons e_k (es_cons ((e_call (es_cons (e_v rfl) (es_cons (e_v rfl) (es_cons (e_v rfl) es_nil)))).trans t) es_nil)) ?_
      rw [frzs_no rfl]
      exact newT_ok (by simp [maxLen])
    have hlt : D.lt S.length (.tup [.str "told", row (behS n l s r l.toNat)]) = true := by simp [D.lt, D.lts, lt_row]
    have x2 := x_setv (i := 3) e1 rfl hlt (by simp)
    have x3 : exec (run Ph (j + 1)) none (.tryAs (.set (.t (.n 3)) (.tup (.cons (.k (.str "told")) (.cons (.call 12 (.cons (.v 0) (.cons (.v 1) (.cons (.v 2) .nil)))) .nil)))) "BadStart" 4 (.set (.t (.n 3)) (.tup (.cons (.k (.str "refused")) (.cons (.exIs 4 "TurnFault") .nil))))) [some (.trk n l q), some (row r), some (.int s), some .non, none] S = some (.nx [some (.trk n l q), some (row r), some (.int s), some (.tup [.str "told", row (behS n l s r l.toNat)]), none], S) := by
      simp only [exec] at x2 ⊢
      rw [x2]
      rfl
    rw [x_seq x3, x_ret (e_v rfl), atEnd_rt, gc_lt hlt, gc_lt hlt, take_self, take_self]
    rfl
  | false =>
    have t' : run Ph (j + 1) 12 [.trk n l q, row r, d] S = some (.ex ⟨"BadStart", none⟩ S) := by
      rw [t]
      cases d <;> first | rfl | (simp only [hb]; rfl)
    refine ⟨[], ?_⟩
    have e1 : ev (run Ph (j + 1)) none (.tup (.cons (.k (.str "told")) (.cons (.call 12 (.cons (.v 0) (.cons (.v 1) (.cons (.v 2) .nil)))) .nil))) [some (.trk n l q), some (row r), some d, some .non, none] S = some (.ex ⟨"BadStart", none⟩ S) := by
      have c1 : ev (run Ph (j + 1)) none (.call 12 (.cons (.v 0) (.cons (.v 1) (.cons (.v 2) .nil)))) [some (.trk n l q), some (row r), some d, some .non, none] S = some (.ex ⟨"BadStart", none⟩ S) := (e_call (es_cons (e_v rfl) (es_cons (e_v rfl) (es_cons (e_v rfl) es_nil)))).trans t'
      have c2 : ev (run Ph (j + 1)) none (.k (.str "told")) [some (.trk n l q), some (row r), some d, some .non, none] S = some (.ok (.str "told") S) := rfl
      have : evs (run Ph (j + 1)) none (.cons (.k (.str "told")) (.cons (.call 12 (.cons (.v 0) (.cons (.v 1) (.cons (.v 2) .nil)))) .nil)) [some (.trk n l q), some (row r), some d, some .non, none] S = some (.ex ⟨"BadStart", none⟩ S) := by
        simp only [evs, c2, bnd_ok, c1, bnd_ex]
      have u : ev (run Ph (j + 1)) none (.tup (.cons (.k (.str "told")) (.cons (.call 12 (.cons (.v 0) (.cons (.v 1) (.cons (.v 2) .nil)))) .nil))) [some (.trk n l q), some (row r), some d, some .non, none] S = bnd (evs (run Ph (j + 1)) none (.cons (.k (.str "told")) (.cons (.call 12 (.cons (.v 0) (.cons (.v 1) (.cons (.v 2) .nil)))) .nil)) [some (.trk n l q), some (row r), some d, some .non, none] S) fun ds S => lift (newT (frzs ds S).1 (frzs ds S).2) := rfl
      rw [u, this, bnd_ex]
    have x2 := x_set_ex (t := .n 3) e1
    have e2 : ev (run Ph (j + 1)) (some ⟨"BadStart", none⟩) (.tup (.cons (.k (.str "refused")) (.cons (.exIs 4 "TurnFault") .nil))) [some (.trk n l q), some (row r), some d, some .non, none] S = some (.ok refusedD S) :=
      e_tup (ds := [.str "refused", .bl true]) (es_cons e_k (es_cons rfl es_nil)) (by rw [frzs_no rfl]; exact newT_ok (by simp [maxLen]))
    have x3 := x_setv (i := 3) e2 rfl rfl (by simp)
    have x4 : exec (run Ph (j + 1)) none (.tryAs (.set (.t (.n 3)) (.tup (.cons (.k (.str "told")) (.cons (.call 12 (.cons (.v 0) (.cons (.v 1) (.cons (.v 2) .nil)))) .nil)))) "BadStart" 4 (.set (.t (.n 3)) (.tup (.cons (.k (.str "refused")) (.cons (.exIs 4 "TurnFault") .nil))))) [some (.trk n l q), some (row r), some d, some .non, none] S = some (.nx [some (.trk n l q), some (row r), some d, some refusedD, none], S) := by
      show (match exec (run Ph (j + 1)) none (.set (.t (.n 3)) (.tup (.cons (.k (.str "told")) (.cons (.call 12 (.cons (.v 0) (.cons (.v 1) (.cons (.v 2) .nil)))) .nil)))) [some (.trk n l q), some (row r), some d, some .non, none] S with
        | some (.xc e env1, S1) => if subEx e.cls "BadStart" then
            match exec (run Ph (j + 1)) (some e) (.set (.t (.n 3)) (.tup (.cons (.k (.str "refused")) (.cons (.exIs 4 "TurnFault") .nil)))) (env1.set 4 none) S1 with
            | some (.nx env2, S2) => some (Fl.nx (env2.set 4 none), S2)
            | some (.rt d, S2) => some (Fl.rt d, S2)
            | _ => none
          else some (Fl.xc e env1, S1)
        | r => r) = _
      rw [x2]
      dsimp only
      rw [if_pos (show subEx "BadStart" "BadStart" = true by decide)]
      show (match exec (run Ph (j + 1)) (some ⟨"BadStart", none⟩) (.set (.t (.n 3)) (.tup (.cons (.k (.str "refused")) (.cons (.exIs 4 "TurnFault") .nil)))) [some (.trk n l q), some (row r), some d, some .non, none] S with
            | some (.nx env2, S2) => some (Fl.nx (env2.set 4 none), S2)
            | some (.rt d, S2) => some (Fl.rt d, S2)
            | _ => none) = _
      rw [x3]
      rfl
    have hlt : ∀ m, D.lt m refusedD = true := fun _ => rfl
    rw [x_seq x4, x_ret (e_v rfl), atEnd_rt, gc_lt (hlt _), gc_lt (hlt _), take_self, take_self]
    rfl
end
end Rf
set_option Elab.async false
set_option linter.all false
set_option maxRecDepth 100000
/-! The law of turns: all is right. -/
namespace Rf
open PySem
def c_right1 : CS := (.seq (.set (.t (.n 10)) (.call 21 (.cons (.v 1) (.cons (.v 2) (.cons (.v 8) .nil))))) (.ite (.or (.not (.call 17 (.cons (.call 12 (.cons (.v 6) (.cons (.v 2) (.cons (.v 8) .nil)))) (.cons (.v 10) .nil)))) (.not (.call 17 (.cons (.call 12 (.cons (.v 6) (.cons (.v 10) (.cons (.v 8) .nil)))) (.cons (.v 2) .nil))))) (.ret (.k (.bl false))) .pass))
theorem evI_old {cl : Calls} {ex : Option Ex} {env : Env} {S : Store} {e : CE} {i : Nat} {xs : List D} (h : ev cl ex e env S = some (.ok (.ref i) S)) (hi : S[i]? = some (.lst xs)) : evI cl ex (.seq e) env S = some (.ok (xs, [(i, .lst xs)]) S) := by
  have hl := (List.getElem?_eq_some_iff.mp hi).1
  simp only [evI, h, fr_val (S := S) (x := .ref i) (by simp [D.lt, hl]), bnd_ok, seqOf, hi, pinOf]
theorem same_row {Ph : Nat → Option FD} {k : Nat} (h17 : Ph 17 = some ⟨2, 4, c_p_law_same⟩) (hk : 1 ≤ k) {S : Store} {r : List Int} (hl : r.length ≤ maxLen) : run Ph (k + 1) 17 [row r, row r] S = some (.ok (.bl true) S) := by
  obtain ⟨j, rfl⟩ : ∃ j, k = j + 1 := ⟨k - 1, by omega⟩
  have h1 : ∀ r : List Int, D.shps 0 (r.map .int) = true := fun r => by
    induction r with
    | nil => rfl
    | cons x r ih => simp only [List.map_cons, D.shps, D.shp, ih, Bool.and_self]
  have h2 : ∀ r : List Int, (r.map D.int).all (shortD 0) = true := fun r => by
    induction r with
    | nil => rfl
    | cons x r ih => rw [List.map_cons, List.all_cons, ih]; rfl
  exact same_ok (k := j) h17 1 (d := row r) (show D.shp 1 (row r) = true from h1 r) (by simp only [row, shortD, h2, Bool.and_true]; simpa using hl) (.inl rfl) (.inl rfl)
section
variable {Ph : Nat → Option FD} {k : Nat} {S : Store} {h t : Nat} {n l : Int} {q : Bool} {r : List Int}
theorem startB_in {s : Int} : isStartB n l q (.int s) = true ↔ (0 ≤ s ∧ s < startsN n l q) := by
  unfold isStartB
  simp
theorem starts_le (h1 : isStartB n l q (.int s) = true) : l ≤ n := by
  rw [startB_in] at h1
  unfold startsN at h1
  split at h1
  · omega
  · omega
theorem right1_step (F : TurnF Ph) (h17 : Ph 17 = some ⟨2, 4, c_p_law_same⟩) (h21 : Ph 21 = some ⟨3, 10, c_p_law_behind⟩) (hk : 8 ≤ k) (hn : 1 ≤ n ∧ n ≤ 20) (hl : 1 ≤ l ∧ l ≤ 20) (hrow : isRow r = true) (hr : (r.length : Int) = n) {T : Store} (ht : T[t]? = some (trkL n l q)) {d : Nat} {x10 : Option D} {s : Int} (hs : isStartB n l q (.int s) = true) :
    exec (run Ph k) none c_right1 [some (.ref h), some (.ref t), some (row r), some (.int n), some (.int l), some (.bl q), some (.trk n l q), some (.ref d), some (.int s), none, x10, none] T = some (.nx [some (.ref h), some (.ref t), some (row r), some (.int n), some (.int l), some (.bl q), some (.trk n l q), some (.ref d), some (.int s), none, some (row (behS n l s r l.toNat)), none], T) := by
  obtain ⟨j, rfl⟩ : ∃ j, k = j + 1 := ⟨k - 1, by omega⟩
  have mx : maxLen = 1000000 := rfl
  have hln := starts_le hs
  have e1 : ev (run Ph (j + 1)) none (.call 21 (.cons (.v 1) (.cons (.v 2) (.cons (.v 8) .nil)))) [some (.ref h), some (.ref t), some (row r), some (.int n), some (.int l), some (.bl q), some (.trk n l q), some (.ref d), some (.int s), none, x10, none] T = some (.ok (row (behS n l s r l.toNat)) T) := by
    rw [e_call (es_cons (e_v rfl) (es_cons (e_v rfl) (es_cons (e_v rfl) es_nil))), law_behind_ok h21 hn ⟨by omega, hl.2⟩ ht s hr, swap_beh hr (by omega) hln]
  have x1 := x_setv (i := 10) e1 rfl (lt_row _ _) (by simp)
  have hb : ((behS n l s r l.toNat).length : Int) = n := by rw [behS_length]; exact hr
  have t1 := turned_ok (S := T) (q := q) F.h1 F.h2 F.h3 F.h4 F.h5 F.h6 F.h7 F.h9 F.h10 F.h11 F.h12 (k := j) (by omega) hl hrow hr hn (.int s) (fun _ => rfl)
  have t2 := turned_ok (S := T) (q := q) F.h1 F.h2 F.h3 F.h4 F.h5 F.h6 F.h7 F.h9 F.h10 F.h11 F.h12 (k := j) (by omega) hl (behS_row hrow l.toNat (n := n) (l := l) (s := s)) hb hn (.int s) (fun _ => rfl)
  simp only [hs, if_true] at t1 t2
  rw [beh_beh hr (by omega) hln] at t2
  have env1 : ∀ i d', [some (.ref h), some (.ref t), some (row r), some (.int n), some (.int l), some (.bl q), some (.trk n l q), some (.ref d), some (.int s), none, some (row (behS n l s r l.toNat)), (none : Option D)][i]? = some (some d') → ev (run Ph (j + 1)) none (.v i) [some (.ref h), some (.ref t), some (row r), some (.int n), some (.int l), some (.bl q), some (.trk n l q), some (.ref d), some (.int s), none, some (row (behS n l s r l.toNat)), none] T = some (.ok d' T) := fun i d' e => e_v e
  have c1 : ev (run Ph (j + 1)) none (.not (.call 17 (.cons (.call 12 (.cons (.v 6) (.cons (.v 2) (.cons (.v 8) .nil)))) (.cons (.v 10) .nil)))) [some (.ref h), some (.ref t), some (row r), some (.int n), some (.int l), some (.bl q), some (.trk n l q), some (.ref d), some (.int s), none, some (row (behS n l s r l.toNat)), none] T = some (.ok (.bl false) T) :=
    e_not (k := true) ((e_call (es_cons ((e_call (es_cons (env1 6 _ rfl) (es_cons (env1 2 _ rfl) (es_cons (env1 8 _ rfl) es_nil)))).trans t1) (es_cons (env1 10 _ rfl) es_nil))).trans (same_row h17 (by omega) (by omega)))
  have c2 : ev (run Ph (j + 1)) none (.not (.call 17 (.cons (.call 12 (.cons (.v 6) (.cons (.v 10) (.cons (.v 8) .nil)))) (.cons (.v 2) .nil)))) [some (.ref h), some (.ref t), some (row r), some (.int n), some (.int l), some (.bl q), some (.trk n l q), some (.ref d), some (.int s), none, some (row (behS n l s r l.toNat)), none] T = some (.ok (.bl false) T) :=
    e_not (k := true) ((e_call (es_cons ((e_call (es_cons (env1 6 _ rfl) (es_cons (env1 10 _ rfl) (es_cons (env1 8 _ rfl) es_nil)))).trans t2) (es_cons (env1 2 _ rfl) es_nil))).trans (same_row h17 (by omega) (by omega)))
  rw [c_right1, x_seq x1]
  show exec (run Ph (j + 1)) none _ [some (.ref h), some (.ref t), some (row r), some (.int n), some (.int l), some (.bl q), some (.trk n l q), some (.ref d), some (.int s), none, some (row (behS n l s r l.toNat)), none] T = _
  rw [x_ite_f ((e_or_f c1).trans c2), take_self, x_pass]
end
end Rf
namespace Rf
open PySem
def c_right2 : CS := (.seq (.set (.t (.n 11)) (.and (.isi (.v 8) [.int]) (.and (.not (.isi (.v 8) [.bool])) (.cmp .isin (.v 8) (.v 7))))) (.seq (.ite (.cmp .ne (.cmp .eq (.idx (.call 22 (.cons (.v 6) (.cons (.v 2) (.cons (.v 8) .nil)))) (.k (.int 0))) (.k (.str "told"))) (.v 11)) (.ret (.k (.bl false))) .pass) (.ite (.and (.not (.v 11)) (.not (.call 17 (.cons (.call 22 (.cons (.v 6) (.cons (.v 2) (.cons (.v 8) .nil)))) (.cons (.tup (.cons (.k (.str "refused")) (.cons (.k (.bl true)) .nil))) .nil))))) (.ret (.k (.bl false))) .pass)))
section
variable {Ph : Nat → Option FD} {k : Nat} {S : Store} {h t : Nat} {n l : Int} {q : Bool} {r : List Int}
theorem res_str {T : Store} {s : Str} (h : strOk s = true) : res T (.str s) = some (.str s) := by
  unfold res
  exact if_pos h
theorem eq_tt {T : Store} : cmpop .eq (.str "told") (.str "told") T = some (.bl true) := by
  have r : res T (.str "told") = some (.str "told") := res_str (by decide +kernel)
  simp only [cmpop, r, D.eqv]
  simp
theorem eq_rt {T : Store} : cmpop .eq (.str "refused") (.str "told") T = some (.bl false) := by
  have r : res T (.str "told") = some (.str "told") := res_str (by decide +kernel)
  have r2 : res T (.str "refused") = some (.str "refused") := res_str (by decide +kernel)
  have e : ((Str.ofString "refused") == (Str.ofString "told")) = false := by decide +kernel
  simp only [cmpop, r, r2, D.eqv]
  rw [e]
/-- the odd things are no references and no functions -/
def oddD : D → Bool
  | .non => true
  | .bl _ => true
  | .int _ => true
  | .str _ => true
  | .tup _ => true
  | _ => false
theorem right2_step (F : TurnF Ph) (h17 : Ph 17 = some ⟨2, 4, c_p_law_same⟩) (h22 : Ph 22 = some ⟨3, 5, c_p_law_told⟩) (hk : 8 ≤ k) (hn : 1 ≤ n ∧ n ≤ 20) (hl : 1 ≤ l ∧ l ≤ 20) (hrow : isRow r = true) (hr : (r.length : Int) = n) {T : Store} {d : Nat} (hdue : T[d]? = some (.lst (startsL n l q))) {x9 x10 x11 : Option D} {x : D} (hx : oddD x = true) :
    ∃ x11', exec (run Ph k) none c_right2 [some (.ref h), some (.ref t), some (row r), some (.int n), some (.int l), some (.bl q), some (.trk n l q), some (.ref d), some x, x9, x10, x11] T = some (.nx [some (.ref h), some (.ref t), some (row r), some (.int n), some (.int l), some (.bl q), some (.trk n l q), some (.ref d), some x, x9, x10, x11'], T) := by
  obtain ⟨j, rfl⟩ : ∃ j, k = j + 1 := ⟨k - 1, by omega⟩
  have hio : ∀ S, intOk S x = true := fun S => by cases x <;> first | rfl | cases hx
  have v8 : ∀ {x11}, ev (run Ph (j + 1)) none (.v 8) [some (.ref h), some (.ref t), some (row r), some (.int n), some (.int l), some (.bl q), some (.trk n l q), some (.ref d), some x, x9, x10, x11] T = some (.ok x T) := e_v rfl
  have e1 : ev (run Ph (j + 1)) none (.and (.isi (.v 8) [.int]) (.and (.not (.isi (.v 8) [.bool])) (.cmp .isin (.v 8) (.v 7)))) [some (.ref h), some (.ref t), some (row r), some (.int n), some (.int l), some (.bl q), some (.trk n l q), some (.ref d), some x, x9, x10, x11] T = some (.ok (.bl (isStartB n l q x)) T) := by
    cases x with
    | int i =>
      rw [e_and_t (e_isi v8 rfl), e_and_t (e_not (k := false) (e_isi v8 rfl))]
      refine e_cmp v8 (e_v rfl) ?_
      have r1 : res T (.ref d) = some (.lst (startsL n l q)) := by
        have : res0 T (.ref d) = .lst (startsL n l q) := by simp only [res0, hdue]
        unfold res
        rw [this, if_pos (show D.dat (.lst (startsL n l q)) = true from shps_range 7 0 1 _)]
      have r2 : res T (.int i) = some (.int i) := rfl
      show (inop T (.int i) (.ref d)).map D.bl = _
      simp only [inop, r1, r2]
      unfold startsL
      rw [hasIn_range]
      simp [isStartB]
    | bl b => exact (e_and_t (e_isi v8 rfl)).trans (e_and_f (e_not (k := true) (e_isi v8 rfl)))
    | non => exact e_and_f (e_isi v8 rfl)
    | str s => exact e_and_f (e_isi v8 rfl)
    | tup xs => exact e_and_f (e_isi v8 rfl)
    | _ => cases hx
  have x1 := x_setv (i := 11) e1 rfl rfl (by simp)
  obtain ⟨w, t1⟩ := told_ok (S := T) (q := q) F h22 (k := j) (by omega) hl hrow hr hn x hio
  have c22 : ev (run Ph (j + 1)) none (.call 22 (.cons (.v 6) (.cons (.v 2) (.cons (.v 8) .nil)))) [some (.ref h), some (.ref t), some (row r), some (.int n), some (.int l), some (.bl q), some (.trk n l q), some (.ref d), some x, x9, x10, some (.bl (isStartB n l q x))] T = some (.ok (if isStartB n l q x then .tup [.str "told", row w] else refusedD) T) :=
    (e_call (es_cons (e_v rfl) (es_cons (e_v rfl) (es_cons (e_v rfl) es_nil)))).trans t1
  have v11 : ev (run Ph (j + 1)) none (.v 11) [some (.ref h), some (.ref t), some (row r), some (.int n), some (.int l), some (.bl q), some (.trk n l q), some (.ref d), some x, x9, x10, some (.bl (isStartB n l q x))] T = some (.ok (.bl (isStartB n l q x)) T) := e_v rfl
  refine ⟨some (.bl (isStartB n l q x)), ?_⟩
  rw [c_right2, x_seq x1]
  show exec (run Ph (j + 1)) none _ [some (.ref h), some (.ref t), some (row r), some (.int n), some (.int l), some (.bl q), some (.trk n l q), some (.ref d), some x, x9, x10, some (.bl (isStartB n l q x))] T = _
  generalize hb : isStartB n l q x = b at *
  cases b with
  | true =>
    have c1 : ev (run Ph (j + 1)) none (.cmp .ne (.cmp .eq (.idx (.call 22 (.cons (.v 6) (.cons (.v 2) (.cons (.v 8) .nil)))) (.k (.int 0))) (.k (.str "told"))) (.v 11)) [some (.ref h), some (.ref t), some (row r), some (.int n), some (.int l), some (.bl q), some (.trk n l q), some (.ref d), some x, x9, x10, some (.bl true)] T = some (.ok (.bl false) T) :=
      e_cmp (e_cmp (x := .str "told") (d := .bl true) (e_idx c22 e_k rfl) e_k eq_tt) v11 rfl
    rw [x_skip c1, x_ite_f (e_and_f (e_not (k := true) v11)), take_self, x_pass]
  | false =>
    have c1 : ev (run Ph (j + 1)) none (.cmp .ne (.cmp .eq (.idx (.call 22 (.cons (.v 6) (.cons (.v 2) (.cons (.v 8) .nil)))) (.k (.int 0))) (.k (.str "told"))) (.v 11)) [some (.ref h), some (.ref t), some (row r), some (.int n), some (.int l), some (.bl q), some (.trk n l q), some (.ref d), some x, x9, x10, some (.bl false)] T = some (.ok (.bl false) T) :=
      e_cmp (e_cmp (x := .str "refused") (d := .bl false) (e_idx c22 e_k rfl) e_k eq_rt) v11 rfl
    have c2 : ev (run Ph (j + 1)) none (.call 17 (.cons (.call 22 (.cons (.v 6) (.cons (.v 2) (.cons (.v 8) .nil)))) (.cons (.tup (.cons (.k (.str "refused")) (.cons (.k (.bl true)) .nil))) .nil))) [some (.ref h), some (.ref t), some (row r), some (.int n), some (.int l), some (.bl q), some (.trk n l q), some (.ref d), some x, x9, x10, some (.bl false)] T = some (.ok (.bl true) T) := by
      rw [e_call (es_cons c22 (es_cons (e_tup (ds := [.str "refused", .bl true]) (d := refusedD) (es_cons e_k (es_cons e_k es_nil)) (by rw [frzs_no rfl]; exact newT_ok (by simp [maxLen]))) es_nil))]
      obtain ⟨i, rfl⟩ : ∃ i, j = i + 1 := ⟨j - 1, by omega⟩
      exact same_ok (k := i) h17 1 (d := refusedD) (by decide +kernel) rfl (.inl rfl) (.inl rfl)
    rw [x_skip c1, x_ite_f ((e_and_t (e_not (k := false) v11)).trans (e_not (k := true) c2)), take_self, x_pass]
end
end Rf
set_option Elab.async false
set_option linter.all false
set_option maxRecDepth 100000
/-! The law of turns: all is right. -/
namespace Rf
open PySem
theorem evI_new2 {cl : Calls} {ex : Option Ex} {env : Env} {S S1 : Store} {a : O} {e : CE} {xs : List D} (h : ev cl ex e env S = some (.ok (.ref (S1.length + 1)) (S1 ++ [a, .lst xs]))) (hl : S1.length = S.length) (hx : D.lts 0 xs = true) : evI cl ex (.seq e) env S = some (.ok (xs, []) S1) := by
  have hx2 : D.lts S.length xs = true := D.lts_of (Nat.zero_le _) hx
  have g : gc S.length (.ref (S1.length + 1)) (S1 ++ [a, O.lst xs]) = (.ref S.length, S1 ++ [.lst xs]) := by
    rw [hl]
    exact gc_new2 hl hx
  have g1 : gcR S.length (some (R.ok (D.ref (S1.length + 1)) (S1 ++ [a, O.lst xs]))) = some (R.ok (D.ref S.length) (S1 ++ [O.lst xs])) := by
    show some (R.ok (gc S.length (.ref (S1.length + 1)) (S1 ++ [a, O.lst xs])).1 (gc S.length (.ref (S1.length + 1)) (S1 ++ [a, O.lst xs])).2) = _
    rw [g]
  have fz : frz (.ref S.length) (S1 ++ [O.lst xs]) = (.lst xs, S1 ++ [O.fzl xs]) := by
    rw [← hl]
    unfold frz
    simp [hx]
  have f1 : fresh S.length (.ref S.length) (S1 ++ [O.lst xs]) = (.lst xs, S1) := by
    unfold fresh
    rw [fz]
    have h2 : D.lt S.length (.lst xs) = true := hx2
    simp only [h2, if_true, Nat.le_refl]
    rw [← hl]
    simp
  simp only [evI, h]
  unfold freshR
  rw [g1]
  simp only [f1, bnd_ok, seqOf, pinOf]
def c_odd : CEs := (.cons (.bi .len (.cons (.v 7) .nil)) (.cons (.neg (.k (.int 1))) (.cons (.v 3) (.cons (.bin .add (.bin .sub (.v 3) (.v 4)) (.k (.int 1))) (.cons (.neg (.v 3)) (.cons (.k .non) (.cons (.k (.bl true)) (.cons (.k (.bl false)) (.cons (.k (.str "0")) (.cons (.tup (.cons (.k (.int 0)) .nil)) (.cons (.bin .pow (.k (.int 10)) (.k (.int 11))) .nil)))))))))))
def c_p_law_are_right : CS := (.seq (.set (.t (.tup (.cons (.n 3) (.cons (.n 4) (.cons (.n 5) .nil))))) (.v 1)) (.seq (.par [6, 7] (.cons (.mkT (.cons (.v 3) (.cons (.v 4) (.cons (.v 5) .nil)))) (.cons (.call 20 (.cons (.v 1) .nil)) .nil))) (.seq (.ite (.not (.call 17 (.cons (.call 8 (.cons (.v 6) .nil)) (.cons (.bi .tuple (.cons (.v 7) .nil)) .nil)))) (.ret (.k (.bl false))) .pass) (.seq (.for (.n 8) (.seq (.v 7)) c_right1) (.seq (.set (.t (.n 9)) (.lst c_odd)) (.seq (.for (.n 8) (.seq (.sl (.call 16 (.cons (.v 0) (.cons (.v 9) .nil))) .none (.some (.k (.int 6))))) c_right2) (.ret (.k (.bl true)))))))))
section
variable {Ph : Nat → Option FD} {k : Nat} {S : Store} {h t : Nat} {n l : Int} {q : Bool} {r : List Int}
def oddL (N : Nat) (n l : Int) : List D := [.int N, .int (-1), .int n, .int (n - l + 1), .int (-n), .non, .bl true, .bl false, .str "0", .tup [.int 0], .int 100000000000]
theorem are_right_ok (F : TurnF Ph) (h14 : Ph 14 = some ⟨2, 5, c_p_law_draw⟩) (h16 : Ph 16 = some ⟨2, 4, c_p_law_mixed⟩) (h17 : Ph 17 = some ⟨2, 4, c_p_law_same⟩) (h20 : Ph 20 = some ⟨1, 4, c_p_law_starts⟩) (h21 : Ph 21 = some ⟨3, 10, c_p_law_behind⟩) (h22 : Ph 22 = some ⟨3, 5, c_p_law_told⟩) (h23 : Ph 23 = some ⟨3, 12, c_p_law_are_right⟩) (hk : 8 ≤ k) (hH : HOk S h) (ht : S[t]? = some (trkL n l q)) (hn : 1 ≤ n ∧ n ≤ 20) (hl : 1 ≤ l ∧ l ≤ 20) (hrow : isRow r = true) (hr : (r.length : Int) = n) :
    ∃ S', run Ph (k + 1) 23 [.ref h, .ref t, row r] S = some (.ok (.bl true) S') ∧ HR h S S' := by
  obtain ⟨j, rfl⟩ : ∃ j, k = j + 2 := ⟨k - 2, by omega⟩
  have mx : maxLen = 1000000 := rfl
  have hh := hH.lt
  have htl := (List.getElem?_eq_some_iff.mp ht).1
  have hN := startsN_le (q := q) (show 0 ≤ n by omega) hl.1
  rw [run_at (env := [some (.ref h), some (.ref t), some (row r), none, none, none, none, none, none, none, none, none]) h23 S]
  have u := x_unp (cl := run Ph (j + 2)) (ex := none) (env := [some (.ref h), some (.ref t), some (row r), none, none, none, none, none, none, none, none, none]) (env1 := [some (.ref h), some (.ref t), some (row r), some (.int n), some (.int l), some (.bl q), none, none, none, none, none, none]) (ts := .cons (.n 3) (.cons (.n 4) (.cons (.n 5) .nil))) (i := 1) rfl ht rfl
  have e1 : ev (run Ph (j + 2)) none (.mkT (.cons (.v 3) (.cons (.v 4) (.cons (.v 5) .nil)))) [some (.ref h), some (.ref t), some (row r), some (.int n), some (.int l), some (.bl q), none, none, none, none, none, none] S = some (.ok (.trk n l q) S) := by
    rw [e_mkT (es_cons (e_v rfl) (es_cons (e_v rfl) (es_cons (e_v rfl) es_nil)))]
    simp [run, mkTrack, isFn, within, hn, hl]
  have e2 : ev (run Ph (j + 2)) none (.call 20 (.cons (.v 1) .nil)) [some (.ref h), some (.ref t), some (row r), some (.int n), some (.int l), some (.bl q), none, none, none, none, none, none] S = some (.ok (.ref S.length) (S ++ [.lst (startsL n l q)])) := by
    rw [e_call (es_cons (e_v rfl) es_nil), law_starts_ok h20 ⟨by omega, hn.2⟩ ⟨by omega, hl.2⟩ ht]
  have p1 := x_par (cl2 := run Ph (j + 2)) (ex := none) (is := [6, 7]) (env1 := [some (.ref h), some (.ref t), some (row r), some (.int n), some (.int l), some (.bl q), some (.trk n l q), some (.ref S.length), none, none, none, none]) (es_cons e1 (es_cons e2 es_nil)) rfl
  have hdue : (S ++ [O.lst (startsL n l q)])[S.length]? = some (.lst (startsL n l q)) := by simp
  have sl : (startsL n l q).length = startsN n l q := by simp [startsL, rangeD]
  have sh : ∀ m, D.shp (m + 1) (.tup (startsL n l q)) = true := fun m => shps_range m 0 1 _
  have shd : shortD 1 (.tup (startsL n l q)) = true := by
    have : (startsL n l q).all (shortD 0) = true := by
      rw [List.all_eq_true]
      intro x hx
      obtain ⟨i, hi, rfl⟩ := List.mem_map.mp hx
      rfl
    simp only [shortD, this, Bool.and_true]
    simp
    omega
  have c1 : ev (run Ph (j + 2)) none (.not (.call 17 (.cons (.call 8 (.cons (.v 6) .nil)) (.cons (.bi .tuple (.cons (.v 7) .nil)) .nil)))) [some (.ref h), some (.ref t), some (row r), some (.int n), some (.int l), some (.bl q), some (.trk n l q), some (.ref S.length), none, none, none, none] (S ++ [.lst (startsL n l q)]) = some (.ok (.bl false) (S ++ [.lst (startsL n l q)])) := by
    refine e_not (k := true) ?_
    have a1 : ev (run Ph (j + 2)) none (.call 8 (.cons (.v 6) .nil)) [some (.ref h), some (.ref t), some (row r), some (.int n), some (.int l), some (.bl q), some (.trk n l q), some (.ref S.length), none, none, none, none] (S ++ [.lst (startsL n l q)]) = some (.ok (.tup (startsL n l q)) (S ++ [.lst (startsL n l q)])) := by
      rw [e_call (es_cons (e_v rfl) es_nil), starts_ok F.h3 F.h7 F.h8 (by omega) ⟨by omega, hn.2⟩ ⟨by omega, hl.2⟩]
    have a2 : ev (run Ph (j + 2)) none (.bi .tuple (.cons (.v 7) .nil)) [some (.ref h), some (.ref t), some (row r), some (.int n), some (.int l), some (.bl q), some (.trk n l q), some (.ref S.length), none, none, none, none] (S ++ [.lst (startsL n l q)]) = some (.ok (.tup (startsL n l q)) (S ++ [.lst (startsL n l q)])) :=
      e_bi (es_cons (e_v rfl) es_nil) (by simp [builtin, un1, bTuple, lstOf])
    rw [e_call (es_cons a1 (es_cons a2 es_nil))]
    exact same_ok (k := j) h17 1 (sh 0) shd (.inl rfl) (.inl rfl)
  have eI := evI_old (cl := run Ph (j + 2)) (ex := none) (e := .v 7) (env := [some (.ref h), some (.ref t), some (row r), some (.int n), some (.int l), some (.bl q), some (.trk n l q), some (.ref S.length), none, none, none, none]) (e_v rfl) hdue
  obtain ⟨env', T', f1, x8, x10, rfl, rfl⟩ := (show ∃ env' S', forGo (fun env S => exec (run Ph (j + 2)) none c_right1 env S) (startsL n l q) [(S.length, O.lst (startsL n l q))] (.n 8) [some (.ref h), some (.ref t), some (row r), some (.int n), some (.int l), some (.bl q), some (.trk n l q), some (.ref S.length), none, none, none, none] (S ++ [.lst (startsL n l q)]) = some (.nx env', S') ∧ ∃ x8 x10, env' = [some (.ref h), some (.ref t), some (row r), some (.int n), some (.int l), some (.bl q), some (.trk n l q), some (.ref S.length), x8, none, x10, none] ∧ S' = S ++ [O.lst (startsL n l q)] from by
    obtain ⟨env', S', g1, _, g2⟩ := for_ind (body := fun env S => exec (run Ph (j + 2)) none c_right1 env S) (tg := .n 8) (p := [(S.length, O.lst (startsL n l q))]) (fun xs env T => (∀ x ∈ xs, x ∈ startsL n l q) ∧ ∃ x8 x10, env = [some (.ref h), some (.ref t), some (row r), some (.int n), some (.int l), some (.bl q), some (.trk n l q), some (.ref S.length), x8, none, x10, none] ∧ T = S ++ [O.lst (startsL n l q)])
      (fun xs env T ⟨_, x8, x10, _, hT⟩ => by
        subst hT
        simp [pinned]) (fun x xs env T ⟨hm, x8, x10, he, hT⟩ => by
        subst he hT
        obtain ⟨i, hi, rfl⟩ := List.mem_map.mp (hm x (by simp))
        simp only [List.mem_range] at hi
        have hs : isStartB n l q (.int (0 + (i : Int) * 1)) = true := startB_in.mpr ⟨by omega, by omega⟩
        exact ⟨_, _, _, rfl, right1_step F h17 h21 hk hn hl hrow hr (by rw [List.getElem?_append_left htl]; exact ht) hs, fun y hy => hm y (by simp [hy]), _, _, rfl, rfl⟩) (startsL n l q) _ (S ++ [O.lst (startsL n l q)]) ⟨fun _ hx => hx, none, none, rfl, rfl⟩
    exact ⟨env', S', g1, g2⟩)
  have L1 : (S ++ [O.lst (startsL n l q)]).length = S.length + 1 := by simp
  have e9 : ev (run Ph (j + 2)) none (.lst c_odd) [some (.ref h), some (.ref t), some (row r), some (.int n), some (.int l), some (.bl q), some (.trk n l q), some (.ref S.length), x8, none, x10, none] (S ++ [.lst (startsL n l q)]) = some (.ok (.ref (S ++ [O.lst (startsL n l q)]).length) ((S ++ [O.lst (startsL n l q)]) ++ [.lst (oddL (startsN n l q) n l)])) := by
    have b1 : ev (run Ph (j + 2)) none (.bi .len (.cons (.v 7) .nil)) [some (.ref h), some (.ref t), some (row r), some (.int n), some (.int l), some (.bl q), some (.trk n l q), some (.ref S.length), x8, none, x10, none] (S ++ [.lst (startsL n l q)]) = some (.ok (.int (startsN n l q : Nat)) (S ++ [.lst (startsL n l q)])) := e_bi (es_cons (e_v rfl) es_nil) (by
      show bLen (.ref S.length) _ = _
      simp [bLen, seqOf, sl])
    have b2 : ev (run Ph (j + 2)) none (.tup (.cons (.k (.int 0)) .nil)) [some (.ref h), some (.ref t), some (row r), some (.int n), some (.int l), some (.bl q), some (.trk n l q), some (.ref S.length), x8, none, x10, none] (S ++ [.lst (startsL n l q)]) = some (.ok (.tup [.int 0]) (S ++ [.lst (startsL n l q)])) := e_tup (ds := [.int 0]) (es_cons e_k es_nil) (by rw [frzs_no rfl]; exact newT_ok (by simp [maxLen]))
    have b3 : ev (run Ph (j + 2)) none (.bin .pow (.k (.int 10)) (.k (.int 11))) [some (.ref h), some (.ref t), some (row r), some (.int n), some (.int l), some (.bl q), some (.trk n l q), some (.ref S.length), x8, none, x10, none] (S ++ [.lst (startsL n l q)]) = some (.ok (.int 100000000000) (S ++ [.lst (startsL n l q)])) := e_bin (x := .int 10) (y := .int 11) e_k e_k (by simp [binop, show small64 10 = true by decide])
    refine e_lst (ds := oddL (startsN n l q) n l) (es_cons b1 (es_cons (e_neg (k := 1) e_k) (es_cons (e_v rfl) (es_cons (e_bin (o := .add) (x := .int (n - l)) (e_bin (o := .sub) (x := .int n) (y := .int l) (e_v rfl) (e_v rfl) rfl) e_k rfl) (es_cons (e_neg (k := n) (e_v rfl)) (es_cons e_k (es_cons e_k (es_cons e_k (es_cons e_k (es_cons b2 (es_cons b3 es_nil))))))))))) ?_
    rw [frzs_no rfl]
    exact newL_ok (by simp [oddL, maxLen])
  have x9 := x_setn (i := 9) e9 rfl (D.lts_of (Nat.zero_le _) (show D.lts 0 (oddL (startsN n l q) n l) = true from rfl)) (by simp)
  have hs9 : seqOf ((S ++ [O.lst (startsL n l q)]) ++ [O.lst (oddL (startsN n l q) n l)]) (.ref (S ++ [O.lst (startsL n l q)]).length) = some (oddL (startsN n l q) n l) := by
    have : ((S ++ [O.lst (startsL n l q)]) ++ [O.lst (oddL (startsN n l q) n l)])[(S ++ [O.lst (startsL n l q)]).length]? = some (.lst (oddL (startsN n l q) n l)) := by
      rw [List.getElem?_append_right (Nat.le_refl _)]
      simp
    simp only [seqOf, this]
  obtain ⟨ys, S4, m1, m2, m3⟩ := mixed_ok (k := j + 1) h14 h16 (by omega) ((hH.app (T := [O.lst (startsL n l q)])).app (T := [O.lst (oddL (startsN n l q) n l)])) hs9 (by simp [oddL, maxLen]) rfl
  have hy0 : D.lts 0 ys = true := lts_perm m2.symm rfl
  have hcut : cut ys none (some 6) = ys.take 6 := by
    have : ys.length = 11 := m2.length_eq
    unfold cut sIx
    simp [this]
  have hc0 : D.lts 0 (ys.take 6) = true := by
    have key : ∀ xs : List D, D.lts 0 xs = true → ∀ m, D.lts 0 (xs.take m) = true := fun xs => by
      induction xs with
      | nil => intro _ m; simp [D.lts]
      | cons x xs ih =>
        intro hx m
        simp only [D.lts, Bool.and_eq_true] at hx
        cases m with
        | zero => rfl
        | succ m => simp [D.lts, hx.1, ih hx.2 m]
    exact key ys hy0 6
  have eI2 : evI (run Ph (j + 2)) none (.seq (.sl (.call 16 (.cons (.v 0) (.cons (.v 9) .nil))) .none (.some (.k (.int 6))))) [some (.ref h), some (.ref t), some (row r), some (.int n), some (.int l), some (.bl q), some (.trk n l q), some (.ref S.length), x8, some (.ref (S ++ [O.lst (startsL n l q)]).length), x10, none] ((S ++ [O.lst (startsL n l q)]) ++ [O.lst (oddL (startsN n l q) n l)]) = some (.ok (ys.take 6, []) S4) := by
    refine evI_new2 (a := .lst ys) (e_sl0 ((e_call (es_cons (e_v rfl) (es_cons (e_v rfl) es_nil))).trans m1) e_k ?_) m3.len hc0
    have hl' : lstOf (S4 ++ [O.lst ys]) (.ref S4.length) = some ys := by simp [lstOf]
    show slice (.ref S4.length) none (some 6) (S4 ++ [O.lst ys]) = _
    simp only [slice, hl', hcut]
    rw [newL_ok (by simp; omega)]
    simp
  have hdue2 : S4[S.length]? = some (.lst (startsL n l q)) := by
    rw [m3.get (by omega)]
    simp
  obtain ⟨env2, T2, f2, z8, z11, rfl, rfl⟩ := (show ∃ env' S', forGo (fun env S => exec (run Ph (j + 2)) none c_right2 env S) (ys.take 6) [] (.n 8) [some (.ref h), some (.ref t), some (row r), some (.int n), some (.int l), some (.bl q), some (.trk n l q), some (.ref S.length), x8, some (.ref (S ++ [O.lst (startsL n l q)]).length), x10, none] S4 = some (.nx env', S') ∧ ∃ x8 x11, env' = [some (.ref h), some (.ref t), some (row r), some (.int n), some (.int l), some (.bl q), some (.trk n l q), some (.ref S.length), x8, some (.ref (S ++ [O.lst (startsL n l q)]).length), x10, x11] ∧ S' = S4 from by
    obtain ⟨env', S', g1, _, g2⟩ := for_ind (body := fun env S => exec (run Ph (j + 2)) none c_right2 env S) (tg := .n 8) (p := []) (fun xs env T => (∀ x ∈ xs, x ∈ oddL (startsN n l q) n l) ∧ ∃ x8 x11, env = [some (.ref h), some (.ref t), some (row r), some (.int n), some (.int l), some (.bl q), some (.trk n l q), some (.ref S.length), x8, some (.ref (S ++ [O.lst (startsL n l q)]).length), x10, x11] ∧ T = S4)
      (fun xs env T _ => rfl) (fun x xs env T ⟨hm, x8, x11, he, hT⟩ => by
        subst he hT
        have ho : oddD x = true := by
          have : (oddL (startsN n l q) n l).all oddD = true := rfl
          rw [List.all_eq_true] at this
          exact this x (hm x (by simp))
        obtain ⟨w, s1⟩ := right2_step (h := h) (t := t) (x9 := some (.ref (S ++ [O.lst (startsL n l q)]).length)) (x10 := x10) (x11 := x11) F h17 h22 hk hn hl hrow hr hdue2 ho
        exact ⟨_, _, _, rfl, s1, fun y hy => hm y (by simp [hy]), _, _, rfl, rfl⟩) (ys.take 6) _ S4 ⟨fun x hx => m2.mem_iff.mp (List.mem_of_mem_take hx), x8, none, rfl, rfl⟩
    exact ⟨env', S', g1, g2⟩)
  obtain ⟨S5, rfl, m4⟩ := HR.below (h := h) (S := S) (T := [O.lst (startsL n l q)] ++ [O.lst (oddL (startsN n l q) n l)]) hh (by simpa using m3)
  refine ⟨S5, ?_, m4⟩
  rw [c_p_law_are_right, x_seq u, x_seq p1, x_skip c1, x_seq (by rw [x_for eI]; exact f1), x_seq x9]
  show atEnd S.length (exec (run Ph (j + 2)) none _ [some (.ref h), some (.ref t), some (row r), some (.int n), some (.int l), some (.bl q), some (.trk n l q), some (.ref S.length), x8, some (.ref (S ++ [O.lst (startsL n l q)]).length), x10, none] _) = _
  rw [x_seq (by rw [x_for eI2]; exact f2), x_ret e_k, gc_bl', take_self, atEnd_rt, gc_bl', ← m4.len, List.take_left]
end
end Rf
set_option Elab.async false
set_option linter.all false
set_option maxRecDepth 100000
/-! The law of turns: what is known. -/
namespace Rf
open PySem
def c_p_law_are_known : CS := (.seq (.set (.t (.n 0)) (.lst (.cons (.call 12 (.cons (.mkT (.cons (.k (.int 5)) (.cons (.k (.int 3)) (.cons (.k (.bl false)) .nil)))) (.cons (.tup (.cons (.k (.int 1)) (.cons (.k (.int 2)) (.cons (.k (.int 3)) (.cons (.k (.int 4)) (.cons (.k (.int 5)) .nil)))))) (.cons (.k (.int 1)) .nil)))) (.cons (.call 12 (.cons (.mkT (.cons (.k (.int 5)) (.cons (.k (.int 3)) (.cons (.k (.bl true)) .nil)))) (.cons (.tup (.cons (.k (.int 1)) (.cons (.k (.int 2)) (.cons (.k (.int 3)) (.cons (.k (.int 4)) (.cons (.k (.int 5)) .nil)))))) (.cons (.k (.int 4)) .nil)))) .nil)))) (.seq (.ex (.mt .extend (.v 0) (.cons (.lst (.cons (.call 12 (.cons (.mkT (.cons (.k (.int 4)) (.cons (.k (.int 4)) (.cons (.k (.bl true)) .nil)))) (.cons (.tup (.cons (.k (.int 1)) (.cons (.k (.int 2)) (.cons (.k (.int 3)) (.cons (.k (.int 4)) .nil))))) (.cons (.k (.int 1)) .nil)))) (.cons (.call 12 (.cons (.mkT (.cons (.k (.int 3)) (.cons (.k (.int 1)) (.cons (.k (.bl true)) .nil)))) (.cons (.tup (.cons (.k (.int 1)) (.cons (.k (.int 2)) (.cons (.k (.int 3)) .nil)))) (.cons (.k (.int 2)) .nil)))) .nil))) .nil))) (.seq (.ex (.mt .extend (.v 0) (.cons (.lst (.cons (.call 12 (.cons (.mkT (.cons (.k (.int 6)) (.cons (.k (.int 5)) (.cons (.k (.bl true)) .nil)))) (.cons (.tup (.cons (.k (.int 1)) (.cons (.k (.int 2)) (.cons (.k (.int 3)) (.cons (.k (.int 4)) (.cons (.k (.int 5)) (.cons (.k (.int 6)) .nil))))))) (.cons (.k (.int 3)) .nil)))) (.cons (.call 8 (.cons (.mkT (.cons (.k (.int 3)) (.cons (.k (.int 4)) (.cons (.k (.bl true)) .nil)))) .nil)) (.cons (.call 8 (.cons (.mkT (.cons (.k (.int 2)) (.cons (.k (.int 2)) (.cons (.k (.bl true)) .nil)))) .nil)) .nil)))) .nil))) (.seq (.set (.t (.n 1)) (.lst (.cons (.tup (.cons (.k (.int 1)) (.cons (.k (.int 4)) (.cons (.k (.int 3)) (.cons (.k (.int 2)) (.cons (.k (.int 5)) .nil)))))) (.cons (.tup (.cons (.k (.int 1)) (.cons (.k (.int 5)) (.cons (.k (.int 3)) (.cons (.k (.int 4)) (.cons (.k (.int 2)) .nil)))))) (.cons (.tup (.cons (.k (.int 2)) (.cons (.k (.int 1)) (.cons (.k (.int 4)) (.cons (.k (.int 3)) .nil))))) (.cons (.tup (.cons (.k (.int 1)) (.cons (.k (.int 2)) (.cons (.k (.int 3)) .nil)))) (.cons (.tup (.cons (.k (.int 5)) (.cons (.k (.int 4)) (.cons (.k (.int 3)) (.cons (.k (.int 2)) (.cons (.k (.int 1)) (.cons (.k (.int 6)) .nil))))))) (.cons (.tup .nil) (.cons (.tup (.cons (.k (.int 0)) (.cons (.k (.int 1)) .nil))) .nil))))))))) (.ret (.call 17 (.cons (.v 0) (.cons (.v 1) .nil))))))))
theorem e_row {cl : Calls} {ex : Option Ex} {env : Env} {S : Store} {es : CEs} {r : List Int} (h : evs cl ex es env S = some (.ok (r.map .int) S)) (hl : r.length ≤ maxLen) : ev cl ex (.tup es) env S = some (.ok (row r) S) := by
  refine e_tup h ?_
  have : (r.map D.int).all noRef = true := by simp [noRef]
  rw [frzs_no this]
  exact newT_ok (by simpa using hl)
theorem x_extend {cl : Calls} {ex : Option Ex} {env : Env} {S : Store} {e : CE} {xs ys : List D} (h0 : env[0]? = some (some (.ref S.length))) (h : ev cl ex e env (S ++ [.lst xs]) = some (.ok (.ref (S ++ [O.lst xs]).length) ((S ++ [O.lst xs]) ++ [.lst ys]))) (hy : D.lts 0 ys = true) (hl : xs.length + ys.length ≤ maxLen) : exec cl ex (.ex (.mt .extend (.v 0) (.cons e .nil))) env (S ++ [.lst xs]) = some (.nx env, S ++ [.lst (xs ++ ys)]) := by
  have e1 : ev cl ex (.mt .extend (.v 0) (.cons e .nil)) env (S ++ [.lst xs]) = some (.ok .non (S ++ [.lst (xs ++ ys), .lst ys])) := by
    refine e_mt (e_v h0) rfl (es_cons h es_nil) ?_
    have m : mutL (.ref S.length) ((S ++ [O.lst xs]) ++ [.lst ys]) = some (S.length, xs) := by simp [mutL]
    have l : lstOf ((S ++ [O.lst xs]) ++ [.lst ys]) (.ref (S ++ [O.lst xs]).length) = some ys := by
      have : ((S ++ [O.lst xs]) ++ [O.lst ys])[(S ++ [O.lst xs]).length]? = some (.lst ys) := by
        rw [List.getElem?_append_right (Nat.le_refl _)]
        simp
      simp only [lstOf, this]
    show mExtend (.ref S.length) (.ref (S ++ [O.lst xs]).length) ((S ++ [O.lst xs]) ++ [.lst ys]) = _
    simp only [mExtend, m, l]
    rw [if_pos ⟨D.lts_of (Nat.zero_le _) hy, hl⟩, List.append_assoc]
    show some (D.non, (S ++ [O.lst xs, O.lst ys]).set S.length (.lst (xs ++ ys))) = _
    rw [set_app0]
  rw [x_ex e1, gc_non]
  show some (Fl.nx env, List.take (S ++ [O.lst xs]).length (S ++ [O.lst (xs ++ ys), O.lst ys])) = _
  rw [show S ++ [O.lst (xs ++ ys), O.lst ys] = (S ++ [O.lst (xs ++ ys)]) ++ [O.lst ys] by simp, show (S ++ [O.lst xs]).length = (S ++ [O.lst (xs ++ ys)]).length by simp, List.take_left]
section
variable {Ph : Nat → Option FD} {k : Nat} {S : Store}
theorem e_turn (F : TurnF Ph) (hk : 6 ≤ k) {env : Env} {n l s : Int} {q : Bool} {r w : List Int} {es : CEs} (hes : ∀ S, evs (run Ph k) none es env S = some (.ok (r.map .int) S)) (hn : 1 ≤ n ∧ n ≤ 20) (hl : 1 ≤ l ∧ l ≤ 20) (hr : (r.length : Int) = n) (hrow : isRow r = true) (hs : isStartB n l q (.int s) = true) (hw : behS n l s r l.toNat = w) (S : Store) :
    ev (run Ph k) none (.call 12 (.cons (.mkT (.cons (.k (.int n)) (.cons (.k (.int l)) (.cons (.k (.bl q)) .nil)))) (.cons (.tup es) (.cons (.k (.int s)) .nil)))) env S = some (.ok (row w) S) := by
  obtain ⟨j, rfl⟩ : ∃ j, k = j + 1 := ⟨k - 1, by omega⟩
  have mx : maxLen = 1000000 := rfl
  have e1 : ev (run Ph (j + 1)) none (.mkT (.cons (.k (.int n)) (.cons (.k (.int l)) (.cons (.k (.bl q)) .nil)))) env S = some (.ok (.trk n l q) S) := by
    rw [e_mkT (es_cons e_k (es_cons e_k (es_cons e_k es_nil)))]
    simp [run, mkTrack, isFn, within, hn, hl]
  have t := turned_ok (S := S) (q := q) F.h1 F.h2 F.h3 F.h4 F.h5 F.h6 F.h7 F.h9 F.h10 F.h11 F.h12 (k := j) (by omega) hl hrow hr hn (.int s) (fun _ => rfl)
  simp only [hs, if_true, hw] at t
  rw [e_call (es_cons e1 (es_cons (e_row (hes S) (by omega)) (es_cons e_k es_nil))), t]
theorem e_starts (F : TurnF Ph) (hk : 3 ≤ k) {env : Env} {n l : Int} {q : Bool} {w : List Int} (hn : 1 ≤ n ∧ n ≤ 20) (hl : 1 ≤ l ∧ l ≤ 20) (hw : startsL n l q = w.map .int) (S : Store) :
    ev (run Ph k) none (.call 8 (.cons (.mkT (.cons (.k (.int n)) (.cons (.k (.int l)) (.cons (.k (.bl q)) .nil)))) .nil)) env S = some (.ok (row w) S) := by
  obtain ⟨j, rfl⟩ : ∃ j, k = j + 1 := ⟨k - 1, by omega⟩
  have e1 : ev (run Ph (j + 1)) none (.mkT (.cons (.k (.int n)) (.cons (.k (.int l)) (.cons (.k (.bl q)) .nil)))) env S = some (.ok (.trk n l q) S) := by
    rw [e_mkT (es_cons e_k (es_cons e_k (es_cons e_k es_nil)))]
    simp [run, mkTrack, isFn, within, hn, hl]
  rw [e_call (es_cons e1 es_nil), starts_ok F.h3 F.h7 F.h8 (by omega) ⟨by omega, hn.2⟩ ⟨by omega, hl.2⟩, hw]
  rfl
def knownL : List D := [row [1, 4, 3, 2, 5], row [1, 5, 3, 4, 2], row [2, 1, 4, 3], row [1, 2, 3], row [5, 4, 3, 2, 1, 6], row [], row [0, 1]]
theorem are_known_ok (F : TurnF Ph) (h17 : Ph 17 = some ⟨2, 4, c_p_law_same⟩) (h24 : Ph 24 = some ⟨0, 2, c_p_law_are_known⟩) (hk : 8 ≤ k) : run Ph (k + 1) 24 [] S = some (.ok (.bl true) S) := by
  rw [run_at (env := [none, none]) h24 S]
  have mx : maxLen = 1000000 := rfl
  have t1 : ∀ env S, ev (run Ph k) none _ env S = _ := fun env => e_turn F (by omega) (env := env) (n := 5) (l := 3) (s := 1) (q := false) (r := [1, 2, 3, 4, 5]) (w := [1, 4, 3, 2, 5]) (es := .cons (.k (.int 1)) (.cons (.k (.int 2)) (.cons (.k (.int 3)) (.cons (.k (.int 4)) (.cons (.k (.int 5)) .nil))))) (fun _ => rfl) (by decide) (by decide) rfl (by decide +kernel) (by decide +kernel) (by decide +kernel)
  have t2 : ∀ env S, ev (run Ph k) none _ env S = _ := fun env => e_turn F (by omega) (env := env) (n := 5) (l := 3) (s := 4) (q := true) (r := [1, 2, 3, 4, 5]) (w := [1, 5, 3, 4, 2]) (es := .cons (.k (.int 1)) (.cons (.k (.int 2)) (.cons (.k (.int 3)) (.cons (.k (.int 4)) (.cons (.k (.int 5)) .nil))))) (fun _ => rfl) (by decide) (by decide) rfl (by decide +kernel) (by decide +kernel) (by decide +kernel)
  have t3 : ∀ env S, ev (run Ph k) none _ env S = _ := fun env => e_turn F (by omega) (env := env) (n := 4) (l := 4) (s := 1) (q := true) (r := [1, 2, 3, 4]) (w := [2, 1, 4, 3]) (es := .cons (.k (.int 1)) (.cons (.k (.int 2)) (.cons (.k (.int 3)) (.cons (.k (.int 4)) .nil)))) (fun _ => rfl) (by decide) (by decide) rfl (by decide +kernel) (by decide +kernel) (by decide +kernel)
  have t4 : ∀ env S, ev (run Ph k) none _ env S = _ := fun env => e_turn F (by omega) (env := env) (n := 3) (l := 1) (s := 2) (q := true) (r := [1, 2, 3]) (w := [1, 2, 3]) (es := .cons (.k (.int 1)) (.cons (.k (.int 2)) (.cons (.k (.int 3)) .nil))) (fun _ => rfl) (by decide) (by decide) rfl (by decide +kernel) (by decide +kernel) (by decide +kernel)
  have t5 : ∀ env S, ev (run Ph k) none _ env S = _ := fun env => e_turn F (by omega) (env := env) (n := 6) (l := 5) (s := 3) (q := true) (r := [1, 2, 3, 4, 5, 6]) (w := [5, 4, 3, 2, 1, 6]) (es := .cons (.k (.int 1)) (.cons (.k (.int 2)) (.cons (.k (.int 3)) (.cons (.k (.int 4)) (.cons (.k (.int 5)) (.cons (.k (.int 6)) .nil)))))) (fun _ => rfl) (by decide) (by decide) rfl (by decide +kernel) (by decide +kernel) (by decide +kernel)
  have t6 : ∀ env S, ev (run Ph k) none _ env S = _ := fun env => e_starts F (by omega) (env := env) (n := 3) (l := 4) (q := true) (w := []) (by decide) (by decide) (by decide +kernel)
  have t7 : ∀ env S, ev (run Ph k) none _ env S = _ := fun env => e_starts F (by omega) (env := env) (n := 2) (l := 2) (q := true) (w := [0, 1]) (by decide) (by decide) (by decide +kernel)
  have nl : ∀ (xs : List D) (S : Store), xs.all noRef = true → xs.length ≤ maxLen → newL (frzs xs S).1 (frzs xs S).2 = some (.ref S.length, S ++ [.lst xs]) := fun xs S h1 h2 => by
    rw [frzs_no h1]
    exact newL_ok h2
  have x0 := x_setn (cl := run Ph k) (ex := none) (env := [none, none]) (S := S) (S1 := S) (i := 0) (xs := [row [1, 4, 3, 2, 5], row [1, 5, 3, 4, 2]]) (e_lst (es_cons (t1 _ S) (es_cons (t2 _ S) es_nil)) (nl _ _ rfl (by simp [maxLen]))) rfl rfl (by simp)
  have x1 := x_extend (cl := run Ph k) (ex := none) (env := [some (.ref S.length), none]) (S := S) (xs := [row [1, 4, 3, 2, 5], row [1, 5, 3, 4, 2]]) (ys := [row [2, 1, 4, 3], row [1, 2, 3]]) rfl (e_lst (es_cons (t3 _ _) (es_cons (t4 _ _) es_nil)) (nl _ _ rfl (by simp [maxLen]))) rfl (by simp [maxLen])
  have x2 := x_extend (cl := run Ph k) (ex := none) (env := [some (.ref S.length), none]) (S := S) (xs := [row [1, 4, 3, 2, 5], row [1, 5, 3, 4, 2]] ++ [row [2, 1, 4, 3], row [1, 2, 3]]) (ys := [row [5, 4, 3, 2, 1, 6], row [], row [0, 1]]) rfl (e_lst (es_cons (t5 _ _) (es_cons (t6 _ _) (es_cons (t7 _ _) es_nil))) (nl _ _ rfl (by simp [maxLen]))) rfl (by simp [maxLen])
  rw [c_p_law_are_known, x_seq x0]
  show atEnd S.length (exec (run Ph k) none _ [some (.ref S.length), none] _) = _
  rw [x_seq x1, x_seq x2]
  have tr : ∀ {env : Env} {S : Store} {es : CEs} (r : List Int), evs (run Ph k) none es env S = some (.ok (r.map .int) S) → r.length ≤ maxLen → ev (run Ph k) none (.tup es) env S = some (.ok (row r) S) := fun r h1 h2 => e_row h1 h2
  have x3 := x_setn (cl := run Ph k) (ex := none) (env := [some (.ref S.length), none]) (S := S ++ [.lst knownL]) (S1 := S ++ [.lst knownL]) (i := 1) (xs := knownL) (e := .lst (.cons (.tup (.cons (.k (.int 1)) (.cons (.k (.int 4)) (.cons (.k (.int 3)) (.cons (.k (.int 2)) (.cons (.k (.int 5)) .nil)))))) (.cons (.tup (.cons (.k (.int 1)) (.cons (.k (.int 5)) (.cons (.k (.int 3)) (.cons (.k (.int 4)) (.cons (.k (.int 2)) .nil)))))) (.cons (.tup (.cons (.k (.int 2)) (.cons (.k (.int 1)) (.cons (.k (.int 4)) (.cons (.k (.int 3)) .nil))))) (.cons (.tup (.cons (.k (.int 1)) (.cons (.k (.int 2)) (.cons (.k (.int 3)) .nil)))) (.cons (.tup (.cons (.k (.int 5)) (.cons (.k (.int 4)) (.cons (.k (.int 3)) (.cons (.k (.int 2)) (.cons (.k (.int 1)) (.cons (.k (.int 6)) .nil))))))) (.cons (.tup .nil) (.cons (.tup (.cons (.k (.int 0)) (.cons (.k (.int 1)) .nil))) .nil))))))))
    (e_lst (es_cons (tr [1, 4, 3, 2, 5] rfl (by simp [maxLen])) (es_cons (tr [1, 5, 3, 4, 2] rfl (by simp [maxLen])) (es_cons (tr [2, 1, 4, 3] rfl (by simp [maxLen])) (es_cons (tr [1, 2, 3] rfl (by simp [maxLen])) (es_cons (tr [5, 4, 3, 2, 1, 6] rfl (by simp [maxLen])) (es_cons (tr [] rfl (by simp [maxLen])) (es_cons (tr [0, 1] rfl (by simp [maxLen])) es_nil))))))) (nl _ _ rfl (by simp [knownL, maxLen]))) rfl rfl (by simp)
  show atEnd S.length (exec (run Ph k) none _ [some (.ref S.length), none] (S ++ [.lst knownL])) = _
  rw [x_seq x3]
  obtain ⟨j, rfl⟩ : ∃ j, k = j + 3 := ⟨k - 3, by omega⟩
  have i1 : Is ((S ++ [O.lst knownL]) ++ [O.lst knownL]) (.ref S.length) (.lst knownL) := .inr ⟨_, _, rfl, by simp, rfl⟩
  have i2 : Is ((S ++ [O.lst knownL]) ++ [O.lst knownL]) (.ref (S ++ [O.lst knownL]).length) (.lst knownL) := .inr ⟨_, _, rfl, by rw [List.getElem?_append_right (Nat.le_refl _)]; simp, rfl⟩
  have e4 : ev (run Ph (j + 3)) none (.call 17 (.cons (.v 0) (.cons (.v 1) .nil))) [some (.ref S.length), some (.ref (S ++ [O.lst knownL]).length)] ((S ++ [O.lst knownL]) ++ [O.lst knownL]) = some (.ok (.bl true) ((S ++ [O.lst knownL]) ++ [O.lst knownL])) := by
    rw [e_call (es_cons (e_v rfl) (es_cons (e_v rfl) es_nil))]
    exact same_ok (k := j) h17 2 (by decide +kernel) (by decide +kernel) i1 i2
  show atEnd S.length (exec (run Ph (j + 3)) none _ [some (.ref S.length), some (.ref (S ++ [O.lst knownL]).length)] _) = _
  rw [x_ret e4, gc_bl', take_self, atEnd_rt, gc_bl', List.append_assoc, List.take_left]
end
end Rf
set_option Elab.async false
set_option linter.all false
set_option maxRecDepth 100000
/-! The law of turns. -/
namespace Rf
open PySem
def c_law_k04 : CS := (.seq (.set (.t (.n 1)) (.call 13 (.cons (.v 0) .nil))) (.seq (.ite (.not (.call 24 .nil)) (.ret (.k (.bl false))) .pass) (.seq (.for (.n 2) (.rng1 (.k (.int 6))) (.seq (.set (.t (.n 3)) (.call 18 (.cons (.v 1) (.cons (.k (.int 20)) .nil)))) (.ite (.not (.call 23 (.cons (.v 1) (.cons (.v 3) (.cons (.call 19 (.cons (.v 1) (.cons (.idx (.v 3) (.k (.int 0))) .nil))) .nil))))) (.ret (.k (.bl false))) .pass))) (.ret (.call 23 (.cons (.v 1) (.cons (.lst (.cons (.k (.int 20)) (.cons (.bin .add (.k (.int 1)) (.call 14 (.cons (.v 1) (.cons (.k (.int 20)) .nil)))) (.cons (.cmp .eq (.call 14 (.cons (.v 1) (.cons (.k (.int 2)) .nil))) (.k (.int 0))) .nil)))) (.cons (.rngT (.rng1 (.k (.int 20)))) .nil))))))))
def c_k04body : CS := (.seq (.set (.t (.n 3)) (.call 18 (.cons (.v 1) (.cons (.k (.int 20)) .nil)))) (.ite (.not (.call 23 (.cons (.v 1) (.cons (.v 3) (.cons (.call 19 (.cons (.v 1) (.cons (.idx (.v 3) (.k (.int 0))) .nil))) .nil))))) (.ret (.k (.bl false))) .pass))
theorem HOk.lt0 {S : Store} {h m : Nat} {o : O} (e : HOk S h) (he : S[h]? = some o) : O.lt m o = true := by
  obtain ⟨cs, a, b, c, d, e1, _⟩ := e
  rw [he] at e1
  cases e1
  simp [hnd, O.lt, D.lts, D.lt, lts_ints]
section
variable {Ph : Nat → Option FD} {k : Nat}
theorem k04_ok (F : TurnF Ph) (h13 : Ph 13 = some ⟨1, 3, c_p_law_hand⟩) (h14 : Ph 14 = some ⟨2, 5, c_p_law_draw⟩) (h15 : Ph 15 = some ⟨2, 2, c_p_law_any⟩) (h16 : Ph 16 = some ⟨2, 4, c_p_law_mixed⟩) (h17 : Ph 17 = some ⟨2, 4, c_p_law_same⟩) (h18 : Ph 18 = some ⟨2, 6, c_p_law_track⟩) (h19 : Ph 19 = some ⟨2, 8, c_p_law_row⟩) (h20 : Ph 20 = some ⟨1, 4, c_p_law_starts⟩) (h21 : Ph 21 = some ⟨3, 10, c_p_law_behind⟩) (h22 : Ph 22 = some ⟨3, 5, c_p_law_told⟩) (h23 : Ph 23 = some ⟨3, 12, c_p_law_are_right⟩) (h24 : Ph 24 = some ⟨0, 2, c_p_law_are_known⟩) (h25 : Ph 25 = some ⟨1, 4, c_law_k04⟩) (hk : 10 ≤ k) (ns : List Int) (hns : ns.length ≤ maxLen) :
    ∃ S', run Ph (k + 1) 25 [.scr ns] [] = some (.ok (.bl true) S') := by
  obtain ⟨j, rfl⟩ : ∃ j, k = j + 2 := ⟨k - 2, by omega⟩
  rw [run_at (env := [some (.scr ns), none, none, none]) h25 []]
  obtain ⟨o, e1, hH⟩ := hand_ok (k := j + 1) (S := []) h13 ns hns
  simp only [List.nil_append, List.length_nil] at e1 hH
  have g1 : gc 0 (.ref 0) [o] = (.ref 0, [o]) := by
    unfold gc
    simp [D.lt, hH.lt0 (o := o) rfl]
  have x1 := x_set (t := .n 1) (cl2 := run Ph (j + 2)) (ex := none) (env := [some (.scr ns), none, none, none]) (S := []) (e := .call 13 (.cons (.v 0) .nil)) ((e_call (es_cons (e_v rfl) es_nil)).trans e1) (env1 := [some (.scr ns), some (.ref 0), none, none]) (by rw [show ([] : Store).length = 0 from rfl, g1]; rfl)
  rw [show ([] : Store).length = 0 from rfl, g1] at x1
  have c1 : ev (run Ph (j + 2)) none (.not (.call 24 .nil)) [some (.scr ns), some (.ref 0), none, none] [o] = some (.ok (.bl false) [o]) := e_not (k := true) ((e_call es_nil).trans (are_known_ok F h17 h24 (by omega)))
  have eI : evI (run Ph (j + 2)) none (.rng1 (.k (.int 6))) [some (.scr ns), some (.ref 0), none, none] [o] = some (.ok (rangeD 0 1 (6 : Int).toNat, []) [o]) := evI_rng1 e_k (by decide)
  obtain ⟨env', T', f1, x2, x3, rfl, hT⟩ := for_range (lo := 0) (L := (6 : Int).toNat) (tg := .n 2) (body := fun env S => exec (run Ph (j + 2)) none c_k04body env S) (fun i env T => ∃ x2 x3, env = [some (.scr ns), some (.ref 0), x2, x3] ∧ HOk T 0) (fun i env T hi ⟨x2, x3, he, hT⟩ => by
    subst he
    obtain ⟨n, l, q, S1, t1, hn, hl, r1⟩ := track_ok (k := j + 1) h14 h18 (by omega) hT (m := 20) (by omega)
    have y1 := x_setn (cl := run Ph (j + 2)) (ex := none) (i := 3) (env := [some (.scr ns), some (.ref 0), some (.int (0 + (i : Int))), x3]) (e := .call 18 (.cons (.v 1) (.cons (.k (.int 20)) .nil))) (xs := [.int n, .int l, .bl q]) ((e_call (es_cons (e_v rfl) (es_cons e_k es_nil))).trans t1) r1.len rfl (by simp)
    have ht : (S1 ++ [trkL n l q])[T.length]? = some (trkL n l q) := by rw [← r1.len]; simp
    have hH1 := r1.ok.app (T := [trkL n l q])
    obtain ⟨r, S2, t2, hr1, hr2, r2⟩ := row_ok (k := j + 1) h14 h15 h16 h19 (by omega) hH1 hn
    have ht0 := hT.lt
    have ht2 : S2[T.length]? = some (trkL n l q) := by rw [r2.get (by omega)]; exact ht
    obtain ⟨S3, t3, r3⟩ := are_right_ok (k := j + 1) F h14 h16 h17 h20 h21 h22 h23 (by omega) r2.ok ht2 hn hl hr1 hr2
    have e0 : ev (run Ph (j + 2)) none (.idx (.v 3) (.k (.int 0))) [some (.scr ns), some (.ref 0), some (.int (0 + (i : Int))), some (.ref T.length)] (S1 ++ [trkL n l q]) = some (.ok (.int n) (S1 ++ [trkL n l q])) := by
      refine e_idx (e_v rfl) e_k ?_
      have : seqOf (S1 ++ [trkL n l q]) (.ref T.length) = some [.int n, .int l, .bl q] := by
        have ht' : (S1 ++ [trkL n l q])[T.length]? = some (.lst [.int n, .int l, .bl q]) := ht
        generalize S1 ++ [trkL n l q] = W at ht'
        simp only [seqOf, ht']
      simp only [index, this]
      rfl
    have e5 : ev (run Ph (j + 2)) none (.not (.call 23 (.cons (.v 1) (.cons (.v 3) (.cons (.call 19 (.cons (.v 1) (.cons (.idx (.v 3) (.k (.int 0))) .nil))) .nil))))) [some (.scr ns), some (.ref 0), some (.int (0 + (i : Int))), some (.ref T.length)] (S1 ++ [trkL n l q]) = some (.ok (.bl false) S3) :=
      e_not (k := true) ((e_call (es_cons (e_v rfl) (es_cons (e_v rfl) (es_cons ((e_call (es_cons (e_v rfl) (es_cons e0 es_nil))).trans t2) es_nil)))).trans t3)
    refine ⟨_, _, _, rfl, (x_seq y1).trans ?_, some (.int (0 + (i : Int))), some (.ref T.length), rfl, r3.ok⟩
    show exec (run Ph (j + 2)) none _ [some (.scr ns), some (.ref 0), some (.int (0 + (i : Int))), some (.ref T.length)] (S1 ++ [trkL n l q]) = _
    have l3 : S3.length = (S1 ++ [trkL n l q]).length := by rw [r3.len, r2.len]
    rw [x_ite_f e5, take_ge (Nat.le_of_eq l3), x_pass]) (env := [some (.scr ns), some (.ref 0), none, none]) (S := [o]) ⟨none, none, rfl, hH⟩
  obtain ⟨a, S1, d1, a0, a1, r1⟩ := e_draw (k := j + 1) (h := 0) (S := T') h14 (m := 20) (c := .k (.int 20)) (ex := none) (env := [some (.ref 0)]) rfl hT e_k (by omega) (by omega)
  obtain ⟨b, S2, d2, b0, b1, r2⟩ := e_draw (k := j + 1) (h := 0) (S := S1) h14 (m := 2) (c := .k (.int 2)) (ex := none) (env := [some (.ref 0)]) rfl r1.ok e_k (by omega) (by omega)
  rw [e_call (es_cons (e_v rfl) (es_cons e_k es_nil))] at d1 d2
  have y5 : ev (run Ph (j + 2)) none (.lst (.cons (.k (.int 20)) (.cons (.bin .add (.k (.int 1)) (.call 14 (.cons (.v 1) (.cons (.k (.int 20)) .nil)))) (.cons (.cmp .eq (.call 14 (.cons (.v 1) (.cons (.k (.int 2)) .nil))) (.k (.int 0))) .nil)))) [some (.scr ns), some (.ref 0), x2, x3] T' = some (.ok (.ref S2.length) (S2 ++ [trkL 20 (1 + a) (decide (b = 0))])) :=
    e_lst3 e_k (e_bin (o := .add) (x := .int 1) (y := .int a) (d := .int (1 + a)) e_k ((e_call (es_cons (e_v rfl) (es_cons e_k es_nil))).trans d1) rfl) (e_eqi ((e_call (es_cons (e_v rfl) (es_cons e_k es_nil))).trans d2) e_k)
  let rw20 : List Int := [0, 1, 2, 3, 4, 5, 6, 7, 8, 9, 10, 11, 12, 13, 14, 15, 16, 17, 18, 19]
  have y6 : ∀ S, ev (run Ph (j + 2)) none (.rngT (.rng1 (.k (.int 20)))) [some (.scr ns), some (.ref 0), x2, x3] S = some (.ok (row rw20) S) := fun S => rfl
  obtain ⟨S3, t3, r3⟩ := are_right_ok (k := j + 1) (h := 0) (n := 20) (l := 1 + a) (q := decide (b = 0)) (t := S2.length) (S := S2 ++ [trkL 20 (1 + a) (decide (b = 0))]) (r := rw20) F h14 h16 h17 h20 h21 h22 h23 (by omega) r2.ok.app (by simp) ⟨by omega, by omega⟩ ⟨by omega, by omega⟩ (by decide +kernel) rfl
  have y7 := (e_call (cl := run Ph (j + 2)) (ex := none) (f := 23) (es_cons (e_v (i := 1) (env := [some (.scr ns), some (.ref 0), x2, x3]) rfl) (es_cons y5 (es_cons (y6 _) es_nil)))).trans t3
  refine ⟨S3.take 0, ?_⟩
  rw [c_law_k04, x_seq x1, x_skip c1, x_seq (by rw [x_for eI]; exact f1), x_ret y7, gc_bl', atEnd_rt, gc_bl']
  simp
end
end Rf
set_option Elab.async false
set_option linter.all false
set_option maxRecDepth 100000
set_option maxHeartbeats 0
/-! The law's end: the walk and the head joined. -/
namespace Lw
open PySem PySem.Spec PyProof.Rows L2 Rf
/-- the walk of a law, the errors' reading told of the world -/
theorem walk_w {l : PySem.W.OpenLaw} {m lv : Nat} {vw : Program} {ls : List Str} {A1 : (Str → Option Value) → Heap → Prop} {A2 : World → Heap → Prop} {dd : DefRec} {C : World → CXT} {y : Str} (e1 : l.most = some m) (e2 : m ≤ sizeLine) (e3 : dd.params.defaults = []) (e4 : Room lv callerA)
    (got : ∀ (w : World) (gl : Str → Option Value) (at_ : Addr) (hp : Heap), A2 w hp → hp.Ns mainGlobals gl → gl dd.name = some (.ref at_) → ∃ (fr : PySem.W.Frag) (fdat : FuncData) (says : Sp), fr.In hp ∧ (∀ (st : Shared) (v : Value), BindsTo st fdat ⟨[v], []⟩ [(y, v)]) ∧
      (∀ (hh : Hp) (b : Addr) (is : List Int), is.length ≤ m → Only hh → SqL fr hh b (is.map V.int) → says [.ref b] hh (fun v _ => v = .bl true) fun _ _ _ => False) ∧ ∀ low : Heap, fr.In low → low.Ns mainGlobals gl → FnOk l.prog w fr gl low (C w) lv at_ fdat [y] says)
    (nope : ∀ (w : World) (hh : Hp) (st : Shared) (v : Value) (st2 : Shared), C w [] hh st (fun _ _ _ => False) v st2 → False) : PySem.W.WalkO vw ls A1 A2 l.row.toRowW dd [] (fun f vs => PySem.call f vs) := by
  refine Att.attach_call e1 e3 fun w sa sb gl bl at_ ob pm cd doc b vals is g1 g2 g3 g4 g5 g6 g7 g8 g9 g10 => ?_
  obtain ⟨fr, fdat, says, k1, k2, k3, k4⟩ := got w gl at_ _ g2 g1.T.g g6
  exact law_call k1 g1.T.g g1.T.b g1.T.builtins g1.T.nolimit g10 g7 g8 (Nat.le_trans g9 e2) e4 k4 k2 (fun hh r1 r2 => k3 hh b is g9 r1 r2) fun hh v st2 => nope w hh sb v st2
theorem turnF : TurnF (PhOf tab) := ⟨rfl, rfl, rfl, rfl, rfl, rfl, rfl, rfl, rfl, rfl, rfl, rfl⟩
theorem main (ns : List Int) (h : ns.length ≤ 63) : ∃ S', run (PhOf tab) (10 + 1) 25 [.scr ns] [] = some (.ok (.bl true) S') :=
  k04_ok turnF rfl rfl rfl rfl rfl rfl rfl rfl rfl rfl rfl rfl rfl (Nat.le_refl _) ns (Nat.le_trans h (by decide))
end Lw
open PySem PySem.W PySem.Calls PyProof.Rows
theorem PySem.Challenge.cw_stretchturns_k04_whole_turns_holds : PySem.Challenge.rw_stretchturns_k04_whole_turns.Holds := by
  w_on; o_law
  refine HandSHeadRun.head_any (r := OpenLaw.row PySem.Challenge.rw_stretchturns_k04_whole_turns) (q := view (OpenLaw.row PySem.Challenge.rw_stretchturns_k04_whole_turns).prog [36]) (H := Lw.hk) (ob := Lw.ob) (M := 20000) (loose := Lw.loose) (d := HandSHeadRun.topDef (OpenLaw.row PySem.Challenge.rw_stretchturns_k04_whole_turns).prog 36) (kwd := []) Lw.ob_eq
    (by kernel_rfl) (fun s => by kernel_rfl) Lw.run_ok (by kernel_rfl) (by kernel_rfl) (by kernel_rfl) (by rfl) (by first | assumption | decide +kernel) (by decide +kernel) ⟨rfl, rfl, rfl, rfl, rfl, by decide +kernel⟩ ?hw ?hc
  case hw => w_witness2
  case hc =>
    refine Lw.walk_w (l := PySem.Challenge.rw_stretchturns_k04_whole_turns) (m := 63) (lv := 15) (y := "script") (C := fun w => L2.CX (PySem.Challenge.rw_stretchturns_k04_whole_turns).prog w) rfl (by decide) (by kernel_rfl) ⟨rfl, by decide, by decide⟩ ?F ?N
    case F =>
      intro w mg fa h Y G hmg0
      have hmg : mg ("law" : PySem.Str) = some (.ref fa) := by
        have e : (HandSHeadRun.topDef (OpenLaw.row PySem.Challenge.rw_stretchturns_k04_whole_turns).prog 36).name = ("law" : PySem.Str) := by kernel_rfl
        rw [← e]
        exact hmg0
      exact Rf.law_F (l := PySem.Challenge.rw_stretchturns_k04_whole_turns) (n := 63) (k := 10) Lw.st Lw.cp rfl (t := ⟨"law", 25, ["script", "hand", "turn", "some"], ["script"], Lw.c_law⟩) (by simp [Lw.tab]) rfl rfl Lw.main Y G hmg
    case N => exact fun w H s e s' => Rf.cx_no H s e s'
