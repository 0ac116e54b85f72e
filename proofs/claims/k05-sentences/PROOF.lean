import PyProof.Rows.All
import Wide.All
import OpenK.AllK
import Wide.FinOn
import HandS.ForMost
import HandS.ForExc
import KE.KeyNested
import KE.KDictKeyed
import KE.KDictCopyH
import KE.KDictWalk
import HandS.Wide
import HandS.TupAny
import KE.DataEq
import HandS.TupMul
import HandS.SortInts
import HandS.IsInst
import HandS.SortRule
import PyProof.StrOps2
import HandS.Deep
import KE.DataFind
import HandS.Strs
import HandS.More
import HandS.Walk
import HandS.CallSlots
import HandS.ExcIs
import HandS.TryOnly
import HandS.Exc
import HandS.ExcOwn
import HandS.Zip
import KE.GoesMore
import HandS.Iter
import HandS.Conv
import HandS.WordsExc
import PyProof.StrLawsIn
import PySem.Challenge.RW_digitrow_k05_sentences
set_option autoImplicit true
set_option Elab.async false
set_option linter.all false
set_option maxRecDepth 100000
/-! Own layer, part 1: values without addresses for tuples, a small tree of the text, what must hold ahead of a text (wE, wS). -/
namespace DL
open PySem

/-- a value: tuples by what they hold; ref: a list, a dict, an instance. lst: a list's snapshot, in comparisons only -/
inductive Val where
  | non | bl (b : Bool) | int (i : Int) | str (x : Str) | tup (xs : List Val) | ref (a : Addr) | lst (xs : List Val)
deriving Inhabited

mutual
/-- no address within -/
def Val.dat : Val → Bool
  | .tup xs => Val.dats xs
  | .ref _ => false
  | .lst _ => false
  | .non => true
  | .bl _ => true
  | .int _ => true
  | .str _ => true
def Val.dats : List Val → Bool
  | [] => true
  | x :: xs => x.dat && Val.dats xs
end
mutual
def Val.py : Val → PyData
  | .non => .none
  | .bl b => .bool b
  | .int i => .int i
  | .str x => .str x
  | .tup xs => .tuple (Val.pys xs)
  | .lst xs => .list (Val.pys xs)
  | .ref _ => .none
def Val.pys : List Val → List PyData
  | [] => []
  | x :: xs => x.py :: Val.pys xs
end
mutual
def Val.nk : Val → NestedKey
  | .non => .none
  | .bl b => .num (if b then 1 else 0)
  | .int i => .num i
  | .str x => .text x
  | .tup xs => .tup (Val.nks xs)
  | .lst _ => .none
  | .ref _ => .none
def Val.nks : List Val → List NestedKey
  | [] => []
  | x :: xs => x.nk :: Val.nks xs
end
mutual
def Val.dep : Val → Nat
  | .tup xs => Val.deps xs + 1
  | .lst xs => Val.deps xs + 1
  | .non => 0
  | .bl _ => 0
  | .int _ => 0
  | .str _ => 0
  | .ref _ => 0
def Val.deps : List Val → Nat
  | [] => 0
  | x :: xs => max x.dep (Val.deps xs)
end
/-- == -/
def Val.veq (x y : Val) : Bool := PyData.eqv x.py y.py

/-- what stands at an address; t: a dict's version -/
inductive Ob where
  | lst (xs : List Val) | dct (kvs : List (Val × Val)) (t : Nat) | ins (c : Nat) (fs : List (Str × Val))
abbrev Sto := Addr → Option Ob
def up (S : Sto) (a : Addr) (o : Ob) : Sto := fun b => if b = a then some o else S b
/-- what S had, and v -/
def isRef : Val → Addr → Bool
  | .ref b, a => b == a
  | _, _ => false
def keep (S S' : Sto) (v : Val) : Sto := fun a => if ((S a).isSome || isRef v a) = true then S' a else none

abbrev Env := List (Option Val)
abbrev KV := Val → Sto → Prop
def withO {α : Type} : Option α → (α → Prop) → Prop
  | some a, k => k a
  | none, _ => False
def withB : Val → (Bool → Prop) → Prop
  | .bl b, k => k b
  | _, _ => False
def getV (e : Env) (i : Nat) : Option Val := (e[i]?).join

inductive Bop where
  | add | sub | mul | fdiv | mod | pow
deriving DecidableEq
inductive Cop where
  | eq | ne | lt | le | gt | ge | isin | notin
deriving DecidableEq
inductive Ty where
  | int | bool | str | tuple | list
deriving DecidableEq
/-- built-ins: of values; max1, min1: of one sequence -/
inductive Bt where
  | len | all | any | tuple | list | dict | sorted | int | max1 | max2 | min1 | min2 | sum | str
deriving DecidableEq
/-- methods of built-in types -/
inductive Mt where
  | append | extend | index | count | pop | reverse | setdefault | get | split | find
deriving DecidableEq

inductive Tg where
  | one (i : Nat) | many (is : List Nat)

mutual
inductive Ex where
  | var (i : Nat) | glob (x : Str) | int (i : Int) | bl (b : Bool) | non | str (x : Str)
  | bin (o : Bop) (a b : Ex) | neg (a : Ex) | not (a : Ex)
  | cmp (o : Cop) (a b : Ex) | isN (a : Ex) | notN (a : Ex) | chain (o p : Cop) (a b c : Ex)
  | and (a b : Ex) | or (a b : Ex)
  | tup (es : Exs) | lst (es : Exs) | dict0 | dict1 (k v : Ex)
  | sub (a i : Ex) | slice (a : Ex) (lo hi : Oe) | fld (a : Ex) (f : Str)
  | call (f : Nat) (es : Exs) | new (c : Nat) (es : Exs) | blt (b : Bt) (es : Exs) | bltc (b : Bt) (c : Cmp)
  | isi (a : Ex) (t : Ty) | meth (a : Ex) (m : Mt) (es : Exs) | umeth (a : Ex) (m : Str) (es : Exs)
  | comp (c : Cmp)
  | lzip (a b : Ex) | lrng (es : Exs) | trng (es : Exs)
  | drop (e : Ex)
  | tix (zs : List Str) (a : Ex)
inductive Exs where
  | nil | cons (e : Ex) (es : Exs)
inductive Oe where
  | none | some (e : Ex)
inductive Itr where
  | val (e : Ex) | rng (es : Exs) | enum (e : Ex) | zip (a b : Ex)
/-- a comprehension: target, its own slots, the element, what is walked, the test -/
inductive Cmp where
  | mk (tg : Tg) (own : List Nat) (elt : Ex) (it : Itr) (cond : Oe)
end

/-- an exception clause's suite: a return of whether the exception is (not) of some own classes; of a text where it is; of a value; a raise -/
inductive Hd where
  | conj (cs : List (Nat × Bool)) | text (x : Str) (cs : List (Nat × Bool)) | bl (b : Bool) | non | str (x : Str) | raise (c : Nat)
mutual
inductive Sm where
  | asg (i : Nat) (e : Ex) | asgs (is : List Nat) (e : Ex) | par (i j : Nat) (a b : Ex)
  | setI (a i e : Ex) | setF (a : Ex) (f : Str) (e : Ex)
  | expr (e : Ex) | ret (e : Ex) | ret0 | pass
  | ite (c : Ex) (a b : Sms) | while (c : Ex) (b : Sms) | for (tg : Tg) (it : Itr) (b : Sms)
  | raise (c : Nat) (x : Str)
  | try1 (b : Sms) (c : Nat) (n : Option Nat) (h : Hd)
  | bad
inductive Sms where
  | nil | cons (s : Sm) (r : Sms)
end

/-! ### values' operations -/
def Val.ints : List Val → Option (List Int)
  | [] => some []
  | .int i :: r => (Val.ints r).map (i :: ·)
  | _ :: _ => none
def Val.bls : List Val → Option (List Bool)
  | [] => some []
  | .bl i :: r => (Val.bls r).map (i :: ·)
  | _ :: _ => none
def Val.strs : List Val → Option (List Str)
  | [] => some []
  | .str i :: r => (Val.strs r).map (i :: ·)
  | _ :: _ => none
/-- tuples of whole numbers -/
def Val.itups : List Val → Option (List (List Int))
  | [] => some []
  | .tup xs :: r => match Val.ints xs, Val.itups r with
    | some ns, some rs => some (ns :: rs)
    | _, _ => none
  | _ :: _ => none
/-- pairs -/
def Val.prs : List Val → Option (List (Val × Val))
  | [] => some []
  | .tup [a, b] :: r => (Val.prs r).map ((a, b) :: ·)
  | _ :: _ => none
mutual
/-- a list's content, at most n lists deep -/
def Sto.see (S : Sto) : Nat → Val → Option Val
  | 0, v => if v.dat then some v else none
  | n + 1, v => if v.dat then some v else match v with
    | .ref a => match S a with
      | some (.lst xs) => (Sto.sees S n xs).map .lst
      | _ => none
    | .lst xs => (Sto.sees S n xs).map .lst
    | _ => none
def Sto.sees (S : Sto) : Nat → List Val → Option (List Val)
  | _, [] => some []
  | n, x :: xs => match Sto.see S n x, Sto.sees S n xs with
    | some y, some ys => some (y :: ys)
    | _, _ => none
end

def line : Nat := 16777216
/-- a factor's size -/
def mulOk (i j : Int) : Prop := L2.CMul i j ∨ i.natAbs.log2 + j.natAbs.log2 < 1000000
def modKey (k : Val) : Bool := k.dat && decide (k.nk.depth ≤ 8)

def dget (kvs : List (Val × Val)) (k : Val) : Option Val := match kvs with
  | [] => none
  | (a, v) :: r => if a.nk = k.nk then some v else dget r k
def dput (kvs : List (Val × Val)) (k v : Val) : List (Val × Val) := match kvs with
  | [] => [(k, v)]
  | (a, w) :: r => if a.nk = k.nk then (a, v) :: r else (a, w) :: dput r k v
/-- a key's kind: whole numbers and texts, tuples, the others; a dict's keys are of one kind -/
def isTup : Val → Bool
  | .tup _ => true
  | _ => false
def kcl : Val → Nat
  | .int _ => 0
  | .str _ => 0
  | .tup _ => 2
  | _ => 1
def kindOk (kvs : List (Val × Val)) (k : Val) : Bool := modKey k && match kvs with
  | [] => true
  | (a, _) :: _ => kcl a == kcl k

/-- a text, k times -/
def srep (z : Str) (k : Int) : Str := ⟨(List.replicate k.toNat z.cps).foldl (· ++ ·) #[]⟩
def wBin (o : Bop) (x y : Val) (S : Sto) (Q : KV) : Prop := match o, x, y with
  | .add, .int i, .int j => Q (.int (i + j)) S
  | .add, .str i, .str j => i.length + j.length ≤ line ∧ Q (.str (i ++ j)) S
  | .add, .tup i, .tup j => i.length + j.length ≤ line ∧ Q (.tup (i ++ j)) S
  | .add, .ref a, .ref b => match S a, S b with
    | some (.lst i), some (.lst j) => i.length + j.length ≤ line ∧ ∀ p, S p = none → Q (.ref p) (up S p (.lst (i ++ j)))
    | _, _ => False
  | .sub, .int i, .int j => Q (.int (i - j)) S
  | .mul, .int i, .int j => mulOk i j ∧ Q (.int (i * j)) S
  | .mul, .tup xs, .int k => (xs ≠ [] ∧ 0 ≤ k ∧ k ≤ 1000 ∧ xs.length ≤ 1000) ∧ Q (.tup (List.replicate k.toNat xs).flatten) S
  | .mul, .str z, .int k => (0 ≤ k ∧ k ≤ 1000 ∧ z.length ≤ 1000) ∧ Q (.str (srep z k)) S
  | .mul, .ref a, .int k => match S a with
    | some (.lst xs) => (0 ≤ k ∧ k < 2 ^ 62 ∧ xs.length * k.toNat ≤ line) ∧ ∀ p, S p = none → Q (.ref p) (up S p (.lst (List.replicate k.toNat xs).flatten))
    | _ => False
  | .fdiv, .int i, .int j => 0 < j ∧ j < 1073741824 ∧ Q (.int (i / j)) S
  | .mod, .int i, .int j => 0 < j ∧ Q (.int (i % j)) S
  | .pow, .int i, .int j => (0 ≤ j ∧ j ≤ 1000000 ∧ i.natAbs < 2 ^ 64) ∧ Q (.int (i ^ j.toNat)) S
  | _, _, _ => False

def veqAny (x : Val) : List Val → Bool
  | [] => false
  | y :: ys => y.veq x || veqAny x ys

def wCmp (o : Cop) (x y : Val) (S : Sto) (Q : KV) : Prop := match o with
  | .eq => withO (S.see 3 x) fun a => withO (S.see 3 y) fun b => min a.dep b.dep ≤ 100 ∧ Q (.bl (a.veq b)) S
  | .ne => withO (S.see 3 x) fun a => withO (S.see 3 y) fun b => min a.dep b.dep ≤ 100 ∧ Q (.bl (!a.veq b)) S
  | .lt => match x, y with
    | .int i, .int j => Q (.bl (decide (i < j))) S
    | .tup xs, .tup ys => withO (Val.ints xs) fun ns => withO (Val.ints ys) fun ms => Q (.bl (HT.lexLt ns ms)) S
    | _, _ => False
  | .le => match x, y with
    | .int i, .int j => Q (.bl (decide (i ≤ j))) S
    | _, _ => False
  | .gt => match x, y with
    | .int i, .int j => Q (.bl (decide (j < i))) S
    | _, _ => False
  | .ge => match x, y with
    | .int i, .int j => Q (.bl (decide (j ≤ i))) S
    | _, _ => False
  | .isin => match y with
    | .str z => match x with
      | .str w => Q (.bl (!(Builtin.Str.occurrences z w 0 z.length 1).isEmpty)) S
      | _ => False
    | .tup ys => (x.dat && Val.dats ys) = true ∧ x.dep ≤ 100 ∧ Q (.bl (veqAny x ys)) S
    | .ref a => match S a with
      | some (.lst ys) => x.dat = true ∧ x.dep ≤ 100 ∧ withO (S.sees 3 ys) fun zs => Q (.bl (veqAny x zs)) S
      | some (.dct kvs _) => kindOk kvs x = true ∧ Q (.bl (dget kvs x).isSome) S
      | _ => False
    | _ => False
  | .notin => match y with
    | .str z => match x with
      | .str w => Q (.bl (Builtin.Str.occurrences z w 0 z.length 1).isEmpty) S
      | _ => False
    | .tup ys => (x.dat && Val.dats ys) = true ∧ x.dep ≤ 100 ∧ Q (.bl (!veqAny x ys)) S
    | .ref a => match S a with
      | some (.lst ys) => x.dat = true ∧ x.dep ≤ 100 ∧ withO (S.sees 3 ys) fun zs => Q (.bl (!veqAny x zs)) S
      | some (.dct kvs _) => kindOk kvs x = true ∧ Q (.bl (dget kvs x).isNone) S
      | _ => False
    | _ => False

def wSub (x y : Val) (S : Sto) (Q : KV) : Prop := match x, y with
  | .lst xs, .int i => withO (L2.atI xs i) fun v => Q v S
  | .tup xs, .int i => withO (L2.atI xs i) fun v => Q v S
  | .str z, .int i => z.length ≤ line ∧ withO (L2.atI z.cps.toList i) fun c => Q (.str ⟨#[c]⟩) S
  | .ref a, k => match S a, k with
    | some (.lst xs), .int i => withO (L2.atI xs i) fun v => Q v S
    | some (.dct kvs _), k => kindOk kvs k = true ∧ withO (dget kvs k) fun v => Q v S
    | _, _ => False
  | _, _ => False

def cutL {α : Type} (xs : List α) (lo hi : Option Int) : List α := (xs.drop (HT.sIx xs.length 0 lo)).take (HT.sIx xs.length xs.length hi - HT.sIx xs.length 0 lo)
def wSlice (x : Val) (lo hi : Option Int) (S : Sto) (Q : KV) : Prop := match x with
  | .tup xs => Q (.tup (cutL xs lo hi)) S
  | .str z => z.length ≤ line ∧ Q (.str ⟨(cutL z.cps.toList lo hi).toArray⟩) S
  | .ref a => match S a with
    | some (.lst xs) => ∀ p, S p = none → Q (.ref p) (up S p (.lst (cutL xs lo hi)))
    | _ => False
  | _ => False

def tyOf : Ty → Val → Sto → Bool
  | .int, .int _, _ => true
  | .int, .bl _, _ => true
  | .bool, .bl _, _ => true
  | .str, .str _, _ => true
  | .tuple, .tup _, _ => true
  | .list, .ref a, S => match S a with
    | some (.lst _) => true
    | _ => false
  | _, _, _ => false
/-- isinstance is told of plain values and lists -/
def tyKnown : Val → Sto → Bool
  | .ref a, S => match S a with
    | some (.lst _) => true
    | _ => false
  | .lst _, _ => false
  | _, _ => true

def maxL : Int → List Int → Int
  | a, [] => a
  | a, b :: r => maxL (if b > a then b else a) r
def minL : Int → List Int → Int
  | a, [] => a
  | a, b :: r => minL (if b < a then b else a) r
/-- sorted: the rising list of the same items -/
def ins (i : Int) : List Int → List Int
  | [] => [i]
  | j :: r => if i ≤ j then i :: j :: r else j :: ins i r
def isort : List Int → List Int
  | [] => []
  | i :: r => ins i (isort r)

/-- keys of plain dicts: whole numbers and texts -/
def isIS : Val → Bool
  | .int _ => true
  | .str _ => true
  | _ => false
def dputs (m ps : List (Val × Val)) : List (Val × Val) := ps.foldl (fun m q => dput m q.1 q.2) m
/-- a built-in of a list's content, told without the list -/
def wBtL (b : Bt) (xs : List Val) (S : Sto) (Q : KV) : Prop := match b with
  | .len => Q (.int xs.length) S
  | .all => withO (Val.bls xs) fun bs => Q (.bl (bs.all id)) S
  | .any => withO (Val.bls xs) fun bs => Q (.bl (bs.any id)) S
  | .tuple => Q (.tup xs) S
  | .sum => withO (Val.ints xs) fun ns => Q (.int ns.sum) S
  | .max1 => withO (Val.ints xs) fun ns => 0 < ns.length ∧ ∀ m, m ∈ ns → (∀ y, y ∈ ns → y ≤ m) → Q (.int m) S
  | .min1 => withO (Val.ints xs) fun ns => 0 < ns.length ∧ ∀ m, m ∈ ns → (∀ y, y ∈ ns → m ≤ y) → Q (.int m) S
  | .dict => ∃ ps : List (Val × Val), xs = ps.map (fun p => Val.tup [p.1, p.2]) ∧ (∀ p ∈ ps, isIS p.1 = true) ∧ ∀ p t, S p = none → Q (.ref p) (up S p (.dct (dputs [] ps) t))
  | .sorted => (∃ ns, Val.ints xs = some ns ∧ ∀ (p : Addr) (ms : List Int), ms.Perm ns → ms.Pairwise (· ≤ ·) → S p = none → Q (.ref p) (up S p (.lst (ms.map .int)))) ∨
      (∃ ss, Val.strs xs = some ss ∧ ss.length < 64 ∧ ∀ (p : Addr) (ms : List Str), ms.Perm ss → PyProof.Rows.sortedS ms = true → S p = none → Q (.ref p) (up S p (.lst (ms.map .str)))) ∨
      (∃ nss, Val.itups xs = some nss ∧ (∀ ns ∈ nss, 0 < ns.length) ∧ ∀ (p : Addr) (mss : List (List Int)), mss.Perm nss → mss.Pairwise (fun a b => HT.lexLt b a = false) → S p = none → Q (.ref p) (up S p (.lst (mss.map fun ns => .tup (ns.map .int)))))
  | .list => ∀ p, S p = none → Q (.ref p) (up S p (.lst xs))
  | _ => False

def wBt (b : Bt) (vs : List Val) (S : Sto) (Q : KV) : Prop := match b, vs with
  | .len, [.tup xs] => Q (.int xs.length) S
  | .len, [.lst xs] => Q (.int xs.length) S
  | .len, [.str x] => x.length ≤ line ∧ Q (.int x.length) S
  | .len, [.ref a] => match S a with
    | some (.lst xs) => Q (.int xs.length) S
    | some (.dct kvs _) => Q (.int kvs.length) S
    | _ => False
  | .list, [.tup xs] => ∀ p, S p = none → Q (.ref p) (up S p (.lst xs))
  | .list, [.ref a] => match S a with
    | some (.lst xs) => ∀ p, S p = none → Q (.ref p) (up S p (.lst xs))
    | some (.dct kvs _) => (∀ p ∈ kvs, isIS p.1 = true) ∧ ∀ p, S p = none → Q (.ref p) (up S p (.lst (kvs.map (·.1))))
    | _ => False
  | .tuple, [.tup xs] => Q (.tup xs) S
  | .int, [.int i] => Q (.int i) S
  | .int, [.bl b] => Q (.int (if b then 1 else 0)) S
  | .max2, [.int i, .int j] => Q (.int (if j > i then j else i)) S
  | .min2, [.int i, .int j] => Q (.int (if j < i then j else i)) S
  | .str, [.int i] => i.natAbs.log2 < 1920 ∧ Q (.str (toString i)) S
  | .dict, [.ref a] => match S a with
    | some (.lst xs) => wBtL .dict xs S Q
    | some (.dct kvs _) => (∀ p ∈ kvs, isIS p.1 = true) ∧ ∀ p t, S p = none → Q (.ref p) (up S p (.dct kvs t))
    | _ => False
  | b, [.ref a] => match S a with
    | some (.lst xs) => wBtL b xs S Q
    | _ => False
  | _, _ => False

def findI (p : Val → Bool) : List Val → Nat → Option Nat
  | [], _ => none
  | x :: xs, n => if p x then some n else findI p xs (n + 1)
def countV (x : Val) : List Val → Nat
  | [] => 0
  | y :: ys => (if y.veq x then 1 else 0) + countV x ys
def wMt (m : Mt) (x : Val) (vs : List Val) (S : Sto) (Q : KV) : Prop := match m, x, vs with
  | .append, .ref a, [v] => match S a with
    | some (.lst xs) => xs.length < line ∧ Q .non (up S a (.lst (xs ++ [v])))
    | _ => False
  | .extend, .ref a, [.ref b] => match S a, S b with
    | some (.lst xs), some (.lst ys) => a ≠ b ∧ xs.length + ys.length ≤ line ∧ Q .non (up S a (.lst (xs ++ ys)))
    | _, _ => False
  | .extend, .ref a, [.tup ys] => match S a with
    | some (.lst xs) => xs.length + ys.length ≤ line ∧ Q .non (up S a (.lst (xs ++ ys)))
    | _ => False
  | .pop, .ref a, [] => match S a with
    | some (.lst xs) => withO (xs[xs.length - 1]?) fun v => Q v (up S a (.lst xs.dropLast))
    | _ => False
  | .reverse, .ref a, [] => match S a with
    | some (.lst xs) => Q .non (up S a (.lst xs.reverse))
    | _ => False
  | .index, .ref a, [v] => match S a with
    | some (.lst xs) => (v.dat && Val.dats xs && decide (v.dep ≤ 60) && decide (Val.deps xs ≤ 60) && v.py.canLay0 && PyData.canLayAll0 (Val.pys xs)) = true ∧ withO (findI (·.veq v) xs 0) fun j => Q (.int j) S
    | _ => False
  | .count, .ref a, [v] => match S a with
    | some (.lst xs) => (v.dat && Val.dats xs && decide (v.dep ≤ 60)) = true ∧ Q (.int (countV v xs)) S
    | _ => False
  | .setdefault, .ref a, [k, v] => match S a with
    | some (.dct kvs _) => kindOk kvs k = true ∧ kvs.length < line ∧ match dget kvs k with
      | some w => ∀ t, Q w (up S a (.dct kvs t))
      | none => ∀ t, Q v (up S a (.dct (dput kvs k v) t))
    | _ => False
  | .get, .ref a, [k, v] => match S a with
    | some (.dct kvs _) => kindOk kvs k = true ∧ Q ((dget kvs k).getD v) S
    | _ => False
  | _, _, _ => False

/-- whose method it is -/
def recv (m : Mt) (x : Val) (S : Sto) : Bool := match m, x with
  | .setdefault, .ref p => match S p with
    | some (.dct _ _) => true
    | _ => false
  | .get, .ref p => match S p with
    | some (.dct _ _) => true
    | _ => false
  | .split, _ => false
  | .find, _ => false
  | _, .ref p => match S p with
    | some (.lst _) => true
    | _ => false
  | _, _ => false

def wSetI (x i v : Val) (S : Sto) (Q : Sto → Prop) : Prop := match x with
  | .ref a => match S a, i with
    | some (.lst xs), .int k => withO (L2.ixN xs.length k) fun j => Q (up S a (.lst (xs.set j v)))
    | some (.dct kvs _), k => kindOk kvs k = true ∧ kvs.length < line ∧ ∀ t, Q (up S a (.dct (dput kvs k v) t))
    | _, _ => False
  | _ => False

def fput (f : Str) (v : Val) : List (Str × Val) → List (Str × Val)
  | [] => [(f, v)]
  | (g, w) :: r => if g = f then (f, v) :: r else (g, w) :: fput f v r

/-- what a def asks: its arguments, the store, what is wanted behind, what is wanted of a refusal (by its class's number) -/
abbrev Spec := List Val → Sto → KV → (Nat → Sto → Prop) → Prop
structure Cfg where
  fn : Nat → Option Spec
  mt : Nat → Str → Option Spec
  cv : Str → Option Val
  fl : Nat → Str → Bool
  /-- a class of exceptions is below another -/
  sub : Nat → Nat → Bool
  /-- the own classes of exceptions that are there -/
  ek : Nat → Bool
/-- nothing is raised -/
def noE : Nat → Sto → Prop := fun _ _ => False

def wipeE (e : Env) : List Nat → Env
  | [] => e
  | i :: r => (wipeE e r).set i none
def bindMany (e : Env) : List Nat → List Val → Option Env
  | [], [] => some e
  | i :: r, v :: vs => bindMany (e.set i (some v)) r vs
  | _, _ => none
def bindT (tg : Tg) (e : Env) (v : Val) : Option Env := match tg, v with
  | .one i, v => some (e.set i (some v))
  | .many is, .tup vs => bindMany e is vs
  | .many _, _ => none

/-- a text's place in a row of texts -/
def strIx (z : Str) : List Str → Nat → Option Nat
  | [], _ => none
  | y :: ys, n => if y = z then some n else strIx z ys (n + 1)
/-- the turns of a comprehension: acc what is made so far; grd: what is walked stands -/
def wTurns (body : Val → Sto → (Option Val → Sto → Prop) → Prop) (grd : Sto → Prop) (Q : List Val → Sto → Prop) : List Val → List Val → Sto → Prop
  | [], acc, S => grd S ∧ Q acc S
  | x :: xs, acc, S => grd S ∧ body x S fun r S' => wTurns body grd Q xs (acc ++ r.toList) S'

def enumL : Nat → List Val → List Val
  | _, [] => []
  | n, x :: xs => .tup [.int n, x] :: enumL (n + 1) xs
def zipL : List Val → List Val → List Val
  | x :: xs, y :: ys => .tup [x, y] :: zipL xs ys
  | _, _ => []
def rangeL (lo : Int) (n : Nat) (st : Int) : List Val := (List.range n).map fun (k : Nat) => Val.int (lo + (k : Int) * st)
/-- what a sequence holds, and that it stands -/
def seqOf (v : Val) (S : Sto) : Option (List Val × (Sto → Prop)) := match v with
  | .tup xs => some (xs, fun _ => True)
  | .ref a => match S a with
    | some (.lst xs) => some (xs, fun S' => S' a = some (.lst xs))
    | _ => none
  | _ => none
/-- keys are walked where they are whole numbers and texts, or tuples -/
def keysOk : List (Val × Val) → Bool
  | [] => true
  | (a, _) :: _ => kcl a != 1
def iterOf (v : Val) (S : Sto) : Option (List Val × (Sto → Prop)) := match v with
  | .tup xs => some (xs, fun _ => True)
  | .str z => if z.cps.size ≤ line then some (z.cps.toList.map fun c => .str ⟨#[c]⟩, fun _ => True) else none
  | .ref a => match S a with
    | some (.lst xs) => some (xs, fun S' => S' a = some (.lst xs))
    | some (.dct kvs t) => if keysOk kvs then some (kvs.map (·.1), fun S' => S' a = some (.dct kvs t)) else none
    | _ => none
  | _ => none
def listOf (v : Val) (S : Sto) : Option (List Val × (Sto → Prop)) := match v with
  | .ref a => match S a with
    | some (.lst xs) => some (xs, fun S' => S' a = some (.lst xs))
    | _ => none
  | .tup xs => some (xs, fun _ => True)
  | .str z => if z.cps.size ≤ line then some (z.cps.toList.map fun c => .str ⟨#[c]⟩, fun _ => True) else none
  | _ => none
def zipOf (x y : Val) (S : Sto) : Option (List Val × (Sto → Prop)) := match x, y with
  | .tup xs, .tup ys => some (zipL xs ys, fun _ => True)
  | .ref a, .ref b => match S a, S b with
    | some (.lst xs), some (.lst ys) => some (zipL xs ys, fun S' => S' a = some (.lst xs) ∧ S' b = some (.lst ys))
    | _, _ => none
  | _, _ => none
def wRng (vs : List Val) (K : Int → Nat → Int → Prop) : Prop := match vs with
  | [.int n] => n < 2 ^ 24 ∧ -(2 ^ 24) < n ∧ K 0 n.toNat 1
  | [.int a, .int b] => (-(2 ^ 23) < a ∧ a < 2 ^ 23 ∧ -(2 ^ 23) < b ∧ b < 2 ^ 23) ∧ K a (b - a).toNat 1
  | [.int a, .int b, .int c] => c = -1 ∧ (-(2 ^ 23) < a ∧ a < 2 ^ 23 ∧ -(2 ^ 23) < b ∧ b < 2 ^ 23) ∧ K a (a - b).toNat (-1)
  | _ => False

mutual
def wE (G : Cfg) (E : Nat → Sto → Prop) : Ex → Env → Sto → KV → Prop
  | .var i, e, S, Q => withO (getV e i) fun v => Q v S
  | .glob x, e, S, Q => withO (G.cv x) fun v => Q v S
  | .int i, e, S, Q => Q (.int i) S
  | .bl b, e, S, Q => Q (.bl b) S
  | .non, e, S, Q => Q .non S
  | .str x, e, S, Q => Q (.str x) S
  | .bin o a b, e, S, Q => wE G E a e S fun x S1 => wE G E b e S1 fun y S2 => wBin o x y S2 Q
  | .neg a, e, S, Q => wE G E a e S fun x S1 => match x with
    | .int i => Q (.int (-i)) S1
    | _ => False
  | .not a, e, S, Q => wE G E a e S fun x S1 => withB x fun b => Q (.bl (!b)) S1
  | .cmp o a b, e, S, Q => wE G E a e S fun x S1 => wE G E b e S1 fun y S2 => wCmp o x y S2 Q
  | .isN a, e, S, Q => wE G E a e S fun x S1 => match x with
    | .non => Q (.bl true) S1
    | _ => Q (.bl false) S1
  | .notN a, e, S, Q => wE G E a e S fun x S1 => match x with
    | .non => Q (.bl false) S1
    | _ => Q (.bl true) S1
  | .chain o p a b c, e, S, Q => wE G E a e S fun x S1 => wE G E b e S1 fun y S2 => wCmp o x y S2 fun z S3 => withB z fun k =>
      (k = true → wE G E c e S3 fun u S4 => wCmp p y u S4 Q) ∧ (k = false → Q (.bl false) S3)
  | .and a b, e, S, Q => wE G E a e S fun x S1 => withB x fun k => (k = true → wE G E b e S1 Q) ∧ (k = false → Q (.bl false) S1)
  | .or a b, e, S, Q => wE G E a e S fun x S1 => withB x fun k => (k = true → Q (.bl true) S1) ∧ (k = false → wE G E b e S1 Q)
  | .tup es, e, S, Q => wEs G E es e S fun vs S1 => Q (.tup vs) S1
  | .lst es, e, S, Q => wEs G E es e S fun vs S1 => ∀ p, S1 p = none → Q (.ref p) (up S1 p (.lst vs))
  | .dict0, e, S, Q => ∀ p t, S p = none → Q (.ref p) (up S p (.dct [] t))
  | .dict1 k v, e, S, Q => wE G E k e S fun x S1 => wE G E v e S1 fun y S2 => kindOk [] x = true ∧ ∀ p t, S2 p = none → Q (.ref p) (up S2 p (.dct [(x, y)] t))
  | .sub a i, e, S, Q => wE G E a e S fun x S1 => wE G E i e S1 fun y S2 => wSub x y S2 Q
  | .slice a lo hi, e, S, Q => wE G E a e S fun x S1 => wO G E lo e S1 fun l S2 => wO G E hi e S2 fun h S3 => wSlice x l h S3 Q
  | .fld a f, e, S, Q => wE G E a e S fun x S1 => match x with
    | .ref p => match S1 p with
      | some (.ins _ fs) => withO (fs.lookup f) fun v => Q v S1
      | _ => False
    | _ => False
  | .call f es, e, S, Q => wEs G E es e S fun vs S1 => withO (G.fn f) fun sp => sp vs S1 Q E
  | .new c es, e, S, Q => wEs G E es e S fun vs S1 => withO (G.mt c "__init__") fun sp => ∀ p, S1 p = none → sp (.ref p :: vs) (up S1 p (.ins c [])) (fun v S2 => (match v with | .non => Q (.ref p) S2 | _ => False)) noE
  | .blt b es, e, S, Q => wEs G E es e S fun vs S1 => wBt b vs S1 Q
  | .bltc b c, e, S, Q => wC G E c e S fun vs S1 => wBtL b vs S1 Q
  | .isi a t, e, S, Q => wE G E a e S fun x S1 => tyKnown x S1 = true ∧ Q (.bl (tyOf t x S1)) S1
  | .meth a m es, e, S, Q => wE G E a e S fun x S1 => recv m x S1 = true ∧ wEs G E es e S1 fun vs S2 => wMt m x vs S2 Q
  | .umeth a m es, e, S, Q => wE G E a e S fun x S1 => match x with
    | .ref p => match S1 p with
      | some (.ins c fs) => fs.lookup m = none ∧ withO (G.mt c m) fun sp => wEs G E es e S1 fun vs S2 => sp (.ref p :: vs) S2 Q noE
      | _ => False
    | _ => False
  | .comp c, e, S, Q => wC G E c e S fun vs S1 => ∀ p, S1 p = none → Q (.ref p) (up S1 p (.lst vs))
  | .lzip a b, e, S, Q => wE G E a e S fun x S1 => wE G E b e S1 fun y S2 => withO (seqOf x S2) fun xs => withO (seqOf y S2) fun ys =>
      ∀ p, S2 p = none → Q (.ref p) (up S2 p (.lst (zipL xs.1 ys.1)))
  | .lrng es, e, S, Q => wEs G E es e S fun vs S1 => wRng vs fun lo n st => st = 1 ∧ ∀ p, S1 p = none → Q (.ref p) (up S1 p (.lst (rangeL lo n 1)))
  | .trng es, e, S, Q => wEs G E es e S fun vs S1 => wRng vs fun lo n st => st = 1 ∧ Q (.tup (rangeL lo n 1)) S1
  | .drop a, e, S, Q => wE G E a e S fun v S' => Q v (keep S S' v)
  | .tix zs a, e, S, Q => wE G E a e S fun x S1 => match x with
    | .str z => withO (strIx z zs 0) fun j => Q (.int j) S1
    | _ => False
def wEs (G : Cfg) (E : Nat → Sto → Prop) : Exs → Env → Sto → (List Val → Sto → Prop) → Prop
  | .nil, e, S, Q => Q [] S
  | .cons a r, e, S, Q => wE G E a e S fun x S1 => wEs G E r e S1 fun xs S2 => Q (x :: xs) S2
def wO (G : Cfg) (E : Nat → Sto → Prop) : Oe → Env → Sto → (Option Int → Sto → Prop) → Prop
  | .none, e, S, Q => Q none S
  | .some a, e, S, Q => wE G E a e S fun x S1 => match x with
    | .int i => Q (some i) S1
    | _ => False
/-- what is walked: its items, and that it stands -/
def wI (G : Cfg) (E : Nat → Sto → Prop) : Itr → Env → Sto → (List Val → (Sto → Prop) → Sto → Prop) → Prop
  | .val a, e, S, Q => wE G E a e S fun x S1 => withO (iterOf x S1) fun p => Q p.1 p.2 S1
  | .rng es, e, S, Q => wEs G E es e S fun vs S1 => wRng vs fun lo n st => Q (rangeL lo n st) (fun _ => True) S1
  | .enum a, e, S, Q => wE G E a e S fun x S1 => withO (listOf x S1) fun p => Q (enumL 0 p.1) p.2 S1
  | .zip a b, e, S, Q => wE G E a e S fun x S1 => wE G E b e S1 fun y S2 => withO (zipOf x y S2) fun p => Q p.1 p.2 S2
def wC (G : Cfg) (E : Nat → Sto → Prop) : Cmp → Env → Sto → (List Val → Sto → Prop) → Prop
  | .mk tg own elt it cond, e, S, Q => wI G E it e S fun xs grd S1 =>
      wTurns (fun x S2 k => withO (bindT tg (wipeE e own) x) fun e' => wIf G cond e' S2 fun b S3 => (b = true → wE G noE elt e' S3 fun v S4 => k (some v) S4) ∧ (b = false → k none S3)) grd Q xs [] S1
def wIf (G : Cfg) : Oe → Env → Sto → (Bool → Sto → Prop) → Prop
  | .none, e, S, Q => Q true S
  | .some a, e, S, Q => wE G noE a e S fun x S1 => withB x fun b => Q b S1
end

/-- the turns of a for -/
def wFor (tg : Tg) (body : (Env → Sto → Prop) → Env → Sto → Prop) (grd : Sto → Prop) (nx : Env → Sto → Prop) : List Val → Env → Sto → Prop
  | [], e, S => grd S ∧ nx e S
  | x :: xs, e, S => grd S ∧ withO (bindT tg e x) fun e' => body (fun e2 S2 => wFor tg body grd nx xs e2 S2) e' S

/-- a clause's suite -/
def wH (G : Cfg) (E : Nat → Sto → Prop) (rt : KV) : Hd → Nat → Sto → Prop
  | .conj cs, x, S => rt (.bl (cs.all fun p => G.sub x p.1 == p.2)) S
  | .text z cs, x, S => rt (.str (if (cs.all fun p => G.sub x p.1 == p.2) = true then z else "")) S
  | .bl b, _, S => rt (.bl b) S
  | .non, _, S => rt .non S
  | .str z, _, S => rt (.str z) S
  | .raise c, _, S => E c S
mutual
def wS (G : Cfg) (E : Nat → Sto → Prop) (rt : KV) : Sm → (Env → Sto → Prop) → Env → Sto → Prop
  | .asg i a, nx, e, S => wE G E a e S fun v S1 => nx (e.set i (some v)) S1
  | .asgs is a, nx, e, S => wE G E a e S fun v S1 => withO (bindT (.many is) e v) fun e' => nx e' S1
  | .par i j a b, nx, e, S => wE G E a e S fun v S1 => wE G E b e S1 fun w S2 => nx ((e.set i (some v)).set j (some w)) S2
  | .setI a i c, nx, e, S => wE G E c e S fun v S1 => wE G E a e S1 fun x S2 => wE G E i e S2 fun y S3 => wSetI x y v S3 fun S4 => nx e S4
  | .setF a f c, nx, e, S => wE G E c e S fun v S1 => wE G E a e S1 fun x S2 => match x with
    | .ref p => match S2 p with
      | some (.ins c fs) => G.fl c f = true ∧ fs.length < 900 ∧ nx e (up S2 p (.ins c (fput f v fs)))
      | _ => False
    | _ => False
  | .expr a, nx, e, S => wE G E a e S fun _ S1 => nx e S1
  | .ret a, nx, e, S => wE G E a e S fun v S1 => rt v S1
  | .ret0, nx, e, S => rt .non S
  | .pass, nx, e, S => nx e S
  | .ite c a b, nx, e, S => wE G E c e S fun x S1 => withB x fun k => (k = true → wSs G E rt a nx e S1) ∧ (k = false → wSs G E rt b nx e S1)
  | .while c b, nx, e, S => ∃ W : Nat → Env → Sto → Prop, (∃ m, W m e S) ∧ ∀ m e S, W m e S → wE G E c e S fun x S1 => withB x fun k =>
      (k = true → wSs G E rt b (fun e' S' => ∃ m', m' < m ∧ W m' e' S') e S1) ∧ (k = false → nx e S1)
  | .for tg it b, nx, e, S => wI G E it e S fun xs grd S1 => wFor tg (fun k e' S' => wSs G E rt b k e' S') grd nx xs e S1
  | .raise c _, nx, e, S => E c S
  | .bad, nx, e, S => False
  | .try1 b c _ h, nx, e, S => wSs G (fun x S' => G.ek x = true ∧ (G.sub x c = true → wH G E rt h x S') ∧ (G.sub x c = false → E x S')) rt b nx e S
def wSs (G : Cfg) (E : Nat → Sto → Prop) (rt : KV) : Sms → (Env → Sto → Prop) → Env → Sto → Prop
  | .nil, nx, e, S => nx e S
  | .cons s r, nx, e, S => wS G E rt s (fun e' S' => wSs G E rt r nx e' S') e S
end
end DL

set_option autoImplicit true
set_option Elab.async false
set_option linter.all false
set_option maxRecDepth 100000
set_option maxHeartbeats 1000000
/-! Own layer, part 2: how a value lies in the abstract heap. -/
namespace DL
open PySem PySem.Spec PyProof.Rows L2

/-- where classes stand -/
structure Lay where
  P : Program
  w : World
  K : PySem.W.Frag
  ca : Nat → Addr
  ex : Nat → Addr

/-- a list that nobody changes -/
def FzL (K : PySem.W.Frag) (H : Hp) (a : Addr) (xs : List V) : Prop := (∃ ob, H a = some (.frz ob (.lst xs))) ∨
  ∃ (o : Obj) (its : Array Value) (n : Nat), K.lookup a = some o ∧ o.cls = .type "list" ∧ o.dict = none ∧ o.data = .seq its n ∧ its.size ≤ sizeLine ∧ Vals xs its.toList
theorem FzL.sq {K : PySem.W.Frag} {H : Hp} {a : Addr} {xs : List V} (h : FzL K H a xs) : SqL K H a xs := by
  rcases h with h | h
  · exact .inl (.inr h)
  · exact .inr h
mutual
def RV (K : PySem.W.Frag) (H : Hp) : Val → V → Prop
  | .non, u => u = .non
  | .bl b, u => u = .bl b
  | .int i, u => u = .int i
  | .str x, u => u = .str x
  | .tup xs, u => ∃ a vs, u = .ref a ∧ SqT K H a vs ∧ RVs K H xs vs
  | .ref a, u => u = .ref a
  | .lst xs, u => ∃ a vs, u = .ref a ∧ FzL K H a vs ∧ RVs K H xs vs
def RVs (K : PySem.W.Frag) (H : Hp) : List Val → List V → Prop
  | [], us => us = []
  | x :: xs, us => ∃ u r, us = u :: r ∧ RV K H x u ∧ RVs K H xs r
end
theorem RVs.length {K : PySem.W.Frag} {H : Hp} : ∀ {xs : List Val} {us : List V}, RVs K H xs us → xs.length = us.length
  | [], us, h => by
    have e : us = [] := h
    subst e
    rfl
  | x :: xs, us, h => by
    obtain ⟨u, r, rfl, _, h2⟩ := h
    simp [RVs.length h2]

/-- the tuples stay -/
def Tp (K : PySem.W.Frag) (H H' : Hp) : Prop := (∀ a xs, SqT K H a xs → SqT K H' a xs) ∧ ∀ a xs, FzL K H a xs → FzL K H' a xs
mutual
theorem RV.mono {K : PySem.W.Frag} {H H' : Hp} (t : Tp K H H') : ∀ (x : Val) (u : V), RV K H x u → RV K H' x u
  | .non, _, h => h
  | .bl _, _, h => h
  | .int _, _, h => h
  | .str _, _, h => h
  | .tup xs, _, h => by
    obtain ⟨a, vs, e, hq, hr⟩ := h
    exact ⟨a, vs, e, t.1 _ _ hq, RVs.mono t xs vs hr⟩
  | .ref _, _, h => h
  | .lst xs, _, h => by
    obtain ⟨a, vs, e, hq, hr⟩ := h
    exact ⟨a, vs, e, t.2 _ _ hq, RVs.mono t xs vs hr⟩
theorem RVs.mono {K : PySem.W.Frag} {H H' : Hp} (t : Tp K H H') : ∀ (xs : List Val) (us : List V), RVs K H xs us → RVs K H' xs us
  | [], _, h => h
  | x :: xs, _, h => by
    obtain ⟨u, r, e, h1, h2⟩ := h
    exact ⟨u, r, e, RV.mono t x u h1, RVs.mono t xs r h2⟩
end
theorem RVs.append {K : PySem.W.Frag} {H : Hp} : ∀ {xs ys : List Val} {us ws : List V}, RVs K H xs us → RVs K H ys ws → RVs K H (xs ++ ys) (us ++ ws)
  | [], ys, us, ws, h, h' => by
    have e : us = [] := h
    subst e
    exact h'
  | x :: xs, ys, us, ws, h, h' => by
    obtain ⟨u, r, rfl, h1, h2⟩ := h
    exact ⟨u, r ++ ws, rfl, h1, RVs.append h2 h'⟩
theorem RVs.get {K : PySem.W.Frag} {H : Hp} : ∀ {xs : List Val} {us : List V} {i : Nat} {x : Val}, RVs K H xs us → xs[i]? = some x → ∃ u, us[i]? = some u ∧ RV K H x u
  | [], _, _, _, _, e => by simp at e
  | y :: xs, us, 0, x, h, e => by
    obtain ⟨u, r, rfl, h1, h2⟩ := h
    simp at e
    subst e
    exact ⟨u, rfl, h1⟩
  | y :: xs, us, i + 1, x, h, e => by
    obtain ⟨u, r, rfl, h1, h2⟩ := h
    obtain ⟨v, e1, e2⟩ := RVs.get (i := i) (x := x) h2 (by simpa using e)
    exact ⟨v, by simpa using e1, e2⟩
theorem RVs.getr {K : PySem.W.Frag} {H : Hp} : ∀ {xs : List Val} {us : List V} {i : Nat} {u : V}, RVs K H xs us → us[i]? = some u → ∃ x, xs[i]? = some x ∧ RV K H x u
  | [], us, _, _, h, e => by
    have e' : us = [] := h
    subst e'
    simp at e
  | y :: xs, us, 0, v, h, e => by
    obtain ⟨u, r, rfl, h1, h2⟩ := h
    simp at e
    subst e
    exact ⟨y, rfl, h1⟩
  | y :: xs, us, i + 1, v, h, e => by
    obtain ⟨u, r, rfl, h1, h2⟩ := h
    obtain ⟨x, e1, e2⟩ := RVs.getr (i := i) (u := v) h2 (by simpa using e)
    exact ⟨x, by simpa using e1, e2⟩
theorem RVs.take {K : PySem.W.Frag} {H : Hp} : ∀ {xs : List Val} {us : List V} (n : Nat), RVs K H xs us → RVs K H (xs.take n) (us.take n)
  | _, _, 0, _ => by simp [RVs]
  | [], us, n + 1, h => by
    have e' : us = [] := h
    subst e'
    simp [RVs]
  | y :: xs, us, n + 1, h => by
    obtain ⟨u, r, rfl, h1, h2⟩ := h
    exact ⟨u, r.take n, rfl, h1, RVs.take n h2⟩
theorem RVs.drop {K : PySem.W.Frag} {H : Hp} : ∀ {xs : List Val} {us : List V} (n : Nat), RVs K H xs us → RVs K H (xs.drop n) (us.drop n)
  | _, _, 0, h => by simpa using h
  | [], us, n + 1, h => by
    have e' : us = [] := h
    subst e'
    simp [RVs]
  | y :: xs, us, n + 1, h => by
    obtain ⟨u, r, rfl, h1, h2⟩ := h
    simpa using RVs.drop n h2
theorem RVs.set {K : PySem.W.Frag} {H : Hp} {x : Val} {u : V} (r : RV K H x u) : ∀ {xs : List Val} {us : List V} (i : Nat), RVs K H xs us → RVs K H (xs.set i x) (us.set i u)
  | [], us, i, h => by
    have e' : us = [] := h
    subst e'
    simp [RVs]
  | y :: xs, us, 0, h => by
    obtain ⟨v, w, rfl, h1, h2⟩ := h
    exact ⟨u, w, rfl, r, h2⟩
  | y :: xs, us, i + 1, h => by
    obtain ⟨v, w, rfl, h1, h2⟩ := h
    exact ⟨v, w.set i u, rfl, h1, RVs.set r i h2⟩
theorem RVs.reverse {K : PySem.W.Frag} {H : Hp} : ∀ {xs : List Val} {us : List V}, RVs K H xs us → RVs K H xs.reverse us.reverse
  | [], us, h => by
    have e' : us = [] := h
    subst e'
    simp [RVs]
  | y :: xs, us, h => by
    obtain ⟨u, r, rfl, h1, h2⟩ := h
    simp only [List.reverse_cons]
    exact RVs.append (RVs.reverse h2) ⟨u, [], rfl, h1, rfl⟩
theorem RVs.dropLast {K : PySem.W.Frag} {H : Hp} {xs : List Val} {us : List V} (h : RVs K H xs us) : RVs K H xs.dropLast us.dropLast := by
  rw [List.dropLast_eq_take, List.dropLast_eq_take, h.length]
  exact h.take _
theorem RVs.rep {K : PySem.W.Frag} {H : Hp} {xs : List Val} {us : List V} (h : RVs K H xs us) : ∀ n : Nat, RVs K H (List.replicate n xs).flatten (List.replicate n us).flatten
  | 0 => rfl
  | n + 1 => by
    rw [List.replicate_succ, List.replicate_succ, List.flatten_cons, List.flatten_cons]
    exact RVs.append h (RVs.rep h n)
theorem RVs.one {K : PySem.W.Frag} {H : Hp} {x : Val} {us : List V} (h : RVs K H [x] us) : ∃ u, us = [u] ∧ RV K H x u := by
  obtain ⟨u, r, rfl, h1, h2⟩ := h
  have e : r = [] := h2
  subst e
  exact ⟨u, rfl, h1⟩
theorem RVs.two {K : PySem.W.Frag} {H : Hp} {x y : Val} {us : List V} (h : RVs K H [x, y] us) : ∃ u v, us = [u, v] ∧ RV K H x u ∧ RV K H y v := by
  obtain ⟨u, r, rfl, h1, h2⟩ := h
  obtain ⟨v, rfl, h3⟩ := RVs.one h2
  exact ⟨u, v, rfl, h1, h3⟩
theorem RVs.of1 {K : PySem.W.Frag} {H : Hp} {x : Val} {u : V} (h : RV K H x u) : RVs K H [x] [u] := ⟨u, [], rfl, h, rfl⟩

/-! ### kinds of sequences -/
theorem ints_rv {K : PySem.W.Frag} {H : Hp} : ∀ {xs : List Val} {us : List V} {ns : List Int}, Val.ints xs = some ns → RVs K H xs us → us = ns.map V.int
  | [], us, ns, e, h => by
    simp [Val.ints] at e
    subst e
    exact h
  | .int i :: xs, us, ns, e, h => by
    obtain ⟨u, r, rfl, h1, h2⟩ := h
    cases q : Val.ints xs with
    | none => rw [Val.ints, q] at e; cases e
    | some ms =>
      rw [Val.ints, q] at e
      have e' : i :: ms = ns := Option.some.inj e
      subst e'
      have h1' : u = .int i := h1
      rw [h1', ints_rv q h2]
      rfl
  | .non :: _, _, _, e, _ => by cases e
  | .bl _ :: _, _, _, e, _ => by cases e
  | .str _ :: _, _, _, e, _ => by cases e
  | .tup _ :: _, _, _, e, _ => by cases e
  | .ref _ :: _, _, _, e, _ => by cases e
  | .lst _ :: _, _, _, e, _ => by cases e
theorem bls_rv {K : PySem.W.Frag} {H : Hp} : ∀ {xs : List Val} {us : List V} {ns : List Bool}, Val.bls xs = some ns → RVs K H xs us → us = ns.map V.bl
  | [], us, ns, e, h => by
    simp [Val.bls] at e
    subst e
    exact h
  | .bl i :: xs, us, ns, e, h => by
    obtain ⟨u, r, rfl, h1, h2⟩ := h
    cases q : Val.bls xs with
    | none => rw [Val.bls, q] at e; cases e
    | some ms =>
      rw [Val.bls, q] at e
      have e' : i :: ms = ns := Option.some.inj e
      subst e'
      have h1' : u = .bl i := h1
      rw [h1', bls_rv q h2]
      rfl
  | .non :: _, _, _, e, _ => by cases e
  | .int _ :: _, _, _, e, _ => by cases e
  | .str _ :: _, _, _, e, _ => by cases e
  | .tup _ :: _, _, _, e, _ => by cases e
  | .ref _ :: _, _, _, e, _ => by cases e
  | .lst _ :: _, _, _, e, _ => by cases e
theorem strs_rv {K : PySem.W.Frag} {H : Hp} : ∀ {xs : List Val} {us : List V} {ns : List Str}, Val.strs xs = some ns → RVs K H xs us → us = ns.map V.str
  | [], us, ns, e, h => by
    simp [Val.strs] at e
    subst e
    exact h
  | .str i :: xs, us, ns, e, h => by
    obtain ⟨u, r, rfl, h1, h2⟩ := h
    cases q : Val.strs xs with
    | none => rw [Val.strs, q] at e; cases e
    | some ms =>
      rw [Val.strs, q] at e
      have e' : i :: ms = ns := Option.some.inj e
      subst e'
      have h1' : u = .str i := h1
      rw [h1', strs_rv q h2]
      rfl
  | .non :: _, _, _, e, _ => by cases e
  | .int _ :: _, _, _, e, _ => by cases e
  | .bl _ :: _, _, _, e, _ => by cases e
  | .tup _ :: _, _, _, e, _ => by cases e
  | .ref _ :: _, _, _, e, _ => by cases e
  | .lst _ :: _, _, _, e, _ => by cases e
theorem rv_ints {K : PySem.W.Frag} {H : Hp} : ∀ (ns : List Int), RVs K H (ns.map Val.int) (ns.map V.int)
  | [] => rfl
  | n :: ns => ⟨_, _, rfl, rfl, rv_ints ns⟩
theorem rv_strs {K : PySem.W.Frag} {H : Hp} : ∀ (ns : List Str), RVs K H (ns.map Val.str) (ns.map V.str)
  | [] => rfl
  | n :: ns => ⟨_, _, rfl, rfl, rv_strs ns⟩

/-! ### the store -/
def leafOf : Val → Option Leaf
  | .non => some .none
  | .bl b => some (.num (if b then 1 else 0))
  | _ => none
def keyOf : Val → Option Key
  | .int i => some (.inl i)
  | .str x => some (.inr x)
  | _ => none
/-- how keys that are no tuples are told -/
structure KEnc (P : Program) (w : World) where
  κ : Type
  dec : DecidableEq κ
  knd : KeyKind P w κ
  enc : Val → Option κ
  key : κ → NestedKey
  nk : ∀ {v l}, enc v = some l → v.nk = key l
  inj : ∀ {a b}, key a = key b → a = b
  is : ∀ {K : PySem.W.Frag} {H : Hp} {v l u z}, enc v = some l → RV K H v u → RelV u z → knd.is l z = true
  /-- the value of a key, from its kind -/
  cl : Nat
  ecl : ∀ {v l}, enc v = some l → kcl v = cl
  some : ∀ {v}, kcl v = cl → v.dat = true → ∃ l, enc v = some l
instance {P : Program} {w : World} (B : KEnc P w) : DecidableEq B.κ := B.dec
/-- a dict whose keys are no tuples -/
structure LeafD (L : Lay) (B : KEnc L.P L.w) (H : Hp) (kvs : List (Val × Val)) (es : Array DictEntry) (lvs : List (B.κ × Value)) : Prop where
  keys : KeysOf B.knd es
  prs : Pairs B.knd es.toList lvs
  nd : (lvs.map (·.1)).Nodup
  rep : Paired (fun (p : Val × Val) (q : B.κ × Value) => B.enc p.1 = some q.1 ∧ ∃ u, RV L.K H p.2 u ∧ RelV u q.2) kvs lvs
/-- a dict of tuples -/
structure TupD (L : Lay) (H : Hp) (kvs : List (Val × Val)) (es : Array DictEntry) (xs : List (NestedKey × Addr × Value)) : Prop where
  ents : es.toList = xs.map (entryOfKey (nestedKind L.P L.w))
  nd : (xs.map (·.1)).Nodup
  rep : Paired (fun (p : Val × Val) (q : NestedKey × Addr × Value) => isTup p.1 = true ∧ p.1.dat = true ∧ q.1 = p.1.nk ∧ p.1.nk.depth ≤ 8 ∧ RV L.K H p.1 (.ref q.2.1) ∧ ∃ u, RV L.K H p.2 u ∧ RelV u q.2.2) kvs xs
theorem leaf_key : ∀ {v : Val} {l : Leaf}, leafOf v = some l → v.nk = l.key
  | .non, _, h => by cases h; rfl
  | .bl b, _, h => by cases h; rfl
  | .int _, _, h => by cases h
  | .str _, _, h => by cases h
  | .tup _, _, h => by cases h
  | .ref _, _, h => by cases h
  | .lst _, _, h => by cases h
theorem leaf_is {P : Program} {w : World} {K : PySem.W.Frag} {H : Hp} : ∀ {v : Val} {l : Leaf} {u : V} {z : Value}, leafOf v = some l → RV K H v u → RelV u z → (leafKind P w).is l z = true
  | .non, _, u, z, h, r, q => by
    cases h
    have e : u = .non := r
    subst e
    have e : z = Value.none := q
    subst e
    rfl
  | .bl b, _, u, z, h, r, q => by
    cases h
    have e : u = .bl b := r
    subst e
    have e : z = Value.bool b := q
    subst e
    cases b <;> rfl
  | .int i, _, _, _, h, _, _ => by cases h
  | .str x, _, _, _, h, _, _ => by cases h
  | .tup _, _, _, _, h, _, _ => by cases h
  | .ref _, _, _, _, h, _, _ => by cases h
  | .lst _, _, _, _, h, _, _ => by cases h
def leafE (P : Program) (w : World) : KEnc P w where
  κ := Leaf
  dec := inferInstance
  knd := leafKind P w
  enc := leafOf
  key := Leaf.key
  nk := leaf_key
  inj := Leaf.key_inj
  is := leaf_is
  cl := 1
  ecl := fun {v l} h => by cases v <;> first | rfl | cases h
  some := fun {v} h d => by cases v <;> first | exact ⟨_, rfl⟩ | (cases d; done) | (cases h; done)
def keyN : Key → NestedKey
  | .inl i => .num i
  | .inr x => .text x
def mixE (P : Program) (w : World) : KEnc P w where
  κ := Key
  dec := inferInstance
  knd := mixKind P w
  enc := keyOf
  key := keyN
  nk := fun {v l} h => by cases v <;> first | (cases h; rfl) | cases h
  inj := fun {a b} h => by
    cases a <;> cases b <;> first | (injection h with h; rw [h]) | cases h
  is := fun {K H v l u z} h r q => by
    cases v <;> first | cases h | skip
    · have e : u = .int _ := r
      subst e
      obtain ⟨t, rfl⟩ := q
      exact keyIs_int _ t
    · have e : u = .str _ := r
      subst e
      obtain ⟨t, rfl⟩ := q
      exact keyIs_str _ t
  cl := 0
  ecl := fun {v l} h => by cases v <;> first | rfl | cases h
  some := fun {v} h d => by cases v <;> first | exact ⟨_, rfl⟩ | (cases d; done) | (cases h; done)
/-- the two of them -/
def encOf (P : Program) (w : World) : Bool → KEnc P w
  | true => mixE P w
  | false => leafE P w
def dctO (a : Addr) (es : Array DictEntry) (t : Nat) : HO := .ext fun h => h.DictRaw a es t
def RD (L : Lay) (H : Hp) (a : Addr) (kvs : List (Val × Val)) (t : Nat) : Prop :=
  ∃ es, H a = some (dctO a es t) ∧ (a == sysModules) = false ∧ kvs.length ≤ sizeLine ∧ es.size = kvs.length ∧ ((∃ b lvs, LeafD L (encOf L.P L.w b) H kvs es lvs) ∨ ∃ xs, TupD L H kvs es xs)
def RO (L : Lay) (H : Hp) (a : Addr) : Ob → Prop
  | .lst xs => ∃ vs, H a = some (.lst vs) ∧ RVs L.K H xs vs
  | .dct kvs t => RD L H a kvs t
  | .ins c fs => ∃ dx gs, H a = some (.ins (L.ca c) dx gs) ∧ Cls L.K (L.ca c) ∧ Paired (fun (p : Str × Val) (q : Str × V) => p.1 = q.1 ∧ NoAttr L.K (L.ca c) p.1 ∧ RV L.K H p.2 q.2) fs gs
def RS (L : Lay) (H : Hp) (S : Sto) : Prop := ∀ a o, S a = some o → RO L H a o

theorem Paired.imp {α β : Type} {F G : α → β → Prop} : ∀ {l₁ : List α} {l₂ : List β}, Paired F l₁ l₂ → (∀ a b, F a b → G a b) → Paired G l₁ l₂
  | _, _, .nil, _ => .nil
  | _, _, .cons r t, f => .cons (f _ _ r) (Paired.imp t f)
theorem LeafD.mono {L : Lay} {B : KEnc L.P L.w} {H H' : Hp} {kvs es lvs} (t : Tp L.K H H') (x : LeafD L B H kvs es lvs) : LeafD L B H' kvs es lvs :=
  ⟨x.keys, x.prs, x.nd, Paired.imp x.rep fun p q ⟨h1, u, h2, h3⟩ => ⟨h1, u, RV.mono t _ _ h2, h3⟩⟩
theorem TupD.mono {L : Lay} {H H' : Hp} {kvs es xs} (t : Tp L.K H H') (x : TupD L H kvs es xs) : TupD L H' kvs es xs :=
  ⟨x.ents, x.nd, Paired.imp x.rep fun p q ⟨h1, h0, h2, h3, h4, u, h5, h6⟩ => ⟨h1, h0, h2, h3, RV.mono t _ _ h4, u, RV.mono t _ _ h5, h6⟩⟩
/-- what is told of an object stays where its own place and the tuples stay -/
theorem RO.mono {L : Lay} {H H' : Hp} {a : Addr} (t : Tp L.K H H') (e : H' a = H a) : ∀ {o : Ob}, RO L H a o → RO L H' a o
  | .lst xs, h => by
    obtain ⟨vs, h1, h2⟩ := h
    exact ⟨vs, by rw [e]; exact h1, RVs.mono t _ _ h2⟩
  | .dct kvs v, h => by
    obtain ⟨es, h1, h2, h3, h4, h5⟩ := h
    refine ⟨es, by rw [e]; exact h1, h2, h3, h4, ?_⟩
    rcases h5 with ⟨b, l, h5⟩ | ⟨l, h5⟩
    · exact .inl ⟨b, l, h5.mono t⟩
    · exact .inr ⟨l, h5.mono t⟩
  | .ins c fs, h => by
    obtain ⟨dx, gs, h1, h2, h3⟩ := h
    exact ⟨dx, gs, by rw [e]; exact h1, h2, Paired.imp h3 fun p q ⟨z1, z2, z3⟩ => ⟨z1, z2, RV.mono t _ _ z3⟩⟩
theorem RO.has {L : Lay} {H : Hp} {a : Addr} {o : Ob} (h : RO L H a o) : ∃ u, H a = some u ∧ (∀ xs, u ≠ .tup xs) ∧ ∀ ob v, u ≠ .frz ob v := by
  cases o with
  | lst xs => obtain ⟨vs, h1, _⟩ := h; exact ⟨_, h1, (fun _ e => by cases e), (fun _ _ e => by cases e)⟩
  | dct kvs t => obtain ⟨es, h1, _⟩ := h; exact ⟨_, h1, (fun _ e => by cases e), (fun _ _ e => by cases e)⟩
  | ins c fs => obtain ⟨dx, gs, h1, _⟩ := h; exact ⟨_, h1, (fun _ e => by cases e), (fun _ _ e => by cases e)⟩
theorem RS.off {L : Lay} {H : Hp} {S : Sto} (h : RS L H S) {a : Addr} (e : H a = none) : S a = none := by
  cases q : S a with
  | none => rfl
  | some o =>
    obtain ⟨u, h1, _⟩ := (h a o q).has
    rw [e] at h1
    cases h1
theorem RS.there {L : Lay} {H : Hp} {S : Sto} (h : RS L H S) {a : Addr} {o : Ob} (q : S a = some o) : H a ≠ none := by
  obtain ⟨u, h1, _⟩ := (h a o q).has
  rw [h1]
  exact fun z => by cases z

/-- from here to there: tuples stay, what is tracked stays tracked, new places were free -/
structure Stp (L : Lay) (H : Hp) (S : Sto) (H' : Hp) (S' : Sto) : Prop where
  tp : Tp L.K H H'
  more : ∀ a, H a ≠ none → H' a ≠ none
  dom : ∀ a, S' a ≠ none → S a ≠ none ∨ H a = none
  frm : ∀ a u, H a = some u → S a = none → H' a = some u
theorem Stp.refl {L : Lay} {H : Hp} {S : Sto} : Stp L H S H S := ⟨⟨fun _ _ h => h, fun _ _ h => h⟩, fun _ h => h, fun _ h => .inl h, fun _ _ h _ => h⟩
theorem Stp.off {L : Lay} {H H' : Hp} {S S' : Sto} (st : Stp L H S H' S') {a : Addr} {u : HO} (h : H a = some u) (n : S a = none) : S' a = none := by
  cases q : S' a with
  | none => rfl
  | some b =>
    rcases st.dom a (by rw [q]; exact fun z => by cases z) with z | z
    · exact absurd n z
    · rw [h] at z; cases z
theorem Stp.trans {L : Lay} {H H1 H2 : Hp} {S S1 S2 : Sto} (a : Stp L H S H1 S1) (b : Stp L H1 S1 H2 S2) : Stp L H S H2 S2 :=
  ⟨⟨fun x xs h => b.tp.1 x xs (a.tp.1 x xs h), fun x xs h => b.tp.2 x xs (a.tp.2 x xs h)⟩, fun x h => b.more x (a.more x h), fun x h => by
    rcases b.dom x h with q | q
    · exact a.dom x q
    · refine .inr ?_
      cases e : H x with
      | none => rfl
      | some u => exact absurd q (a.more x (by rw [e]; exact fun z => by cases z)),
   fun x u h n => b.frm x u (a.frm x u h n) (a.off h n)⟩
theorem Tp.fresh {K : PySem.W.Frag} {H : Hp} {p : Addr} {o : HO} (n : H p = none) : Tp K H (upd H p o) := ⟨fun a xs h => by
  rcases h with (h | ⟨ob, h⟩) | h
  · exact .inl (.inl (by rw [upd_ne (ne_of_none h n)]; exact h))
  · exact .inl (.inr ⟨ob, by rw [upd_ne (ne_of_none h n)]; exact h⟩)
  · exact .inr h, fun a xs h => by
  rcases h with ⟨ob, h⟩ | h
  · exact .inl ⟨ob, by rw [upd_ne (ne_of_none h n)]; exact h⟩
  · exact .inr h⟩
theorem Tp.write {K : PySem.W.Frag} {H : Hp} {p : Addr} {o u : HO} (e : H p = some u) (h1 : ∀ xs, u ≠ .tup xs) (h2 : ∀ ob v, u ≠ .frz ob v) : Tp K H (upd H p o) := ⟨fun a xs h => by
  rcases h with (h | ⟨ob, h⟩) | h
  · refine .inl (.inl ?_)
    rw [upd_ne]
    · exact h
    · intro z; subst z; rw [e] at h; cases h; exact h1 _ rfl
  · refine .inl (.inr ⟨ob, ?_⟩)
    rw [upd_ne]
    · exact h
    · intro z; subst z; rw [e] at h; cases h; exact h2 _ _ rfl
  · exact .inr h, fun a xs h => by
  rcases h with ⟨ob, h⟩ | h
  · refine .inl ⟨ob, ?_⟩
    rw [upd_ne]
    · exact h
    · intro z; subst z; rw [e] at h; cases h; exact h2 _ _ rfl
  · exact .inr h⟩
theorem Tp.refl {K : PySem.W.Frag} {H : Hp} : Tp K H H := ⟨fun _ _ h => h, fun _ _ h => h⟩
theorem Tp.trans {K : PySem.W.Frag} {H H1 H2 : Hp} (a : Tp K H H1) (b : Tp K H1 H2) : Tp K H H2 := ⟨fun x xs h => b.1 x xs (a.1 x xs h), fun x xs h => b.2 x xs (a.2 x xs h)⟩
theorem up_same {S : Sto} {a : Addr} {o : Ob} : up S a o a = some o := by unfold up; rw [if_pos rfl]
theorem up_ne {S : Sto} {a b : Addr} {o : Ob} (h : b ≠ a) : up S a o b = S b := by unfold up; rw [if_neg h]
theorem Stp.new {L : Lay} {H : Hp} {S : Sto} {p : Addr} {o : HO} (n : H p = none) : Stp L H S (upd H p o) S :=
  ⟨Tp.fresh n, fun a h => by
    by_cases e : a = p
    · subst e; rw [upd_same]; exact fun z => by cases z
    · rw [upd_ne e]; exact h, fun _ h => .inl h, fun a u h _ => by rw [upd_ne (ne_of_none h n)]; exact h⟩
theorem Stp.alloc {L : Lay} {H : Hp} {S : Sto} {p : Addr} {o : HO} {b : Ob} (n : H p = none) : Stp L H S (upd H p o) (up S p b) :=
  ⟨Tp.fresh n, (Stp.new (L := L) (S := S) n).more, fun a h => by
    by_cases e : a = p
    · subst e; exact .inr n
    · rw [up_ne e] at h; exact .inl h, fun a u h _ => by rw [upd_ne (ne_of_none h n)]; exact h⟩
theorem Stp.write {L : Lay} {H : Hp} {S : Sto} {p : Addr} {o u : HO} {b c : Ob} (e : H p = some u) (h1 : ∀ xs, u ≠ .tup xs) (h2 : ∀ ob v, u ≠ .frz ob v) (q : S p = some c) : Stp L H S (upd H p o) (up S p b) :=
  ⟨Tp.write e h1 h2, fun a h => by
    by_cases e : a = p
    · subst e; rw [upd_same]; exact fun z => by cases z
    · rw [upd_ne e]; exact h, fun a h => by
    by_cases e : a = p
    · subst e; rw [q]; exact .inl fun z => by cases z
    · rw [up_ne e] at h; exact .inl h, fun a v h n => by
    rw [upd_ne]
    · exact h
    · intro z; subst z; rw [q] at n; cases n⟩
/-- the store behind a new or a changed object -/
theorem RS.upd {L : Lay} {H : Hp} {S : Sto} {p : Addr} {o : HO} {b : Ob} (h : RS L H S) (t : Tp L.K H (upd H p o)) (new : RO L (L2.upd H p o) p b) : RS L (L2.upd H p o) (up S p b) := fun a c q => by
  by_cases e : a = p
  · subst e; rw [up_same] at q; cases q; exact new
  · rw [up_ne e] at q
    exact (h a c q).mono t (upd_ne e)
/-- .. an untracked new object -/
theorem RS.new {L : Lay} {H : Hp} {S : Sto} {p : Addr} {o : HO} (h : RS L H S) (n : H p = none) : RS L (L2.upd H p o) S := fun a c q => (h a c q).mono (Tp.fresh n) (upd_ne fun z => by
  subst z
  exact RS.there h q n)
theorem RS.sub {L : Lay} {H : Hp} {S S' : Sto} (h : RS L H S) (s : ∀ a o, S' a = some o → S a = some o) : RS L H S' := fun a o q => h a o (s a o q)
theorem keep_sub {S S' : Sto} {v : Val} : ∀ a o, keep S S' v a = some o → S' a = some o := fun a o q => by
  unfold keep at q
  split at q
  · exact q
  · cases q

/-! ### slots -/
def RE (K : PySem.W.Frag) (H : Hp) (e : Env) (σ : L2.St) : Prop := e.length = σ.length ∧ ∀ (i : Nat) (v : Val), e[i]? = some (some v) → ∃ u, σ[i]? = some (some u) ∧ RV K H v u
theorem RE.mono {K : PySem.W.Frag} {H H' : Hp} {e : Env} {σ : L2.St} (t : Tp K H H') (h : RE K H e σ) : RE K H' e σ :=
  ⟨h.1, fun i v q => by
    obtain ⟨u, h1, h2⟩ := h.2 i v q
    exact ⟨u, h1, RV.mono t _ _ h2⟩⟩
theorem RE.set {K : PySem.W.Frag} {H : Hp} {e : Env} {σ : L2.St} {v : Val} {u : V} (h : RE K H e σ) (i : Nat) (r : RV K H v u) : RE K H (e.set i (some v)) (σ.set i (some u)) := by
  refine ⟨by simp [h.1], fun j x q => ?_⟩
  by_cases e1 : i = j
  · subst e1
    by_cases l : i < e.length
    · rw [List.getElem?_set_self l] at q
      cases q
      exact ⟨u, by rw [List.getElem?_set_self (by rw [← h.1]; exact l)], r⟩
    · rw [List.getElem?_eq_none (by simpa using l)] at q
      cases q
  · rw [List.getElem?_set_ne e1] at q
    obtain ⟨z, h1, h2⟩ := h.2 j x q
    exact ⟨z, by rw [List.getElem?_set_ne e1]; exact h1, h2⟩
theorem RE.set_none {K : PySem.W.Frag} {H : Hp} {e : Env} {σ : L2.St} (h : RE K H e σ) (i : Nat) : RE K H (e.set i none) (σ.set i none) := by
  refine ⟨by simp [h.1], fun j x q => ?_⟩
  by_cases e1 : i = j
  · subst e1
    by_cases l : i < e.length
    · rw [List.getElem?_set_self l] at q
      cases q
    · rw [List.getElem?_eq_none (by simpa using l)] at q
      cases q
  · rw [List.getElem?_set_ne e1] at q
    obtain ⟨z, h1, h2⟩ := h.2 j x q
    exact ⟨z, by rw [List.getElem?_set_ne e1]; exact h1, h2⟩
theorem RE.wipe {K : PySem.W.Frag} {H : Hp} {e : Env} {σ : L2.St} (h : RE K H e σ) : ∀ l : List Nat, RE K H (wipeE e l) (wipe σ l)
  | [] => h
  | i :: r => (RE.wipe h r).set_none i
theorem RE.get {K : PySem.W.Frag} {H : Hp} {e : Env} {σ : L2.St} (h : RE K H e σ) {i : Nat} {v : Val} (q : getV e i = some v) : ∃ u, σ[i]? = some (some u) ∧ RV K H v u := by
  refine h.2 i v ?_
  unfold getV at q
  cases z : e[i]? with
  | none => rw [z] at q; cases q
  | some o =>
    rw [z] at q
    have q' : o = some v := q
    rw [q']
end DL

set_option autoImplicit true
set_option Elab.async false
set_option linter.all false
set_option maxRecDepth 100000
set_option maxHeartbeats 1000000
/-! Own layer, part 3: the operations on values over the hand layer's rules. -/
namespace DL
open PySem PySem.Spec PyProof.Rows L2

structure LC where
  ca : Nat → Addr
  ex : Nat → Addr
abbrev lay (X : Cx) (c : LC) : Lay := ⟨X.prog, X.w, X.K, c.ca, c.ex⟩

/-- what is wanted behind, by what is wanted of values -/
def Cont (L : Lay) (H : Hp) (S : Sto) (Qd : KV) (Q : VK) : Prop :=
  ∀ v S' u H', Stp L H S H' S' → Qd v S' → RS L H' S' → RV L.K H' v u → Q u H'
section
variable {L : Lay} {H : Hp} {S : Sto} {Qd : KV} {Q : VK}
theorem Cont.here {v : Val} {u : V} (c : Cont L H S Qd Q) (q : Qd v S) (s : RS L H S) (r : RV L.K H v u) : Q u H := c v S u H .refl q s r
theorem Cont.tup {xs : List Val} {us : List V} {p : Addr} (c : Cont L H S Qd Q) (q : Qd (.tup xs) S) (s : RS L H S) (r : RVs L.K H xs us) (n : H p = none) : Q (.ref p) (upd H p (.tup us)) :=
  c (.tup xs) S (.ref p) _ (Stp.new n) q (s.new n) ⟨p, us, rfl, SqT.of upd_same, RVs.mono (Tp.fresh n) _ _ r⟩
theorem Cont.lst {xs : List Val} {us : List V} {p : Addr} (c : Cont L H S Qd Q) (q : ∀ p, S p = none → Qd (.ref p) (up S p (.lst xs))) (s : RS L H S) (r : RVs L.K H xs us) (n : H p = none) : Q (.ref p) (upd H p (.lst us)) :=
  c (.ref p) _ (.ref p) _ (Stp.alloc n) (q p (RS.off s n)) (RS.upd s (Tp.fresh n) ⟨us, upd_same, RVs.mono (Tp.fresh n) _ _ r⟩) rfl
theorem Cont.set {xs ys : List Val} {us ws : List V} {p : Addr} {v : Val} {u : V} (c : Cont L H S Qd Q) (q : Qd v (up S p (.lst ys))) (s : RS L H S) (h : H p = some (.lst us)) (hs : S p = some (.lst xs)) (r : RVs L.K H ys ws) (rv : RV L.K H v u) :
    Q u (upd H p (.lst ws)) := by
  have t : Tp L.K H (upd H p (.lst ws)) := Tp.write h (fun _ e => by cases e) (fun _ _ e => by cases e)
  exact c v _ u _ (Stp.write h (fun _ e => by cases e) (fun _ _ e => by cases e) hs) q (RS.upd s t ⟨ws, upd_same, RVs.mono t _ _ r⟩) (RV.mono t _ _ rv)
end

/-- by values -/
def rv2 (L : Lay) (f : Val → Val → Sto → KV → Prop) : R2 := fun x y H Q => ∃ v1 v2 S Qd, RV L.K H v1 x ∧ RV L.K H v2 y ∧ RS L H S ∧ f v1 v2 S Qd ∧ Cont L H S Qd Q
def rv1 (L : Lay) (f : Val → Sto → KV → Prop) : V → Hp → VK → Prop := fun x H Q => ∃ v S Qd, RV L.K H v x ∧ RS L H S ∧ f v S Qd ∧ Cont L H S Qd Q
def rvs (L : Lay) (f : List Val → Sto → KV → Prop) : List V → Hp → VK → Prop := fun xs H Q => ∃ vs S Qd, RVs L.K H vs xs ∧ RS L H S ∧ f vs S Qd ∧ Cont L H S Qd Q

theorem line_eq : line = sizeLine := by rw [sizeLine_eq]; rfl
section
variable {X : Cx} {c : LC}
theorem o_add : OpR X (binaryOp .Add) (rv2 (lay X c) (wBin .add)) := by
  intro pins s σ H x y v u Q I rx ry h
  obtain ⟨v1, v2, S, Qd, h1, h2, hs, hf, k⟩ := h
  cases v1 with
  | int i =>
    cases v2 with
    | int j =>
      cases h1; cases h2
      exact op_add pins s σ H _ _ v u Q I rx ry ⟨i, j, rfl, rfl, k.here hf hs rfl⟩
    | _ => exact hf.elim
  | str i =>
    cases v2 with
    | str j =>
      cases h1; cases h2
      exact op_add_str pins s σ H _ _ v u Q I rx ry ⟨i, j, rfl, rfl, by rw [← line_eq]; exact hf.1, k.here hf.2 hs rfl⟩
    | _ => exact hf.elim
  | tup i =>
    cases v2 with
    | tup j =>
      obtain ⟨a, us, rfl, ha, ra⟩ := h1
      obtain ⟨b, ws, rfl, hb, rb⟩ := h2
      obtain ⟨z, hf⟩ := hf
      refine op_catA pins s σ H _ _ v u Q I rx ry ⟨a, b, us, ws, rfl, rfl, ha, hb, by rw [← line_eq, ← ra.length, ← rb.length]; exact z, fun e => ?_, fun _ e => ?_, fun _ _ p n => ?_⟩
      · subst e
        have e : i = [] := List.eq_nil_of_length_eq_zero ra.length
        subst e
        exact k.here hf hs ⟨b, ws, rfl, hb, rb⟩
      · subst e
        have e : j = [] := List.eq_nil_of_length_eq_zero rb.length
        subst e
        rw [List.append_nil] at hf
        exact k.here hf hs ⟨a, us, rfl, ha, ra⟩
      · exact k.tup hf hs (RVs.append ra rb) n
    | _ => exact hf.elim
  | ref a =>
    cases v2 with
    | ref b =>
      have e1 : x = .ref a := h1
      have e2 : y = .ref b := h2
      subst e1; subst e2
      change (match S a, S b with
        | some (.lst i), some (.lst j) => i.length + j.length ≤ line ∧ ∀ p, S p = none → Qd (.ref p) (up S p (.lst (i ++ j)))
        | _, _ => False) at hf
      split at hf
      · rename_i i j ea eb
        obtain ⟨us, ha, ra⟩ := hs a _ ea
        obtain ⟨ws, hb, rb⟩ := hs b _ eb
        exact op_cat pins s σ H _ _ v u Q I rx ry ⟨a, b, us, ws, rfl, rfl, ha, hb, by rw [← line_eq, ← ra.length, ← rb.length]; exact hf.1, fun p n => k.lst hf.2 hs (RVs.append ra rb) n⟩
      · exact hf.elim
    | _ => exact hf.elim
  | _ => exact hf.elim
theorem o_sub : OpR X (binaryOp .Sub) (rv2 (lay X c) (wBin .sub)) := by
  intro pins s σ H x y v u Q I rx ry h
  obtain ⟨v1, v2, S, Qd, h1, h2, hs, hf, k⟩ := h
  cases v1 with
  | int i =>
    cases v2 with
    | int j =>
      cases h1; cases h2
      exact op_sub pins s σ H _ _ v u Q I rx ry ⟨i, j, rfl, rfl, k.here hf hs rfl⟩
    | _ => exact hf.elim
  | _ => exact hf.elim
theorem o_fdiv : OpR X (binaryOp .FloorDiv) (rv2 (lay X c) (wBin .fdiv)) := by
  intro pins s σ H x y v u Q I rx ry h
  obtain ⟨v1, v2, S, Qd, h1, h2, hs, hf, k⟩ := h
  cases v1 with
  | int i =>
    cases v2 with
    | int j =>
      cases h1; cases h2
      exact op_fdiv pins s σ H _ _ v u Q I rx ry ⟨i, j, rfl, rfl, ⟨hf.1, hf.2.1⟩, k.here hf.2.2 hs rfl⟩
    | _ => exact hf.elim
  | _ => exact hf.elim
theorem o_mod : OpR X (binaryOp .Mod) (rv2 (lay X c) (wBin .mod)) := by
  intro pins s σ H x y v u Q I rx ry h
  obtain ⟨v1, v2, S, Qd, h1, h2, hs, hf, k⟩ := h
  cases v1 with
  | int i =>
    cases v2 with
    | int j =>
      cases h1; cases h2
      exact op_mod pins s σ H _ _ v u Q I rx ry ⟨i, j, rfl, rfl, hf.1, k.here hf.2 hs rfl⟩
    | _ => exact hf.elim
  | _ => exact hf.elim
theorem o_pow : OpR X (binaryOp .Pow) (rv2 (lay X c) (wBin .pow)) := by
  intro pins s σ H x y v u Q I rx ry h
  obtain ⟨v1, v2, S, Qd, h1, h2, hs, hf, k⟩ := h
  cases v1 with
  | int i =>
    cases v2 with
    | int j =>
      cases h1; cases h2
      exact op_pow pins s σ H _ _ v u Q I rx ry ⟨i, j, rfl, rfl, hf.1, k.here hf.2 hs rfl⟩
    | _ => exact hf.elim
  | _ => exact hf.elim
end
end DL

set_option autoImplicit true
set_option Elab.async false
set_option linter.all false
set_option maxRecDepth 100000
set_option maxHeartbeats 1000000
/-! Own layer, part 3a: dicts by their keys' values. -/
namespace DL
open PySem PySem.Spec PyProof.Rows L2

mutual
theorem nested_of {X : Cx} {pins : List (Addr × Obj)} {σ : L2.St} {H : Hp} {s : Shared} (I : Inv X pins σ H s) : ∀ (v : Val) (u : V) (w : Value), v.dat = true → RV X.K H v u → RelV u w → NestedIs s.heap v.nk w
  | .non, u, w, _, h, r => by
    have e : u = .non := h
    subst e
    have e : w = Value.none := r
    subst e
    exact .none
  | .bl b, u, w, _, h, r => by
    have e : u = .bl b := h
    subst e
    have e : w = Value.bool b := r
    subst e
    exact .bool rfl
  | .int i, u, w, _, h, r => by
    have e : u = .int i := h
    subst e
    obtain ⟨t, rfl⟩ := r
    exact .int i t
  | .str x, u, w, _, h, r => by
    have e : u = .str x := h
    subst e
    obtain ⟨t, rfl⟩ := r
    exact .text x t
  | .tup xs, u, w, d, h, r => by
    obtain ⟨a, vs, rfl, hq, hr⟩ := h
    have e : w = Value.ref a := r
    subst e
    obtain ⟨its, rv, ⟨o, h1, h2, n, h3⟩, _⟩ := I.tuple hq
    exact .tup h1 h2 h3 (by simpa using nesteds_of I xs vs its d hr rv)
  | .ref _, _, _, d, _, _ => by cases d
  | .lst _, _, _, d, _, _ => by cases d
theorem nesteds_of {X : Cx} {pins : List (Addr × Obj)} {σ : L2.St} {H : Hp} {s : Shared} (I : Inv X pins σ H s) : ∀ (vs : List Val) (us : List V) (ws : List Value), Val.dats vs = true → RVs X.K H vs us → Vals us ws → NestedAll s.heap (Val.nks vs) ws
  | [], us, ws, _, h, r => by
    have e : us = [] := h
    subst e
    cases r
    exact .nil
  | v :: vs, us, ws, d, h, r => by
    obtain ⟨u, q, rfl, h1, h2⟩ := h
    cases r with
    | cons r1 r2 =>
      have d' : v.dat = true ∧ Val.dats vs = true := by simpa [Val.dats] using d
      exact .cons (nested_of I v u _ d'.1 h1 r1) (nesteds_of I vs q _ d'.2 h2 r2)
end

/-- what both say -/
def RelD (K : PySem.W.Frag) (H : Hp) : Option Val → Option Value → Prop
  | some v, some w => ∃ u, RV K H v u ∧ RelV u w
  | none, none => True
  | _, _ => False
theorem RelD.isSome {K : PySem.W.Frag} {H : Hp} {a : Option Val} {b : Option Value} (h : RelD K H a b) : a.isSome = b.isSome := by
  cases a <;> cases b <;> first | rfl | exact h.elim
theorem valueAt_one {K : Type} [DecidableEq K] (a : K) (w : Value) (r : List (K × Value)) (k : K) : valueAt ((a, w) :: r) k = if a = k then some w else valueAt r k := by
  unfold valueAt
  rw [List.find?_cons]
  by_cases e : a = k
  · simp [e]
  · simp [e]
theorem leaf_get {L : Lay} {B : KEnc L.P L.w} {H : Hp} {k : Val} {l : B.κ} (hl : B.enc k = some l) : ∀ {kvs : List (Val × Val)} {lvs : List (B.κ × Value)},
    Paired (fun (p : Val × Val) (q : B.κ × Value) => B.enc p.1 = some q.1 ∧ ∃ u, RV L.K H p.2 u ∧ RelV u q.2) kvs lvs → RelD L.K H (dget kvs k) (valueAt lvs l)
  | _, _, .nil => trivial
  | (a, v) :: kvs, (b, w) :: lvs, .cons ⟨h1, h2⟩ t => by
    have e1 : a.nk = B.key b := B.nk h1
    have e2 : k.nk = B.key l := B.nk hl
    rw [valueAt_one]
    show RelD L.K H (if a.nk = k.nk then some v else dget kvs k) _
    by_cases e : b = l
    · rw [if_pos e, if_pos (by rw [e1, e2, e])]
      exact h2
    · rw [if_neg e, if_neg (fun z => e (B.inj (by rw [← e1, ← e2]; exact z)))]
      exact leaf_get hl t
theorem stored_one {K : Type} [DecidableEq K] (a : K) (w : Value) (r : List (K × Value)) (k : K) (v : Value) (nd : (((a, w) :: r).map (·.1)).Nodup) : stored ((a, w) :: r) k v = if a = k then (a, v) :: r else (a, w) :: stored r k v := by
  unfold stored
  by_cases e : a = k
  · subst e
    have hn : a ∉ r.map (·.1) := by
      have := List.nodup_cons.mp nd
      exact this.1
    simp [map_store_of_not_mem r a v hn]
  · simp only [List.any_cons, decide_eq_false e, Bool.false_or, List.map_cons, if_neg e]
    by_cases h : (r.any fun kv => decide (kv.1 = k)) = true
    · rw [if_pos h, if_pos h]
    · rw [if_neg h, if_neg h]
      rfl
theorem leaf_put {L : Lay} {B : KEnc L.P L.w} {H : Hp} {k v : Val} {l : B.κ} {u : V} {w : Value} (hl : B.enc k = some l) (hv : RV L.K H v u) (hw : RelV u w) : ∀ {kvs : List (Val × Val)} {lvs : List (B.κ × Value)}, (lvs.map (·.1)).Nodup →
    Paired (fun (p : Val × Val) (q : B.κ × Value) => B.enc p.1 = some q.1 ∧ ∃ u, RV L.K H p.2 u ∧ RelV u q.2) kvs lvs →
    Paired (fun (p : Val × Val) (q : B.κ × Value) => B.enc p.1 = some q.1 ∧ ∃ u, RV L.K H p.2 u ∧ RelV u q.2) (dput kvs k v) (stored lvs l w)
  | _, _, _, .nil => .cons ⟨hl, u, hv, hw⟩ .nil
  | (a, x) :: kvs, (b, y) :: lvs, nd, .cons ⟨h1, h2⟩ t => by
    have e1 : a.nk = B.key b := B.nk h1
    have e2 : k.nk = B.key l := B.nk hl
    rw [stored_one _ _ _ _ _ nd]
    show Paired _ (if a.nk = k.nk then (a, v) :: kvs else (a, x) :: dput kvs k v) _
    by_cases e : b = l
    · rw [if_pos e, if_pos (by rw [e1, e2, e])]
      exact .cons ⟨h1, u, hv, hw⟩ t
    · rw [if_neg e, if_neg (fun z => e (B.inj (by rw [← e1, ← e2]; exact z)))]
      exact .cons ⟨h1, h2⟩ (leaf_put hl hv hw (List.nodup_cons.mp nd).2 t)
theorem dput_length (k v : Val) : ∀ kvs : List (Val × Val), (dput kvs k v).length ≤ kvs.length + 1
  | [] => Nat.le_refl _
  | (a, w) :: r => by
    show (if a.nk = k.nk then (a, v) :: r else (a, w) :: dput r k v).length ≤ _
    split
    · simp
    · simp [dput_length k v r]

abbrev TupR (L : Lay) (H : Hp) := fun (p : Val × Val) (q : NestedKey × Addr × Value) => isTup p.1 = true ∧ p.1.dat = true ∧ q.1 = p.1.nk ∧ p.1.nk.depth ≤ 8 ∧ RV L.K H p.1 (.ref q.2.1) ∧ ∃ u, RV L.K H p.2 u ∧ RelV u q.2.2
theorem tup_get {L : Lay} {H : Hp} {k : Val} : ∀ {kvs : List (Val × Val)} {xs : List (NestedKey × Addr × Value)}, Paired (TupR L H) kvs xs → RelD L.K H (dget kvs k) (valueAt (pairsH xs) k.nk)
  | _, _, .nil => trivial
  | (a, v) :: kvs, (b, p, w) :: xs, .cons ⟨h1, h0, h2, h3, h4, h5⟩ t => by
    have e1 : b = a.nk := h2
    show RelD L.K H (if a.nk = k.nk then some v else dget kvs k) (valueAt ((b, w) :: pairsH xs) k.nk)
    rw [valueAt_one]
    by_cases e : a.nk = k.nk
    · rw [if_pos e, if_pos (by rw [e1, e])]
      exact h5
    · rw [if_neg e, if_neg (by rw [e1]; exact e)]
      exact tup_get t
theorem storedH_one (a : NestedKey) (b : Addr) (w : Value) (r : List (NestedKey × Addr × Value)) (k : NestedKey) (p : Addr) (v : Value) (nd : (((a, b, w) :: r).map (·.1)).Nodup) :
    storedH ((a, b, w) :: r) k p v = if a = k then (a, b, v) :: r else (a, b, w) :: storedH r k p v := by
  unfold storedH
  by_cases e : a = k
  · subst e
    have hn : a ∉ r.map (·.1) := (List.nodup_cons.mp nd).1
    have hm : r.map (putAt a v) = r := by
      conv => rhs; rw [← List.map_id r]
      refine List.map_congr_left fun x hx => ?_
      unfold putAt
      rw [if_neg (fun z => hn (List.mem_map.mpr ⟨x, hx, z⟩))]
      rfl
    have h1 : (atKey ((a, b, w) :: r) a).isSome = true := by simp [atKey]
    rw [if_pos h1, if_pos rfl, List.map_cons, hm]
    simp [putAt]
  · rw [if_neg e]
    have h1 : atKey ((a, b, w) :: r) k = atKey r k := by simp [atKey, e]
    rw [h1, List.map_cons]
    have h2 : putAt k v (a, b, w) = (a, b, w) := by simp [putAt, e]
    rw [h2]
    split <;> rfl
theorem tup_put {L : Lay} {H : Hp} {k v : Val} {b : Addr} {u : V} {w : Value} (hk : isTup k = true) (hd : k.dat = true) (h8 : k.nk.depth ≤ 8) (hb : RV L.K H k (.ref b)) (hv : RV L.K H v u) (hw : RelV u w) :
    ∀ {kvs : List (Val × Val)} {xs : List (NestedKey × Addr × Value)}, (xs.map (·.1)).Nodup → Paired (TupR L H) kvs xs → Paired (TupR L H) (dput kvs k v) (storedH xs k.nk b w)
  | _, _, _, .nil => .cons ⟨hk, hd, rfl, h8, hb, u, hv, hw⟩ .nil
  | (a, x) :: kvs, (c, p, y) :: xs, nd, .cons ⟨h1, h0, h2, h3, h4, h5⟩ t => by
    have e1 : c = a.nk := h2
    rw [storedH_one _ _ _ _ _ _ _ nd]
    show Paired _ (if a.nk = k.nk then (a, v) :: kvs else (a, x) :: dput kvs k v) _
    by_cases e : a.nk = k.nk
    · rw [if_pos e, if_pos (by rw [e1, e])]
      exact .cons ⟨h1, h0, h2, h3, h4, u, hv, hw⟩ t
    · rw [if_neg e, if_neg (by rw [e1]; exact e)]
      exact .cons ⟨h1, h0, h2, h3, h4, h5⟩ (tup_put hk hd h8 hb hv hw (List.nodup_cons.mp nd).2 t)

theorem kind_mod {kvs : List (Val × Val)} {k : Val} (h : kindOk kvs k = true) : k.dat = true ∧ k.nk.depth ≤ 8 := by
  unfold kindOk at h
  have h1 := (Bool.and_eq_true_iff.mp h).1
  unfold modKey at h1
  have h2 := Bool.and_eq_true_iff.mp h1
  exact ⟨h2.1, of_decide_eq_true h2.2⟩
theorem kcl_tup : ∀ {v : Val}, isTup v = true → kcl v = 2
  | .tup _, _ => rfl
  | .non, h => by cases h
  | .bl _, h => by cases h
  | .int _, h => by cases h
  | .str _, h => by cases h
  | .ref _, h => by cases h
  | .lst _, h => by cases h
theorem kcl_not : ∀ {v : Val}, isTup v = false → kcl v = 0 ∨ kcl v = 1
  | .tup _, h => by cases h
  | .non, h => .inr rfl
  | .bl _, h => .inr rfl
  | .int _, h => .inl rfl
  | .str _, h => .inl rfl
  | .ref _, h => .inr rfl
  | .lst _, h => .inr rfl
theorem enc_cl (P : Program) (w : World) : ∀ b, (encOf P w b).cl = if b then 0 else 1
  | true => rfl
  | false => rfl
theorem kind_cl {a v k : Val} {r : List (Val × Val)} (h : kindOk ((a, v) :: r) k = true) : kcl a = kcl k := by
  unfold kindOk at h
  exact beq_iff_eq.mp (Bool.and_eq_true_iff.mp h).2
/-- a dict with keys that are none is a dict of leaves for a leaf, of tuples for a tuple -/
theorem RD.leaf {L : Lay} {H : Hp} {a : Addr} {kvs : List (Val × Val)} {t : Nat} {k : Val} (h : RD L H a kvs t) (ok : kindOk kvs k = true) (nt : isTup k = false) :
    ∃ (es : Array DictEntry) (b : Bool) (lvs : List ((encOf L.P L.w b).κ × Value)) (l : (encOf L.P L.w b).κ), H a = some (dctO a es t) ∧ (a == sysModules) = false ∧ kvs.length ≤ sizeLine ∧ (encOf L.P L.w b).enc k = some l ∧ LeafD L (encOf L.P L.w b) H kvs es lvs := by
  obtain ⟨es, h1, h2, h3, h4, h5⟩ := h
  cases kvs with
  | nil =>
    have e : es = #[] := Array.eq_empty_of_size_eq_zero h4
    subst e
    have hb : ∃ b, kcl k = (encOf L.P L.w b).cl := by
      rcases kcl_not nt with z | z
      · exact ⟨true, z⟩
      · exact ⟨false, z⟩
    obtain ⟨b, hb⟩ := hb
    obtain ⟨l, hl⟩ := (encOf L.P L.w b).some hb (kind_mod ok).1
    exact ⟨_, b, [], l, h1, h2, h3, hl, ⟨fun e he => by simp at he, .nil, by simp, .nil⟩⟩
  | cons p r =>
    obtain ⟨a', v'⟩ := p
    have ek := kind_cl ok
    rcases h5 with ⟨b, lvs, h5⟩ | ⟨xs, h5⟩
    · have q := h5.rep
      cases q with
      | cons z _ =>
        have z1 : kcl a' = (encOf L.P L.w b).cl := (encOf L.P L.w b).ecl z.1
        obtain ⟨l, hl⟩ := (encOf L.P L.w b).some (v := k) (by rw [← ek]; exact z1) (kind_mod ok).1
        exact ⟨es, b, _, l, h1, h2, h3, hl, h5⟩
    · have q := h5.rep
      cases q with
      | cons z _ =>
        have z1 : kcl a' = 2 := kcl_tup z.1
        rcases kcl_not nt with y | y <;> omega
theorem RD.tup {L : Lay} {H : Hp} {a : Addr} {kvs : List (Val × Val)} {t : Nat} {k : Val} (h : RD L H a kvs t) (ok : kindOk kvs k = true) (nt : isTup k = true) :
    ∃ es xs, H a = some (dctO a es t) ∧ (a == sysModules) = false ∧ kvs.length ≤ sizeLine ∧ TupD L H kvs es xs := by
  obtain ⟨es, h1, h2, h3, h4, h5⟩ := h
  rcases h5 with ⟨b, lvs, h5⟩ | ⟨xs, h5⟩
  · cases kvs with
    | nil =>
      have e : es = #[] := Array.eq_empty_of_size_eq_zero h4
      subst e
      exact ⟨_, [], h1, h2, h3, ⟨rfl, by simp, .nil⟩⟩
    | cons p r =>
      obtain ⟨a', v'⟩ := p
      have ek := kind_cl ok
      have q := h5.rep
      cases q with
      | cons z _ =>
        have z1 : kcl a' = (encOf L.P L.w b).cl := (encOf L.P L.w b).ecl z.1
        rw [enc_cl] at z1
        have := kcl_tup nt
        cases b <;> simp at z1 <;> omega
  · exact ⟨es, xs, h1, h2, h3, h5⟩

section
variable {X : Cx} {c : LC} {pins : List (Addr × Obj)} {σ : L2.St} {H : Hp} {s : Shared} {a : Addr} {es : Array DictEntry} {t : Nat} {kvs : List (Val × Val)}
theorem raw_of (I : Inv X pins σ H s) (h : H a = some (dctO a es t)) : s.heap.DictRaw a es t := (show ObjOk X.prog X.w H s.heap a (dctO a es t) from I.hok a _ h).1
theorem dictOf_of {B : KEnc X.prog X.w} {lvs : List (B.κ × Value)} (I : Inv X pins σ H s) (h : H a = some (dctO a es t)) (d : LeafD (lay X c) B H kvs es lvs) : s.heap.DictOf B.knd a lvs := by
  obtain ⟨o, h1, h2, h3⟩ := raw_of I h
  exact ⟨o, es, t, h1, h2, h3, d.keys, d.prs, d.nd⟩
theorem keyH_of {k : Val} {b : Addr} (I : Inv X pins σ H s) (hk : k.dat = true) (h8 : k.nk.depth ≤ 8) (r : RV X.K H k (.ref b)) : (nestedKind X.prog X.w).is s.heap k.nk b := ⟨nested_of I k _ _ hk r rfl, h8⟩
theorem keysH_of (I : Inv X pins σ H s) : ∀ {kvs : List (Val × Val)} {xs : List (NestedKey × Addr × Value)}, Paired (TupR (lay X c) H) kvs xs → ∀ x ∈ xs, (nestedKind X.prog X.w).is s.heap x.1 x.2.1
  | _, _, .nil, x, hx => by simp at hx
  | _, _, .cons (a := p) (b := q) ⟨_, h0, h2, h3, h4, _⟩ t, x, hx => by
    rcases List.mem_cons.mp hx with e | hx
    · subst e
      rw [h2]
      exact keyH_of I h0 h3 h4
    · exact keysH_of I t x hx
theorem dictH_of {xs : List (NestedKey × Addr × Value)} (I : Inv X pins σ H s) (h : H a = some (dctO a es t)) (d : TupD (lay X c) H kvs es xs) : s.heap.DictOfH (nestedKind X.prog X.w) a xs := by
  obtain ⟨o, h1, h2, h3⟩ := raw_of I h
  exact ⟨o, es, t, h1, h2, h3, d.ents, keysH_of I d.rep, d.nd⟩
theorem dct_okT {h' : Heap} (x : h'.DictRaw a es t) {H' : Hp} : ObjOk X.prog X.w H' h' a (dctO a es t) :=
  ⟨x, let ⟨o, e, _⟩ := x; ⟨o, e⟩, fun h1 h2 q k => q.at k⟩
theorem notTup_dct {es : Array DictEntry} : (∀ xs, dctO a es t ≠ .tup xs) ∧ ∀ ob v, dctO a es t ≠ .frz ob v := ⟨(fun _ e => by cases e), (fun _ _ e => by cases e)⟩
/-- a dict's object is replaced -/
theorem dct_write {h' : Heap} {tk : Nat} {es' : Array DictEntry} {t' : Nat} (I : Inv X pins σ H s) (h : H a = some (dctO a es t)) (hs : Heap.SameBut a s.heap h') (new : h'.DictRaw a es' t') :
    Inv X pins σ (upd H a (dctO a es' t')) { s with heap := h', toks := tk } :=
  I.write (x := a) (e := a) (by rw [h]; exact True.intro) (.inl rfl) (fun b q hb z => (hs.2 b hb).trans z) (let ⟨o, e, _⟩ := new; ⟨o, e⟩) (dct_okT new)
end
end DL

set_option autoImplicit true
set_option Elab.async false
set_option linter.all false
set_option maxRecDepth 100000
set_option maxHeartbeats 1000000
/-! Own layer, part 3b: what a dict is asked. -/
namespace DL
open PySem PySem.Spec PyProof.Rows L2

theorem isTup_ref {K : PySem.W.Frag} {H : Hp} : ∀ {k : Val} {x : V}, isTup k = true → RV K H k x → ∃ b, x = .ref b
  | .tup xs, x, _, h => by
    obtain ⟨a, _, e, _⟩ := h
    exact ⟨a, e⟩
  | .non, _, h, _ => by cases h
  | .bl _, _, h, _ => by cases h
  | .int _, _, h, _ => by cases h
  | .str _, _, h, _ => by cases h
  | .ref _, _, h, _ => by cases h
  | .lst _, _, h, _ => by cases h
theorem DictOf.es_size {P : Program} {w : World} {B : KEnc P w} {es : Array DictEntry} {lvs : List (B.κ × Value)} (h : Pairs B.knd es.toList lvs) : es.size = lvs.length := by
  rw [← Array.length_toList]
  exact h.length
section
variable {X : Cx} {c : LC} {pins : List (Addr × Obj)} {σ : L2.St} {H : Hp} {s : Shared} {S : Sto} {a : Addr} {t : Nat} {kvs : List (Val × Val)} {k v : Val} {x y : V} {u r : Value} {A : Around} {E : Value → Shared → Prop}
theorem dct_in {Q : Value → Shared → Prop} (hu : A.units + 10 < cLine) (I : Inv X pins σ H s) (rd : RD (lay X c) H a kvs t) (ok : kindOk kvs k = true) (rk : RV X.K H k x) (ru : RelV x u)
    (h : ∀ s', Inv X pins σ H s' → Q (.bool (dget kvs k).isSome) s') : wpAny (model X.prog X.w) A (compareOp .In u (.ref a)) Q E s := by
  cases nt : isTup k with
  | false =>
    obtain ⟨es, B, lvs, l, h1, h2, h3, hl, d⟩ := rd.leaf ok nt
    refine wpAny_in_of ((encOf X.prog X.w B).is hl rk ru) h2 (dictOf_of I h1 d).mapOf ?_
    rw [← (leaf_get hl d.rep).isSome]
    exact h _ (I.tok _)
  | true =>
    obtain ⟨es, xs, h1, h2, h3, d⟩ := rd.tup ok nt
    obtain ⟨b, rfl⟩ := isTup_ref nt rk
    cases ru
    refine in_keyed (knd := nestedKind X.prog X.w) (by show A.units + 1 + 8 < cLine; omega) (keyH_of I (kind_mod ok).1 (kind_mod ok).2 rk) h2 ⟨xs, dictH_of I h1 d, rfl⟩ ?_
    rw [← (tup_get (k := k) d.rep).isSome]
    exact h _ (I.tok _)
theorem dct_notIn {Q : Value → Shared → Prop} (hu : A.units + 10 < cLine) (I : Inv X pins σ H s) (rd : RD (lay X c) H a kvs t) (ok : kindOk kvs k = true) (rk : RV X.K H k x) (ru : RelV x u)
    (h : ∀ s', Inv X pins σ H s' → Q (.bool (dget kvs k).isNone) s') : wpAny (model X.prog X.w) A (compareOp .NotIn u (.ref a)) Q E s := by
  have e : ∀ o : Option Val, o.isNone = !o.isSome := fun o => by cases o <;> rfl
  cases nt : isTup k with
  | false =>
    obtain ⟨es, B, lvs, l, h1, h2, h3, hl, d⟩ := rd.leaf ok nt
    refine wpAny_notIn_of ((encOf X.prog X.w B).is hl rk ru) h2 (dictOf_of I h1 d).mapOf ?_
    rw [← (leaf_get hl d.rep).isSome, ← e]
    exact h _ (I.tok _)
  | true =>
    obtain ⟨es, xs, h1, h2, h3, d⟩ := rd.tup ok nt
    obtain ⟨b, rfl⟩ := isTup_ref nt rk
    cases ru
    refine notIn_keyed (knd := nestedKind X.prog X.w) (by show A.units + 1 + 8 < cLine; omega) (keyH_of I (kind_mod ok).1 (kind_mod ok).2 rk) h2 ⟨xs, dictH_of I h1 d, rfl⟩ ?_
    rw [← (tup_get (k := k) d.rep).isSome, ← e]
    exact h _ (I.tok _)
theorem RelD.some_of {K : PySem.W.Frag} {v : Val} {b : Option Value} (h : RelD K H (some v) b) : ∃ w u, b = some w ∧ RV K H v u ∧ RelV u w := by
  cases b with
  | none => exact h.elim
  | some w =>
    obtain ⟨u, h1, h2⟩ := h
    exact ⟨w, u, rfl, h1, h2⟩
theorem RelD.none_of {K : PySem.W.Frag} {b : Option Value} (h : RelD K H none b) : b = none := by
  cases b with
  | none => rfl
  | some w => exact h.elim
theorem dct_getItem {Q : Value → Shared → Prop} (hu : A.units + 10 < cLine) (I : Inv X pins σ H s) (rd : RD (lay X c) H a kvs t) (ok : kindOk kvs k = true) (rk : RV X.K H k x) (ru : RelV x u) (e : dget kvs k = some v)
    (h : ∀ s' w z, Inv X pins σ H s' → RV X.K H v w → RelV w z → Q z s') : wpAny (model X.prog X.w) A (getItem (.ref a) u) Q E s := by
  cases nt : isTup k with
  | false =>
    obtain ⟨es, B, lvs, l, h1, h2, h3, hl, d⟩ := rd.leaf ok nt
    have q := leaf_get hl d.rep
    rw [e] at q
    obtain ⟨z, w, e2, rw', rz⟩ := q.some_of
    exact wpAny_getItem_of ((encOf X.prog X.w B).is hl rk ru) (dictOf_of I h1 d).mapOf e2 (h _ w z (I.tok _) rw' rz)
  | true =>
    obtain ⟨es, xs, h1, h2, h3, d⟩ := rd.tup ok nt
    obtain ⟨b, rfl⟩ := isTup_ref nt rk
    cases ru
    have q := tup_get (k := k) d.rep
    rw [e] at q
    obtain ⟨z, w, e2, rw', rz⟩ := q.some_of
    exact getItem_keyed (knd := nestedKind X.prog X.w) (by show A.units + 1 + 8 < cLine; omega) (keyH_of I (kind_mod ok).1 (kind_mod ok).2 rk) ⟨xs, dictH_of I h1 d, rfl⟩ e2 (h _ w z (I.tok _) rw' rz)
theorem dct_getD {Q : Value → Shared → Prop} (hu : A.units + 10 < cLine) (I : Inv X pins σ H s) (rd : RD (lay X c) H a kvs t) (ok : kindOk kvs k = true) (rk : RV X.K H k x) (ru : RelV x u) (rv : RV X.K H v y) (rr : RelV y r)
    (h : ∀ s' w z, Inv X pins σ H s' → RV X.K H ((dget kvs k).getD v) w → RelV w z → Q z s') : wpAny (model X.prog X.w) A (call (.builtin "dict.get") [.ref a, u, r]) Q E s := by
  cases nt : isTup k with
  | false =>
    obtain ⟨es, B, lvs, l, h1, h2, h3, hl, d⟩ := rd.leaf ok nt
    have q := leaf_get hl d.rep
    have dd := dictOf_of I h1 d
    refine call_meetsIn PySem.F.slot_dict_get dd.typeIs PySem.F.entry_dict_get (PySem.F.args_dict_get_3 _ _ _) (meets_dict_get_default (encOf X.prog X.w B).knd a ((encOf X.prog X.w B).is hl rk ru) h2 r) ⟨_, dd.mapOf, ?_⟩
    cases e : dget kvs k with
    | none =>
      rw [e] at q h
      rw [q.none_of]
      exact h _ y r (I.tok _) rv rr
    | some v' =>
      rw [e] at q h
      obtain ⟨z, w, e2, rw', rz⟩ := q.some_of
      rw [e2]
      exact h _ w z (I.tok _) rw' rz
  | true =>
    obtain ⟨es, xs, h1, h2, h3, d⟩ := rd.tup ok nt
    obtain ⟨b, rfl⟩ := isTup_ref nt rk
    cases ru
    have q := tup_get (k := k) d.rep
    refine getOr_keyed (knd := nestedKind X.prog X.w) (by show A.units + 1 + 8 < cLine; omega) (keyH_of I (kind_mod ok).1 (kind_mod ok).2 rk) h2 ⟨xs, dictH_of I h1 d, rfl⟩ ?_
    cases e : dget kvs k with
    | none =>
      rw [e] at q h
      rw [q.none_of]
      exact h _ y r (I.tok _) rv rr
    | some v' =>
      rw [e] at q h
      obtain ⟨z, w, e2, rw', rz⟩ := q.some_of
      rw [e2]
      exact h _ w z (I.tok _) rw' rz
/-- what is tracked behind a store -/
theorem leaf_new {L : Lay} {B : Bool} {es : Array DictEntry} {lvs' : List ((encOf L.P L.w B).κ × Value)} {kvs' : List (Val × Val)} {es' : Array DictEntry} {t' : Nat} (h1 : H a = some (dctO a es t)) (h2 : (a == sysModules) = false) (hz : kvs'.length ≤ sizeLine) (k1 : KeysOf (encOf L.P L.w B).knd es') (p1 : Pairs (encOf L.P L.w B).knd es'.toList lvs') (n1 : (lvs'.map (·.1)).Nodup)
    (rep : Paired (fun (p : Val × Val) (q : (encOf L.P L.w B).κ × Value) => (encOf L.P L.w B).enc p.1 = some q.1 ∧ ∃ u, RV L.K H p.2 u ∧ RelV u q.2) kvs' lvs') : RD L (upd H a (dctO a es' t')) a kvs' t' :=
  ⟨es', upd_same, h2, hz, by rw [DictOf.es_size p1]; exact (Paired.length rep).symm, .inl ⟨B, lvs', (LeafD.mono (Tp.write h1 notTup_dct.1 notTup_dct.2) ⟨k1, p1, n1, rep⟩)⟩⟩
theorem tup_new {L : Lay} {es : Array DictEntry} {xs' : List (NestedKey × Addr × Value)} {kvs' : List (Val × Val)} {es' : Array DictEntry} {t' : Nat} (h1 : H a = some (dctO a es t)) (h2 : (a == sysModules) = false) (hz : kvs'.length ≤ sizeLine)
    (e1 : es'.toList = xs'.map (entryOfKey (nestedKind L.P L.w))) (n1 : (xs'.map (·.1)).Nodup) (rep : Paired (TupR L H) kvs' xs') : RD L (upd H a (dctO a es' t')) a kvs' t' :=
  ⟨es', upd_same, h2, hz, by rw [← Array.length_toList, e1, List.length_map]; exact (Paired.length rep).symm, .inr ⟨xs', (TupD.mono (Tp.write h1 notTup_dct.1 notTup_dct.2) ⟨e1, n1, rep⟩)⟩⟩
theorem dct_set {Q : Unit → Shared → Prop} (hu : A.units + 10 < cLine) (I : Inv X pins σ H s) (rs : RS (lay X c) H S) (hs : S a = some (.dct kvs t)) (ok : kindOk kvs k = true) (rk : RV X.K H k x) (ru : RelV x u) (rv : RV X.K H v y) (rr : RelV y r) (hz : kvs.length < line)
    (h : ∀ s' H' t', Inv X pins σ H' s' → Stp (lay X c) H S H' (up S a (.dct (dput kvs k v) t')) → RS (lay X c) H' (up S a (.dct (dput kvs k v) t')) → Q () s') : wpAny (model X.prog X.w) A (setItem (.ref a) u r) Q E s := by
  have rd : RD (lay X c) H a kvs t := rs a _ hs
  have hl : (dput kvs k v).length ≤ sizeLine := by
    have := dput_length k v kvs
    rw [line_eq] at hz
    omega
  cases nt : isTup k with
  | false =>
    obtain ⟨es, B, lvs, l, h1, h2, h3, hk, d⟩ := rd.leaf ok nt
    have dd := dictOf_of I h1 d
    refine wpAny_setItem_pairs (hsz := by rw [← Paired.length d.rep]; exact h3) ((encOf X.prog X.w B).is hk rk ru) dd fun h' dd' sb => ?_
    obtain ⟨o, es', t', e1, e2, e3, e4, e5, e6⟩ := dd'
    have J := dct_write (t' := t') (tk := s.toks + 1) I h1 sb ⟨o, e1, e2, e3⟩
    have tp : Tp X.K H (upd H a (dctO a es' t')) := Tp.write h1 notTup_dct.1 notTup_dct.2
    exact h _ _ t' J (Stp.write h1 notTup_dct.1 notTup_dct.2 hs) (RS.upd rs tp (leaf_new (L := lay X c) (B := B) h1 h2 hl e4 e5 e6 (leaf_put hk rv rr d.nd d.rep)))
  | true =>
    obtain ⟨es, xs, h1, h2, h3, d⟩ := rd.tup ok nt
    obtain ⟨b, rfl⟩ := isTup_ref nt rk
    cases ru
    refine wpAny_setItem_heap (knd := nestedKind X.prog X.w) (hsz := by rw [← Paired.length d.rep]; exact h3) (by show A.units + 1 + 8 < cLine; omega) (keyH_of I (kind_mod ok).1 (kind_mod ok).2 rk) (dictH_of I h1 d) fun h' dd' sb => ?_
    obtain ⟨o, es', t', e1, e2, e3, e4, e5, e6⟩ := dd'
    have J := dct_write (t' := t') (tk := s.toks + (nestedKind X.prog X.w).draws k.nk) I h1 sb ⟨o, e1, e2, e3⟩
    have tp : Tp X.K H (upd H a (dctO a es' t')) := Tp.write h1 notTup_dct.1 notTup_dct.2
    exact h _ _ t' J (Stp.write h1 notTup_dct.1 notTup_dct.2 hs) (RS.upd rs tp (tup_new (L := lay X c) h1 h2 hl e4 e6 (tup_put nt (kind_mod ok).1 (kind_mod ok).2 rk rv rr d.nd d.rep)))
theorem dct_len {Q : Value → Shared → Prop} (I : Inv X pins σ H s) (rd : RD (lay X c) H a kvs t) (h : ∀ tk s', Inv X pins σ H s' → Q (.int kvs.length tk) s') : wpAny (model X.prog X.w) A (call (.builtin "len") [.ref a]) Q E s := by
  obtain ⟨es, h1, h2, h3, h4, h5⟩ := rd
  have z := raw_of I h1
  have hl : (kvs.length : Int) < 2 ^ 63 := by rw [sizeLine_eq] at h3; omega
  have h' : ∀ tk s', Inv X pins σ H s' → Q (.int es.size tk) s' := by rw [h4]; exact h
  exact PyProof.Rows.call_len_slot (n := es.size) z.typeIs F.slot_dict_len (fun Q' hq => call_meetsIn F.slot_dict_len z.typeIs F.entry_dict_len (F.args_dict_len_1 _) (meets_dict_len_raw a h2) ⟨es, t, z, hq⟩) (by omega) (by omega) (h' _ _ (I.tok _))
end
end DL

set_option autoImplicit true
set_option Elab.async false
set_option linter.all false
set_option maxRecDepth 100000
set_option maxHeartbeats 1000000
/-! Own layer, part 3c: comparisons, subscripts, built-ins by values. -/
namespace DL
open PySem PySem.Spec PyProof.Rows L2

mutual
theorem dp_of {K : PySem.W.Frag} {H : Hp} : ∀ (v : Val) (u : V), v.dat = true → RV K H v u → Dp K H u v.py
  | .non, u, _, h => by cases h; exact .non
  | .bl b, u, _, h => by cases h; exact .bl b
  | .int i, u, _, h => by cases h; exact .int i
  | .str x, u, _, h => by cases h; exact .str x
  | .tup xs, u, d, h => by
    obtain ⟨a, vs, rfl, hq, hr⟩ := h
    exact .tup hq (dps_of xs vs d hr)
  | .ref _, _, d, _ => by cases d
  | .lst _, _, d, _ => by cases d
theorem dps_of {K : PySem.W.Frag} {H : Hp} : ∀ (vs : List Val) (us : List V), Val.dats vs = true → RVs K H vs us → DpAll K H us (Val.pys vs)
  | [], us, _, h => by cases h; exact .nil
  | v :: vs, us, d, h => by
    obtain ⟨u, q, rfl, h1, h2⟩ := h
    have d' : v.dat = true ∧ Val.dats vs = true := by simpa [Val.dats] using d
    exact .cons (dp_of v u d'.1 h1) (dps_of vs q d'.2 h2)
end
mutual
theorem see_dp {L : Lay} {H : Hp} {S : Sto} (rs : RS L H S) : ∀ (n : Nat) (v : Val) (w : Val) (u : V), Sto.see S n v = some w → RV L.K H v u → Dp L.K H u w.py
  | 0, v, w, u, e, h => by
    unfold Sto.see at e
    split at e
    · rename_i d
      cases e
      exact dp_of v u d h
    · cases e
  | n + 1, v, w, u, e, h => by
    unfold Sto.see at e
    split at e
    · rename_i d
      cases e
      exact dp_of v u d h
    · cases v with
      | ref a =>
        cases h
        simp only at e
        split at e
        · rename_i xs q
          cases z : Sto.sees S n xs with
          | none => rw [z] at e; cases e
          | some ys =>
            rw [z] at e
            have e' : Val.lst ys = w := Option.some.inj e
            subst e'
            obtain ⟨vs, h1, h2⟩ := rs a _ q
            exact .lst (SqL.of h1) (sees_dp rs n xs ys vs z h2)
        · cases e
      | lst xs =>
        simp only at e
        obtain ⟨a, vs, rfl, h1, h2⟩ := h
        cases z : Sto.sees S n xs with
        | none => rw [z] at e; cases e
        | some ys =>
          rw [z] at e
          have e' : Val.lst ys = w := Option.some.inj e
          subst e'
          exact .lst h1.sq (sees_dp rs n xs ys vs z h2)
      | _ => cases e
theorem sees_dp {L : Lay} {H : Hp} {S : Sto} (rs : RS L H S) : ∀ (n : Nat) (vs : List Val) (ws : List Val) (us : List V), Sto.sees S n vs = some ws → RVs L.K H vs us → DpAll L.K H us (Val.pys ws)
  | n, [], ws, us, e, h => by
    unfold Sto.sees at e
    cases e
    cases h
    exact .nil
  | n, v :: vs, ws, us, e, h => by
    unfold Sto.sees at e
    obtain ⟨u, q, rfl, h1, h2⟩ := h
    cases z : Sto.see S n v with
    | none => rw [z] at e; cases e
    | some y =>
      cases z2 : Sto.sees S n vs with
      | none => rw [z, z2] at e; cases e
      | some ys =>
        rw [z, z2] at e
        have e' : y :: ys = ws := Option.some.inj e
        subst e'
        exact .cons (see_dp rs n v y u z h1) (sees_dp rs n vs ys q z2 h2)
end
mutual
theorem py_plain : ∀ v : Val, v.py.plain = true
  | .non => rfl
  | .bl _ => rfl
  | .int _ => rfl
  | .str _ => rfl
  | .tup xs => pys_plain xs
  | .lst xs => pys_plain xs
  | .ref _ => rfl
theorem pys_plain : ∀ vs : List Val, PyData.plainAll (Val.pys vs) = true
  | [] => rfl
  | v :: vs => by
    show (v.py.plain && PyData.plainAll (Val.pys vs)) = true
    rw [py_plain v, pys_plain vs]
    rfl
end
mutual
theorem py_depth : ∀ v : Val, v.py.depth = v.dep
  | .non => rfl
  | .bl _ => rfl
  | .int _ => rfl
  | .str _ => rfl
  | .tup xs => congrArg (· + 1) (pys_depth xs)
  | .lst xs => congrArg (· + 1) (pys_depth xs)
  | .ref _ => rfl
theorem pys_depth : ∀ vs : List Val, PyData.depthAll (Val.pys vs) = Val.deps vs
  | [] => rfl
  | v :: vs => by
    show max v.py.depth (PyData.depthAll (Val.pys vs)) = max v.dep (Val.deps vs)
    rw [py_depth v, pys_depth vs]
end
theorem withO_some {α : Type} {o : Option α} {k : α → Prop} (h : withO o k) : ∃ a, o = some a ∧ k a := by
  cases o with
  | none => exact h.elim
  | some a => exact ⟨a, rfl, h⟩
theorem withB_some {v : Val} {k : Bool → Prop} (h : withB v k) : ∃ b, v = .bl b ∧ k b := by
  cases v with
  | bl b => exact ⟨b, rfl, h⟩
  | _ => exact h.elim
theorem veqAny_any (x : Val) : ∀ ys : List Val, veqAny x ys = (Val.pys ys).any fun y => PyData.eqv y x.py
  | [] => rfl
  | y :: ys => by
    show (y.veq x || veqAny x ys) = (PyData.eqv y.py x.py || (Val.pys ys).any fun y => PyData.eqv y x.py)
    rw [veqAny_any x ys]
    rfl

section
variable {X : Cx} {c : LC}
theorem o_eq (hu : X.A.units + 120 < cLine) : OpR X (compareOp .Eq) (rv2 (lay X c) (wCmp .eq)) := by
  intro pins s σ H x y v u Q I rx ry h
  obtain ⟨v1, v2, S, Qd, h1, h2, hs, hf, k⟩ := h
  obtain ⟨a, ea, hf⟩ := withO_some hf
  obtain ⟨b, eb, hz, hf⟩ := withO_some hf
  obtain ⟨as, ra⟩ := Dp.reads I _ _ _ (see_dp hs 3 v1 a x ea h1) rx
  obtain ⟨bs, rb⟩ := Dp.reads I _ _ _ (see_dp hs 3 v2 b y eb h2) ry
  exact SeqAt.eq_plain ra rb (py_plain a) (py_plain b) (by rw [py_depth, py_depth]; omega) ⟨.bl _, H, I, rfl, k.here hf hs rfl⟩
theorem o_ne (hu : X.A.units + 120 < cLine) : OpR X (compareOp .NotEq) (rv2 (lay X c) (wCmp .ne)) := by
  intro pins s σ H x y v u Q I rx ry h
  obtain ⟨v1, v2, S, Qd, h1, h2, hs, hf, k⟩ := h
  obtain ⟨a, ea, hf⟩ := withO_some hf
  obtain ⟨b, eb, hz, hf⟩ := withO_some hf
  obtain ⟨as, ra⟩ := Dp.reads I _ _ _ (see_dp hs 3 v1 a x ea h1) rx
  obtain ⟨bs, rb⟩ := Dp.reads I _ _ _ (see_dp hs 3 v2 b y eb h2) ry
  exact SeqAt.ne_plain ra rb (py_plain a) (py_plain b) (by rw [py_depth, py_depth]; omega) ⟨.bl _, H, I, rfl, k.here hf hs rfl⟩
theorem o_lt (hu : X.A.units + 120 < cLine) : OpR X (compareOp .Lt) (rv2 (lay X c) (wCmp .lt)) := by
  intro pins s σ H x y v u Q I rx ry h
  obtain ⟨v1, v2, S, Qd, h1, h2, hs, hf, k⟩ := h
  cases v1 with
  | int i =>
    cases v2 with
    | int j =>
      cases h1; cases h2
      exact op_lt pins s σ H _ _ v u Q I rx ry ⟨i, j, rfl, rfl, k.here hf hs rfl⟩
    | _ => exact hf.elim
  | tup xs =>
    cases v2 with
    | tup ys =>
      obtain ⟨ns, e1, hf⟩ := withO_some hf
      obtain ⟨ms, e2, hf⟩ := withO_some hf
      obtain ⟨a, us, rfl, ha, ra⟩ := h1
      obtain ⟨b, ws, rfl, hb, rb⟩ := h2
      have q1 := ints_rv e1 ra
      have q2 := ints_rv e2 rb
      subst q1; subst q2
      exact op_ltT (by omega) pins s σ H _ _ v u Q I rx ry ⟨a, b, ns, ms, rfl, rfl, ha, hb, k.here hf hs rfl⟩
    | _ => exact hf.elim
  | _ => exact hf.elim
theorem o_le : OpR X (compareOp .LtE) (rv2 (lay X c) (wCmp .le)) := by
  intro pins s σ H x y v u Q I rx ry h
  obtain ⟨v1, v2, S, Qd, h1, h2, hs, hf, k⟩ := h
  cases v1 with
  | int i =>
    cases v2 with
    | int j =>
      cases h1; cases h2
      exact op_le pins s σ H _ _ v u Q I rx ry ⟨i, j, rfl, rfl, k.here hf hs rfl⟩
    | _ => exact hf.elim
  | _ => exact hf.elim
theorem o_gt : OpR X (compareOp .Gt) (rv2 (lay X c) (wCmp .gt)) := by
  intro pins s σ H x y v u Q I rx ry h
  obtain ⟨v1, v2, S, Qd, h1, h2, hs, hf, k⟩ := h
  cases v1 with
  | int i =>
    cases v2 with
    | int j =>
      cases h1; cases h2
      exact op_gt pins s σ H _ _ v u Q I rx ry ⟨i, j, rfl, rfl, k.here hf hs rfl⟩
    | _ => exact hf.elim
  | _ => exact hf.elim
theorem o_ge : OpR X (compareOp .GtE) (rv2 (lay X c) (wCmp .ge)) := by
  intro pins s σ H x y v u Q I rx ry h
  obtain ⟨v1, v2, S, Qd, h1, h2, hs, hf, k⟩ := h
  cases v1 with
  | int i =>
    cases v2 with
    | int j =>
      cases h1; cases h2
      exact op_ge pins s σ H _ _ v u Q I rx ry ⟨i, j, rfl, rfl, k.here hf hs rfl⟩
    | _ => exact hf.elim
  | _ => exact hf.elim
theorem o_in (hu : X.A.units + 120 < cLine) : OpR X (compareOp .In) (rv2 (lay X c) (wCmp .isin)) := by
  intro pins s σ H x y v u Q I rx ry h
  obtain ⟨v1, v2, S, Qd, h1, h2, hs, hf, k⟩ := h
  cases v2 with
  | str z =>
    cases v1 with
    | str w =>
      cases h1; cases h2
      exact op_in_str pins s σ H _ _ v u Q I rx ry ⟨w, z, rfl, rfl, k.here hf hs rfl⟩
    | _ => exact hf.elim
  | tup ys =>
    obtain ⟨d, hz, hf⟩ := hf
    obtain ⟨d1, d2⟩ := Bool.and_eq_true_iff.mp d
    obtain ⟨as, ra⟩ := Dp.reads I _ _ _ (dp_of v1 x d1 h1) rx
    obtain ⟨bs, rb⟩ := Dp.reads I _ _ _ (dp_of (.tup ys) y d2 h2) ry
    refine SeqAt.in_tuple_data rb ra (pys_plain ys) (py_plain v1) (by rw [py_depth]; omega) ⟨.bl _, H, I, rfl, k.here (v := .bl _) ?_ hs rfl⟩
    rw [← veqAny_any]
    exact hf
  | ref a =>
    have e2 : y = .ref a := h2
    subst e2
    cases ry
    cases q : S a with
    | none =>
      simp only [wCmp, q] at hf
    | some o =>
      cases o with
      | lst ys =>
        simp only [wCmp, q] at hf
        obtain ⟨d1, hz, hf⟩ := hf
        obtain ⟨zs, e, hf⟩ := withO_some hf
        obtain ⟨us, hl, hr⟩ := hs a _ q
        obtain ⟨as, ra⟩ := Dp.reads I _ _ _ (dp_of v1 x d1 h1) rx
        obtain ⟨bs, rb⟩ := Dp.reads I (.list (Val.pys zs)) (.ref a) (Value.ref a) (Dp.lst (SqL.of hl) (sees_dp hs 3 ys zs us e hr)) rfl
        refine SeqAt.in_list_data rb ra (pys_plain zs) (py_plain v1) (by rw [py_depth]; omega) ⟨.bl _, H, I, rfl, k.here (v := .bl _) ?_ hs rfl⟩
        rw [← veqAny_any]
        exact hf
      | dct kvs t =>
        simp only [wCmp, q] at hf
        exact dct_in (c := c) (by omega) I (hs a _ q) hf.1 h1 rx fun s' J => ⟨.bl _, H, J, rfl, k.here hf.2 hs rfl⟩
      | ins cc fs => simp only [wCmp, q] at hf
  | _ => exact hf.elim
theorem o_notin (hu : X.A.units + 120 < cLine) : OpR X (compareOp .NotIn) (rv2 (lay X c) (wCmp .notin)) := by
  intro pins s σ H x y v u Q I rx ry h
  obtain ⟨v1, v2, S, Qd, h1, h2, hs, hf, k⟩ := h
  cases v2 with
  | str z =>
    cases v1 with
    | str w =>
      cases h1; cases h2
      exact op_notIn_str pins s σ H _ _ v u Q I rx ry ⟨w, z, rfl, rfl, by rw [Bool.not_not]; exact k.here hf hs rfl⟩
    | _ => exact hf.elim
  | tup ys =>
    obtain ⟨d, hz, hf⟩ := hf
    obtain ⟨d1, d2⟩ := Bool.and_eq_true_iff.mp d
    obtain ⟨as, ra⟩ := Dp.reads I _ _ _ (dp_of v1 x d1 h1) rx
    obtain ⟨bs, rb⟩ := Dp.reads I _ _ _ (dp_of (.tup ys) y d2 h2) ry
    refine SeqAt.notIn_tuple_data rb ra (pys_plain ys) (py_plain v1) (by rw [py_depth]; omega) ⟨.bl _, H, I, rfl, k.here (v := .bl _) ?_ hs rfl⟩
    rw [← veqAny_any]
    exact hf
  | ref a =>
    have e2 : y = .ref a := h2
    subst e2
    cases ry
    cases q : S a with
    | none =>
      simp only [wCmp, q] at hf
    | some o =>
      cases o with
      | lst ys =>
        simp only [wCmp, q] at hf
        obtain ⟨d1, hz, hf⟩ := hf
        obtain ⟨zs, e, hf⟩ := withO_some hf
        obtain ⟨us, hl, hr⟩ := hs a _ q
        obtain ⟨as, ra⟩ := Dp.reads I _ _ _ (dp_of v1 x d1 h1) rx
        obtain ⟨bs, rb⟩ := Dp.reads I (.list (Val.pys zs)) (.ref a) (Value.ref a) (Dp.lst (SqL.of hl) (sees_dp hs 3 ys zs us e hr)) rfl
        refine SeqAt.notIn_list_data rb ra (pys_plain zs) (py_plain v1) (by rw [py_depth]; omega) ⟨.bl _, H, I, rfl, k.here (v := .bl _) ?_ hs rfl⟩
        rw [← veqAny_any]
        exact hf
      | dct kvs t =>
        simp only [wCmp, q] at hf
        exact dct_notIn (c := c) (by omega) I (hs a _ q) hf.1 h1 rx fun s' J => ⟨.bl _, H, J, rfl, k.here hf.2 hs rfl⟩
      | ins cc fs => simp only [wCmp, q] at hf
  | _ => exact hf.elim

/-! ### subscripts -/
theorem atI_rv {K : PySem.W.Frag} {H : Hp} {xs : List Val} {us : List V} {i : Int} {v : Val} (r : RVs K H xs us) (e : atI xs i = some v) : ∃ u, atI us i = some u ∧ RV K H v u := by
  unfold atI at e ⊢
  rw [← r.length]
  cases q : ixN xs.length i with
  | none => rw [q] at e; cases e
  | some j =>
    rw [q] at e
    exact r.get e
theorem i_sub (hu : X.A.units + 120 < cLine) : IxR X (rv2 (lay X c) wSub) := by
  intro value slice pins s σ H x y v u Q I rx ry h sub
  obtain ⟨v1, v2, S, Qd, h1, h2, hs, hf, k⟩ := h
  cases v1 with
  | lst xs =>
    cases v2 with
    | int i =>
      obtain ⟨w, e, hf⟩ := withO_some hf
      obtain ⟨a, us, rfl, ha, ra⟩ := h1
      cases h2
      obtain ⟨z, e2, rz⟩ := atI_rv ra e
      exact ix_list value slice pins s σ H _ _ v u Q I rx ry ⟨a, us, i, z, rfl, rfl, ha.sq, e2, k.here hf hs rz⟩ sub
    | _ => exact hf.elim
  | tup xs =>
    cases v2 with
    | int i =>
      obtain ⟨w, e, hf⟩ := withO_some hf
      obtain ⟨a, us, rfl, ha, ra⟩ := h1
      cases h2
      obtain ⟨z, e2, rz⟩ := atI_rv ra e
      exact ix_tup value slice pins s σ H _ _ v u Q I rx ry ⟨a, us, i, z, rfl, rfl, ha, e2, k.here hf hs rz⟩ sub
    | _ => exact hf.elim
  | str z =>
    cases v2 with
    | int i =>
      obtain ⟨hz, hf⟩ := hf
      obtain ⟨w, e, hf⟩ := withO_some hf
      cases h1; cases h2
      exact ix_str value slice pins s σ H _ _ v u Q I rx ry ⟨z, i, w, rfl, rfl, by rw [← line_eq]; exact hz, e, k.here hf hs rfl⟩ sub
    | _ => exact hf.elim
  | ref a =>
    have e1 : x = .ref a := h1
    subst e1
    cases q : S a with
    | none => simp only [wSub, q] at hf
    | some o =>
      cases o with
      | lst xs =>
        cases v2 with
        | int i =>
          simp only [wSub, q] at hf
          obtain ⟨w, e, hf⟩ := withO_some hf
          obtain ⟨us, hl, hr⟩ := hs a _ q
          cases h2
          obtain ⟨z, e2, rz⟩ := atI_rv hr e
          exact ix_list value slice pins s σ H _ _ v u Q I rx ry ⟨a, us, i, z, rfl, rfl, SqL.of hl, e2, k.here hf hs rz⟩ sub
        | _ => simp only [wSub, q] at hf
      | dct kvs t =>
        simp only [wSub, q] at hf
        obtain ⟨ok, hf⟩ := hf
        obtain ⟨w, e, hf⟩ := withO_some hf
        cases rx
        obtain ⟨es, z1, _⟩ := id (hs a _ q)
        exact tail_any (ops := [.ref a, u]) (raw_of I z1).typeIs PySem.F.slot_dict_getitem.lookup (dct_getItem (c := c) (by omega) I (hs a _ q) ok h2 ry e fun s' w' z' J rw' rz => ⟨w', H, J, rz, k.here hf hs rw'⟩) sub
      | ins cc fs => simp only [wSub, q] at hf
  | _ => exact hf.elim
end
end DL

set_option autoImplicit true
set_option Elab.async false
set_option linter.all false
set_option maxRecDepth 100000
set_option maxHeartbeats 1000000
/-! Own layer, part 3d: slices, factors, built-ins, methods of lists, isinstance. -/
namespace DL
open PySem PySem.Spec PyProof.Rows L2

theorem cut_rv {K : PySem.W.Frag} {H : Hp} {xs : List Val} {us : List V} {lo hi : Option Int} (r : RVs K H xs us) : RVs K H (cutL xs lo hi) (cutV us lo hi) := by
  unfold cutL cutV
  rw [r.length]
  exact RVs.take _ (RVs.drop _ r)
def rvsl (L : Lay) : V → Option Int → Option Int → Hp → VK → Prop := fun x lo hi H Q => ∃ v S Qd, RV L.K H v x ∧ RS L H S ∧ wSlice v lo hi S Qd ∧ Cont L H S Qd Q
section
variable {X : Cx} {c : LC}
theorem s_slice : SlR X (rvsl (lay X c)) := by
  intro pins s σ H x v vl vu lo hi sl Q I rx hsl pl pu h
  obtain ⟨v1, S, Qd, h1, hs, hf, k⟩ := h
  cases v1 with
  | tup xs =>
    obtain ⟨a, us, rfl, ha, ra⟩ := h1
    refine sl_tupA pins s σ H _ v vl vu lo hi sl Q I rx hsl pl pu ⟨a, us, rfl, ha, fun e => ?_, fun _ p n => k.tup hf hs (cut_rv ra) n⟩
    have e' : cutL xs lo hi = xs := by
      unfold cutL
      rw [ra.length, e.1, e.2]
      simp [← ra.length]
    have hf' : Qd (.tup (cutL xs lo hi)) S := hf
    rw [e'] at hf'
    exact k.here hf' hs ⟨a, us, rfl, ha, ra⟩
  | str z =>
    obtain ⟨hz, hf⟩ := hf
    cases h1
    refine sl_str pins s σ H _ v vl vu lo hi sl Q I rx hsl pl pu ⟨z, rfl, by rw [← line_eq]; exact hz, ?_⟩
    have e : cutS z lo hi = ⟨(cutL z.cps.toList lo hi).toArray⟩ := by
      unfold cutS cutL
      have : z.cps.toList.length = z.length := by simp [Str.length]
      rw [this]
    rw [e]
    exact k.here hf hs rfl
  | ref a =>
    have e1 : x = .ref a := h1
    subst e1
    cases q : S a with
    | none => simp only [wSlice, q] at hf
    | some o =>
      cases o with
      | lst xs =>
        simp only [wSlice, q] at hf
        obtain ⟨us, hl, hr⟩ := hs a _ q
        exact sl_list pins s σ H _ v vl vu lo hi sl Q I rx hsl pl pu ⟨a, us, rfl, SqL.of hl, fun p n => k.lst hf hs (cut_rv hr) n⟩
      | dct kvs t => simp only [wSlice, q] at hf
      | ins cc fs => simp only [wSlice, q] at hf
  | _ => exact hf.elim

/-! ### factors -/
theorem tuple_mul1 (l : Addr) (items : Array Value) (n : Nat) (dd : Option Addr) (sl : Array (Option Value)) (x : Int) (u : Tok) (c0 : (decide (x < -(2 ^ 63)) || decide (x ≥ 2 ^ 63)) = false) (c1 : (items.isEmpty || x == 1) = true) :
    Meets (Builtin.«tuple.__mul__» ⟨[.ref l, .int x u], []⟩) (fun _ R s => s.heap.get? l = some { cls := .type "tuple", dict := dd, data := .seq items n, slots := sl } ∧ R (.ok (.ret (Value.ref l))) s) :=
  .of_wp fun prog w A R s h => by
    obtain ⟨hp, g, d, tk, os⟩ := s
    obtain ⟨hl, h⟩ := h
    have f1 := AutoSeq1.idx_int
    wp_walk using wpAny_loadPart' hl
    repeat (first
      | (refine wpAny_ite_false (decide_eq_false (by rw [c0]; exact Bool.false_ne_true)) ?_; wp_walk using wpAny_loadPart' hl)
      | (refine wpAny_ite_true (decide_eq_true c1) ?_; wp_walk using wpAny_loadPart' hl))
    exact ⟨_, rfl, h⟩
theorem tuple_mul0 (l : Addr) (items : Array Value) (n : Nat) (dd : Option Addr) (sl : Array (Option Value)) (x : Int) (u : Tok) (c0 : (decide (x < -(2 ^ 63)) || decide (x ≥ 2 ^ 63)) = false) (c1 : (items.isEmpty || x == 1) = false) (c2 : (decide (x ≤ 0) || items.isEmpty) = true) :
    Meets (Builtin.«tuple.__mul__» ⟨[.ref l, .int x u], []⟩) (fun _ R s => s.heap.get? l = some { cls := .type "tuple", dict := dd, data := .seq items n, slots := sl } ∧
      R (.ok (.ret (Value.ref s.heap.objs.size))) { s with heap := s.heap.push { cls := Value.type "tuple", data := Data.seq #[] }, toks := s.toks }) :=
  .of_wp fun prog w A R s h => by
    obtain ⟨hp, g, d, tk, os⟩ := s
    obtain ⟨hl, h⟩ := h
    have f1 := AutoSeq1.idx_int
    wp_walk using wpAny_loadPart' hl
    repeat (first
      | (refine wpAny_ite_false (decide_eq_false (by rw [c0]; exact Bool.false_ne_true)) ?_; wp_walk using wpAny_loadPart' hl)
      | (refine wpAny_ite_false (decide_eq_false (by rw [c1]; exact Bool.false_ne_true)) ?_; wp_walk using wpAny_loadPart' hl)
      | (refine wpAny_ite_true (decide_eq_true c2) ?_; wp_walk using wpAny_loadPart' hl))
    exact ⟨_, rfl, h⟩
end
end DL

set_option autoImplicit true
set_option Elab.async false
set_option autoImplicit false
set_option linter.all false
set_option maxRecDepth 100000
set_option maxHeartbeats 4000000
/-! Own layer: sorted of tuples of whole numbers, any number of them. -/
namespace DL
open PySem PySem.Spec PyProof.Rows L2

/-- a tuple of whole numbers in the heap -/
def NumT (h : Heap) (v : Value) (ns : List Int) : Prop := ∃ a o xs n, v = .ref a ∧ h.get? a = some o ∧ o.cls = .type "tuple" ∧ o.data = .seq xs n ∧ IntsV xs.toList ns
where
  IntsV : List Value → List Int → Prop
  | [], [] => True
  | v :: vs, n :: ns => (∃ t, v = .int n t) ∧ IntsV vs ns
  | _, _ => False
abbrev IntsV := NumT.IntsV
theorem IntsV.length : ∀ {vs : List Value} {ns : List Int}, IntsV vs ns → vs.length = ns.length
  | [], [], _ => rfl
  | _ :: _, _ :: _, h => by simp [IntsV.length h.2]
  | [], _ :: _, h => h.elim
  | _ :: _, [], h => h.elim
theorem NumT.kept {h h' : Heap} {v : Value} {ns : List Int} (p : NumT h v ns) (k : ∀ b o, h.get? b = some o → o.cls = .type "tuple" → h'.get? b = some o) : NumT h' v ns := by
  obtain ⟨a, o, xs, n, e1, e2, e3, e4, e5⟩ := p
  exact ⟨a, o, xs, n, e1, k a o e2 e3, e3, e4, e5⟩
theorem lexLt_irr : ∀ ns : List Int, HT.lexLt ns ns = false
  | [] => rfl
  | n :: ns => by rw [HT.lexLt_cons, if_pos rfl]; exact lexLt_irr ns
theorem lexLt_asym : ∀ {a b : List Int}, HT.lexLt a b = true → HT.lexLt b a = false
  | [], [], h => by cases h
  | [], _ :: _, _ => rfl
  | _ :: _, [], h => by cases h
  | x :: a, y :: b, h => by
    rw [HT.lexLt_cons] at h ⊢
    by_cases e : x = y
    · rw [if_pos e] at h
      rw [if_pos e.symm]
      exact lexLt_asym h
    · rw [if_neg e] at h
      rw [if_neg fun z => e z.symm]
      have := of_decide_eq_true h
      exact decide_eq_false (by omega)
theorem lexLt_ntr : ∀ {a b c : List Int}, HT.lexLt b a = false → HT.lexLt c b = false → HT.lexLt c a = false
  | [], b, c, h1, h2 => by cases c <;> rfl
  | x :: a, [], c, h1, h2 => by cases h1
  | x :: a, y :: b, [], h1, h2 => by cases h2
  | x :: a, y :: b, z :: c, h1, h2 => by
    rw [HT.lexLt_cons] at h1 h2 ⊢
    by_cases e1 : y = x
    · rw [if_pos e1] at h1
      by_cases e2 : z = y
      · rw [if_pos e2] at h2
        rw [if_pos (by omega)]
        exact lexLt_ntr h1 h2
      · rw [if_neg e2] at h2
        have := of_decide_eq_false h2
        rw [if_neg (by omega)]
        exact decide_eq_false (by omega)
    · rw [if_neg e1] at h1
      have q1 := of_decide_eq_false h1
      by_cases e2 : z = y
      · rw [if_neg (by omega)]
        exact decide_eq_false (by omega)
      · rw [if_neg e2] at h2
        have q2 := of_decide_eq_false h2
        rw [if_neg (by omega)]
        exact decide_eq_false (by omega)
theorem swo_nums {α : Type} (k : α → List Int) : SrtO.Swo fun v u => HT.lexLt (k v) (k u) := ⟨fun _ _ h => lexLt_asym h, fun x y z h1 h2 => lexLt_ntr (a := k x) (b := k y) (c := k z) h1 h2⟩
section
variable {prog : Program} {w : World} {A : Around} {s : Shared}
theorem lex_walk {Q : Bool → Shared → Prop} {fin : Bool} : ∀ {xs ys : List Value} {ns ms : List Int} (i : Nat), IntsV xs ns → IntsV ys ms → fin = decide (xs.length < ys.length) → Q (HT.lexLt ns ms) s → PySem.W.KatLex prog w A true fin Q (xs.zip ys) i s
  | [], [], [], [], i, _, _, e, h => PySem.W.kat_nil (by rw [e]; exact h)
  | [], y :: ys, [], m :: ms, i, _, _, e, h => PySem.W.kat_nil (by rw [e, show decide (([] : List Value).length < (y :: ys).length) = true from decide_eq_true (by simp)]; exact h)
  | x :: xs, [], n :: ns, [], i, _, _, e, h => PySem.W.kat_nil (by rw [e, show decide ((x :: xs).length < ([] : List Value).length) = false from decide_eq_false (by simp)]; exact h)
  | x :: xs, y :: ys, n :: ns, m :: ms, i, ⟨⟨t, ex⟩, hx⟩, ⟨⟨u, ey⟩, hy⟩, e, h => by
    subst ex ey
    rw [HT.lexLt_cons] at h
    refine PySem.W.kat_cons (SeqAt.EqAt.int_int n t m u prog w _ _ (PySem.W.kat_go (fun q => ?_) fun q => ?_))
    · have q : n = m := by simpa using q
      rw [if_pos q] at h
      exact PySem.W.kat_yes (lex_walk (i + 1) hx hy (by rw [e]; simp) h)
    · have q : ¬ n = m := by simpa using q
      rw [if_neg q] at h
      refine PySem.W.kat_no ?_
      cases (true && i == 0)
      · exact PySem.W.kat_one _ _ (PyProof.Rows.lt_int (Q := PySem.W.BoolBack Q) h)
      · exact oneLt_int h
theorem nums_cmp {vs : List Value} {k : Value → List Int} (hp : ∀ v ∈ vs, NumT s.heap v (k v)) : SrtO.Cmp prog w A s (tuples' true) (fun p => p.1 ∈ vs) (SrtO.lt2 fun v u => HT.lexLt (k v) (k u)) := by
  intro p q hm hm'
  obtain ⟨a, o, xs, n, e1, e2, e3, e4, e5⟩ := hp _ hm
  obtain ⟨b, o', ys, n', f1, f2, f3, f4, f5⟩ := hp _ hm'
  show wpAny (model prog w) A (keyLt' (tuples' true) p.1 q.1) _ _ s
  rw [show SrtO.lt2 (fun v u => HT.lexLt (k v) (k u)) p q = HT.lexLt (k p.1) (k q.1) from rfl, e1, f1]
  refine PySem.W.kat_lt e2 e4 f2 f4 ?_
  refine lex_walk 0 e5 f5 (by simp) ⟨rfl, ?_⟩
  rw [← e1, ← f1]
theorem nums_firsts {h : Heap} {k : Value → List Int} : ∀ {vs : List Value}, (∀ v ∈ vs, NumT h v (k v) ∧ 0 < (k v).length) → ∃ fs : List Value, PySem.W.KatTups h vs fs ∧ fs.length = vs.length ∧ ∀ f ∈ fs, ∃ x t, f = Value.int x t
  | [], _ => ⟨[], .nil, rfl, fun _ hm => by cases hm⟩
  | v :: vs, hp => by
    obtain ⟨fs, g1, g2, g3⟩ := nums_firsts (vs := vs) fun u hu => hp u (.tail _ hu)
    obtain ⟨⟨a, o, xs, n, e1, e2, e3, e4, e5⟩, hl⟩ := hp v (.head _)
    cases q : xs.toList with
    | nil =>
      rw [q] at e5
      have := IntsV.length e5
      simp at this
      omega
    | cons f r =>
      rw [q] at e5
      cases qk : k v with
      | nil => rw [qk] at hl; cases hl
      | cons m ms =>
        rw [qk] at e5
        obtain ⟨t, rfl⟩ := e5.1
        have e0 : xs[0]? = some (Value.int m t) := by
          rw [← Array.getElem?_toList, q]
          rfl
        subst e1
        refine ⟨.int m t :: fs, PySem.W.KatTups.cons e2 e3 e4 e0 g1, by simp [g2], fun z hz => ?_⟩
        rcases List.mem_cons.mp hz with c | c
        · exact ⟨m, t, c⟩
        · exact g3 z c
theorem nums_sortable {a : Addr} {vs : List Value} {k : Value → List Int} (h0 : 0 < vs.length) (hp : ∀ v ∈ vs, NumT s.heap v (k v) ∧ 0 < (k v).length) (ha : ∀ o, s.heap.get? a = some o → o.cls ≠ .type "tuple") : SrtO.SortableO prog w A s a vs fun v u => HT.lexLt (k v) (k u) := by
  intro h' keep
  have hp' : ∀ v ∈ vs, NumT h' v (k v) ∧ 0 < (k v).length := fun v hm => ⟨(hp v hm).1.kept fun b o e c => keep b o (fun z => ha o (z ▸ e) c) e, (hp v hm).2⟩
  obtain ⟨fs, g1, g2, g3⟩ := nums_firsts hp'
  refine ⟨tuples' true, fun Q E hq => PySem.W.kat_kind (T := .type "int") g1 (by omega) (fun f hm => ?_) (by rfl) ?_, nums_cmp fun v hv => (hp' v hv).1⟩
  · obtain ⟨x, t, rfl⟩ := g3 f hm
    exact .now
  · rw [show (Value.type "int" != Value.type "tuple") = true by decide +kernel]
    exact hq
end
/-- sorted of a list of tuples of whole numbers -/
def rSortNums (K : PySem.W.Frag) : List V → Hp → VK → Prop := fun vs H Q => ∃ (a : Addr) (xs : List V) (k : V → List Int), vs = [V.ref a] ∧ SqL K H a xs ∧ (∀ x ∈ xs, ∃ t, x = V.ref t ∧ SqT K H t ((k x).map V.int) ∧ 0 < (k x).length) ∧
  ∀ ys p, ys.Perm xs → ys.Pairwise (fun u v => HT.lexLt (k v) (k u) = false) → H p = none → Q (.ref p) (upd H p (.lst ys))
theorem intsV_of : ∀ {ns : List Int} {its : List Value}, Vals (ns.map V.int) its → IntsV its ns
  | [], its, h => by cases h; trivial
  | n :: ns, its, h => by
    cases h with
    | cons r rr => exact ⟨r, intsV_of rr⟩
theorem cr_sortNums {X : Cx} : CallR X (.builtin "sorted") (rSortNums X.K) := by
  intro pins s σ H vs us Q I r h
  obtain ⟨a, xs, k, rfl, hs, hx, q⟩ := h
  obtain ⟨its, rv, hl, hz⟩ := I.list hs
  obtain ⟨u, rfl, ru⟩ := vals1 r
  obtain rfl : u = Value.ref a := ru
  obtain ⟨g1, g2⟩ := refs_back rv fun x m => by
    obtain ⟨t, e, _⟩ := hx x m
    exact ⟨t, e⟩
  have hn : ∀ v ∈ its, NumT s.heap v (k (backV v)) ∧ 0 < (k (backV v)).length := fun v hv => by
    obtain ⟨t, rfl⟩ := g2 v hv
    have hm : V.ref t ∈ xs := by rw [g1]; exact List.mem_map.mpr ⟨_, hv, rfl⟩
    obtain ⟨t', e, ht, hp⟩ := hx _ hm
    cases e
    obtain ⟨its2, r2, ⟨o, ho, hc, n, hd⟩, _⟩ := I.tuple ht
    exact ⟨⟨t, o, _, n, rfl, ho, hc, hd, by rw [List.toList_toArray]; exact intsV_of r2⟩, hp⟩
  refine SrtO.sorted_ord (swo_nums fun u => k (backV u)) hl.isList (by rw [← rv.length]; exact hz) (fun h2 h1 b hb kk => ?_) fun out h1 h2 => ?_
  · refine nums_sortable (s := { s with heap := h1 }) (by omega) (fun v hv => ⟨(hn v hv).1.kept fun c o e _ => (kk c o e).2, (hn v hv).2⟩) fun o e c => ?_
    have : some o = some (seqObj "list" its.toArray 0) := e.symm.trans hb
    cases this
    exact absurd (Value.type.inj c) (by decide)
  · have h3 : ∀ u ∈ out, ∃ c, u = Value.ref c := fun u hu => g2 u (h2.perm.mem_iff.mp hu)
    obtain ⟨n, hat⟩ := sortedAll_at s.heap its out.toArray
    have hle : s.heap.objs.size ≤ s.heap.objs.size + 1 := Nat.le_succ _
    have hp : (out.map backV).Perm xs := by
      rw [g1]
      exact h2.perm.map backV
    refine ⟨.ref (s.heap.objs.size + 1), upd H (s.heap.objs.size + 1) (.lst (out.map backV)), I.laid (t' := s.toks) (fun b o e => sortedAll_old e) hle ⟨?_, out, n, vals_back h3, hat⟩, rfl, q _ _ hp (List.pairwise_map.mpr h1) (I.hok.fresh hle)⟩
    rw [hp.length_eq]
    exact hz
end DL

set_option autoImplicit true
set_option Elab.async false
set_option linter.all false
set_option maxRecDepth 100000
set_option maxHeartbeats 1000000
/-! Own layer, part 3e: products, built-ins. -/
namespace DL
open PySem PySem.Spec PyProof.Rows L2
section
variable {X : Cx} {c : LC}
theorem rep1 (xs : List Val) : (List.replicate 1 xs).flatten = xs := by simp
theorem op_mulS : OpR X (binaryOp .Mult) (fun x y H Q => ∃ z k, x = .str z ∧ y = .int k ∧ 0 ≤ k ∧ k ≤ 1000 ∧ z.length ≤ 1000 ∧ Q (.str (srep z k)) H) := by
  intro pins s σ H x y v u Q I rx ry h
  obtain ⟨z, k, rfl, rfl, h0, h1, hz, q⟩ := h
  obtain ⟨t, rfl⟩ := rx
  obtain ⟨t2, rfl⟩ := ry
  have e1 : (decide (k < -(2 ^ 63 : Int)) || decide (k ≥ 2 ^ 63)) = false := by
    rw [decide_eq_false (by omega), decide_eq_false (by omega)]
    rfl
  have hlen : z.length * k.toNat ≤ 1000000 := by
    have e : k.toNat ≤ 1000 := by omega
    exact Nat.mul_le_mul hz e
  refine P.mul_str e1 (fun h2 h3 h4 => ?_) (fun h2 h3 => ?_) ?_
  · have h5 : (1000 : Int) ≤ (2 ^ 63 - 1) / k := by
      refine (Int.le_ediv_iff_mul_le (by omega)).mpr ?_
      omega
    have : (z.length : Int) ≤ 1000 := by omega
    omega
  · unfold Builtin.Str.tooLong
    exact decide_eq_false (by rw [sizeLine_eq]; omega)
  · by_cases h2 : k < 1
    · rw [if_pos h2]
      have hk : k = 0 := by omega
      subst hk
      exact ⟨by decide, .str (srep z 0), H, I.tok _, ⟨_, rfl⟩, q⟩
    · rw [if_neg h2]
      by_cases h3 : (k == 1 || z.length == 0) = true
      · rw [if_pos h3]
        have e : z = srep z k := by
          have rep0 : ∀ (n : Nat), (List.replicate n (#[] : Array Nat)).foldl (· ++ ·) #[] = #[] := by
            intro n
            induction n with
            | zero => rfl
            | succ n ih => rw [List.replicate_succ, List.foldl_cons]; simpa using ih
          rw [Bool.or_eq_true] at h3
          rcases h3 with h3 | h3
          · have : k = 1 := by simpa using h3
            subst this
            obtain ⟨cp⟩ := z
            simp [srep]
          · obtain ⟨cp⟩ := z
            have : cp = #[] := by
              have h4 : cp.size = 0 := eq_of_beq (show (cp.size == 0) = true from h3)
              exact Array.eq_empty_of_size_eq_zero h4
            subst this
            simp [srep, rep0]
        exact ⟨.str (srep z k), H, I, ⟨t, by rw [← e]⟩, q⟩
      · rw [if_neg h3]
        refine ⟨?_, .str (srep z k), H, I.tok _, ⟨_, rfl⟩, q⟩
        have hsz : ∀ (n : Nat) (b : Array Nat), ((List.replicate n z.cps).foldl (· ++ ·) b).size = b.size + n * z.cps.size := by
          intro n
          induction n with
          | zero => intro b; simp
          | succ n ih =>
            intro b
            rw [List.replicate_succ, List.foldl_cons, ih, Array.size_append, Nat.succ_mul]
            omega
        have e : Str.length ⟨(List.replicate k.toNat z.cps).foldl (· ++ ·) #[]⟩ = k.toNat * z.cps.size := by
          show ((List.replicate k.toNat z.cps).foldl (· ++ ·) #[]).size = _
          rw [hsz]
          simp
        rw [e, Nat.mul_comm, sizeLine_eq]
        have : z.cps.size * k.toNat ≤ 1000000 := hlen
        omega
theorem o_mul : OpR X (binaryOp .Mult) (rv2 (lay X c) (wBin .mul)) := by
  intro pins s σ H x y v u Q I rx ry h
  obtain ⟨v1, v2, S, Qd, h1, h2, hs, hf, k⟩ := h
  cases v1 with
  | int i =>
    cases v2 with
    | int j =>
      cases h1; cases h2
      obtain ⟨ok, hf⟩ := hf
      rcases ok with ok | ok
      · exact op_mul pins s σ H _ _ v u Q I rx ry ⟨i, j, rfl, rfl, ok, k.here hf hs rfl⟩
      · exact op_mulW pins s σ H _ _ v u Q I rx ry ⟨i, j, rfl, rfl, ok, k.here hf hs rfl⟩
    | _ => exact hf.elim
  | tup xs =>
    cases v2 with
    | int n =>
      obtain ⟨⟨ne, n0, n1, n2⟩, hf⟩ := hf
      obtain ⟨a, us, rfl, ha, ra⟩ := h1
      cases h2
      have hne : us ≠ [] := fun e => ne (by subst e; exact List.eq_nil_of_length_eq_zero ra.length)
      by_cases hn : 2 ≤ n
      · exact op_repT pins s σ H _ _ v u Q I rx ry ⟨a, n, us, rfl, rfl, ha, hne, hn, n1, by rw [← ra.length]; exact n2, fun p np => k.tup hf hs (RVs.rep ra _) np⟩
      · cases rx
        obtain ⟨t, rfl⟩ := ry
        obtain ⟨its, r, ⟨⟨cls, dd, data, sl⟩, ho, hc, nn, hd⟩, hsz⟩ := I.tuple ha
        simp only at hc hd
        subst hc hd
        have hni : its ≠ [] := fun e => hne (by subst e; cases r; rfl)
        have hi : its.toArray.isEmpty = false := by
          cases its with
          | nil => exact absurd rfl hni
          | cons a b => rfl
        have c0 : (decide (n < -(2 ^ 63)) || decide (n ≥ 2 ^ 63)) = false := by
          rw [decide_eq_false (by omega), decide_eq_false (by omega)] <;> rfl
        by_cases e1 : n = 1
        · subst e1
          refine wpAny_binaryOp_repeat_ref (T := "tuple") (U := "int") (by decide) ⟨_, ho, rfl⟩ (fun s' => typeIs_int s' 1 t) noFill_tuple_mul F.fills_int_mul F.slot_int_rmul repeat_tuple F.slot_int_index.lookup
            (call_meets F.slot_int_rmul (typeIs_int s 1 t) F.entry_int_rmul (F.args_int_rmul_2 _ _) (int_rmul_tuple 1 t a its.toArray nn dd sl)
              ⟨ho, rfl, ⟨_, ho, rfl⟩, call_meets F.slot_tuple_mul ⟨_, ho, rfl⟩ F.entry_tuple_mul (F.args_tuple_mul_2 _ _) (tuple_mul1 a its.toArray nn dd sl 1 t c0 (by rw [hi]; rfl)) ⟨ho, ?_⟩⟩)
          have hf' : Qd (.tup (List.replicate 1 xs).flatten) S := hf
          rw [rep1] at hf'
          exact ⟨.ref a, H, I, rfl, k.here hf' hs ⟨a, us, rfl, ha, ra⟩⟩
        · have e0 : n = 0 := by omega
          subst e0
          refine wpAny_binaryOp_repeat_ref (T := "tuple") (U := "int") (by decide) ⟨_, ho, rfl⟩ (fun s' => typeIs_int s' 0 t) noFill_tuple_mul F.fills_int_mul F.slot_int_rmul repeat_tuple F.slot_int_index.lookup
            (call_meets F.slot_int_rmul (typeIs_int s 0 t) F.entry_int_rmul (F.args_int_rmul_2 _ _) (int_rmul_tuple 0 t a its.toArray nn dd sl)
              ⟨ho, rfl, ⟨_, ho, rfl⟩, call_meets F.slot_tuple_mul ⟨_, ho, rfl⟩ F.entry_tuple_mul (F.args_tuple_mul_2 _ _) (tuple_mul0 a its.toArray nn dd sl 0 t c0 (by rw [hi]; rfl) (by rfl)) ⟨ho, ?_⟩⟩)
          refine ⟨.ref s.heap.objs.size, _, I.laid (t' := s.toks) (o := .tup []) (fun b ob q => Heap.get?_push_of_some _ q) (Nat.le_refl _) ?_, rfl, k.tup (xs := []) hf hs rfl (I.hok.fresh (Nat.le_refl _))⟩
          exact ⟨by rw [sizeLine_eq]; exact Nat.zero_le _, [], .nil, IsTup.new _ _⟩
    | _ => exact hf.elim
  | str z =>
    cases v2 with
    | int n =>
      cases h1; cases h2
      obtain ⟨⟨n0, n1, n2⟩, hf⟩ := hf
      exact op_mulS pins s σ H _ _ v u Q I rx ry ⟨z, n, rfl, rfl, n0, n1, n2, k.here hf hs rfl⟩
    | _ => exact hf.elim
  | ref a =>
    cases v2 with
    | int n =>
      have e1 : x = .ref a := h1
      subst e1
      cases h2
      cases q : S a with
      | none => simp only [wBin, q] at hf
      | some o =>
        cases o with
        | lst xs =>
          simp only [wBin, q] at hf
          obtain ⟨⟨n0, n1, n2⟩, hf⟩ := hf
          obtain ⟨us, hl, hr⟩ := hs a _ q
          exact op_rep pins s σ H _ _ v u Q I rx ry ⟨a, n, us, rfl, rfl, hl, by omega, by omega, by rw [← line_eq, ← hr.length]; exact n2, fun p np => k.lst hf hs (RVs.rep hr _) np⟩
        | dct kvs t => simp only [wBin, q] at hf
        | ins cc fs => simp only [wBin, q] at hf
    | _ => exact hf.elim
  | _ => exact hf.elim

/-- what each tuple holds -/
theorem itups_key {X : Cx} {pins : List (Addr × Obj)} {σ : L2.St} {s : Shared} {H : Hp} {xs : List Val} {ws : List V} {nss : List (List Int)} (I : Inv X pins σ H s) (e : Val.itups xs = some nss) (r : RVs X.K H xs ws) : ∃ kf : V → List Int, (∀ y ∈ ws, ∃ t, y = V.ref t ∧ SqT X.K H t ((kf y).map V.int) ∧ kf y ∈ nss) ∧ ws.map kf = nss := by
  classical
  have key : ∀ {xs : List Val} {ws : List V} {nss : List (List Int)}, Val.itups xs = some nss → RVs X.K H xs ws → Paired (fun y ns => ∃ t, y = V.ref t ∧ SqT X.K H t (ns.map V.int)) ws nss := by
    intro xs
    induction xs with
    | nil => intro ws nss e r; cases e; cases r; exact .nil
    | cons x xs ih =>
      intro ws nss e r
      obtain ⟨u, ws, rfl, r1, r2⟩ := r
      cases x <;> first | (cases e; done) | skip
      rename_i vs
      simp only [Val.itups] at e
      cases e1 : Val.ints vs with
      | none => rw [e1] at e; cases e
      | some ns =>
        cases e2 : Val.itups xs with
        | none => rw [e1, e2] at e; cases e
        | some rs =>
          rw [e1, e2] at e
          cases e
          obtain ⟨a, us, rfl, hq, hr⟩ := r1
          have := ints_rv e1 hr
          subst this
          exact .cons ⟨a, rfl, hq⟩ (ih e2 r2)
  have p := key e r
  have inj : ∀ (a b : List Int), a.map V.int = b.map V.int → a = b := by
    intro a
    induction a with
    | nil => intro b h; cases b with
      | nil => rfl
      | cons _ _ => cases h
    | cons x a ih => intro b h; cases b with
      | nil => cases h
      | cons y b =>
        rw [List.map_cons, List.map_cons] at h
        injection h with h1 h2
        injection h1 with h1
        rw [h1, ih b h2]
  let kf : V → List Int := fun y => if h : ∃ ns : List Int, ∃ t, y = V.ref t ∧ SqT X.K H t (ns.map V.int) then Classical.choose h else []
  have kfe : ∀ y ns, (∃ t, y = V.ref t ∧ SqT X.K H t (ns.map V.int)) → kf y = ns := by
    intro y ns h
    have hex : ∃ ns : List Int, ∃ t, y = V.ref t ∧ SqT X.K H t (ns.map V.int) := ⟨ns, h⟩
    have h1 : kf y = Classical.choose hex := dif_pos hex
    obtain ⟨t, e1, q1⟩ := Classical.choose_spec hex
    obtain ⟨t', e2, q2⟩ := h
    rw [h1]
    rw [e1] at e2
    cases e2
    exact inj _ _ (I.tuple_inj q1 q2)
  refine ⟨kf, ?_, ?_⟩
  · intro y hy
    have : ∀ {ws : List V} {nss : List (List Int)}, Paired (fun y ns => ∃ t, y = V.ref t ∧ SqT X.K H t (ns.map V.int)) ws nss → y ∈ ws → ∃ ns ∈ nss, ∃ t, y = V.ref t ∧ SqT X.K H t (ns.map V.int) := by
      intro ws nss p
      induction p with
      | nil => intro h; cases h
      | cons r _ ih =>
        intro h
        rcases List.mem_cons.mp h with z | z
        · subst z; exact ⟨_, .head _, r⟩
        · obtain ⟨ns, h1, h2⟩ := ih z
          exact ⟨ns, .tail _ h1, h2⟩
    obtain ⟨ns, h1, t, h2, h3⟩ := this p hy
    have e3 := kfe y ns ⟨t, h2, h3⟩
    exact ⟨t, h2, by rw [e3]; exact h3, by rw [e3]; exact h1⟩
  · have : ∀ {ws : List V} {nss : List (List Int)}, Paired (fun y ns => ∃ t, y = V.ref t ∧ SqT X.K H t (ns.map V.int)) ws nss → ws.map kf = nss := by
      intro ws nss p
      induction p with
      | nil => rfl
      | cons r _ ih => rw [List.map_cons, ih, kfe _ _ r]
    exact this p
/-- the built-in that is called -/
def bf : Bt → Value
  | .len => .builtin "len" | .all => .builtin "all" | .any => .builtin "any" | .tuple => .type "tuple" | .list => .type "list" | .dict => .type "dict" | .sorted => .builtin "sorted"
  | .int => .type "int" | .max1 => .builtin "max" | .max2 => .builtin "max" | .min1 => .builtin "min" | .min2 => .builtin "min" | .sum => .builtin "sum" | .str => .type "str"
/-- a list's content, told without the list -/
def rvl (L : Lay) (b : Bt) : List V → Hp → VK → Prop := fun xs H Q => ∃ (a : Addr) (us : List V) (vs : List Val) (S : Sto) (Qd : KV), xs = [.ref a] ∧ H a = some (.lst us) ∧ RVs L.K H vs us ∧ RS L H S ∧ wBtL b vs S Qd ∧ Cont L H S Qd Q
theorem b_list (hc : X.calm = true) : ∀ b : Bt, b ≠ .dict → CallR X (bf b) (rvl (lay X c) b)
  | .len, _ => by
    intro pins s σ H xs us Q I r h
    obtain ⟨a, ws, vs, S, Qd, rfl, hl, rv, hs, hf, k⟩ := h
    exact call_len_seq pins s σ H _ us Q I r ⟨a, ws, rfl, .inl (SqL.of hl), k.here (v := .int ws.length) (by rw [← rv.length]; exact hf) hs rfl⟩
  | .all, _ => by
    intro pins s σ H xs us Q I r h
    obtain ⟨a, ws, vs, S, Qd, rfl, hl, rv, hs, hf, k⟩ := h
    obtain ⟨bs, e, hf⟩ := withO_some hf
    have q := bls_rv e rv
    subst q
    exact cr_all hc pins s σ H _ us Q I r ⟨a, bs, rfl, SqL.of hl, k.here hf hs rfl⟩
  | .any, _ => by
    intro pins s σ H xs us Q I r h
    obtain ⟨a, ws, vs, S, Qd, rfl, hl, rv, hs, hf, k⟩ := h
    obtain ⟨bs, e, hf⟩ := withO_some hf
    have q := bls_rv e rv
    subst q
    exact cr_any hc pins s σ H _ us Q I r ⟨a, bs, rfl, SqL.of hl, k.here hf hs rfl⟩
  | .tuple, _ => by
    intro pins s σ H xs us Q I r h
    obtain ⟨a, ws, vs, S, Qd, rfl, hl, rv, hs, hf, k⟩ := h
    exact call_tuple_of pins s σ H _ us Q I r ⟨a, ws, rfl, .inl ⟨SqL.of hl, fun p n => k.tup hf hs rv n⟩⟩
  | .list, _ => by
    intro pins s σ H xs us Q I r h
    obtain ⟨a, ws, vs, S, Qd, rfl, hl, rv, hs, hf, k⟩ := h
    exact call_list_of pins s σ H _ us Q I r ⟨a, ws, rfl, .inl (SqL.of hl), fun p n => k.lst hf hs rv n⟩
  | .sum, _ => by
    intro pins s σ H xs us Q I r h
    obtain ⟨a, ws, vs, S, Qd, rfl, hl, rv, hs, hf, k⟩ := h
    obtain ⟨bs, e, hf⟩ := withO_some hf
    have q := ints_rv e rv
    subst q
    exact cr_sum hc pins s σ H _ us Q I r ⟨a, bs, rfl, SqL.of hl, k.here hf hs rfl⟩
  | .max1, _ => by
    intro pins s σ H xs us Q I r h
    obtain ⟨a, ws, vs, S, Qd, rfl, hl, rv, hs, hf, k⟩ := h
    obtain ⟨bs, e, h0, hf⟩ := withO_some hf
    have q := ints_rv e rv
    subst q
    exact cr_max hc pins s σ H _ us Q I r ⟨a, bs, rfl, SqL.of hl, h0, fun m h1 h2 => k.here (hf m h1 h2) hs rfl⟩
  | .min1, _ => by
    intro pins s σ H xs us Q I r h
    obtain ⟨a, ws, vs, S, Qd, rfl, hl, rv, hs, hf, k⟩ := h
    obtain ⟨bs, e, h0, hf⟩ := withO_some hf
    have q := ints_rv e rv
    subst q
    exact cr_min hc pins s σ H _ us Q I r ⟨a, bs, rfl, SqL.of hl, h0, fun m h1 h2 => k.here (hf m h1 h2) hs rfl⟩
  | .sorted, _ => by
    intro pins s σ H xs us Q I r h
    obtain ⟨a, ws, vs, S, Qd, rfl, hl, rv, hs, hf, k⟩ := h
    rcases hf with ⟨ns, e, hf⟩ | ⟨ss, e, hz, hf⟩ | ⟨nss, e, hz, hf⟩
    · have q := ints_rv e rv
      subst q
      exact cr_sortedI pins s σ H _ us Q I r ⟨a, ns, rfl, SqL.of hl, fun ms p h1 h2 n => k.lst (fun p hp => hf p ms h1 h2 hp) hs (rv_ints ms) n⟩
    · have q := strs_rv e rv
      subst q
      exact cr_sortedS pins s σ H _ us Q I r ⟨a, ss, rfl, SqL.of hl, hz, fun ms p h1 h2 n => k.lst (fun p hp => hf p ms h1 h2 hp) hs (rv_strs ms) n⟩
    · classical
      obtain ⟨kf, hk1, hk2⟩ := itups_key I e rv
      refine cr_sortNums pins s σ H _ us Q I r ⟨a, ws, kf, rfl, SqL.of hl, fun y hy => ?_, fun ys p h1 h2 n => ?_⟩
      · obtain ⟨t, e1, e2, e3⟩ := hk1 y hy
        exact ⟨t, e1, e2, hz _ e3⟩
      · have hp : (ys.map kf).Perm nss := by
          rw [← hk2]
          exact h1.map kf
        have hr : RVs (lay X c).K H ((ys.map kf).map fun ns => Val.tup (ns.map .int)) ys := by
          have : ∀ zs : List V, (∀ y ∈ zs, y ∈ ws) → RVs (lay X c).K H ((zs.map kf).map fun ns => Val.tup (ns.map .int)) zs := by
            intro zs
            induction zs with
            | nil => intro _; rfl
            | cons y zs ih =>
              intro hin
              obtain ⟨t, e1, e2, _⟩ := hk1 y (hin y (by simp))
              exact ⟨y, zs, rfl, ⟨t, _, e1, e2, rv_ints _⟩, ih fun z hz => hin z (by simp [hz])⟩
          exact this ys fun y hy => h1.mem_iff.mp hy
        exact k.lst (fun p hp' => hf p _ hp (List.pairwise_map.mpr h2) hp') hs hr n
  | .dict, h => absurd rfl h
  | .int, _ => fun pins s σ H xs us Q I r h => by obtain ⟨a, ws, vs, S, Qd, _, _, _, _, hf, _⟩ := h; exact hf.elim
  | .max2, _ => fun pins s σ H xs us Q I r h => by obtain ⟨a, ws, vs, S, Qd, _, _, _, _, hf, _⟩ := h; exact hf.elim
  | .min2, _ => fun pins s σ H xs us Q I r h => by obtain ⟨a, ws, vs, S, Qd, _, _, _, _, hf, _⟩ := h; exact hf.elim
  | .str, _ => fun pins s σ H xs us Q I r h => by obtain ⟨a, ws, vs, S, Qd, _, _, _, _, hf, _⟩ := h; exact hf.elim
end
end DL

set_option autoImplicit true
set_option Elab.async false
set_option linter.all false
set_option maxRecDepth 100000
set_option maxHeartbeats 2000000
/-! Own layer, part 3f: built-ins of values, methods of lists, stores, isinstance. -/
namespace DL
open PySem PySem.Spec PyProof.Rows L2
section
variable {X : Cx} {c : LC}
def rDictL (L : Lay) : List V → Hp → VK → Prop := fun xs H Q => ∃ (a : Addr) (us : List V) (ps : List (Val × Val)) (S : Sto) (Qd : KV), xs = [.ref a] ∧ H a = some (.lst us) ∧ RVs L.K H (ps.map fun p => .tup [p.1, p.2]) us ∧ RS L H S ∧ (∀ p ∈ ps, isIS p.1 = true) ∧
    (∀ p t, S p = none → Qd (.ref p) (up S p (.dct (dputs [] ps) t))) ∧ Cont L H S Qd Q
def rListD (L : Lay) : List V → Hp → VK → Prop := fun xs H Q => ∃ (a : Addr) (kvs : List (Val × Val)) (t : Nat) (S : Sto) (Qd : KV), xs = [.ref a] ∧ RD L H a kvs t ∧ RS L H S ∧ (∀ p ∈ kvs, isIS p.1 = true) ∧
    (∀ p, S p = none → Qd (.ref p) (up S p (.lst (kvs.map (·.1))))) ∧ Cont L H S Qd Q
def rDictD (L : Lay) : List V → Hp → VK → Prop := fun xs H Q => ∃ (a : Addr) (kvs : List (Val × Val)) (t : Nat) (S : Sto) (Qd : KV), xs = [.ref a] ∧ RD L H a kvs t ∧ RS L H S ∧ (∀ p ∈ kvs, isIS p.1 = true) ∧
    (∀ p t, S p = none → Qd (.ref p) (up S p (.dct kvs t))) ∧ Cont L H S Qd Q
/-- what is asked where the argument is a list -/
theorem wBt_ref {b : Bt} {a : Addr} {S : Sto} {Q : KV} (h : wBt b [.ref a] S Q) : (∃ xs, S a = some (.lst xs) ∧ wBtL b xs S Q) ∨ (b = .len ∧ ∃ kvs t, S a = some (.dct kvs t) ∧ Q (.int kvs.length) S) ∨
    (b = .list ∧ ∃ kvs t, S a = some (.dct kvs t) ∧ (∀ p ∈ kvs, isIS p.1 = true) ∧ ∀ p, S p = none → Q (.ref p) (up S p (.lst (kvs.map (·.1))))) ∨
    (b = .dict ∧ ∃ kvs t, S a = some (.dct kvs t) ∧ (∀ p ∈ kvs, isIS p.1 = true) ∧ ∀ p t, S p = none → Q (.ref p) (up S p (.dct kvs t))) := by
  cases q : S a with
  | none => cases b <;> simp only [wBt, q] at h
  | some o =>
    cases o with
    | lst xs => exact .inl ⟨xs, rfl, by cases b <;> simp only [wBt, q] at h <;> exact h⟩
    | dct kvs t => cases b <;> simp only [wBt, q] at h <;> first | exact .inr (.inl ⟨rfl, kvs, t, rfl, h⟩) | exact .inr (.inr (.inl ⟨rfl, kvs, t, rfl, h.1, h.2⟩)) | exact .inr (.inr (.inr ⟨rfl, kvs, t, rfl, h.1, h.2⟩))
    | ins cc fs => cases b <;> simp only [wBt, q] at h
theorem b_listD (hc : X.calm = true) (hd : CallR X (.type "dict") (rDictL (lay X c))) (b : Bt) : CallR X (bf b) (rvl (lay X c) b) := by
  by_cases hb : b = .dict
  · subst hb
    intro pins s σ H xs us Q I r h
    obtain ⟨a, ws, vs, S, Qd, rfl, hl, rv, hs, hf, k⟩ := h
    obtain ⟨ps, rfl, hi, hq⟩ := hf
    exact hd pins s σ H _ us Q I r ⟨a, ws, ps, S, Qd, rfl, hl, rv, hs, hi, hq, k⟩
  · exact b_list hc b hb
theorem b_vals (hc : X.calm = true) (hL : CallR X (.type "list") (rListD (lay X c))) (hD : CallR X (.type "dict") (rDictL (lay X c))) (hD2 : CallR X (.type "dict") (rDictD (lay X c))) (b : Bt) : CallR X (bf b) (rvs (lay X c) (wBt b)) := by
  intro pins s σ H xs us Q I r h
  obtain ⟨vs, S, Qd, h1, hs, hf, k⟩ := h
  cases vs with
  | nil => cases b <;> exact hf.elim
  | cons v vs =>
    cases vs with
    | nil =>
      obtain ⟨x, rfl, rx⟩ := h1.one
      cases v with
      | ref a =>
        have ex : x = .ref a := rx
        subst ex
        rcases wBt_ref hf with ⟨ys, q, hf⟩ | ⟨rfl, kvs, t, q, hf⟩ | ⟨rfl, kvs, t, q, hi, hf⟩ | ⟨rfl, kvs, t, q, hi, hf⟩
        · obtain ⟨ws, hl, hr⟩ := hs a _ q
          exact b_listD (c := c) hc hD b pins s σ H _ us Q I r ⟨a, ws, ys, S, Qd, rfl, hl, hr, hs, hf, k⟩
        · obtain ⟨u, rfl, ru⟩ := vals1 r
          cases ru
          exact dct_len (c := c) I (hs a _ q) fun tk s' J => ⟨.int _, H, J, ⟨_, rfl⟩, k.here hf hs rfl⟩
        · exact hL pins s σ H _ us Q I r ⟨a, kvs, t, S, Qd, rfl, hs a _ q, hs, hi, hf, k⟩
        · exact hD2 pins s σ H _ us Q I r ⟨a, kvs, t, S, Qd, rfl, hs a _ q, hs, hi, hf, k⟩
      | lst ys =>
        obtain ⟨a, ws, rfl, ha, ra⟩ := rx
        cases b with
        | len => exact call_len_seq pins s σ H _ us Q I r ⟨a, ws, rfl, .inl ha.sq, k.here (v := .int ws.length) (by rw [← ra.length]; exact hf) hs rfl⟩
        | _ => exact hf.elim
      | tup ys =>
        obtain ⟨a, ws, rfl, ha, ra⟩ := rx
        cases b with
        | len => exact call_len_seq pins s σ H _ us Q I r ⟨a, ws, rfl, .inr ha, k.here (v := .int ws.length) (by rw [← ra.length]; exact hf) hs rfl⟩
        | list => exact call_list_of pins s σ H _ us Q I r ⟨a, ws, rfl, .inr ha, fun p n => k.lst hf hs ra n⟩
        | tuple => exact call_tuple_of pins s σ H _ us Q I r ⟨a, ws, rfl, .inr ⟨ha, k.here hf hs ⟨a, ws, rfl, ha, ra⟩⟩⟩
        | _ => exact hf.elim
      | str z =>
        cases rx
        cases b with
        | len => exact call_len_str pins s σ H _ us Q I r ⟨z, rfl, by rw [← line_eq]; exact hf.1, k.here hf.2 hs rfl⟩
        | str => exact hf.elim
        | _ => exact hf.elim
      | int i =>
        cases rx
        cases b with
        | int => exact call_int1 pins s σ H _ us Q I r (.inl ⟨i, rfl, k.here hf hs rfl⟩)
        | str => exact call_str_int pins s σ H _ us Q I r ⟨i, rfl, hf.1, k.here hf.2 hs rfl⟩
        | _ => exact hf.elim
      | bl i =>
        cases rx
        cases b with
        | int => exact call_int1 pins s σ H _ us Q I r (.inr ⟨i, rfl, k.here hf hs rfl⟩)
        | _ => exact hf.elim
      | _ => cases b <;> exact hf.elim
    | cons w ws =>
      cases ws with
      | nil =>
        obtain ⟨x, y, rfl, rx, ry⟩ := h1.two
        cases v with
        | int i =>
          cases w with
          | int j =>
            cases rx; cases ry
            cases b with
            | max2 => exact call_max2 hc pins s σ H _ us Q I r ⟨i, j, rfl, k.here hf hs rfl⟩
            | min2 => exact call_min2 hc pins s σ H _ us Q I r ⟨i, j, rfl, k.here hf hs rfl⟩
            | _ => exact hf.elim
          | _ => cases b <;> exact hf.elim
        | _ => cases b <;> exact hf.elim
      | cons z zs => cases v <;> cases w <;> cases b <;> exact hf.elim
end
end DL

set_option autoImplicit true
set_option Elab.async false
set_option linter.all false
set_option maxRecDepth 100000
set_option maxHeartbeats 2000000
/-! Own layer, part 3g: methods of lists, stores, isinstance. -/
namespace DL
open PySem PySem.Spec PyProof.Rows L2
/-- a method of a list by values -/
def rvm (L : Lay) (m : Mt) : V → List V → Hp → VK → Prop := fun x xs H Q => ∃ (v : Val) (vs : List Val) (S : Sto) (Qd : KV), RV L.K H v x ∧ RVs L.K H vs xs ∧ RS L H S ∧ wMt m v vs S Qd ∧ Cont L H S Qd Q
section
variable {X : Cx} {c : LC}
theorem m_append : MtR X "list.append" (rvm (lay X c) .append) := by
  intro pins s σ H x xs v us Q I rx rv h
  obtain ⟨w, vs, S, Qd, h1, h2, hs, hf, k⟩ := h
  cases w with
  | ref a =>
    cases h1
    cases vs with
    | nil => exact hf.elim
    | cons y ys =>
      cases ys with
      | nil =>
        obtain ⟨u, rfl, ru⟩ := h2.one
        cases q : S a with
        | none => simp only [wMt, q] at hf
        | some o =>
          cases o with
          | lst zs =>
            simp only [wMt, q] at hf
            obtain ⟨ws, hl, hr⟩ := hs a _ q
            exact mt_append pins s σ H _ _ v us Q I rx rv ⟨a, ws, u, rfl, rfl, hl, by rw [← line_eq, ← hr.length]; exact hf.1, k.set hf.2 hs hl q (RVs.append hr (RVs.of1 ru)) rfl⟩
          | dct kvs t => simp only [wMt, q] at hf
          | ins cc fs => simp only [wMt, q] at hf
      | cons _ _ => exact hf.elim
  | _ => exact hf.elim
theorem m_pop : MtR X "list.pop" (rvm (lay X c) .pop) := by
  intro pins s σ H x xs v us Q I rx rv h
  obtain ⟨w, vs, S, Qd, h1, h2, hs, hf, k⟩ := h
  cases w with
  | ref a =>
    cases h1
    cases vs with
    | nil =>
      cases h2
      cases q : S a with
      | none => simp only [wMt, q] at hf
      | some o =>
        cases o with
        | lst zs =>
          simp only [wMt, q] at hf
          obtain ⟨y, e, hf⟩ := withO_some hf
          obtain ⟨ws, hl, hr⟩ := hs a _ q
          obtain ⟨u, e2, ru⟩ := hr.get e
          exact mt_pop pins s σ H _ _ v us Q I rx rv ⟨a, ws, u, rfl, rfl, hl, by rw [← hr.length]; exact e2, k.set hf hs hl q hr.dropLast ru⟩
        | dct kvs t => simp only [wMt, q] at hf
        | ins cc fs => simp only [wMt, q] at hf
    | cons y ys => exact hf.elim
  | _ => exact hf.elim
theorem canLay_findI {f : Val → Bool} : ∀ {xs : List Val} {n j : Nat}, findI f xs n = some j → ∃ i x, j = n + i ∧ xs[i]? = some x ∧ f x = true ∧ ∀ m y, m < i → xs[m]? = some y → f y = false
  | [], n, j, h => by cases h
  | x :: xs, n, j, h => by
    unfold findI at h
    cases e : f x with
    | true =>
      rw [if_pos e] at h
      cases h
      exact ⟨0, x, rfl, rfl, e, fun m y hm => by omega⟩
    | false =>
      rw [if_neg (by rw [e]; decide)] at h
      obtain ⟨i, y, h1, h2, h3, h4⟩ := canLay_findI h
      refine ⟨i + 1, y, by omega, by simpa using h2, h3, fun m z hm hz => ?_⟩
      cases m with
      | zero => simp at hz; rw [← hz]; exact e
      | succ m => exact h4 m z (by omega) (by simpa using hz)
theorem pys_get : ∀ (xs : List Val) (i : Nat), (Val.pys xs)[i]? = (xs[i]?).map Val.py
  | [], i => by simp [Val.pys]
  | x :: xs, 0 => by simp [Val.pys]
  | x :: xs, i + 1 => by simp [Val.pys, pys_get xs i]
theorem m_index (hu : X.A.units + 70 < cLine) : MtR X "list.index" (rvm (lay X c) .index) := by
  intro pins s σ H x xs v us Q I rx rv h
  obtain ⟨w, vs, S, Qd, h1, h2, hs, hf, k⟩ := h
  cases w with
  | ref a =>
    cases h1
    cases vs with
    | nil => exact hf.elim
    | cons y ys =>
      cases ys with
      | nil =>
        obtain ⟨u, rfl, ru⟩ := h2.one
        cases q : S a with
        | none => simp only [wMt, q] at hf
        | some o =>
          cases o with
          | lst zs =>
            simp only [wMt, q, Bool.and_eq_true, decide_eq_true_eq] at hf
            obtain ⟨⟨⟨⟨⟨⟨d1, d2⟩, d3⟩, d4⟩, d5⟩, d6⟩, hf⟩ := hf
            obtain ⟨j, ej, hf⟩ := withO_some hf
            obtain ⟨ws, hl, hr⟩ := hs a _ q
            obtain ⟨i, z, e0, e1, e2, e3⟩ := canLay_findI ej
            rw [Nat.zero_add] at e0
            subst e0
            refine mt_indexD (by omega) pins s σ H _ _ v us Q I rx rv ⟨a, u, y.py, Val.pys zs, j, z.py, rfl, rfl, Dp.lst (SqL.of hl) (dps_of zs ws d2 hr), dp_of y u d1 ru, ?_, ?_, by rw [pys_get, e1]; rfl, e2, fun m z' hm hz => ?_, k.here (v := .int j) hf hs rfl⟩
            · unfold SeqAt.shaped
              rw [Bool.and_eq_true]
              refine ⟨d6, decide_eq_true ?_⟩
              show PyData.depthAll (Val.pys zs) + 1 ≤ 64
              rw [pys_depth]
              omega
            · unfold SeqAt.shaped
              rw [Bool.and_eq_true]
              refine ⟨d5, decide_eq_true ?_⟩
              rw [py_depth]
              omega
            · rw [pys_get] at hz
              cases ez : zs[m]? with
              | none => rw [ez] at hz; cases hz
              | some y' =>
                rw [ez] at hz
                cases hz
                exact e3 m y' hm ez
          | dct kvs t => simp only [wMt, q] at hf
          | ins cc fs => simp only [wMt, q] at hf
      | cons _ _ => exact hf.elim
  | _ => exact hf.elim
theorem m_reverse : MtR X "list.reverse" (rvm (lay X c) .reverse) := by
  intro pins s σ H x xs v us Q I rx rv h
  obtain ⟨w, vs, S, Qd, h1, h2, hs, hf, k⟩ := h
  cases w with
  | ref a =>
    cases h1
    cases vs with
    | nil =>
      cases h2
      cases q : S a with
      | none => simp only [wMt, q] at hf
      | some o =>
        cases o with
        | lst zs =>
          simp only [wMt, q] at hf
          obtain ⟨ws, hl, hr⟩ := hs a _ q
          exact mt_reverse pins s σ H _ _ v us Q I rx rv ⟨a, ws, rfl, rfl, hl, k.set hf hs hl q hr.reverse rfl⟩
        | dct kvs t => simp only [wMt, q] at hf
        | ins cc fs => simp only [wMt, q] at hf
    | cons y ys => exact hf.elim
  | _ => exact hf.elim
/-- xs.extend(t), t a tuple -/
theorem list_extend_tup (l : Addr) (items : Array Value) (n : Nat) (b : Addr) (items2 : Array Value) (n2 : Nat) (dd : Option Addr) (sl : Array (Option Value)) (hs0 : ¬(!items.isEmpty && Builtin.List.listTooLong (items.size + items2.size)) = true) (hs1 : items.size ≤ sizeLine) (hs2 : items.size + items2.size ≤ sizeLine + 1) :
    Meets (Builtin.«list.extend» ⟨[.ref l, .ref b], []⟩) (fun _ R s => s.heap.get? l = some { cls := .type "list", dict := none, data := .seq items n, slots := #[] } ∧ s.heap.get? b = some { cls := .type "tuple", dict := dd, data := .seq items2 n2, slots := sl } ∧ R (.ok (.ret Value.none)) { s with heap := s.heap.update l (Obj.mapSeq fun x => x ++ items2), toks := s.toks }) :=
  .of_wp fun prog w A R s h => by
    obtain ⟨hp, g, d, tk, os⟩ := s; obtain ⟨hl, hb, h⟩ := h; have f1 := AutoSeq1.idx_int; have f2 := AutoSeq1.sub_tuple_tuple; have f3 := AutoSeq1.sub_list_list; have f4 := AutoSeq1.sub_tuple_list; have f5 := AutoSeq1.sub_list_tuple;
    have hz' : (items ++ items2).size ≤ sizeLine + 1 := by rw [Array.size_append]; exact hs2
    wp_walk using (wpAny_updateSeq hl rfl (hz := hs1) (_hz' := hz')), wpAny_loadPart' hl, wpAny_loadPart' hb; exact ⟨_, rfl, h⟩
theorem extend_tup {pins : List (Addr × Obj)} {s : Shared} {σ : L2.St} {H : Hp} {l b : Addr} {xs zs : List V} {Q : VK} (I : Inv X pins σ H s) (hH : H l = some (.lst xs)) (hB : SqT X.K H b zs) (hz : xs.length + zs.length ≤ sizeLine) (q : Q .non (upd H l (.lst (xs ++ zs)))) :
    wpAny (model X.prog X.w) X.A (call (.builtin "list.extend") [.ref l, .ref b]) (EP X pins σ Q) X.xe s := by
  obtain ⟨z, its, n, r, hl, e⟩ := I.lstM hH
  obtain ⟨its2, r2, p2, _⟩ := I.tuple hB
  obtain ⟨⟨cls, dd, data, sl⟩, e2, hc, n2, hd⟩ := id p2
  simp only at hc hd
  subst hc hd
  have hl2 := r2.length
  have hsz : its.toArray.size + its2.toArray.size ≤ sizeLine := by rw [List.size_toArray, List.size_toArray]; omega
  have hlong : ¬ (!its.toArray.isEmpty && Builtin.List.listTooLong (its.toArray.size + its2.toArray.size)) = true := by
    rw [notLongL hsz, Bool.and_false]
    exact Bool.false_ne_true
  refine call_meets F.slot_list_extend ⟨_, e, rfl⟩ F.entry_list_extend (F.args_list_extend_2 _ _)
    (list_extend_tup l its.toArray n b its2.toArray n2 dd sl hlong (by rw [List.size_toArray]; omega) (by omega)) ⟨e, e2, ?_⟩
  refine ⟨.non, _, I.lset (its' := its ++ its2) hH e (by simp) (r.append r2) ?_, rfl, q⟩
  rw [List.length_append]
  omega
theorem m_extend : MtR X "list.extend" (rvm (lay X c) .extend) := by
  intro pins s σ H x xs v us Q I rx rv h
  obtain ⟨w, vs, S, Qd, h1, h2, hs, hf, k⟩ := h
  cases w with
  | ref a =>
    cases h1
    cases vs with
    | nil => exact hf.elim
    | cons y ys =>
      cases ys with
      | nil =>
        obtain ⟨u, rfl, ru⟩ := h2.one
        cases y with
        | ref b =>
          have eu : u = .ref b := ru
          subst eu
          cases q : S a with
          | none => simp only [wMt, q] at hf
          | some o =>
            cases o with
            | lst zs =>
              cases q2 : S b with
              | none => simp only [wMt, q, q2] at hf
              | some o2 =>
                cases o2 with
                | lst ts =>
                  simp only [wMt, q, q2] at hf
                  obtain ⟨ws, hl, hr⟩ := hs a _ q
                  obtain ⟨ps, hl2, hr2⟩ := hs b _ q2
                  exact mt_extend pins s σ H _ _ v us Q I rx rv ⟨a, b, ws, ps, rfl, rfl, hl, hl2, by rw [← line_eq, ← hr.length, ← hr2.length]; exact hf.2.1, k.set hf.2.2 hs hl q (RVs.append hr hr2) rfl⟩
                | dct kvs t => simp only [wMt, q, q2] at hf
                | ins cc fs => simp only [wMt, q, q2] at hf
            | dct kvs t => simp only [wMt, q] at hf
            | ins cc fs => simp only [wMt, q] at hf
        | tup ts =>
          obtain ⟨b, ps, rfl, hb, hr2⟩ := ru
          cases q : S a with
          | none => simp only [wMt, q] at hf
          | some o =>
            cases o with
            | lst zs =>
              simp only [wMt, q] at hf
              obtain ⟨ws, hl, hr⟩ := hs a _ q
              cases rx
              obtain ⟨u, rfl, ru⟩ := rv.one
              cases ru
              exact extend_tup I hl hb (by rw [← line_eq, ← hr.length, ← hr2.length]; exact hf.1) (k.set hf.2 hs hl q (RVs.append hr hr2) rfl)
            | dct kvs t => simp only [wMt, q] at hf
            | ins cc fs => simp only [wMt, q] at hf
        | _ => exact hf.elim
      | cons _ _ => cases y <;> exact hf.elim
  | _ => exact hf.elim

/-! ### o[i] = v -/
def rvset (L : Lay) : V → V → V → Hp → (Hp → Prop) → Prop := fun o i v H Q => ∃ (a b d : Val) (S : Sto) (Qd : Sto → Prop), RV L.K H a o ∧ RV L.K H b i ∧ RV L.K H d v ∧ RS L H S ∧ wSetI a b d S Qd ∧ ∀ S' H', Stp L H S H' S' → Qd S' → RS L H' S' → Q H'
theorem p_set (hu : X.A.units + 120 < cLine) : PSet X (rvset (lay X c)) := by
  intro pins s σ H o i v ov iv u Q I ro ri rv h
  obtain ⟨a, b, d, S, Qd, h1, h2, h3, hs, hf, k⟩ := h
  cases a with
  | ref p =>
    have e1 : o = .ref p := h1
    subst e1
    cases q : S p with
    | none => simp only [wSetI, q] at hf
    | some ob =>
      cases ob with
      | lst xs =>
        cases b with
        | int j =>
          simp only [wSetI, q] at hf
          obtain ⟨m, e, hf⟩ := withO_some hf
          obtain ⟨us, hl, hr⟩ := hs p _ q
          cases h2
          have t : Tp X.K H (upd H p (.lst (us.set m v))) := Tp.write hl (fun _ e => by cases e) (fun _ _ e => by cases e)
          exact set_list pins s σ H _ _ _ ov iv u Q I ro ri rv ⟨p, us, j, m, rfl, rfl, hl, by rw [← hr.length]; exact e,
            k _ _ (Stp.write hl (fun _ e => by cases e) (fun _ _ e => by cases e) q) hf (RS.upd hs t ⟨_, upd_same, RVs.mono t _ _ (RVs.set h3 m hr)⟩)⟩
        | _ => simp only [wSetI, q] at hf
      | dct kvs t =>
        simp only [wSetI, q] at hf
        cases ro
        exact dct_set (c := c) (by omega) I hs q hf.1 h2 ri h3 rv hf.2.1 fun s' H' t' J st rs' => ⟨H', J, k _ _ st (hf.2.2 t') rs'⟩
      | ins cc fs => simp only [wSetI, q] at hf
  | _ => exact hf.elim

/-! ### isinstance -/
def tyN : Ty → String
  | .int => "int" | .bool => "bool" | .str => "str" | .tuple => "tuple" | .list => "list"
theorem kb_int : ∀ t : Ty, kitB "int" (tyN t) = some (decide (t = .int))
  | .int => by decide +kernel
  | .bool => by decide +kernel
  | .str => by decide +kernel
  | .tuple => by decide +kernel
  | .list => by decide +kernel
theorem kb_bool : ∀ t : Ty, kitB "bool" (tyN t) = some (decide (t = .int) || decide (t = .bool))
  | .int => by decide +kernel
  | .bool => by decide +kernel
  | .str => by decide +kernel
  | .tuple => by decide +kernel
  | .list => by decide +kernel
theorem kb_str : ∀ t : Ty, kitB "str" (tyN t) = some (decide (t = .str))
  | .int => by decide +kernel
  | .bool => by decide +kernel
  | .str => by decide +kernel
  | .tuple => by decide +kernel
  | .list => by decide +kernel
theorem kb_tuple : ∀ t : Ty, kitB "tuple" (tyN t) = some (decide (t = .tuple))
  | .int => by decide +kernel
  | .bool => by decide +kernel
  | .str => by decide +kernel
  | .tuple => by decide +kernel
  | .list => by decide +kernel
theorem kb_list : ∀ t : Ty, kitB "list" (tyN t) = some (decide (t = .list))
  | .int => by decide +kernel
  | .bool => by decide +kernel
  | .str => by decide +kernel
  | .tuple => by decide +kernel
  | .list => by decide +kernel
theorem kb_none : ∀ t : Ty, kitB "NoneType" (tyN t) = some false
  | .int => by decide +kernel
  | .bool => by decide +kernel
  | .str => by decide +kernel
  | .tuple => by decide +kernel
  | .list => by decide +kernel
def rvisi (L : Lay) (t : Ty) : List V → Hp → VK → Prop := fun xs H Q => ∃ (x : V) (v : Val) (S : Sto) (Qd : KV), xs = [x, .ty (tyN t)] ∧ RV L.K H v x ∧ RS L H S ∧ tyKnown v S = true ∧ Qd (.bl (tyOf t v S)) S ∧ Cont L H S Qd Q
theorem tyx_tup {K : PySem.W.Frag} {H : Hp} {a : Addr} {vs : List V} (h : SqT K H a vs) : TyX K H (.ref a) (.type "tuple") := by
  rcases h with (h | ⟨o, h⟩) | ⟨o, its, n, h1, h2, _⟩
  · exact .base (.tup h)
  · exact .fTuple h
  · exact .kTuple h1 h2
theorem b_isi (t : Ty) : CallR X (.builtin "isinstance") (rvisi (lay X c) t) := by
  intro pins s σ H xs us Q I r h
  obtain ⟨x, v, S, Qd, rfl, h1, hs, kn, hf, k⟩ := h
  have go : ∀ (T : String) (b : Bool), TyX X.K H x (.type T) → kitB T (tyN t) = some b → b = tyOf t v S → wpAny (model X.prog X.w) X.A (call (.builtin "isinstance") us) (EP X pins σ Q) X.xe s := fun T b ty e eb =>
    call_isi pins s σ H _ us Q I r ⟨x, .ty (tyN t), .type T, .type (tyN t), b, rfl, .ty _, ty, kit_ty e, k.here (v := .bl b) (by rw [eb]; exact hf) hs rfl⟩
  cases v with
  | non => cases h1; exact go _ _ (.base .non) (kb_none t) (by cases t <;> rfl)
  | bl b => cases h1; exact go _ _ (.base (.bl b)) (kb_bool t) (by cases t <;> rfl)
  | int i => cases h1; exact go _ _ (.base (.int i)) (kb_int t) (by cases t <;> rfl)
  | str z => cases h1; exact go _ _ (.base (.str z)) (kb_str t) (by cases t <;> rfl)
  | tup ys =>
    obtain ⟨a, ws, rfl, ha, ra⟩ := h1
    exact go _ _ (tyx_tup ha) (kb_tuple t) (by cases t <;> rfl)
  | ref a =>
    have ex : x = .ref a := h1
    subst ex
    cases q : S a with
    | none => simp only [tyKnown, q] at kn; cases kn
    | some o =>
      cases o with
      | lst ys =>
        obtain ⟨ws, hl, hr⟩ := hs a _ q
        exact go _ _ (.base (.lst hl)) (kb_list t) (by cases t <;> simp [tyOf, q])
      | dct kvs t => simp only [tyKnown, q] at kn; cases kn
      | ins cc fs => simp only [tyKnown, q] at kn; cases kn
  | lst _ => cases kn
end
end DL

set_option autoImplicit true
set_option Elab.async false
set_option linter.all false
set_option maxRecDepth 100000
set_option maxHeartbeats 2000000
/-! Own layer, part 3u: how often a thing stands in a list. -/
namespace DL
open PySem PySem.Spec PyProof.Rows L2
theorem countV_pys (x : Val) : ∀ ys : List Val, (Val.pys ys).countP (fun y => PyData.eqv y x.py) = countV x ys
  | [] => rfl
  | y :: ys => by
    rw [Val.pys, List.countP_cons, countV_pys x ys, countV]
    unfold Val.veq
    omega
section
variable {X : Cx} {c : LC}
theorem m_count (hu : X.A.units + 70 < cLine) : MtR X "list.count" (rvm (lay X c) .count) := by
  intro pins s σ H x xs v us Q I rx rv h
  obtain ⟨w, vs, S, Qd, h1, h2, hs, hf, k⟩ := h
  cases w with
  | ref a =>
    cases h1
    cases vs with
    | nil => exact hf.elim
    | cons y ys =>
      cases ys with
      | nil =>
        obtain ⟨u, rfl, ru⟩ := h2.one
        cases q : S a with
        | none => simp only [wMt, q] at hf
        | some o =>
          cases o with
          | lst zs =>
            simp only [wMt, q, Bool.and_eq_true, decide_eq_true_eq] at hf
            obtain ⟨⟨⟨d1, d2⟩, d3⟩, hf⟩ := hf
            obtain ⟨ws, hl, hr⟩ := hs a _ q
            cases rx
            obtain ⟨uy, rfl, ruy⟩ := rv.one
            obtain ⟨bs, e1⟩ := Dp.reads I y.py u uy (dp_of y u d1 ru) ruy
            obtain ⟨its, rits, pl, hlen⟩ := I.list (SqL.of hl)
            obtain ⟨as, e2⟩ := Dp.readsAll I (Val.pys zs) _ its (dps_of zs ws d2 hr) rits
            obtain ⟨o, n, g1, g2, g3, g4⟩ := pl
            refine PySem.SeqAt.count_list_data (vs := its.toArray) ⟨o, g1, g2, n, g4⟩ (by simpa using e2) e1 (pys_plain zs) (py_plain y) ?_ ?_
            · rw [py_depth]
              omega
            · exact ⟨.int (countV y zs), H, I.tok _, ⟨s.toks, by rw [countV_pys]⟩, k.here (v := .int (countV y zs)) hf hs rfl⟩
          | dct kvs t => simp only [wMt, q] at hf
          | ins cc fs => simp only [wMt, q] at hf
      | cons _ _ => exact hf.elim
  | _ => exact hf.elim
end
end DL

set_option autoImplicit true
set_option Elab.async false
set_option linter.all false
set_option maxRecDepth 100000
set_option maxHeartbeats 2000000
/-! Own layer, part 3h: setdefault, get, the empty dict. -/
namespace DL
open PySem PySem.Spec PyProof.Rows L2

section
variable {prog : Program} {w : World} {A : Around} {E : Value → Shared → Prop} {s : Shared} {K : Type} [DecidableEq K] {knd : KeyKind prog w K}
/-- d.setdefault(key, x) over the pairs in order -/
theorem sd_pairs {d : Addr} {ps : List (K × Value)} {l : K} {u x : Value} {Q : Value → Shared → Prop} (hu : knd.is l u = true) (dd : s.heap.DictOf knd d ps) (few : ps.length ≤ sizeLine)
    (there : ∀ y, valueAt ps l = some y → Q y { s with toks := s.toks + 1 })
    (new : valueAt ps l = none → ∀ h2, h2.DictOf knd d (stored ps l x) → Heap.SameBut d s.heap h2 → Q x { s with heap := h2, toks := s.toks + 1 }) : wpAny (model prog w) A (dictSetDefault d u x) Q E s := by
  have mo := Heap.DictOf.mapOf dd
  obtain ⟨ob, ents, tm, at1, cls1, dat1, keys1, prs1, nd1⟩ := dd
  have few2 : ents.size ≤ sizeLine := by
    have e1 := prs1.length
    have e2 : ents.toList.length = ents.size := by simp
    omega
  have le1 : s.heap.DictLe d sizeLine := fun ob2 es2 t2 a2 d2 => by
    rw [at1] at a2
    cases a2
    rw [dat1] at d2
    cases d2
    exact few2
  cases hv : valueAt ps l with
  | some y => exact wpAny_dictSetDefault_of (hz := le1) hu mo (fun z hz => there z hz) fun hn => by rw [hv] at hn; cases hn
  | none =>
    unfold dictSetDefault
    try with_reducible refine wpAny_holding ?_
    refine wpAny_bind (knd.pyHash hu (wpAny_bind (wpAny_dictFind_of (s := { s with toks := s.toks + 1 }) hu at1 dat1 keys1 ?_)))
    have same : (ents.findIdx? fun e => knd.is l e.key) = ps.findIdx? fun p => decide (p.1 = l) := by
      rw [← prs1.findIdx l]; obtain ⟨z⟩ := ents; simp
    cases hi : ents.findIdx? fun e => knd.is l e.key with
    | some i =>
      exfalso
      rw [same] at hi
      have hany := any_of_findIdx_some hi
      rw [List.any_eq_true] at hany
      obtain ⟨p, hp, e⟩ := hany
      have e := of_decide_eq_true e
      have none1 : (ps.find? fun q => decide (q.1 = l)) = none := by simpa [valueAt] using hv
      have no := List.find?_eq_none.mp none1 p hp
      simp [e] at no
    | none =>
      have off : l ∉ ps.map (·.1) := not_mem_of_findIdx_none (same ▸ hi)
      have off2 : ¬ (ps.any fun p => decide (p.1 = l)) = true := fun z => by
        obtain ⟨p, hp, e⟩ := List.any_eq_true.mp z
        exact off (List.mem_map.mpr ⟨p, hp, of_decide_eq_true e⟩)
      refine wpAny_bind (wpAny_rule (wpAny_bind (wpAny_updateDictKeys (hz := few2) (s := { s with toks := s.toks + 1 }) at1 dat1 (wpAny_pure (new hv _
        ⟨_, _, tm + 1, Heap.get?_update_self _ at1 (Obj.isFreed_of_dict (Obj.data_mapDictKeys dat1 _)), cls1.mapDictKeys _, Obj.data_mapDictKeys dat1 _, keys1.push hu _, ?_, ?_⟩ (Heap.SameBut.update ..))))))
      · rw [stored, if_neg off2]
        have more := prs1.append hu (knd.hash l) x
        obtain ⟨z⟩ := ents
        simpa using more
      · rw [stored, if_neg off2, List.map_append, List.nodup_append]
        refine ⟨nd1, by simp, fun p hp q hq e => ?_⟩
        simp only [List.map_cons, List.map_nil, List.mem_singleton] at hq
        exact off (by rw [← hq, ← e]; exact hp)
theorem meets_sd {d : Addr} {l : K} {u : Value} (hu : knd.is l u = true) (hd : (d == sysModules) = false) (x : Value) :
    MeetsIn prog w (Builtin.«dict.setdefault» ⟨[.ref d, u, x], []⟩) (fun _ R s => ∃ ps, s.heap.DictOf knd d ps ∧ ps.length ≤ sizeLine ∧
      (∀ y, valueAt ps l = some y → R (.ok (.ret y)) { s with toks := s.toks + 1 }) ∧
      (valueAt ps l = none → ∀ h2, h2.DictOf knd d (stored ps l x) → Heap.SameBut d s.heap h2 → R (.ok (.ret x)) { s with heap := h2, toks := s.toks + 1 })) :=
  .of_wp fun A R s ⟨ps, dd, few, there, new⟩ => by
    unfold Builtin.«dict.setdefault» Builtin.Dict.keyAndDefault
    refine wpAny_bind (wpAny_bind (wpAny_notOrdered_dict dd.typeIs (wpAny_pure ?_)))
    show wpAny _ _ (if (d == sysModules) = true then _ else (dictSetDefault d u x >>= _)) _ _ s
    rw [if_neg (by rw [hd]; exact Bool.false_ne_true)]
    exact wpAny_bind (sd_pairs hu dd few (fun y hy => wpAny_pure ⟨y, rfl, there y hy⟩) fun hn h2 d2 sb => wpAny_pure ⟨x, rfl, new hn h2 d2 sb⟩)
theorem call_sd {d : Addr} {ps : List (K × Value)} {l : K} {u x : Value} {Q : Value → Shared → Prop} (hu : knd.is l u = true) (hd : (d == sysModules) = false) (dd : s.heap.DictOf knd d ps) (few : ps.length ≤ sizeLine)
    (there : ∀ y, valueAt ps l = some y → Q y { s with toks := s.toks + 1 })
    (new : valueAt ps l = none → ∀ h2, h2.DictOf knd d (stored ps l x) → Heap.SameBut d s.heap h2 → Q x { s with heap := h2, toks := s.toks + 1 }) : wpAny (model prog w) A (call (.builtin "dict.setdefault") [.ref d, u, x]) Q E s :=
  call_meetsIn F.slot_dict_setdefault dd.typeIs F.entry_dict_setdefault (F.args_dict_setdefault_3 _ _ _) (meets_sd hu hd x) ⟨ps, dd, few, there, new⟩
end
section
variable {X : Cx} {c : LC} {A : Around} {E : Value → Shared → Prop} {pins : List (Addr × Obj)} {σ : L2.St} {H : Hp} {s : Shared} {S : Sto} {a : Addr} {kvs : List (Val × Val)} {t : Nat} {k v : Val} {x y : V} {u r : Value}
theorem dct_sd {Q : Value → Shared → Prop} (hu : A.units + 10 < cLine) (I : Inv X pins σ H s) (rs : RS (lay X c) H S) (hs : S a = some (.dct kvs t)) (ok : kindOk kvs k = true) (rk : RV X.K H k x) (ru : RelV x u) (rv : RV X.K H v y) (rr : RelV y r) (hz : kvs.length < line)
    (there : ∀ w, dget kvs k = some w → ∀ s' w' z, Inv X pins σ H s' → RV X.K H w w' → RelV w' z → Q z s')
    (new : dget kvs k = none → ∀ s' H' t', Inv X pins σ H' s' → Stp (lay X c) H S H' (up S a (.dct (dput kvs k v) t')) → RS (lay X c) H' (up S a (.dct (dput kvs k v) t')) → Q r s') : wpAny (model X.prog X.w) A (call (.builtin "dict.setdefault") [.ref a, u, r]) Q E s := by
  have rd : RD (lay X c) H a kvs t := rs a _ hs
  have hl : (dput kvs k v).length ≤ sizeLine := by
    have := dput_length k v kvs
    rw [line_eq] at hz
    omega
  cases nt : isTup k with
  | false =>
    obtain ⟨es, B, lvs, l, h1, h2, h3, hk, d⟩ := rd.leaf ok nt
    have q := leaf_get hk d.rep
    have dd := dictOf_of I h1 d
    refine call_sd ((encOf X.prog X.w B).is hk rk ru) h2 dd (by rw [← Paired.length d.rep]; exact h3) (fun z hz' => ?_) fun hn h' dd' sb => ?_
    · cases e : dget kvs k with
      | none => rw [e] at q; rw [q.none_of] at hz'; cases hz'
      | some w =>
        rw [e] at q
        obtain ⟨z2, w', e2, rw', rz⟩ := q.some_of
        rw [hz'] at e2
        cases e2
        exact there w e _ w' z (I.tok _) rw' rz
    · cases e : dget kvs k with
      | some w =>
        rw [e] at q
        obtain ⟨z2, w', e2, rw', rz⟩ := q.some_of
        rw [hn] at e2
        cases e2
      | none =>
        obtain ⟨o, es', t', e1, e2, e3, e4, e5, e6⟩ := dd'
        have J := dct_write (t' := t') (tk := s.toks + 1) I h1 sb ⟨o, e1, e2, e3⟩
        have tp : Tp X.K H (upd H a (dctO a es' t')) := Tp.write h1 notTup_dct.1 notTup_dct.2
        exact new e _ _ t' J (Stp.write h1 notTup_dct.1 notTup_dct.2 hs) (RS.upd rs tp (leaf_new (L := lay X c) (B := B) h1 h2 hl e4 e5 e6 (leaf_put hk rv rr d.nd d.rep)))
  | true =>
    obtain ⟨es, xs, h1, h2, h3, d⟩ := rd.tup ok nt
    obtain ⟨b, rfl⟩ := isTup_ref nt rk
    cases ru
    have q := tup_get (k := k) d.rep
    have at_none : ∀ p, atKey xs k.nk = some p → valueAt (pairsH xs) k.nk = some p.2 := fun p hp => by rw [valueAt_pairsH, hp]; rfl
    refine call_setdefault_heap (knd := nestedKind X.prog X.w) (hsz := by rw [← Paired.length d.rep]; exact h3) (by show A.units + 1 + 8 < cLine; omega) (keyH_of I (kind_mod ok).1 (kind_mod ok).2 rk) h2 (dictH_of I h1 d) (fun p hp => ?_) fun hn h' dd' sb => ?_
    · cases e : dget kvs k with
      | none => rw [e] at q; have z := at_none p hp; rw [q.none_of] at z; cases z
      | some w =>
        rw [e] at q
        obtain ⟨z2, w', e2, rw', rz⟩ := q.some_of
        rw [at_none p hp] at e2
        cases e2
        exact there w e _ w' p.2 (I.tok _) rw' rz
    · cases e : dget kvs k with
      | some w =>
        rw [e] at q
        obtain ⟨z2, w', e2, rw', rz⟩ := q.some_of
        rw [valueAt_pairsH, hn] at e2
        cases e2
      | none =>
        obtain ⟨o, es', t', e1, e2, e3, e4, e5, e6⟩ := dd'
        have J := dct_write (t' := t') (tk := s.toks + (nestedKind X.prog X.w).draws k.nk) I h1 sb ⟨o, e1, e2, e3⟩
        have tp : Tp X.K H (upd H a (dctO a es' t')) := Tp.write h1 notTup_dct.1 notTup_dct.2
        exact new e _ _ t' J (Stp.write h1 notTup_dct.1 notTup_dct.2 hs) (RS.upd rs tp (tup_new (L := lay X c) h1 h2 hl e4 e6 (tup_put nt (kind_mod ok).1 (kind_mod ok).2 rk rv rr d.nd d.rep)))
end
end DL

set_option autoImplicit true
set_option Elab.async false
set_option linter.all false
set_option maxRecDepth 100000
set_option maxHeartbeats 2000000
/-! Own layer, part 3i: displays of dicts; methods of dicts and lists. -/
namespace DL
open PySem PySem.Spec PyProof.Rows L2
section
variable {X : Cx} {c : LC}
theorem m_setdefault (hu : X.A.units + 10 < cLine) : MtR X "dict.setdefault" (rvm (lay X c) .setdefault) := by
  intro pins s σ H x xs v us Q I rx rv h
  obtain ⟨w, vs, S, Qd, h1, h2, hs, hf, k⟩ := h
  cases w with
  | ref a =>
    cases h1
    match vs, hf, h2 with
    | [y, z], hf, h2 =>
      obtain ⟨u1, u2, rfl, r1, r2⟩ := h2.two
      cases q : S a with
      | none => simp only [wMt, q] at hf
      | some o =>
        cases o with
        | dct kvs t =>
          simp only [wMt, q] at hf
          obtain ⟨ok, hz, hf⟩ := hf
          cases rx
          cases rv with
          | cons rv1 rr =>
            cases rr with
            | cons rv2 rr =>
              cases rr
              refine dct_sd (c := c) hu I hs q ok r1 rv1 r2 rv2 hz (fun w e s' w' z' J rw' rz => ?_) fun e s' H' t' J st rs' => ?_
              · rw [e] at hf
                have hq := hf t
                have e0 : up S a (.dct kvs t) = S := by
                  funext b
                  unfold up
                  split
                  · rename_i e1
                    rw [e1, q]
                  · rfl
                rw [e0] at hq
                exact ⟨w', H, J, rz, k.here hq hs rw'⟩
              · rw [e] at hf
                exact ⟨u2, H', J, rv2, k _ _ _ _ st (hf t') rs' (RV.mono st.tp _ _ r2)⟩
        | lst zs => simp only [wMt, q] at hf
        | ins cc fs => simp only [wMt, q] at hf
    | [], hf, _ => exact hf.elim
    | [_], hf, _ => exact hf.elim
    | _ :: _ :: _ :: _, hf, _ => exact hf.elim
  | _ => exact hf.elim
theorem m_get (hu : X.A.units + 10 < cLine) : MtR X "dict.get" (rvm (lay X c) .get) := by
  intro pins s σ H x xs v us Q I rx rv h
  obtain ⟨w, vs, S, Qd, h1, h2, hs, hf, k⟩ := h
  cases w with
  | ref a =>
    cases h1
    match vs, hf, h2 with
    | [y, z], hf, h2 =>
      obtain ⟨u1, u2, rfl, r1, r2⟩ := h2.two
      cases q : S a with
      | none => simp only [wMt, q] at hf
      | some o =>
        cases o with
        | dct kvs t =>
          simp only [wMt, q] at hf
          obtain ⟨ok, hf⟩ := hf
          cases rx
          cases rv with
          | cons rv1 rr =>
            cases rr with
            | cons rv2 rr =>
              cases rr
              exact dct_getD (c := c) hu I (hs a _ q) ok r1 rv1 r2 rv2 fun s' w' z' J rw' rz => ⟨w', H, J, rz, k.here hf hs rw'⟩
        | lst zs => simp only [wMt, q] at hf
        | ins cc fs => simp only [wMt, q] at hf
    | [], hf, _ => exact hf.elim
    | [_], hf, _ => exact hf.elim
    | _ :: _ :: _ :: _, hf, _ => exact hf.elim
  | _ => exact hf.elim
/-- the raw empty dict -/
theorem raw_empty {P : Program} {w : World} {H : Hp} (h : Heap) : ObjOk P w H (h.push { cls := .type "dict", data := .dict #[] }) h.objs.size (dctO h.objs.size #[] 0) :=
  have z : (h.push { cls := .type "dict", data := .dict #[] }).DictRaw h.objs.size #[] 0 := ⟨_, Heap.get?_push_size _ rfl, ⟨rfl, rfl, rfl⟩, rfl⟩
  ⟨z, let ⟨o, e, _⟩ := z; ⟨o, e⟩, fun h1 h2 q k => q.at k⟩
/-- a new dict's place and pairs -/
theorem rd_empty {L : Lay} {H : Hp} {p : Addr} (h : H p = some (dctO p #[] 0)) (hp : (p == sysModules) = false) : RD L H p [] 0 :=
  ⟨#[], h, hp, Nat.zero_le _, rfl, .inr ⟨[], rfl, List.nodup_nil, .nil⟩⟩
theorem pe_dict0 {pos : Pos} : PE X (.Dict [] [] pos) (fun _ H Q => ∀ p, H p = none → (p == sysModules) = false → Q (.ref p) (upd H p (dctO p #[] 0))) := by
  refine ⟨fun pins s σ H Q I h => wpAny_Dict_empty ?_⟩
  have I1 := I.laid (a := s.heap.objs.size) (o := dctO s.heap.objs.size #[] 0) (h' := s.heap.push { cls := .type "dict", data := .dict #[] }) (t' := s.toks) (fun _ _ q => Heap.get?_push_of_some _ q) (Nat.le_refl _) (raw_empty s.heap)
  exact ⟨.ref s.heap.objs.size, _, I1, rfl, h _ (I.hok.fresh (Nat.le_refl _)) (beq_eq_false_iff_ne.mpr (Ne.symm (Nat.ne_of_lt I.big)))⟩
/-- {k: v} -/
theorem dict1_walk {M : Program} {w : World} {A : Around} {E : Value → Shared → Prop} {env : PySem.Env} {s : Shared} {pk pv : Expr} {pos : Pos} {Q : Value → Shared → Prop}
    (h : wpAny (model M w) A (eval pk env) (fun a s1 => wpAny (model M w) A (eval pv env) (fun b s2 => wpAny (model M w) A (dictSet s.heap.objs.size a b) (fun _ s3 => Q (.ref s.heap.objs.size) s3) E s2) E s1) E { s with heap := s.heap.push { cls := .type "dict", data := .dict #[] } }) :
    wpAny (model M w) A (eval (.Dict [some pk] [pv] pos) env) Q E s := by
  rw [arm_eval_Dict]
  refine wpAny_bind (wpAny_standAt ?_)
  show wpAny _ _ (dictDisplay ((pairTrees [some pk] [pv] env pos).map fun p => (some p.1, p.2))) _ _ _
  rw [dictDisplay_pairs _ (fun z => by cases z) (by show 1 < 17; decide)]
  refine wpAny_bind ?_
  unfold subDict
  refine wpAny_bind (wpAny_alloc (wpAny_bind (wpAny_holding ?_)))
  rw [if_pos (by show 1 ≤ 15; decide)]
  refine wpAny_bind (pairTrees_cons_walk (thn h fun a s1 h1 => thn h1 fun b s2 h2 => pairTrees_nil_walk (wpAny_holding ?_)))
  show wpAny _ _ (forIn [(a, b)] PUnit.unit _ >>= _) _ _ _
  rw [List.forIn_cons]
  refine wpAny_bind (wpAny_bind (wpAny_bind (thn h2 fun _ s3 h3 => ?_)))
  exact wpAny_pure (wpAny_pure (wpAny_pure (wpAny_pure (wpAny_pure h3))))
end
section
variable {X : Cx} {c : LC} {A : Around} {E : Value → Shared → Prop} {pins : List (Addr × Obj)} {σ : L2.St} {H : Hp} {s : Shared} {S : Sto} {a : Addr} {kvs : List (Val × Val)} {t : Nat} {k v : Val} {x y : V} {u r : Value}
/-- a pair stored, below setItem -/
theorem dct_dset {Q : Unit → Shared → Prop} (hu : A.units + 10 < cLine) (I : Inv X pins σ H s) (rs : RS (lay X c) H S) (hs : S a = some (.dct kvs t)) (ok : kindOk kvs k = true) (rk : RV X.K H k x) (ru : RelV x u) (rv : RV X.K H v y) (rr : RelV y r) (hz : kvs.length < line)
    (h : ∀ s' H' t', Inv X pins σ H' s' → Stp (lay X c) H S H' (up S a (.dct (dput kvs k v) t')) → RS (lay X c) H' (up S a (.dct (dput kvs k v) t')) → Q () s') : wpAny (model X.prog X.w) A (dictSet a u r) Q E s := by
  have rd : RD (lay X c) H a kvs t := rs a _ hs
  have hl : (dput kvs k v).length ≤ sizeLine := by
    have := dput_length k v kvs
    rw [line_eq] at hz
    omega
  cases nt : isTup k with
  | false =>
    obtain ⟨es, B, lvs, l, h1, h2, h3, hk, d⟩ := rd.leaf ok nt
    have dd := dictOf_of I h1 d
    refine wpAny_dictSet_pairs (hsz := by rw [← Paired.length d.rep]; exact h3) ((encOf X.prog X.w B).is hk rk ru) dd fun h' dd' sb => ?_
    obtain ⟨o, es', t', e1, e2, e3, e4, e5, e6⟩ := dd'
    have J := dct_write (t' := t') (tk := s.toks + 1) I h1 sb ⟨o, e1, e2, e3⟩
    have tp : Tp X.K H (upd H a (dctO a es' t')) := Tp.write h1 notTup_dct.1 notTup_dct.2
    exact h _ _ t' J (Stp.write h1 notTup_dct.1 notTup_dct.2 hs) (RS.upd rs tp (leaf_new (L := lay X c) (B := B) h1 h2 hl e4 e5 e6 (leaf_put hk rv rr d.nd d.rep)))
  | true =>
    obtain ⟨es, xs, h1, h2, h3, d⟩ := rd.tup ok nt
    obtain ⟨b, rfl⟩ := isTup_ref nt rk
    cases ru
    refine wpAny_dictSet_heap (knd := nestedKind X.prog X.w) (hsz := by rw [← Paired.length d.rep]; exact h3) (by show A.units + 8 < cLine; omega) (keyH_of I (kind_mod ok).1 (kind_mod ok).2 rk) (dictH_of I h1 d) fun h' dd' sb => ?_
    obtain ⟨o, es', t', e1, e2, e3, e4, e5, e6⟩ := dd'
    have J := dct_write (t' := t') (tk := s.toks + (nestedKind X.prog X.w).draws k.nk) I h1 sb ⟨o, e1, e2, e3⟩
    have tp : Tp X.K H (upd H a (dctO a es' t')) := Tp.write h1 notTup_dct.1 notTup_dct.2
    exact h _ _ t' J (Stp.write h1 notTup_dct.1 notTup_dct.2 hs) (RS.upd rs tp (tup_new (L := lay X c) h1 h2 hl e4 e6 (tup_put nt (kind_mod ok).1 (kind_mod ok).2 rk rv rr d.nd d.rep)))
end
end DL

set_option autoImplicit true
set_option Elab.async false
set_option linter.all false
set_option maxRecDepth 100000
set_option maxHeartbeats 2000000
/-! Own layer, part 3t: a dict of a list of pairs. -/
namespace DL
open PySem PySem.Spec PyProof.Rows L2
theorem stored_nd {K : Type} [DecidableEq K] {lvs : List (K × Value)} (k : K) (v : Value) (h : (lvs.map (·.1)).Nodup) : ((stored lvs k v).map (·.1)).Nodup := by
  unfold stored
  split
  · have e : (lvs.map fun kv => if kv.1 = k then (kv.1, v) else kv).map (·.1) = lvs.map (·.1) := by
      rw [List.map_map]
      refine List.map_congr_left fun q _ => ?_
      show (if q.1 = k then (q.1, v) else q).1 = q.1
      split <;> rfl
    rw [e]
    exact h
  · rename_i hn
    rw [List.map_append, List.nodup_append]
    refine ⟨h, by simp, fun x hx y hy => ?_⟩
    simp at hy
    subst hy
    intro z
    subst z
    obtain ⟨q, hq, e⟩ := List.mem_map.mp hx
    exact hn (List.any_eq_true.mpr ⟨q, hq, by simpa using e⟩)
section
variable {X : Cx} {c : LC}
theorem kV_of {K : PySem.W.Frag} {H : Hp} {v : Val} {x : V} {k : Key} (h : keyOf v = some k) (r : RV K H v x) : x = kV k := by
  cases v <;> first | (cases h; done) | skip
  all_goals
    cases h
    exact r
theorem isIS_key {v : Val} (h : isIS v = true) : ∃ k, keyOf v = some k := by
  cases v <;> first | exact ⟨_, rfl⟩ | cases h
theorem pairs_from {K : PySem.W.Frag} {H : Hp} : ∀ {ps : List (Val × Val)} {us : List V}, (∀ p ∈ ps, isIS p.1 = true) → RVs K H (ps.map fun p => .tup [p.1, p.2]) us →
    ∃ (as : List Addr) (kvs : List (Key × V)), us = as.map V.ref ∧ Paired (fun p kv => SqT K H p [kV kv.1, kv.2]) as kvs ∧ Paired (fun (p : Val × Val) (kv : Key × V) => keyOf p.1 = some kv.1 ∧ RV K H p.2 kv.2) ps kvs
  | [], us, _, r => by
    have e : us = [] := r
    exact ⟨[], [], e, .nil, .nil⟩
  | p :: ps, us, h, r => by
    obtain ⟨u, us', rfl, ⟨a, vs, rfl, hs, hv⟩, r2⟩ := r
    obtain ⟨as, kvs, rfl, h1, h2⟩ := pairs_from (fun q hq => h q (by simp [hq])) r2
    obtain ⟨x, vs1, rfl, rx, y, vs2, rfl, ry, rn⟩ := hv
    have rn : vs2 = [] := rn
    subst rn
    obtain ⟨k, hk⟩ := isIS_key (h p (by simp))
    have ex := kV_of hk rx
    subst ex
    exact ⟨a :: as, (k, y) :: kvs, rfl, .cons hs h1, .cons ⟨hk, ry⟩ h2⟩
theorem dputs_rep {L : Lay} {H : Hp} : ∀ {ps : List (Val × Val)} {kvs : List (Key × V)} {prs : List (Key × Value)} {m : List (Val × Val)} {lvs : List (Key × Value)},
    Paired (fun (p : Val × Val) (kv : Key × V) => keyOf p.1 = some kv.1 ∧ RV L.K H p.2 kv.2) ps kvs → L2.KV kvs prs → (lvs.map (·.1)).Nodup →
    Paired (fun (p : Val × Val) (q : Key × Value) => keyOf p.1 = some q.1 ∧ ∃ u, RV L.K H p.2 u ∧ RelV u q.2) m lvs →
    Paired (fun (p : Val × Val) (q : Key × Value) => keyOf p.1 = some q.1 ∧ ∃ u, RV L.K H p.2 u ∧ RelV u q.2) (dputs m ps) (merged lvs prs)
  | [], _, _, m, lvs, .nil, .nil, _, r => r
  | p :: ps, kv :: kvs, q :: prs, m, lvs, .cons h t, .cons g t2, nd, r => by
    have e := leaf_put (L := L) (B := mixE L.P L.w) (k := p.1) (v := p.2) (l := q.1) (w := q.2) (by rw [← g.1]; exact h.1) h.2 g.2 nd r
    have z := dputs_rep (L := L) (H := H) (ps := ps) (kvs := kvs) (prs := prs) (m := dput m p.1 p.2) (lvs := stored lvs q.1 q.2) t t2 (stored_nd q.1 q.2 nd) e
    exact z
theorem dputs_len : ∀ (ps m : List (Val × Val)), (dputs m ps).length ≤ m.length + ps.length
  | [], m => Nat.le_refl _
  | p :: ps, m => by
    have := dputs_len ps (dput m p.1 p.2)
    have := dput_length p.1 p.2 m
    show (dputs (dput m p.1 p.2) ps).length ≤ _
    simp only [List.length_cons]
    omega
theorem rs_dictN {L : Lay} {H : Hp} {S : Sto} {p : Addr} {kvs : List (Val × Val)} {t : Nat} (rs : RS L H S) (h : RD L H p kvs t) : RS L H (up S p (.dct kvs t)) := fun a o q => by
  by_cases e : a = p
  · subst e
    rw [up_same] at q
    cases q
    exact h
  · rw [up_ne e] at q
    exact rs a o q
/-- dict(xs): a list of pairs whose keys are whole numbers and texts -/
theorem cr_dictL (hc : X.calm = true) : CallR X (.type "dict") (rDictL (lay X c)) := by
  intro pins s σ H xs us Q I r q
  obtain ⟨a, ws, ps, S, Qd, rfl, hl, rv, hs, hi, hq, k⟩ := q
  obtain ⟨as, kvs, rfl, hp, hk⟩ := pairs_from hi rv
  obtain ⟨u, rfl, rx⟩ := vals1 r
  cases rx
  obtain ⟨its, rvl, pl, hz⟩ := I.list (SqL.of hl)
  have ei := refs_at rvl
  subst ei
  rw [List.length_map] at hz
  obtain ⟨prs, rel, hln, hpr⟩ := pairs_of I hp
  obtain ⟨o, n, ho, hcl, hd, hdat⟩ := pl
  refine call_dict_pairs (prs := prs) (I.ok.hd hc) ho hcl hd hdat (by simp [hln]) (by rw [hln]; exact hz) (fun j q' e => ?_) fun h' tk hd' kk => ?_
  · obtain ⟨b, u, e1, e2, e3⟩ := hpr j q' e
    exact ⟨b, u, by simp [e1], e2, e3⟩
  · have hm : (s.heap.objs.size == sysModules) = false := beq_eq_false_iff_ne.mpr (Nat.ne_of_gt I.big)
    have hfr := I.hok.fresh (Nat.le_refl _)
    have hlen : (dputs [] ps).length ≤ sizeLine := by
      refine Nat.le_trans (dputs_len ps []) ?_
      rw [List.length_nil, Nat.zero_add, Paired.length hk, ← Paired.length hp]
      exact hz
    obtain ⟨ob, es', t', e1, e2, e3, e4, e5, e6⟩ := hd'
    have rep := dputs_rep (L := lay X c) (m := []) (lvs := []) hk rel (by simp) .nil
    have rd : RD (lay X c) (upd H s.heap.objs.size (dctO s.heap.objs.size es' t')) s.heap.objs.size (dputs [] ps) t' :=
      ⟨es', upd_same, hm, hlen, by
        have z := DictOf.es_size (B := mixE X.prog X.w) e5
        rw [z]; exact (Paired.length rep).symm, .inl ⟨true, merged [] prs, LeafD.mono (Tp.fresh hfr) ⟨e4, e5, e6, rep⟩⟩⟩
    exact ⟨.ref s.heap.objs.size, upd H s.heap.objs.size (dctO s.heap.objs.size es' t'), I.laid (t' := tk) kk (Nat.le_refl _) (dct_okT ⟨ob, e1, e2, e3⟩), rfl, k (.ref _) _ (.ref _) _ (Stp.alloc hfr) (hq _ t' (RS.off hs hfr)) (rs_dictN (hs.new hfr) rd) rfl⟩
/-- a dict whose keys are whole numbers and texts -/
theorem RD.mix {L : Lay} {H : Hp} {a : Addr} {kvs : List (Val × Val)} {t : Nat} (h : RD L H a kvs t) (hi : ∀ p ∈ kvs, isIS p.1 = true) :
    ∃ (es : Array DictEntry) (lvs : List (Key × Value)), H a = some (dctO a es t) ∧ (a == sysModules) = false ∧ kvs.length ≤ sizeLine ∧ LeafD L (mixE L.P L.w) H kvs es lvs := by
  have ok : kindOk kvs (.int 0) = true := by
    cases kvs with
    | nil => rfl
    | cons p r =>
      have := hi p (by simp)
      obtain ⟨k, v⟩ := p
      cases k <;> first | rfl | cases this
  obtain ⟨es, b, lvs, l, h1, h2, h3, hk, d⟩ := h.leaf ok rfl
  cases b with
  | true => exact ⟨es, lvs, h1, h2, h3, d⟩
  | false => cases hk
/-- list(d): its keys -/
theorem cr_listD (hc : X.calm = true) : CallR X (.type "list") (rListD (lay X c)) := by
  intro pins s σ H xs us Q I r q
  obtain ⟨a, kvs, t, S, Qd, rfl, rd, hs, hi, hq, k⟩ := q
  obtain ⟨u, rfl, rx⟩ := vals1 r
  cases rx
  obtain ⟨es, lvs, h1, h2, h3, d⟩ := rd.mix hi
  have dd := dictOf_of I h1 d
  obtain ⟨ep, hat⟩ := dd.dictAt
  have hl : kvs.length = lvs.length := Paired.length d.rep
  -- the keys as they stand
  have key : ∀ {kvs : List (Val × Val)} {lvs : List (Key × Value)}, (∀ p ∈ kvs, isIS p.1 = true) → Paired (fun (p : Val × Val) (q : Key × Value) => keyOf p.1 = some q.1 ∧ ∃ u, RV X.K H p.2 u ∧ RelV u q.2) kvs lvs → RVs X.K H (kvs.map (·.1)) (lvs.map fun q => kV q.1) := by
    intro kvs lvs hi rep
    induction rep with
    | nil => rfl
    | @cons p q ps qs h t ih =>
      refine ⟨kV q.1, _, rfl, ?_, ih fun p hp => hi p (by simp [hp])⟩
      obtain ⟨k, v⟩ := p
      have h0 := h.1
      cases k <;> first | (cases h0; done) | (simp only [keyOf, Option.some.injEq] at h0; rw [← h0]; rfl)
  have rvk := key hi d.rep
  refine PySem.W.kdl_call (PySem.W.kdl_dict (knd := mixKind X.prog X.w) (kvs := lvs) (ep := ep) h2) (I.ok.hd hc) hat (by rw [← hl]; exact h3) fun h' tk acc c' hk hD hacc => ?_
  have hv : Vals (lvs.map fun p => kV p.1) acc.toList := keys_at (by rw [Array.length_toList]; exact hacc.1) fun j v e => hacc.2 j v (by rw [← Array.getElem?_toList]; exact e)
  refine ⟨.ref s.heap.objs.size, upd H s.heap.objs.size (.lst (lvs.map fun q => kV q.1)), I.laid (t' := tk) hk (Nat.le_refl _)
    (show ObjOk X.prog X.w _ _ _ (.lst (lvs.map fun q => kV q.1)) from ⟨by rw [List.length_map, ← hl]; exact h3, acc.toList, c', hv, by rw [Array.toArray_toList]; exact hD⟩), rfl, k.lst hq hs rvk (I.hok.fresh (Nat.le_refl _))⟩
/-- dict(d): a copy -/
theorem cr_dictD : CallR X (.type "dict") (rDictD (lay X c)) := by
  intro pins s σ H xs us Q I r q
  obtain ⟨a, kvs, t, S, Qd, rfl, rd, hs, hi, hq, k⟩ := q
  obtain ⟨u, rfl, rx⟩ := vals1 r
  cases rx
  obtain ⟨es, lvs, h1, h2, h3, d⟩ := rd.mix hi
  have dd := dictOf_of I h1 d
  have hl : kvs.length = lvs.length := Paired.length d.rep
  refine kt_call_dict h2 dd (Nat.le_trans (Nat.le_of_eq hl.symm) h3) fun h' d' sb => ?_
  have hm : (s.heap.objs.size == sysModules) = false := beq_eq_false_iff_ne.mpr (Nat.ne_of_gt I.big)
  have hfr := I.hok.fresh (Nat.le_refl _)
  obtain ⟨ob, es', t', e1, e2, e3, e4, e5, e6⟩ := d'
  have rd2 : RD (lay X c) (upd H s.heap.objs.size (dctO s.heap.objs.size es' t')) s.heap.objs.size kvs t' :=
    ⟨es', upd_same, hm, h3, by
      have z := DictOf.es_size (B := mixE X.prog X.w) e5
      rw [z]; exact hl.symm, .inl ⟨true, lvs, LeafD.mono (Tp.fresh hfr) ⟨e4, e5, e6, d.rep⟩⟩⟩
  exact ⟨.ref s.heap.objs.size, upd H s.heap.objs.size (dctO s.heap.objs.size es' t'), I.laid (t' := s.toks) (fun b u e => (sb.2 b (Nat.ne_of_lt (Heap.lt_size e))).trans (Heap.get?_push_of_some _ e)) (Nat.le_refl _) (dct_okT ⟨ob, e1, e2, e3⟩), rfl, k (.ref _) _ (.ref _) _ (Stp.alloc hfr) (hq _ t' (RS.off hs hfr)) (rs_dictN (hs.new hfr) rd2) rfl⟩
theorem b_valsA (hc : X.calm = true) (b : Bt) : CallR X (bf b) (rvs (lay X c) (wBt b)) := b_vals hc (cr_listD hc) (cr_dictL hc) cr_dictD b
theorem b_listA (hc : X.calm = true) (b : Bt) : CallR X (bf b) (rvl (lay X c) b) := b_listD hc (cr_dictL hc) b
end
end DL

set_option autoImplicit true
set_option Elab.async false
set_option linter.all false
set_option maxRecDepth 100000
set_option maxHeartbeats 2000000
/-! Own layer, part 4: a text is the tree; what is known of names. -/
namespace DL
open PySem PySem.Spec PyProof.Rows L2

/-- names of a def: slots; defs and classes by number (with how many arguments) -/
structure Tab where
  N : List Str
  fns : List (Str × Nat)
  cls : List (Str × Nat)
  exs : List (Str × Nat)
def visC (sc : Scope) (x : Str) : Bool := match sc.names.lookup x with
  | some .local => true
  | some .cell => true
  | some .free => true
  | _ => false
def locC (sc : Scope) (x : Str) : Bool := match sc.names.lookup x with
  | some .local => true
  | some .cell => true
  | _ => false
def gloC (sc : Scope) (x : Str) : Bool := match sc.names.lookup x with
  | some .globalImplicit => true
  | _ => false
def nameC (x : Str) : Bool := !(x == ("__debug__" : Str)) && !(x == ("__classdict__" : Str)) && !decide (x = ("__name__" : Str))
def bN : Bt → Str
  | .len => "len" | .all => "all" | .any => "any" | .tuple => "tuple" | .list => "list" | .dict => "dict" | .sorted => "sorted"
  | .int => "int" | .max1 => "max" | .max2 => "max" | .min1 => "min" | .min2 => "min" | .sum => "sum" | .str => "str"
def mN : Mt → Str
  | .append => "append" | .extend => "extend" | .index => "index" | .count => "count" | .pop => "pop" | .reverse => "reverse" | .setdefault => "setdefault" | .get => "get" | .split => "split" | .find => "find"
def mOk : Mt → Bool
  | .append => true | .extend => true | .pop => true | .reverse => true | .index => true | .count => true | _ => false
def dOk : Mt → Bool
  | .setdefault => true | .get => true | _ => false
def tN : Ty → Str
  | .int => "int" | .bool => "bool" | .str => "str" | .tuple => "tuple" | .list => "list"
def bopC : Bop → Operator → Bool
  | .add, .Add => true | .sub, .Sub => true | .mul, .Mult => true | .fdiv, .FloorDiv => true | .mod, .Mod => true | .pow, .Pow => true | _, _ => false
def copC : Cop → CmpOp → Bool
  | .eq, .Eq => true | .ne, .NotEq => true | .lt, .Lt => true | .le, .LtE => true | .gt, .Gt => true | .ge, .GtE => true | .isin, .In => true | .notin, .NotIn => true | _, _ => false
/-- neither a set's display, a slice, a starred one, nor a call without arguments -/
def plainX : Expr → Bool
  | .Set .. => false
  | .Slice .. => false
  | .Starred .. => false
  | .Call (.Name _ _) [] [] _ => false
  | _ => true
def Exs.len : Exs → Nat
  | .nil => 0
  | .cons _ r => r.len + 1
def tgC (T : Tab) (sc : Scope) : List Nat → List Expr → Bool
  | [], [] => true
  | i :: r, .Name x _ :: es => decide (T.N[i]? = some x) && locC sc x && tgC T sc r es
  | _, _ => false
def tgtC (T : Tab) (sc : Scope) : Tg → Expr → Bool
  | .one i, .Name x _ => decide (T.N[i]? = some x) && locC sc x
  | .many is, .Tuple es _ _ => tgC T sc is es
  | _, _ => false
def tgSlots : Tg → List Nat
  | .one i => [i]
  | .many is => is
def callC (sc : Scope) (x y : Str) : Bool := decide (x = y) && gloC sc y && nameC y

/-- written texts -/
def strsC : List Str → List Expr → Bool
  | [], [] => true
  | z :: zs, .Constant (.str y) _ _ :: es => decide (z = y) && strsC zs es
  | _, _ => false
mutual
def chkE (T : Tab) (sc : Scope) : Ex → Expr → Bool
  | .var i, .Name x _ => decide (T.N[i]? = some x) && visC sc x && nameC x
  | .glob x, .Name y _ => callC sc x y
  | .int i, .Constant (.int j) _ _ => decide (i = j)
  | .bl i, .Constant (.bool j) _ _ => decide (i = j)
  | .str i, .Constant (.str j) _ _ => decide (i = j)
  | .non, .Constant .none _ _ => true
  | .bin o a b, .BinOp pa po pb _ => bopC o po && chkE T sc a pa && chkE T sc b pb
  | .neg a, .UnaryOp .USub pa _ => chkE T sc a pa
  | .not a, .UnaryOp .Not pa _ => chkE T sc a pa
  | .cmp o a b, .Compare pa [po] [pb] _ => copC o po && chkE T sc a pa && chkE T sc b pb && plainX pb
  | .isN a, .Compare pa [.Is] [.Constant .none _ _] _ => chkE T sc a pa
  | .notN a, .Compare pa [.IsNot] [.Constant .none _ _] _ => chkE T sc a pa
  | .chain o p a b c, .Compare pa [po, pp] [pb, pc] _ => copC o po && copC p pp && chkE T sc a pa && chkE T sc b pb && chkE T sc c pc && plainX pb && plainX pc
  | .and a b, .BoolOp .And [pa, pb] _ => chkE T sc a pa && chkE T sc b pb
  | .and a b, .BoolOp .And (pa :: pb :: pc :: r) pos => chkE T sc a pa && chkE T sc b (.BoolOp .And (pb :: pc :: r) pos)
  | .or a b, .BoolOp .Or [pa, pb] _ => chkE T sc a pa && chkE T sc b pb
  | .or a b, .BoolOp .Or (pa :: pb :: pc :: r) pos => chkE T sc a pa && chkE T sc b (.BoolOp .Or (pb :: pc :: r) pos)
  | .tup es, .Tuple pes _ _ => chkEs T sc es pes && decide (es.len ≤ 1000)
  | .lst es, .List pes _ => chkEs T sc es pes && decide (es.len ≤ 1000)
  | .dict0, .Dict [] [] _ => true
  | .dict1 k v, .Dict [some pk] [pv] _ => chkE T sc k pk && chkE T sc v pv
  | .sub a i, .Subscript pa pi _ => chkE T sc a pa && chkE T sc i pi && plainX pi
  | .slice a lo hi, .Subscript pa (.Slice plo phi none _) _ => chkE T sc a pa && chkO T sc lo plo && chkO T sc hi phi
  | .fld a f, .Attribute pa g _ => decide (f = g) && chkE T sc a pa && plainX pa
  | .call f es, .Call (.Name x _) (pe :: pes) [] _ => decide (T.fns.lookup x = some f) && gloC sc x && nameC x && chkEs T sc es (pe :: pes)
  | .new c es, .Call (.Name x _) (pe :: pes) [] _ => decide (T.cls.lookup x = some c) && gloC sc x && nameC x && chkEs T sc es (pe :: pes)
  | .blt b es, .Call (.Name x _) (pe :: pes) [] _ => callC sc (bN b) x && chkEs T sc es (pe :: pes)
  | .trng (.cons a .nil), .Call (.Name x _) [.Call (.Name y _) [pa] [] _] [] _ => callC sc "tuple" x && callC sc "range" y && chkE T sc a pa && plainX pa
  | .lrng (.cons a .nil), .Call (.Name x _) [.Call (.Name y _) [pa] [] _] [] _ => callC sc "list" x && callC sc "range" y && chkE T sc a pa && plainX pa
  | .bltc b c, .Call (.Name x _) [pe] [] _ => callC sc (bN b) x && chkC T sc c pe
  | .isi a t, .Call (.Name x _) [pa, .Name y _] [] _ => callC sc "isinstance" x && callC sc (tN t) y && chkE T sc a pa
  | .meth a m es, .Call (.Attribute pa g apos) pes [] pos => (mOk m || dOk m) && decide (g = mN m) && (apos.endLine == pos.line) && plainX pa && chkE T sc a pa && chkEs T sc es pes && decide (es.len < 20)
  | .umeth a m es, .Call (.Attribute pa g apos) pes [] pos => decide (m ≠ "__init__") && decide (g = m) && (apos.endLine == pos.line) && plainX pa && chkE T sc a pa && chkEs T sc es pes && decide (es.len < 20)
  | .comp c, pe => chkC T sc c pe
  | .drop a, pe => chkE T sc a pe
  | .tix zs a, .Call (.Attribute (.Tuple es _ _) g apos) [pa] [] pos => decide (g = "index") && strsC zs es && (apos.endLine == pos.line) && plainX pa && chkE T sc a pa && decide (zs.length ≤ 1000)
  | _, _ => false
def chkEs (T : Tab) (sc : Scope) : Exs → List Expr → Bool
  | .nil, [] => true
  | .cons a r, pa :: pr => chkE T sc a pa && plainX pa && chkEs T sc r pr
  | _, _ => false
def chkO (T : Tab) (sc : Scope) : Oe → Option Expr → Bool
  | .none, none => true
  | .some a, some pa => chkE T sc a pa
  | _, _ => false
def chkI (T : Tab) (sc : Scope) : Itr → Expr → Expr → Bool
  | .val a, _, pa => chkE T sc a pa && plainX pa
  | .rng es, _, .Call (.Name x _) pes [] _ => callC sc "range" x && chkEs T sc es pes && decide (1 ≤ es.len ∧ es.len ≤ 3)
  | .enum a, .Tuple _ _ _, .Call (.Name x _) [pa] [] _ => callC sc "enumerate" x && chkE T sc a pa && plainX pa
  | .zip a b, .Tuple _ _ _, .Call (.Name x _) [pa, pb] [] _ => callC sc "zip" x && chkE T sc a pa && chkE T sc b pb && plainX pa && plainX pb
  | _, _, _ => false
def chkC (T : Tab) (sc : Scope) : Cmp → Expr → Bool
  | .mk tg own elt it cond, .ListComp pelt [⟨ptg, pit, ifs, 0⟩] scope _ =>
    blkC T.N sc scope (own.map fun i => (T.N.getD i "", i)) && tgtC T scope tg ptg && (tgSlots tg).all (fun i => decide (i ∈ own)) && chkI T sc it ptg pit && plainX pit && chkE T (relS scope sc) elt pelt && chkIf T (relS scope sc) cond ifs
  | _, _ => false
def chkIf (T : Tab) (sc : Scope) : Oe → List Expr → Bool
  | .none, [] => true
  | .some a, [pa] => chkE T sc a pa
  | _, _ => false
end

/-- a promise over the hand layer's heap -/
def lift (L : Lay) (sp : Spec) : Sp := fun vs H Q E => ∃ (args : List Val) (S : Sto) (Qd : KV) (Ed : Nat → Sto → Prop), RVs L.K H args vs ∧ RS L H S ∧ sp args S Qd Ed ∧ Cont L H S Qd Q ∧
  ∀ x S' H', Stp L H S H' S' → Ed x S' → RS L H' S' → E (.ref (L.ex x)) none H'
def Arity (n : Nat) (sp : Spec) : Prop := ∀ args S Q E, sp args S Q E → args.length = n
theorem lift_len {L : Lay} {n : Nat} {sp : Spec} (a : Arity n sp) (vs : List V) (H : Hp) (Q : VK) (E : XK) (h : lift L sp vs H Q E) : vs.length = n := by
  obtain ⟨args, S, Qd, Ed, r, _, h, _⟩ := h
  rw [← r.length]
  exact a _ _ _ _ h

/-- a def stands under a name -/
structure FnAt (P : Program) (w : World) (K : PySem.W.Frag) (mg : Str → Option Value) (base : Heap) (c : LC) (k : Nat) (x : Str) (sp : Spec) : Prop where
  ex : ∃ (a : Addr) (fd : FuncData) (ps : List Str), FnOk P w K mg base (L2.CX P w) k a fd ps (lift ⟨P, w, K, c.ca, c.ex⟩ sp) ∧ mg x = some (.ref a) ∧ PySem.W.keepIn K (.ref a) = true ∧ Binds K fd ps []
theorem FnAt.mono {P : Program} {w : World} {K : PySem.W.Frag} {mg : Str → Option Value} {base : Heap} {c : LC} {k k' : Nat} {x : Str} {sp : Spec} (h : FnAt P w K mg base c k x sp) (l : k ≤ k') : FnAt P w K mg base c k' x sp := by
  obtain ⟨a, fd, ps, h2, h3⟩ := h.ex
  exact ⟨a, fd, ps, h2.mono l, h3⟩
/-- a method of a class -/
structure MtAt (P : Program) (w : World) (K : PySem.W.Frag) (mg : Str → Option Value) (base : Heap) (c : LC) (k : Nat) (ci : Nat) (m : Str) (sp : Spec) : Prop where
  ex : ∃ (a : Addr) (fd : FuncData) (ps : List Str), FnOk P w K mg base (L2.CX P w) k a fd ps (lift ⟨P, w, K, c.ca, c.ex⟩ sp) ∧ Meth K (c.ca ci) m a ∧ Binds K fd ps []
theorem MtAt.mono {P : Program} {w : World} {K : PySem.W.Frag} {mg : Str → Option Value} {base : Heap} {c : LC} {k k' : Nat} {ci : Nat} {m : Str} {sp : Spec} (h : MtAt P w K mg base c k ci m sp) (l : k ≤ k') : MtAt P w K mg base c k' ci m sp := by
  obtain ⟨a, fd, ps, h2, h3⟩ := h.ex
  exact ⟨a, fd, ps, h2.mono l, h3⟩
/-- a class's making -/
structure NewAt (P : Program) (w : World) (K : PySem.W.Frag) (mg : Str → Option Value) (base : Heap) (c : LC) (k : Nat) (x : Str) (ci : Nat) (sp : Spec) : Prop where
  ex : ∃ (j : Nat) (a : Addr) (fd : FuncData) (ps : List Str), j + 1 = k ∧ FnOk P w K mg base (L2.CX P w) j a fd ps (lift ⟨P, w, K, c.ca, c.ex⟩ sp) ∧ Mk K (c.ca ci) a ∧ Cls K (c.ca ci) ∧ mg x = some (.ref (c.ca ci)) ∧ Binds K fd ps []
theorem NewAt.mono {P : Program} {w : World} {K : PySem.W.Frag} {mg : Str → Option Value} {base : Heap} {c : LC} {k k' : Nat} {x : Str} {ci : Nat} {sp : Spec} (h : NewAt P w K mg base c k x ci sp) (l : k ≤ k') : NewAt P w K mg base c k' x ci sp := by
  obtain ⟨j, a, fd, ps, e, h2, h3⟩ := h.ex
  exact ⟨k' - 1, a, fd, ps, by omega, h2.mono (by omega), h3⟩
/-- an own class of exceptions -/
structure ExAt (K : PySem.W.Frag) (mg : Str → Option Value) (c : LC) (x : Str) (ci : Nat) : Prop where
  ex : ∃ (bmB : List Value) (B newId initId : String), ExcBaseFacts B newId initId bmB ∧ PySem.W.excIn K (c.ex ci) bmB newId = true ∧ mg x = some (.ref (c.ex ci)) ∧ PySem.W.keepIn K (.ref (c.ex ci)) = true ∧
    PySem.W.subIn K (.ref (c.ex ci)) (.type "BaseException") = some true ∧ PySem.W.typeIn K (.ref (c.ex ci)) = some (.type "type")
/-- what a text's names mean -/
structure Nm (P : Program) (w : World) (K : PySem.W.Frag) (mg : Str → Option Value) (base : Heap) (c : LC) (G : Cfg) (T : Tab) (k : Nat) : Prop where
  fns : ∀ x f, T.fns.lookup x = some f → ∃ sp, G.fn f = some sp ∧ FnAt P w K mg base c k x sp
  mts : ∀ ci m sp, G.mt ci m = some sp → m ≠ ("__init__" : Str) → MtAt P w K mg base c k ci m sp
  news : ∀ x ci, T.cls.lookup x = some ci → ∃ sp, G.mt ci "__init__" = some sp ∧ NewAt P w K mg base c k x ci sp
  cvs : ∀ x v, G.cv x = some v → ∃ (u : Value) (vv : V), mg x = some u ∧ RelV vv u ∧ ∀ H, RV K H v vv
  blt : ∀ x : Str, x ∈ [("len" : Str), "all", "any", "tuple", "list", "dict", "sorted", "int", "max", "min", "sum", "str", "isinstance", "range", "enumerate", "zip", "bool"] → mg x = none
  nd : T.N.Nodup
  exs : ∀ x ci, T.exs.lookup x = some ci → ExAt K mg c x ci
  exk : ∀ x ci, T.exs.lookup x = some ci → G.ek ci = true
  exc : ∀ x, G.ek x = true → L2.ExcC K (c.ex x)
  exm : ∀ x y, G.ek x = true → G.ek y = true → PySem.W.exmOne K (.ref (c.ex x)) (.ref (c.ex y)) = some (G.sub x y)
  kit : ∀ x y, G.ek x = true → G.ek y = true → PySem.W.kitOne K (.ref (c.ex x)) (.ref (c.ex y)) = some (G.sub x y)
  kitV : ∀ x, G.ek x = true → PySem.W.kitOne K (.ref (c.ex x)) (.type "ValueError") = some (G.sub x 99)
  vale : mg "ValueError" = none
  fls : ∀ ci f, G.fl ci f = true → Cls K (c.ca ci) ∧ NoAttr K (c.ca ci) f

structure XOk (X : Cx) (c : LC) (G : Cfg) (T : Tab) (k : Nat) (sc : Scope) : Prop where
  nm : Nm X.prog X.w X.K X.mg X.base c G T k
  room : Room k X.A
  calm : X.calm = true
  N : X.N = T.N
  sc : X.env.scope = sc
end DL

set_option autoImplicit true
set_option Elab.async false
set_option linter.all false
set_option maxRecDepth 100000
set_option maxHeartbeats 2000000
/-! Own layer, part 5: each construct. -/
namespace DL
open PySem PySem.Spec PyProof.Rows L2

/-! ### facts of forms -/
theorem plain_star {e : Expr} (h : plainX e = true) (es : List Expr) (env : PySem.Env) : starEach (e :: es) env = (false, eval e env) :: starEach es env := by
  cases e <;> first | rfl | cases h
theorem plain_mark {e : Expr} (h : plainX e = true) (op : CmpOp) : behindInMarks op e = false := by
  cases e <;> first | rfl | cases h
theorem plain_ix {e : Expr} (h : plainX e = true) : PlainIx e := by
  intro o i
  cases e <;> first | rfl | cases h
theorem plain_attr {e : Expr} (h : plainX e = true) (f : Str) (env : PySem.Env) : attributeBase e f env (eval e env) = eval e env := by
  cases e with
  | Call fn args kws pos =>
    cases fn with
    | Name id p =>
      cases args with
      | nil =>
        cases kws with
        | nil => cases h
        | cons _ _ => rfl
      | cons _ _ => rfl
    | _ => rfl
  | _ => rfl
theorem plain_fold {e : Expr} (h : plainX e = true) (env : PySem.Env) (x : Value) : foldedSetIterable e env x = pure x := by
  cases e <;> first | rfl | cases h
theorem back_plain {pos : Pos} : ∀ {l : List (Bool × Sem Value)}, (∀ p ∈ l, p.1 = false) → (backTo pos l).any (·.1) = false
  | [], _ => rfl
  | p :: r, h => by
    have h1 := h p (by simp)
    have h2 := back_plain (pos := pos) (l := r) fun q hq => h q (by simp [hq])
    show (p.1 || (backTo pos r).any (·.1)) = false
    rw [h1, h2]
    rfl
theorem PE.imp {X : Cx} {e : Expr} {t t' : TE} (h : PE X e t) (hh : ∀ σ H Q, t' σ H Q → t σ H Q) : PE X e t' := ⟨fun pins s σ H Q I q => h.run pins s σ H Q I (hh _ _ _ q)⟩
theorem PT.imp {X : Cx} {e : Expr} {t t' : TT} (h : PT X e t) (hh : ∀ σ H Q, t' σ H Q → t σ H Q) : PT X e t' := ⟨fun pins s σ H Q I q => h.run pins s σ H Q I (hh _ _ _ q)⟩
theorem PW.imp {X : Cx} {e : Expr} {t t' : TT} (h : PW X e t) (hh : ∀ σ H Q, t' σ H Q → t σ H Q) : PW X e t' := ⟨fun wh pins s σ H Q I q => h.run wh pins s σ H Q I (hh _ _ _ q)⟩
theorem PA.imp {X : Cx} {e : List Expr} {t t' : TA} (h : PA X e t) (hh : ∀ σ H Q, t' σ H Q → t σ H Q) : PA X e t' := ⟨fun pos pins s σ H Q I q => h.run pos pins s σ H Q I (hh _ _ _ q)⟩

/-- what is wanted of a refusal -/
def XW (L : Lay) (W : WX) (E : Nat → Sto → Prop) (σ : L2.St) (H : Hp) (S : Sto) : Prop := ∀ x S' H', Stp L H S H' S' → E x S' → RS L H' S' → W (.ref (L.ex x)) none σ H'
theorem XW.step {L : Lay} {W : WX} {E : Nat → Sto → Prop} {σ : L2.St} {H H' : Hp} {S S' : Sto} (h : XW L W E σ H S) (st : Stp L H S H' S') : XW L W E σ H' S' := fun x S2 H2 st2 e r => h x S2 H2 (st.trans st2) e r
theorem Cont.step {L : Lay} {H H' : Hp} {S S' : Sto} {Qd : KV} {Q : VK} (h : Cont L H S Qd Q) (st : Stp L H S H' S') : Cont L H' S' Qd Q := fun v S2 u H2 st2 q r rv => h v S2 u H2 (st.trans st2) q r rv
def tE (L : Lay) (W : WX) (E : Nat → Sto → Prop) (f : Env → Sto → KV → Prop) : TE := fun σ H Q => ∃ e S Qd, RE L.K H e σ ∧ RS L H S ∧ f e S Qd ∧ Cont L H S Qd Q ∧ XW L W E σ H S
def tT (L : Lay) (W : WX) (E : Nat → Sto → Prop) (f : Env → Sto → KV → Prop) : TT := fun σ H Q => tE L W E f σ H fun x H1 => ∃ b, x = .bl b ∧ Q b H1
def tA (L : Lay) (W : WX) (E : Nat → Sto → Prop) (n : Nat) (f : Env → Sto → (List Val → Sto → Prop) → Prop) : TA := fun σ H Q => ∃ e S Qd, RE L.K H e σ ∧ RS L H S ∧ f e S Qd ∧
  (∀ vs S' us H', Stp L H S H' S' → Qd vs S' → RS L H' S' → RVs L.K H' vs us → vs.length = n → Q us H') ∧ XW L W E σ H S

section
variable {X : Cx} {c : LC} {W : WX} {E : Nat → Sto → Prop} {G : Cfg} {pos : Pos}
theorem q_bin {o : Bop} {po : Operator} {pa pb : Expr} {a b : Ex} (ho : OpR X (binaryOp po) (rv2 (lay X c) (wBin o))) (ha : PE X pa (tE (lay X c) W E (wE G E a))) (hb : PE X pb (tE (lay X c) W E (wE G E b))) :
    PE X (.BinOp pa po pb pos) (tE (lay X c) W E (wE G E (.bin o a b))) := by
  refine PE.imp (pe_op ho ha hb) fun σ H Q h => ?_
  obtain ⟨e, S, Qd, he, hs, hf, k, xw⟩ := h
  simp only [wE] at hf
  refine ⟨e, S, _, he, hs, hf, fun v S1 u H1 st q hs1 rv => ?_, xw⟩
  refine ⟨e, S1, _, he.mono st.tp, hs1, q, fun v2 S2 u2 H2 st2 q2 hs2 rv2' => ?_, xw.step st⟩
  exact ⟨v, v2, S2, Qd, RV.mono st2.tp _ _ rv, rv2', hs2, q2, (k.step st).step st2⟩
theorem q_cmp {o : Cop} {po : CmpOp} {pa pb : Expr} {a b : Ex} (ho : OpR X (compareOp po) (rv2 (lay X c) (wCmp o))) (ha : PE X pa (tE (lay X c) W E (wE G E a))) (hb : PE X pb (tE (lay X c) W E (wE G E b))) (hm : plainX pb = true) :
    PE X (.Compare pa [po] [pb] pos) (tE (lay X c) W E (wE G E (.cmp o a b))) := by
  refine PE.imp (pe_cmpR ho ha hb (plain_mark hm po)) fun σ H Q h => ?_
  obtain ⟨e, S, Qd, he, hs, hf, k, xw⟩ := h
  simp only [wE] at hf
  refine ⟨e, S, _, he, hs, hf, fun v S1 u H1 st q hs1 rv => ?_, xw⟩
  refine ⟨e, S1, _, he.mono st.tp, hs1, q, fun v2 S2 u2 H2 st2 q2 hs2 rv2' => ?_, xw.step st⟩
  exact ⟨v, v2, S2, Qd, RV.mono st2.tp _ _ rv, rv2', hs2, q2, (k.step st).step st2⟩
theorem t_cmp {o : Cop} {po : CmpOp} {pa pb : Expr} {a b : Ex} (ho : OpR X (compareOp po) (rv2 (lay X c) (wCmp o))) (ha : PE X pa (tE (lay X c) W E (wE G E a))) (hb : PE X pb (tE (lay X c) W E (wE G E b))) (hm : plainX pb = true) :
    PT X (.Compare pa [po] [pb] pos) (tT (lay X c) W E (wE G E (.cmp o a b))) := by
  refine PT.imp (pt_cmpR ho ha hb (plain_mark hm po)) fun σ H Q h => ?_
  obtain ⟨e, S, Qd, he, hs, hf, k, xw⟩ := h
  simp only [wE] at hf
  refine ⟨e, S, _, he, hs, hf, fun v S1 u H1 st q hs1 rv => ?_, xw⟩
  refine ⟨e, S1, _, he.mono st.tp, hs1, q, fun v2 S2 u2 H2 st2 q2 hs2 rv2' => ?_, xw.step st⟩
  exact ⟨v, v2, S2, Qd, RV.mono st2.tp _ _ rv, rv2', hs2, q2, (k.step st).step st2⟩
theorem q_sub {pa pb : Expr} {a b : Ex} (hr : IxR X (rv2 (lay X c) wSub)) (ha : PE X pa (tE (lay X c) W E (wE G E a))) (hb : PE X pb (tE (lay X c) W E (wE G E b))) (hm : plainX pb = true) :
    PE X (.Subscript pa pb pos) (tE (lay X c) W E (wE G E (.sub a b))) := by
  refine PE.imp (pe_ix hr ha hb (plain_ix hm)) fun σ H Q h => ?_
  obtain ⟨e, S, Qd, he, hs, hf, k, xw⟩ := h
  simp only [wE] at hf
  refine ⟨e, S, _, he, hs, hf, fun v S1 u H1 st q hs1 rv => ?_, xw⟩
  refine ⟨e, S1, _, he.mono st.tp, hs1, q, fun v2 S2 u2 H2 st2 q2 hs2 rv2' => ?_, xw.step st⟩
  exact ⟨v, v2, S2, Qd, RV.mono st2.tp _ _ rv, rv2', hs2, q2, (k.step st).step st2⟩
theorem q_neg {pa : Expr} {a : Ex} (ha : PE X pa (tE (lay X c) W E (wE G E a))) : PE X (.UnaryOp .USub pa pos) (tE (lay X c) W E (wE G E (.neg a))) := by
  refine PE.imp (pe_un un_neg ha) fun σ H Q h => ?_
  obtain ⟨e, S, Qd, he, hs, hf, k, xw⟩ := h
  simp only [wE] at hf
  refine ⟨e, S, _, he, hs, hf, fun v S1 u H1 st q hs1 rv => ?_, xw⟩
  cases v with
  | int i =>
    cases rv
    exact ⟨i, rfl, (k.step st).here q hs1 rfl⟩
  | _ => exact q.elim
theorem q_not {pa : Expr} {a : Ex} (ha : PE X pa (tE (lay X c) W E (wE G E a))) : PE X (.UnaryOp .Not pa pos) (tE (lay X c) W E (wE G E (.not a))) := by
  refine PE.imp (pe_not ha) fun σ H Q h => ?_
  obtain ⟨e, S, Qd, he, hs, hf, k, xw⟩ := h
  simp only [wE] at hf
  refine ⟨e, S, _, he, hs, hf, fun v S1 u H1 st q hs1 rv => ?_, xw⟩
  obtain ⟨b, rfl, q⟩ := withB_some q
  cases rv
  exact ⟨b, rfl, (k.step st).here q hs1 rfl⟩
theorem t_not {pa : Expr} {a : Ex} (ha : PT X pa (tT (lay X c) W E (wE G E a))) : PT X (.UnaryOp .Not pa pos) (tT (lay X c) W E (wE G E (.not a))) := by
  refine PT.imp (pt_not ha) fun σ H Q h => ?_
  obtain ⟨e, S, Qd, he, hs, hf, k, xw⟩ := h
  simp only [wE] at hf
  refine ⟨e, S, _, he, hs, hf, fun v S1 u H1 st q hs1 rv => ?_, xw⟩
  obtain ⟨b, rfl, q⟩ := withB_some q
  cases rv
  obtain ⟨d, e2, r⟩ := (k.step st).here q hs1 rfl
  cases e2
  exact ⟨b, rfl, r⟩
theorem q_isN {pa : Expr} {a : Ex} {j pos'} (ha : PE X pa (tE (lay X c) W E (wE G E a))) : PE X (.Compare pa [.Is] [.Constant .none j pos'] pos) (tE (lay X c) W E (wE G E (.isN a))) := by
  refine PE.imp (pe_cmp (pc_isN ha)) fun σ H Q h => ?_
  obtain ⟨e, S, Qd, he, hs, hf, k, xw⟩ := h
  simp only [wE] at hf
  refine ⟨e, S, _, he, hs, hf, fun v S1 u H1 st q hs1 rv => ?_, xw⟩
  cases v with
  | non => cases rv; exact (k.step st).here (v := .bl true) q hs1 rfl
  | bl _ => cases rv; exact (k.step st).here (v := .bl false) q hs1 rfl
  | int _ => cases rv; exact (k.step st).here (v := .bl false) q hs1 rfl
  | str _ => cases rv; exact (k.step st).here (v := .bl false) q hs1 rfl
  | tup _ => obtain ⟨_, _, rfl, _⟩ := rv; exact (k.step st).here (v := .bl false) q hs1 rfl
  | ref _ => cases rv; exact (k.step st).here (v := .bl false) q hs1 rfl
  | lst _ => obtain ⟨_, _, rfl, _⟩ := rv; exact (k.step st).here (v := .bl false) q hs1 rfl
theorem q_notN {pa : Expr} {a : Ex} {j pos'} (ha : PE X pa (tE (lay X c) W E (wE G E a))) : PE X (.Compare pa [.IsNot] [.Constant .none j pos'] pos) (tE (lay X c) W E (wE G E (.notN a))) := by
  refine PE.imp (pe_cmp (pc_notN ha)) fun σ H Q h => ?_
  obtain ⟨e, S, Qd, he, hs, hf, k, xw⟩ := h
  simp only [wE] at hf
  refine ⟨e, S, _, he, hs, hf, fun v S1 u H1 st q hs1 rv => ?_, xw⟩
  cases v with
  | non => cases rv; exact (k.step st).here (v := .bl false) q hs1 rfl
  | bl _ => cases rv; exact (k.step st).here (v := .bl true) q hs1 rfl
  | int _ => cases rv; exact (k.step st).here (v := .bl true) q hs1 rfl
  | str _ => cases rv; exact (k.step st).here (v := .bl true) q hs1 rfl
  | tup _ => obtain ⟨_, _, rfl, _⟩ := rv; exact (k.step st).here (v := .bl true) q hs1 rfl
  | ref _ => cases rv; exact (k.step st).here (v := .bl true) q hs1 rfl
  | lst _ => obtain ⟨_, _, rfl, _⟩ := rv; exact (k.step st).here (v := .bl true) q hs1 rfl
/-- a value that is a truth value, as a test -/
theorem t_val {pe : Expr} {a : Ex} (h : PE X pe (tE (lay X c) W E (wE G E a))) (he : ∀ whole, isTrue pe X.env whole = (do let v ← whole; standAt pe.pos; holding [v] (truthy v))) : PT X pe (tT (lay X c) W E (wE G E a)) :=
  PT.imp (pt_val h he) fun σ H Q h => h
theorem t_cmp1 {pa pb : Expr} {op : CmpOp} {t : TE} {a : Ex} (h : PC X op pa pb t) (h1 : behindInMarks op pb = false) (hh : ∀ σ H Q, tE (lay X c) W E (wE G E a) σ H Q → t σ H Q) : PT X (.Compare pa [op] [pb] pos) (tT (lay X c) W E (wE G E a)) :=
  PT.imp (pt_cmp h h1) fun σ H Q q => hh σ H _ q
theorem q_and {pa pb : Expr} {r : List Expr} {a b : Ex} (ha : PE X pa (tE (lay X c) W E (wE G E a))) (hb : PE X (.BoolOp .And (pb :: r) pos) (tE (lay X c) W E (wE G E b))) : PE X (.BoolOp .And (pa :: pb :: r) pos) (tE (lay X c) W E (wE G E (.and a b))) := by
  refine PE.imp (pe_and ha hb) fun σ H Q h => ?_
  obtain ⟨e, S, Qd, he, hs, hf, k, xw⟩ := h
  simp only [wE] at hf
  refine ⟨e, S, _, he, hs, hf, fun v S1 u H1 st q hs1 rv => ?_, xw⟩
  obtain ⟨d, rfl, q1, q2⟩ := withB_some q
  cases rv
  refine ⟨d, rfl, ?_⟩
  cases d with
  | true => rw [if_pos rfl]; exact ⟨e, S1, Qd, he.mono st.tp, hs1, q1 rfl, k.step st, xw.step st⟩
  | false => rw [if_neg Bool.false_ne_true]; exact (k.step st).here (q2 rfl) hs1 rfl
theorem q_or {pa pb : Expr} {r : List Expr} {a b : Ex} (ha : PE X pa (tE (lay X c) W E (wE G E a))) (hb : PE X (.BoolOp .Or (pb :: r) pos) (tE (lay X c) W E (wE G E b))) : PE X (.BoolOp .Or (pa :: pb :: r) pos) (tE (lay X c) W E (wE G E (.or a b))) := by
  refine PE.imp (pe_or ha hb) fun σ H Q h => ?_
  obtain ⟨e, S, Qd, he, hs, hf, k, xw⟩ := h
  simp only [wE] at hf
  refine ⟨e, S, _, he, hs, hf, fun v S1 u H1 st q hs1 rv => ?_, xw⟩
  obtain ⟨d, rfl, q1, q2⟩ := withB_some q
  cases rv
  refine ⟨d, rfl, ?_⟩
  cases d with
  | true => rw [if_pos rfl]; exact (k.step st).here (q1 rfl) hs1 rfl
  | false => rw [if_neg Bool.false_ne_true]; exact ⟨e, S1, Qd, he.mono st.tp, hs1, q2 rfl, k.step st, xw.step st⟩
theorem t_and {pa pb : Expr} {r : List Expr} {a b : Ex} (ha : PT X pa (tT (lay X c) W E (wE G E a))) (hb : PW X (.BoolOp .And (pb :: r) pos) (tT (lay X c) W E (wE G E b))) : PW X (.BoolOp .And (pa :: pb :: r) pos) (tT (lay X c) W E (wE G E (.and a b))) := by
  refine PW.imp (pw_and ha hb) fun σ H Q h => ?_
  obtain ⟨e, S, Qd, he, hs, hf, k, xw⟩ := h
  simp only [wE] at hf
  refine ⟨e, S, _, he, hs, hf, fun v S1 u H1 st q hs1 rv => ?_, xw⟩
  obtain ⟨d, rfl, q1, q2⟩ := withB_some q
  cases rv
  refine ⟨d, rfl, ?_⟩
  cases d with
  | true => rw [if_pos rfl]; exact ⟨e, S1, Qd, he.mono st.tp, hs1, q1 rfl, k.step st, xw.step st⟩
  | false =>
    rw [if_neg Bool.false_ne_true]
    obtain ⟨d, e2, r⟩ := (k.step st).here (q2 rfl) hs1 rfl
    cases e2
    exact r
theorem t_or {pa pb : Expr} {r : List Expr} {a b : Ex} (ha : PT X pa (tT (lay X c) W E (wE G E a))) (hb : PW X (.BoolOp .Or (pb :: r) pos) (tT (lay X c) W E (wE G E b))) : PW X (.BoolOp .Or (pa :: pb :: r) pos) (tT (lay X c) W E (wE G E (.or a b))) := by
  refine PW.imp (pw_or ha hb) fun σ H Q h => ?_
  obtain ⟨e, S, Qd, he, hs, hf, k, xw⟩ := h
  simp only [wE] at hf
  refine ⟨e, S, _, he, hs, hf, fun v S1 u H1 st q hs1 rv => ?_, xw⟩
  obtain ⟨d, rfl, q1, q2⟩ := withB_some q
  cases rv
  refine ⟨d, rfl, ?_⟩
  cases d with
  | false => rw [if_neg Bool.false_ne_true]; exact ⟨e, S1, Qd, he.mono st.tp, hs1, q2 rfl, k.step st, xw.step st⟩
  | true =>
    rw [if_pos rfl]
    obtain ⟨d, e2, r⟩ := (k.step st).here (q1 rfl) hs1 rfl
    cases e2
    exact r
theorem q_chain {o p : Cop} {po pp : CmpOp} {pa pb pc : Expr} {a b d : Ex} (ho : OpR X (compareOp po) (rv2 (lay X c) (wCmp o))) (hp : OpR X (compareOp pp) (rv2 (lay X c) (wCmp p))) (ha : PE X pa (tE (lay X c) W E (wE G E a))) (hb : PE X pb (tE (lay X c) W E (wE G E b)))
    (hc : PE X pc (tE (lay X c) W E (wE G E d))) (hm : plainX pb = true) (hm2 : plainX pc = true) : PE X (.Compare pa [po, pp] [pb, pc] pos) (tE (lay X c) W E (wE G E (.chain o p a b d))) := by
  refine PE.imp (pe_chain ho hp ha hb hc (by first | exact plain_mark hm _ | exact plain_mark hm2 _)) fun σ H Q h => ?_
  obtain ⟨e, S, Qd, he, hs, hf, k, xw⟩ := h
  simp only [wE] at hf
  refine ⟨e, S, _, he, hs, hf, fun v S1 u H1 st q hs1 rv => ?_, xw⟩
  refine ⟨e, S1, _, he.mono st.tp, hs1, q, fun v2 S2 u2 H2 st2 q2 hs2 rv2' => ?_, xw.step st⟩
  refine ⟨v, v2, S2, _, RV.mono st2.tp _ _ rv, rv2', hs2, q2, fun v3 S3 u3 H3 st3 q3 hs3 rv3 => ?_⟩
  obtain ⟨z, rfl, q4, q5⟩ := withB_some q3
  cases rv3
  refine ⟨z, rfl, ?_⟩
  have st13 := (st.trans st2).trans st3
  cases z with
  | true =>
    rw [if_pos rfl]
    refine ⟨e, S3, _, he.mono st13.tp, hs3, q4 rfl, fun v4 S4 u4 H4 st4 q6 hs4 rv4 => ?_, xw.step st13⟩
    exact ⟨v2, v4, S4, Qd, RV.mono (st3.trans st4).tp _ _ rv2', rv4, hs4, q6, (k.step st13).step st4⟩
  | false =>
    rw [if_neg Bool.false_ne_true]
    exact (k.step st13).here (q5 rfl) hs3 rfl
theorem q_var {i : Nat} {x : Str} (hN : X.N[i]? = some x) (hv : Vis X.env.scope x) (hd : (x == ("__debug__" : Str)) = false) (hcd : (x == ("__classdict__" : Str)) = false) : PE X (.Name x pos) (tE (lay X c) W E (wE G E (.var i))) := by
  refine PE.imp (pe_var hN hv hd hcd) fun σ H Q h => ?_
  obtain ⟨e, S, Qd, he, hs, hf, k, xw⟩ := h
  simp only [wE] at hf
  obtain ⟨v, e1, q⟩ := withO_some hf
  obtain ⟨u, e2, rv⟩ := he.get e1
  exact ⟨u, e2, k.here q hs rv⟩
theorem q_const {v : Val} {u : V} {pe : Expr} {a : Ex} (h : PE X pe (tC u)) (rv : ∀ H, RV X.K H v u) (hw : ∀ e S Q, wE G E a e S Q → Q v S) : PE X pe (tE (lay X c) W E (wE G E a)) := by
  refine PE.imp h fun σ H Q h => ?_
  obtain ⟨e, S, Qd, he, hs, hf, k, xw⟩ := h
  exact k.here (hw _ _ _ hf) hs (rv H)
theorem q_fld {pa : Expr} {a : Ex} {f : Str} (ha : PE X pa (tE (lay X c) W E (wE G E a))) (hm : plainX pa = true) : PE X (.Attribute pa f pos) (tE (lay X c) W E (wE G E (.fld a f))) := by
  refine PE.imp (pe_fld ha (plain_attr hm f X.env)) fun σ H Q h => ?_
  obtain ⟨e, S, Qd, he, hs, hf, k, xw⟩ := h
  simp only [wE] at hf
  refine ⟨e, S, _, he, hs, hf, fun v S1 u H1 st q hs1 rv => ?_, xw⟩
  cases v with
  | ref p =>
    cases rv
    cases e1 : S1 p with
    | none => simp only [e1] at q
    | some o =>
      cases o with
      | ins ci fs =>
        simp only [e1] at q
        obtain ⟨w, e2, q⟩ := withO_some q
        obtain ⟨dx, gs, h1, h2, h3⟩ := hs1 p _ e1
        have look : ∀ {fs : List (Str × Val)} {gs : List (Str × V)}, Paired (fun (p : Str × Val) (q : Str × V) => p.1 = q.1 ∧ NoAttr X.K (c.ca ci) p.1 ∧ RV X.K H1 p.2 q.2) fs gs → fs.lookup f = some w → ∃ u, gs.lookup f = some u ∧ NoAttr X.K (c.ca ci) f ∧ RV X.K H1 w u := by
          intro fs gs r
          induction r with
          | nil => intro z; cases z
          | @cons p q ps qs hq t ih =>
            intro z
            obtain ⟨p1, p2⟩ := p
            obtain ⟨q1, q2⟩ := q
            obtain ⟨z1, z2, z3⟩ := hq
            have z1' : p1 = q1 := z1
            subst z1'
            simp only [List.lookup_cons] at z ⊢
            cases y : f == p1 with
            | true =>
              simp only [y] at z
              cases z
              have : f = p1 := by simpa using y
              subst this
              exact ⟨q2, rfl, z2, z3⟩
            | false =>
              simp only [y] at z
              exact ih z
        obtain ⟨u, e3, na, ru⟩ := look h3 e2
        exact ⟨p, c.ca ci, dx, gs, u, rfl, h1, h2, na, e3, (k.step st).here q hs1 ru⟩
      | lst xs => simp only [e1] at q
      | dct kvs t => simp only [e1] at q
  | _ => exact q.elim
theorem q_drop {pe : Expr} {a : Ex} (ha : PE X pe (tE (lay X c) W E (wE G E a))) : PE X pe (tE (lay X c) W E (wE G E (.drop a))) := by
  refine PE.imp ha fun σ H Q h => ?_
  obtain ⟨e, S, Qd, he, hs, hf, k, xw⟩ := h
  simp only [wE] at hf
  refine ⟨e, S, _, he, hs, hf, fun v S1 u H1 st q hs1 rv => ?_, xw⟩
  refine k v _ u H1 ⟨st.tp, st.more, fun a ha => st.dom a fun z => ha ?_, st.frm⟩ q (hs1.sub keep_sub) rv
  unfold keep
  split
  · exact z
  · rfl
end
end DL

set_option autoImplicit true
set_option Elab.async false
set_option linter.all false
set_option maxRecDepth 100000
set_option maxHeartbeats 2000000
/-! Own layer, part 6: argument lists, displays, slices, calls. -/
namespace DL
open PySem PySem.Spec PyProof.Rows L2
section
variable {X : Cx} {c : LC} {W : WX} {E : Nat → Sto → Prop} {G : Cfg} {pos : Pos}
theorem a_nil : PA X [] (tA (lay X c) W E 0 (wEs G E .nil)) := by
  refine PA.imp pa_nil fun σ H Q h => ?_
  obtain ⟨e, S, Qd, he, hs, hf, k, xw⟩ := h
  simp only [wEs] at hf
  exact k [] S [] H .refl hf hs rfl rfl
theorem a_cons {pa : Expr} {pr : List Expr} {a : Ex} {r : Exs} {n : Nat} (ha : PE X pa (tE (lay X c) W E (wE G E a))) (hr : PA X pr (tA (lay X c) W E n (wEs G E r))) (hm : plainX pa = true) : PA X (pa :: pr) (tA (lay X c) W E (n + 1) (wEs G E (.cons a r))) := by
  refine PA.imp (pa_cons ha hr (plain_star hm pr X.env)) fun σ H Q h => ?_
  obtain ⟨e, S, Qd, he, hs, hf, k, xw⟩ := h
  simp only [wEs] at hf
  refine ⟨e, S, _, he, hs, hf, fun v S1 u H1 st q hs1 rv => ?_, xw⟩
  refine ⟨e, S1, _, he.mono st.tp, hs1, q, fun vs S2 us H2 st2 q2 hs2 rvs hl => ?_, xw.step st⟩
  exact k (v :: vs) S2 (u :: us) H2 (st.trans st2) q2 hs2 ⟨u, us, rfl, RV.mono st2.tp _ _ rv, rvs⟩ (by simp [hl])
theorem q_tup {pes : List Expr} {es : Exs} {n x1 : Nat} (h : PA X pes (tA (lay X c) W E n (wEs G E es))) (hn : n ≤ 1000) : PE X (.Tuple pes x1 pos) (tE (lay X c) W E (wE G E (.tup es))) := by
  refine PE.imp (pe_tup h) fun σ H Q h => ?_
  obtain ⟨e, S, Qd, he, hs, hf, k, xw⟩ := h
  simp only [wE] at hf
  refine ⟨e, S, _, he, hs, hf, fun vs S1 us H1 st q hs1 rvs hl => ⟨?_, fun p np => (k.step st).tup q hs1 rvs np⟩, xw⟩
  rw [← rvs.length, hl, sizeLine_eq]
  omega
theorem q_lst {pes : List Expr} {es : Exs} {n : Nat} (h : PA X pes (tA (lay X c) W E n (wEs G E es))) (hn : n ≤ 1000) : PE X (.List pes pos) (tE (lay X c) W E (wE G E (.lst es))) := by
  refine PE.imp (pe_lst h) fun σ H Q h => ?_
  obtain ⟨e, S, Qd, he, hs, hf, k, xw⟩ := h
  simp only [wE] at hf
  refine ⟨e, S, _, he, hs, hf, fun vs S1 us H1 st q hs1 rvs hl => ⟨?_, fun p np => (k.step st).lst q hs1 rvs np⟩, xw⟩
  rw [← rvs.length, hl, sizeLine_eq]
  omega
/-- a part of a slice -/
def tO (L : Lay) (W : WX) (E : Nat → Sto → Prop) (f : Env → Sto → (Option Int → Sto → Prop) → Prop) : TO := fun σ H Q => ∃ e S Qd, RE L.K H e σ ∧ RS L H S ∧ f e S Qd ∧ (∀ o S' H', Stp L H S H' S' → Qd o S' → RS L H' S' → Q o H') ∧ XW L W E σ H S
theorem PO.imp {X : Cx} {e : Option Expr} {t t' : TO} (h : PO X e t) (hh : ∀ σ H Q, t' σ H Q → t σ H Q) : PO X e t' := ⟨fun pins s σ H Q I q => h.run pins s σ H Q I (hh _ _ _ q)⟩
theorem o_none : PO X none (tO (lay X c) W E (wO G E .none)) := by
  refine PO.imp po_none fun σ H Q h => ?_
  obtain ⟨e, S, Qd, he, hs, hf, k, xw⟩ := h
  simp only [wO] at hf
  exact k none S H .refl hf hs
theorem o_some {pa : Expr} {a : Ex} (ha : PE X pa (tE (lay X c) W E (wE G E a))) : PO X (some pa) (tO (lay X c) W E (wO G E (.some a))) := by
  refine PO.imp (po_some ha) fun σ H Q h => ?_
  obtain ⟨e, S, Qd, he, hs, hf, k, xw⟩ := h
  simp only [wO] at hf
  refine ⟨e, S, _, he, hs, hf, fun v S1 u H1 st q hs1 rv => ?_, xw⟩
  cases v with
  | int i => cases rv; exact ⟨i, rfl, k (some i) S1 H1 st q hs1⟩
  | _ => exact q.elim
theorem q_slice {pa : Expr} {plo phi : Option Expr} {a : Ex} {lo hi : Oe} {p2 : Pos} (ha : PE X pa (tE (lay X c) W E (wE G E a))) (hl : PO X plo (tO (lay X c) W E (wO G E lo))) (hh : PO X phi (tO (lay X c) W E (wO G E hi))) :
    PE X (.Subscript pa (.Slice plo phi none p2) pos) (tE (lay X c) W E (wE G E (.slice a lo hi))) := by
  refine PE.imp (pe_slice (s_slice (c := c)) ha hl hh) fun σ H Q h => ?_
  obtain ⟨e, S, Qd, he, hs, hf, k, xw⟩ := h
  simp only [wE] at hf
  refine ⟨e, S, _, he, hs, hf, fun v S1 u H1 st q hs1 rv => ?_, xw⟩
  refine ⟨e, S1, _, he.mono st.tp, hs1, q, fun o S2 H2 st2 q2 hs2 => ?_, xw.step st⟩
  refine ⟨e, S2, _, he.mono (st.trans st2).tp, hs2, q2, fun o2 S3 H3 st3 q3 hs3 => ?_, (xw.step st).step st2⟩
  exact ⟨v, S3, Qd, RV.mono (st2.trans st3).tp _ _ rv, hs3, q3, ((k.step st).step st2).step st3⟩

/-! ### calls -/
theorem q_call {f n : Nat} {es : Exs} {x : Str} {p : Pos} {pe : Expr} {pes : List Expr} {T : Tab} {k : Nat} {sc : Scope} (O : XOk X c G T k sc) (tk : Takes X W) (hx : T.fns.lookup x = some f) (hg : Gl X x) (hd : (x == ("__debug__" : Str)) = false)
    (h : PA X (pe :: pes) (tA (lay X c) W E n (wEs G E es))) (hm : plainX pe = true) (hpl : (backTo pos (starEach pes X.env)).any (·.1) = false) : PE X (.Call (.Name x p) (pe :: pes) [] pos) (tE (lay X c) W E (wE G E (.call f es))) := by
  obtain ⟨sp, hG, FA⟩ := O.nm.fns x f hx
  obtain ⟨a, fd, ps, F, hmg, hk, hb⟩ := FA.ex
  refine PE.imp (pe_callS F O.room hg hmg hk hb (fun σ => passAt tk σ) h hd (plain_star hm pes X.env) hpl) fun σ H Q h => ?_
  obtain ⟨e, S, Qd, he, hs, hf, k, xw⟩ := h
  simp only [wE, hG] at hf
  refine ⟨e, S, _, he, hs, hf, fun vs S1 us H1 st q hs1 rvs hl => ?_, xw⟩
  exact ⟨vs, S1, Qd, E, rvs, hs1, q, k.step st, xw.step st⟩
/-- a new instance -/
theorem q_new {ci n : Nat} {es : Exs} {x : Str} {p : Pos} {pe : Expr} {pes : List Expr} {T : Tab} {k : Nat} {sc : Scope} (O : XOk X c G T k sc) (hx : T.cls.lookup x = some ci) (hg : Gl X x) (hd : (x == ("__debug__" : Str)) = false)
    (h : PA X (pe :: pes) (tA (lay X c) W E n (wEs G E es))) (hm : plainX pe = true) (hpl : (backTo pos (starEach pes X.env)).any (·.1) = false) : PE X (.Call (.Name x p) (pe :: pes) [] pos) (tE (lay X c) W E (wE G E (.new ci es))) := by
  obtain ⟨sp, hG, NA⟩ := O.nm.news x ci hx
  obtain ⟨j, a, fd, ps, hj, F, M, cl, hmg, hb⟩ := NA.ex
  refine PE.imp (pe_make M F (by rw [hj]; exact O.room) hg hmg hb .nil passL h hd (plain_star hm pes X.env) hpl) fun σ H Q h => ?_
  obtain ⟨e, S, Qd, he, hs, hf, k, xw⟩ := h
  simp only [wE, hG] at hf
  refine ⟨e, S, _, he, hs, hf, fun vs S1 us H1 st q hs1 rvs hln => ?_, xw⟩
  intro p dx np nd ne
  have t1 : Tp X.K H1 (upd H1 dx (.own p)) := Tp.fresh nd
  have np' : upd H1 dx (.own p) p = none := by rw [upd_ne (Ne.symm ne)]; exact np
  have t2 : Tp X.K (upd H1 dx (.own p)) (upd (upd H1 dx (.own p)) p (.ins (c.ca ci) dx [])) := Tp.fresh np'
  have st1 : Stp (lay X c) H1 S1 (upd H1 dx (.own p)) S1 := Stp.new nd
  have st2 : Stp (lay X c) (upd H1 dx (.own p)) S1 (upd (upd H1 dx (.own p)) p (.ins (c.ca ci) dx [])) (up S1 p (.ins ci [])) := Stp.alloc np'
  have hs2 : RS (lay X c) (upd (upd H1 dx (.own p)) p (.ins (c.ca ci) dx [])) (up S1 p (.ins ci [])) := RS.upd (hs1.new nd) t2 ⟨dx, [], upd_same, cl, .nil⟩
  have hq := q p (RS.off hs1 np)
  rw [List.append_nil]
  refine ⟨.ref p :: vs, up S1 p (.ins ci []), _, noE, ⟨_, _, rfl, rfl, RVs.mono (st1.trans st2).tp _ _ rvs⟩, hs2, hq, fun v S3 u H3 st3 q3 hs3 rv3 => ?_, fun _ _ _ _ z => z.elim⟩
  cases v with
  | non => cases rv3; exact ⟨rfl, ((k.step st).step (st1.trans st2)).step st3 |>.here q3 hs3 rfl⟩
  | _ => exact q3.elim
/-! ### built-ins -/
theorem boot_b : ∀ b : Bt, bootBuiltins (bN b) = some (bf b)
  | .len => by decide +kernel
  | .all => by decide +kernel
  | .any => by decide +kernel
  | .tuple => by decide +kernel
  | .list => by decide +kernel
  | .dict => by decide +kernel
  | .sorted => by decide +kernel
  | .int => by decide +kernel
  | .max1 => by decide +kernel
  | .max2 => by decide +kernel
  | .min1 => by decide +kernel
  | .min2 => by decide +kernel
  | .sum => by decide +kernel
  | .str => by decide +kernel
theorem bN_mem (b : Bt) : bN b ∈ [("len" : Str), "all", "any", "tuple", "list", "dict", "sorted", "int", "max", "min", "sum", "str", "isinstance", "range", "enumerate", "zip", "bool"] := by
  cases b <;> simp [bN]
theorem nmg {T : Tab} {k : Nat} {sc : Scope} (O : XOk X c G T k sc) (b : Bt) : X.mg (bN b) = none := O.nm.blt _ (bN_mem b)
theorem pe_callBf {b : Bt} {x : Str} {p : Pos} {e : Expr} {es : List Expr} {t : TA} {r : List V → Hp → VK → Prop} (hc : CallR X (bf b) r) (hx : x = bN b) (hg : Gl X x) (hm : X.mg x = none) (ha : PA X (e :: es) t) (hn : x ≠ "__name__") (hdb : (x == ("__debug__" : Str)) = false)
    (he : starEach (e :: es) X.env = (false, eval e X.env) :: starEach es X.env) (hpl : (backTo pos (starEach es X.env)).any (·.1) = false) : PE X (.Call (.Name x p) (e :: es) [] pos) (tCB r t) := by
  subst hx
  have hv := boot_b b
  cases b <;> first
    | exact pe_callB hc hg hm hv ha hn hdb he hpl
    | exact pe_callTy hc hg hm hv ha hn hdb he hpl
theorem q_blt {b : Bt} {n : Nat} {es : Exs} {x : Str} {p : Pos} {pe : Expr} {pes : List Expr} {T : Tab} {k : Nat} {sc : Scope} (O : XOk X c G T k sc) (hx : x = bN b) (hg : Gl X x) (hn : x ≠ "__name__") (hd : (x == ("__debug__" : Str)) = false)
    (h : PA X (pe :: pes) (tA (lay X c) W E n (wEs G E es))) (hm : plainX pe = true) (hpl : (backTo pos (starEach pes X.env)).any (·.1) = false) : PE X (.Call (.Name x p) (pe :: pes) [] pos) (tE (lay X c) W E (wE G E (.blt b es))) := by
  refine PE.imp (pe_callBf (b_valsA (c := c) O.calm b) hx hg (by rw [hx]; exact nmg O b) h hn hd (plain_star hm pes X.env) hpl) fun σ H Q h => ?_
  obtain ⟨e, S, Qd, he, hs, hf, k, xw⟩ := h
  simp only [wE] at hf
  refine ⟨e, S, _, he, hs, hf, fun vs S1 us H1 st q hs1 rvs hl => ?_, xw⟩
  exact ⟨vs, S1, Qd, rvs, hs1, q, k.step st⟩
theorem q_isi {a : Ex} {t : Ty} {x y : Str} {p p2 : Pos} {pa : Expr} {T : Tab} {k : Nat} {sc : Scope} (O : XOk X c G T k sc) (hx : x = "isinstance") (hy : y = tN t) (hg : Gl X x) (hg2 : Gl X y)
    (ha : PE X pa (tE (lay X c) W E (wE G E a))) (hst : starEach [pa, .Name y p2] X.env = (false, eval pa X.env) :: starEach [.Name y p2] X.env) : PE X (.Call (.Name x p) [pa, .Name y p2] [] pos) (tE (lay X c) W E (wE G E (.isi a t))) := by
  subst hx
  have hv : bootBuiltins y = some (.type (tyN t)) := by subst hy; cases t <;> decide +kernel
  have hm : X.mg y = none := O.nm.blt _ (by subst hy; cases t <;> simp [tN])
  have hn : y ≠ "__name__" := by subst hy; cases t <;> decide
  have hd : (y == ("__debug__" : Str)) = false := by subst hy; cases t <;> decide
  have hy : PE X (.Name y p2) (tC (.ty (tyN t))) := pe_bltn hg2 hm hv rfl hn hd
  refine PE.imp (pe_callB (b_isi (c := c) t) hg (O.nm.blt _ (by simp)) (by decide +kernel) (pa_cons ha (pa_cons hy pa_nil) hst) (by decide) (by decide) hst rfl) fun σ H Q h => ?_
  obtain ⟨e, S, Qd, he, hs, hf, k, xw⟩ := h
  simp only [wE] at hf
  refine ⟨e, S, _, he, hs, hf, fun v S1 u H1 st q hs1 rv => ?_, xw⟩
  exact ⟨u, v, S1, Qd, rfl, rv, hs1, q.1, q.2, k.step st⟩
end
end DL

set_option autoImplicit true
set_option Elab.async false
set_option linter.all false
set_option maxRecDepth 100000
set_option maxHeartbeats 2000000
/-! Own layer, part 7: methods. -/
namespace DL
open PySem PySem.Spec PyProof.Rows L2
section
variable {X : Cx} {c : LC} {W : WX} {E : Nat → Sto → Prop} {G : Cfg} {pos : Pos}
/-- a built-in type's method is to be found at a value -/
def TyIs (X : Cx) (T : String) (x : V) (H : Hp) : Prop := ∀ (pins : List (Addr × Obj)) (σ : L2.St) (s : Shared) (v : Value), Inv X pins σ H s → RelV x v → s.TypeIs v T ∧ ∀ a, v = .ref a → ∃ ob, s.heap.get? a = some ob ∧ ob.dict = none
/-- the method that is found -/
def Found (X : Cx) (name : Str) (x : V) (H : Hp) (r : V → List V → Hp → VK → Prop) : Prop := ∃ (T id : String), PlainAttrs T ∧ Slot T name id ∧ typeOf (.builtin id) = pure (.type "method_descriptor") ∧ MtR X id r ∧ TyIs X T x H
def tBMd (X : Cx) (name : Str) (to : TE) (t : TA) : TE := fun σ H Q => to σ H fun x H1 => ∃ r, Found X name x H1 r ∧ t σ H1 fun xs H2 => r x xs H2 Q
def tBMd0 (X : Cx) (name : Str) (to : TE) : TE := fun σ H Q => to σ H fun x H1 => ∃ r, Found X name x H1 r ∧ r x [] H1 Q
theorem pe_bmD {o e : Expr} {es : List Expr} {to : TE} {t : TA} {name : Str} {apos cpos : Pos} (ho : PE X o to) (ha : PA X (e :: es) t) (he : plainX e = true)
    (hbase : attributeBase o name X.env (eval o X.env) = eval o X.env)
    (hfew : ((backTo cpos (starEach (e :: es) X.env)).all (fun x => !x.1) && (backToKw cpos (keywordEach [] X.env)).all (fun x => x.1.isSome)
      && decide ((e :: es).length + ([] : List Keyword).length + (if ([] : List Keyword).isEmpty then 0 else 1) < 30)) = true)
    (hline : (apos.endLine == cpos.line) = true) (hplain : (backTo cpos (starEach es X.env)).any (·.1) = false) :
    PE X (.Call (.Attribute o name apos) (e :: es) [] cpos) (tBMd X name to t) := by
  refine ⟨fun pins s σ H Q I h => ?_⟩
  refine wpAny_Call_method_late hbase hfew hline rfl (thn (ho.run pins s σ H _ I h) fun v s1 ⟨x, H1, I1, r1, r, ⟨T, id, pa, slot, hty, hm, ty⟩, q1⟩ => ?_)
  obtain ⟨h1, h2⟩ := ty pins σ s1 v I1 r1
  refine ⟨T, id, pa, slot, hty, h1, h2, ?_⟩
  have hA := ha.run cpos pins s1 σ H1 _ I1 q1
  rw [plain_star he] at hA ⊢
  refine Calls.callWith_builtin (by show (false || (backTo cpos (starEach es X.env)).any (·.1)) = false; rw [hplain] <;> rfl) (Calls.evalArgs_plain ?_)
  exact thn hA fun us s2 ⟨vs, H2, I2, r2, q2⟩ => hm pins s2 σ H2 x vs v us Q I2 r1 r2 q2
theorem pe_bmD0 {o : Expr} {to : TE} {name : Str} {apos cpos : Pos} (ho : PE X o to)
    (hbase : attributeBase o name X.env (eval o X.env) = eval o X.env) (hline : (apos.endLine == cpos.line) = true) :
    PE X (.Call (.Attribute o name apos) [] [] cpos) (tBMd0 X name to) := by
  refine ⟨fun pins s σ H Q I h => ?_⟩
  refine wpAny_Call_method0_late hbase hline (thn (ho.run pins s σ H _ I h) fun v s1 ⟨x, H1, I1, r1, r, ⟨T, id, pa, slot, hty, hm, ty⟩, q1⟩ => ?_)
  obtain ⟨h1, h2⟩ := ty pins σ s1 v I1 r1
  exact ⟨T, id, pa, slot, hty, h1, h2, Calls.callWith_builtin rfl (PySem.evalArgs_none (hm pins s1 σ H1 x [] v [] Q I1 r1 .nil q1))⟩
theorem ty_list {p : Addr} {H : Hp} {us : List V} (h : H p = some (.lst us)) : TyIs X "list" (.ref p) H := fun pins σ s v I r => tyV_is I r (.inl ⟨rfl, us, SqL.of h⟩)
theorem ty_dict {p : Addr} {H : Hp} {es : Array DictEntry} {t : Nat} (h : H p = some (dctO p es t)) : TyIs X "dict" (.ref p) H := fun pins σ s v I r => by
  cases r
  obtain ⟨o, e1, e2, e3⟩ := raw_of I h
  refine ⟨(raw_of I h).typeIs, fun a e => ?_⟩
  cases e
  exact ⟨o, e1, e2.2.1⟩
/-- the method of a list -/
theorem m_list (hu : X.A.units + 70 < cLine) : ∀ m : Mt, mOk m = true → ∃ id, Slot "list" (mN m) id ∧ typeOf (.builtin id) = pure (.type "method_descriptor") ∧ MtR X id (rvm (lay X c) m)
  | .append, _ => ⟨_, PySem.F.slot_list_append, PySem.F.type_list_append, m_append⟩
  | .extend, _ => ⟨_, PySem.F.slot_list_extend, PySem.F.type_list_extend, m_extend⟩
  | .pop, _ => ⟨_, PySem.F.slot_list_pop, PySem.F.type_list_pop, m_pop⟩
  | .reverse, _ => ⟨_, PySem.F.slot_list_reverse, PySem.F.type_list_reverse, m_reverse⟩
  | .index, _ => ⟨_, PySem.F.slot_list_index, PySem.F.type_list_index, m_index hu⟩
  | .count, _ => ⟨_, PySem.F.slot_list_count, PySem.F.type_list_count, m_count hu⟩
  | .setdefault, h => by cases h
  | .get, h => by cases h
  | .split, h => by cases h
  | .find, h => by cases h
theorem recv_list : ∀ {m : Mt} {v : Val} {S : Sto}, mOk m = true → recv m v S = true → ∃ p xs, v = .ref p ∧ S p = some (.lst xs) := by
  intro m v S h q
  cases v with
  | ref p =>
    cases e : S p with
    | none => cases m <;> first | (simp [recv, e] at q; done) | (cases h; done)
    | some o =>
      cases o with
      | lst xs => exact ⟨p, xs, rfl, e⟩
      | dct kvs t => cases m <;> first | (simp [recv, e] at q; done) | (cases h; done)
      | ins ci fs => cases m <;> first | (simp [recv, e] at q; done) | (cases h; done)
  | _ => cases m <;> first | (simp [recv] at q; done) | (cases h; done)
theorem few_args {es : List Expr} {cpos : Pos} (hl : es.length < 20) (h : (backTo cpos (starEach es X.env)).any (·.1) = false) :
    ((backTo cpos (starEach es X.env)).all (fun x => !x.1) && (backToKw cpos (keywordEach [] X.env)).all (fun x => x.1.isSome)
      && decide (es.length + ([] : List Keyword).length + (if ([] : List Keyword).isEmpty then 0 else 1) < 30)) = true := by
  have e1 : (backTo cpos (starEach es X.env)).all (fun x => !x.1) = true := by
    rw [List.all_eq_true]
    intro x hx
    rw [List.any_eq_false] at h
    have := h x hx
    simpa using this
  rw [e1]
  simp [keywordEach, backToKw]
  omega
theorem m_dict (hu : X.A.units + 10 < cLine) : ∀ m : Mt, dOk m = true → ∃ id, Slot "dict" (mN m) id ∧ typeOf (.builtin id) = pure (.type "method_descriptor") ∧ MtR X id (rvm (lay X c) m)
  | .setdefault, _ => ⟨_, PySem.F.slot_dict_setdefault, PySem.F.type_dict_setdefault, m_setdefault hu⟩
  | .get, _ => ⟨_, PySem.F.slot_dict_get, PySem.F.type_dict_get, m_get hu⟩
  | .append, h => by cases h
  | .extend, h => by cases h
  | .pop, h => by cases h
  | .reverse, h => by cases h
  | .index, h => by cases h
  | .count, h => by cases h
  | .split, h => by cases h
  | .find, h => by cases h
theorem recv_dict : ∀ {m : Mt} {v : Val} {S : Sto}, dOk m = true → recv m v S = true → ∃ p kvs t, v = .ref p ∧ S p = some (.dct kvs t) := by
  intro m v S h q
  cases v with
  | ref p =>
    cases e : S p with
    | none => cases m <;> first | (simp [recv, e] at q; done) | (cases h; done)
    | some o =>
      cases o with
      | dct kvs t => exact ⟨p, kvs, t, rfl, e⟩
      | lst xs => cases m <;> first | (simp [recv, e] at q; done) | (cases h; done)
      | ins c fs => cases m <;> first | (simp [recv, e] at q; done) | (cases h; done)
  | _ => cases m <;> first | (simp [recv] at q; done) | (cases h; done)
/-- what is found of a receiver -/
theorem recv_found {m : Mt} {v : Val} {u : V} {S : Sto} {H : Hp} (hu : X.A.units + 70 < cLine) (hm : (mOk m || dOk m) = true) (h : recv m v S = true) (hs : RS (lay X c) H S) (rv : RV X.K H v u) : Found X (mN m) u H (rvm (lay X c) m) := by
  cases e : mOk m with
  | true =>
    obtain ⟨p, xs, rfl, ep⟩ := recv_list e h
    cases rv
    obtain ⟨us, hl, hr⟩ := hs p _ ep
    obtain ⟨id, s1, s2, s3⟩ := m_list (X := X) (c := c) hu m e
    exact ⟨"list", id, PySem.F.plainAttrs_list, s1, s2, s3, ty_list hl⟩
  | false =>
    rw [e, Bool.false_or] at hm
    obtain ⟨p, kvs, t, rfl, ep⟩ := recv_dict hm h
    cases rv
    obtain ⟨es, h1, h2, h3, h4, h5⟩ := hs p _ ep
    obtain ⟨id, s1, s2, s3⟩ := m_dict (X := X) (c := c) (by omega) m hm
    exact ⟨"dict", id, PySem.F.plainAttrs_dict, s1, s2, s3, ty_dict h1⟩
theorem q_meth {a : Ex} {m : Mt} {n : Nat} {es : Exs} {pa pe : Expr} {pes : List Expr} {apos : Pos} (hu : X.A.units + 70 < cLine) (hm : (mOk m || dOk m) = true) (ha : PE X pa (tE (lay X c) W E (wE G E a))) (h : PA X (pe :: pes) (tA (lay X c) W E n (wEs G E es)))
    (hp : plainX pa = true) (hpe : plainX pe = true) (hl : (pe :: pes).length < 20) (hline : (apos.endLine == pos.line) = true) (hpl : (backTo pos (starEach pes X.env)).any (·.1) = false) :
    PE X (.Call (.Attribute pa (mN m) apos) (pe :: pes) [] pos) (tE (lay X c) W E (wE G E (.meth a m es))) := by
  have hpl' : (backTo pos (starEach (pe :: pes) X.env)).any (·.1) = false := by rw [plain_star hpe]; exact hpl
  refine PE.imp (pe_bmD ha h hpe (plain_attr hp _ X.env) (few_args hl hpl') hline hpl) fun σ H Q h => ?_
  obtain ⟨e, S, Qd, he, hs, hf, k, xw⟩ := h
  simp only [wE] at hf
  refine ⟨e, S, _, he, hs, hf, fun v S1 u H1 st q hs1 rv => ?_, xw⟩
  obtain ⟨rc, q⟩ := q
  refine ⟨_, recv_found hu hm rc hs1 rv, ?_⟩
  refine ⟨e, S1, _, he.mono st.tp, hs1, q, fun vs S2 us2 H2 st2 q2 hs2 rvs _ => ?_, xw.step st⟩
  exact ⟨v, vs, S2, Qd, RV.mono st2.tp _ _ rv, rvs, hs2, q2, (k.step st).step st2⟩
theorem q_meth0 {a : Ex} {m : Mt} {pa : Expr} {apos : Pos} (hu : X.A.units + 70 < cLine) (hm : (mOk m || dOk m) = true) (ha : PE X pa (tE (lay X c) W E (wE G E a))) (hp : plainX pa = true) (hline : (apos.endLine == pos.line) = true) :
    PE X (.Call (.Attribute pa (mN m) apos) [] [] pos) (tE (lay X c) W E (wE G E (.meth a m .nil))) := by
  refine PE.imp (pe_bmD0 ha (plain_attr hp _ X.env) hline) fun σ H Q h => ?_
  obtain ⟨e, S, Qd, he, hs, hf, k, xw⟩ := h
  simp only [wE, wEs] at hf
  refine ⟨e, S, _, he, hs, hf, fun v S1 u H1 st q hs1 rv => ?_, xw⟩
  obtain ⟨rc, q⟩ := q
  exact ⟨_, recv_found hu hm rc hs1 rv, v, [], S1, Qd, rv, rfl, hs1, q, k.step st⟩

theorem pa_strs : ∀ {zs : List Str} {es : List Expr}, strsC zs es = true → PA X es (fun _ H Q => Q (zs.map V.str) H)
  | [], [], _ => pa_nil
  | [], _ :: _, h => by simp [strsC] at h
  | z :: zs, [], h => by simp [strsC] at h
  | z :: zs, e :: es, h => by
    cases e with
    | Constant v j p =>
      cases v with
      | str y =>
        simp only [strsC, Bool.and_eq_true, decide_eq_true_eq] at h
        obtain ⟨rfl, h2⟩ := h
        exact pa_cons pe_str (pa_strs h2)
      | _ => simp [strsC] at h
    | _ => simp [strsC] at h
/-- a written tuple's place of a text: the tuple is new, so it has no dict -/
theorem pe_tix {es : List Expr} {zs : List Str} {x1 : Nat} {p1 apos cpos : Pos} {e : Expr} {te : TE} (hz : strsC zs es = true) (hl : zs.length ≤ 1000) (he : PE X e te) (hp : plainX e = true) (hline : (apos.endLine == cpos.line) = true) :
    PE X (.Call (.Attribute (.Tuple es x1 p1) ("index" : Str) apos) [e] [] cpos) (fun σ H Q => ∀ p, H p = none → te σ (upd H p (.tup (zs.map V.str))) fun y H2 =>
      ∃ (z : Str) (j : Nat), y = .str z ∧ SqT X.K H2 p (zs.map V.str) ∧ zs[j]? = some z ∧ (∀ m, m < j → zs[m]? ≠ some z) ∧ Q (.int (j : Nat)) H2) := by
  refine ⟨fun pins s σ H Q I h => ?_⟩
  have hfew := few_args (X := X) (es := [e]) (cpos := cpos) (by simp) (by rw [plain_star hp]; rfl)
  refine wpAny_Call_method_late (plain_attr (e := .Tuple es x1 p1) rfl _ X.env) hfew hline rfl ?_
  refine wpAny_Tuple_spliced (thn ((pa_strs (X := X) hz).run p1 pins s σ H (fun xs H1 => xs = zs.map V.str ∧ H1 = H) I ⟨rfl, rfl⟩) fun us s1 ⟨xs, H1, I1, r, ex, eh⟩ => ⟨by rw [← r.length, ex, List.length_map, sizeLine_eq]; omega, ?_⟩)
  subst ex eh
  have hf : H1 s1.heap.objs.size = none := I1.hok.fresh (Nat.le_refl _)
  have hz2 : (zs.map V.str).length ≤ sizeLine := by rw [List.length_map, sizeLine_eq]; omega
  have J := I1.laid (t' := s1.toks) (fun b u q => Heap.get?_push_of_some _ q) (Nat.le_refl _) (o := .tup (zs.map V.str)) (a := s1.heap.objs.size) (h' := s1.heap.push { cls := .type "tuple", data := .seq us.toArray 0 }) ⟨hz2, us, r, ⟨_, Heap.get?_push_size _ rfl, rfl, _, rfl⟩⟩
  refine ⟨"tuple", _, PySem.F.plainAttrs_tuple, PySem.F.slot_tuple_index, PySem.F.type_tuple_index, ⟨_, Heap.get?_push_size _ rfl, rfl⟩, fun a q => ?_, ?_⟩
  · cases q
    exact ⟨_, Heap.get?_push_size _ rfl, rfl⟩
  have hA := (pa_cons he pa_nil (plain_star hp [] X.env)).run cpos pins _ σ _ (fun xs H2 => match xs with
    | [y] => ∃ (z : Str) (j : Nat), y = .str z ∧ SqT X.K H2 s1.heap.objs.size (zs.map V.str) ∧ zs[j]? = some z ∧ (∀ m, m < j → zs[m]? ≠ some z) ∧ Q (.int (j : Nat)) H2
    | _ => False) J (h _ hf)
  rw [plain_star hp] at hA ⊢
  refine Calls.callWith_builtin rfl (Calls.evalArgs_plain ?_)
  refine thn hA fun us2 s2 ⟨vs, H2, I2, r2, q2⟩ => ?_
  simp only at q2
  split at q2
  · rename_i y
    obtain ⟨z, j, rfl, h1, h2, h3, h4⟩ := q2
    exact mt_tup_index pins s2 σ H2 (.ref s1.heap.objs.size) [.str z] (.ref s1.heap.objs.size) us2 Q I2 rfl r2 ⟨_, zs, z, j, rfl, rfl, h1, h2, h3, h4⟩
  · exact q2.elim
theorem strIx_at {z : Str} : ∀ {zs : List Str} {n j : Nat}, strIx z zs n = some j → ∃ i, j = n + i ∧ zs[i]? = some z ∧ ∀ m, m < i → zs[m]? ≠ some z
  | [], n, j, h => by cases h
  | y :: ys, n, j, h => by
    unfold strIx at h
    by_cases q : y = z
    · rw [if_pos q] at h
      cases h
      exact ⟨0, rfl, by rw [q]; rfl, fun m hm => by omega⟩
    · rw [if_neg q] at h
      obtain ⟨i, h1, h2, h3⟩ := strIx_at h
      refine ⟨i + 1, by omega, by simpa using h2, fun m hm => ?_⟩
      cases m with
      | zero => simpa using q
      | succ m => simpa using h3 m (by omega)
theorem q_tix {a : Ex} {es : List Expr} {zs : List Str} {x1 : Nat} {p1 apos cpos : Pos} {e : Expr} (hz : strsC zs es = true) (hl : zs.length ≤ 1000) (he : PE X e (tE (lay X c) W E (wE G E a))) (hp : plainX e = true) (hline : (apos.endLine == cpos.line) = true) :
    PE X (.Call (.Attribute (.Tuple es x1 p1) ("index" : Str) apos) [e] [] cpos) (tE (lay X c) W E (wE G E (.tix zs a))) := by
  refine PE.imp (pe_tix hz hl he hp hline) fun σ H Q h p np => ?_
  obtain ⟨e', S, Qd, he', hs, hf, k, xw⟩ := h
  simp only [wE] at hf
  have st0 : Stp (lay X c) H S (upd H p (.tup (zs.map V.str))) S := Stp.new np
  refine ⟨e', S, _, he'.mono st0.tp, hs.new np, hf, fun v S1 u H1 st q hs1 rv => ?_, xw.step st0⟩
  cases v with
  | str z =>
    have eu : u = .str z := rv
    subst eu
    obtain ⟨j, ej, q⟩ := withO_some q
    obtain ⟨i, e0, e1, e2⟩ := strIx_at ej
    rw [Nat.zero_add] at e0
    subst e0
    exact ⟨z, j, rfl, st.tp.1 _ _ (SqT.of upd_same), e1, e2, ((k.step st0).step st).here (v := .int j) q hs1 rfl⟩
  | _ => exact q.elim

/-- a method of an own class, whichever -/
def OwnM (X : Cx) (m : Str) (k : Nat) (x : V) (H : Hp) (sp : Sp) : Prop := ∃ (a C dx f : Addr) (fs : List (Str × V)) (fd : FuncData) (ps : List Str), x = .ref a ∧ H a = some (.ins C dx fs) ∧ Cls X.K C ∧ Meth X.K C m f ∧
  FnOk X.prog X.w X.K X.mg X.base (L2.CX X.prog X.w) k f fd ps sp ∧ Binds X.K fd ps [] ∧ fs.lookup m = none
def tMethD (X : Cx) (m : Str) (k : Nat) (ta : TE) (t : TA) : TE := fun σ H Q => ta σ H fun x H1 => ∃ sp, OwnM X m k x H1 sp ∧ t σ H1 fun vs H2 => sp (x :: vs) H2 Q E0
def tMethD0 (X : Cx) (m : Str) (k : Nat) (ta : TE) : TE := fun σ H Q => ta σ H fun x H1 => ∃ sp, OwnM X m k x H1 sp ∧ sp [x] H1 Q E0
theorem call_meth_eq {o : Expr} {m : Str} {apos : Pos} {es : List Expr} (hb : attributeBase o m X.env (eval o X.env) = eval o X.env) (hline : (apos.endLine == pos.line) = true) (hpl : (backTo pos (starEach es X.env)).any (·.1) = false) (hl : es.length < 20) :
    eval (.Call (.Attribute o m apos) es [] pos) X.env = (do
      let ov ← eval o X.env
      standAt apos.atName
      let (f, first) ← holding [ov] (getMethod ov m (do return (← importBound o X.env).getD true))
      callWith pos f first (backTo pos (starEach es X.env)) (backToKw pos (keywordEach [] X.env))) := by
  rw [arm_eval_Call, hb]
  have hf : methodCallForm (es.length + ([] : List Keyword).length) (backTo pos (starEach es X.env)) (backToKw pos (keywordEach [] X.env)) = true := by
    have := few_args (X := X) (cpos := pos) hl hpl
    unfold methodCallForm
    simpa [keywordEach, backToKw] using this
  unfold methodCall
  rw [hf]
  unfold calleeOf methodCallPos
  simp only [hline, Bool.not_true, Bool.false_or, if_true]
  rfl
theorem pe_methD {o e : Expr} {m : Str} {apos : Pos} {es : List Expr} {k : Nat} {ta : TE} {t : TA} (he : PE X o ta) (hr : Room k X.A) (ha : PA X (e :: es) t) (hb : attributeBase o m X.env (eval o X.env) = eval o X.env) (hline : (apos.endLine == pos.line) = true)
    (hpl : (backTo pos (starEach es X.env)).any (·.1) = false) (hl : (e :: es).length < 20) (hpe : plainX e = true) : PE X (.Call (.Attribute o m apos) (e :: es) [] pos) (tMethD X m k ta t) := by
  refine ⟨fun pins s σ H Q I h => ?_⟩
  have hpl' : (backTo pos (starEach (e :: es) X.env)).any (·.1) = false := by rw [plain_star hpe]; exact hpl
  refine PySem.W.methodCall_KW (thn (he.run pins s σ H _ I h) fun u s1 ⟨x, H1, I1, rx, sp, ⟨a, C, dx, f, fs, fd, ps, ex, ea, c, hm, F, hbi, l⟩, q⟩ => ?_) (call_meth_eq hb hline hpl' hl)
  subst ex
  obtain rfl : u = Value.ref a := rx
  refine getmeth_ok I1 ea c hm l ?_
  refine PySem.W.callWith_K (first := [.ref a]) (h₀ := X.base) I.ok.mod.kin hm.kp (thn (ha.run pos pins s1 σ H1 _ I1 q) fun us s2 ⟨vs, H2, I2, r, q2⟩ => ⟨I2.kIn, ?_⟩) (plain_star hpe es X.env) hpl
  exact run_fn (us := .ref a :: us) (vs := .ref a :: vs) F hr hbi .nil passL I2 (.cons rfl r) (by rw [List.append_nil]; exact q2)
theorem pe_methD0 {o : Expr} {m : Str} {apos : Pos} {k : Nat} {ta : TE} (he : PE X o ta) (hr : Room k X.A) (hb : attributeBase o m X.env (eval o X.env) = eval o X.env) (hline : (apos.endLine == pos.line) = true) :
    PE X (.Call (.Attribute o m apos) [] [] pos) (tMethD0 X m k ta) := by
  refine ⟨fun pins s σ H Q I h => ?_⟩
  refine PySem.W.methodCall_KW (thn (he.run pins s σ H _ I h) fun u s1 ⟨x, H1, I1, rx, sp, ⟨a, C, dx, f, fs, fd, ps, ex, ea, c, hm, F, hbi, l⟩, q⟩ => ?_) (call_meth_eq hb hline rfl (by decide))
  subst ex
  obtain rfl : u = Value.ref a := rx
  refine getmeth_ok I1 ea c hm l ?_
  exact PySem.W.callWith_K0 (first := [.ref a]) I1.kIn hm.kp (run_fn (us := [.ref a]) (vs := [.ref a]) F hr hbi .nil passL I1 (.cons rfl .nil) (by rw [List.append_nil]; exact q))
theorem own_found {T : Tab} {k : Nat} {sc : Scope} {p : Addr} {ci : Nat} {fs : List (Str × Val)} {m : Str} {sp : Spec} {S : Sto} {H : Hp} (O : XOk X c G T k sc) (hG : G.mt ci m = some sp) (hm : m ≠ ("__init__" : Str)) (hs : RS (lay X c) H S) (e : S p = some (.ins ci fs)) (l : fs.lookup m = none) :
    OwnM X m k (.ref p) H (lift (lay X c) sp) := by
  obtain ⟨a, fd, ps, F, hM, hb⟩ := (O.nm.mts ci m sp hG hm).ex
  obtain ⟨dx, gs, h1, h2, h3⟩ := hs p _ e
  refine ⟨p, c.ca ci, dx, a, gs, fd, ps, rfl, h1, h2, hM, F, hb, ?_⟩
  clear e h1
  induction h3 with
  | nil => rfl
  | @cons p q ps qs hq t ih =>
    obtain ⟨p1, p2⟩ := p
    obtain ⟨q1, q2⟩ := q
    have z1 : p1 = q1 := hq.1
    subst z1
    simp only [List.lookup_cons] at l ⊢
    cases y : m == p1 with
    | true => simp only [y] at l; cases l
    | false => simp only [y] at l; exact ih l
theorem q_umeth {a : Ex} {m : Str} {n : Nat} {es : Exs} {pa pe : Expr} {pes : List Expr} {apos : Pos} {T : Tab} {k : Nat} {sc : Scope} (O : XOk X c G T k sc) (hm : m ≠ ("__init__" : Str)) (ha : PE X pa (tE (lay X c) W E (wE G E a))) (h : PA X (pe :: pes) (tA (lay X c) W E n (wEs G E es)))
    (hp : plainX pa = true) (hpe : plainX pe = true) (hl : (pe :: pes).length < 20) (hline : (apos.endLine == pos.line) = true) (hpl : (backTo pos (starEach pes X.env)).any (·.1) = false) :
    PE X (.Call (.Attribute pa m apos) (pe :: pes) [] pos) (tE (lay X c) W E (wE G E (.umeth a m es))) := by
  refine PE.imp (pe_methD ha O.room h (plain_attr hp _ X.env) hline hpl hl hpe) fun σ H Q h => ?_
  obtain ⟨e, S, Qd, he, hs, hf, k, xw⟩ := h
  simp only [wE] at hf
  refine ⟨e, S, _, he, hs, hf, fun v S1 u H1 st q hs1 rv => ?_, xw⟩
  cases v with
  | ref p =>
    cases rv
    cases e1 : S1 p with
    | none => simp only [e1] at q
    | some o =>
      cases o with
      | ins ci fs =>
        simp only [e1] at q
        obtain ⟨l, q⟩ := q
        obtain ⟨sp, hG, q⟩ := withO_some q
        refine ⟨_, own_found O hG hm hs1 e1 l, ?_⟩
        refine ⟨e, S1, _, he.mono st.tp, hs1, q, fun vs S2 us2 H2 st2 q2 hs2 rvs _ => ?_, xw.step st⟩
        exact ⟨.ref p :: vs, S2, Qd, noE, ⟨_, _, rfl, rfl, rvs⟩, hs2, q2, (k.step st).step st2, fun _ _ _ _ z => z.elim⟩
      | lst xs => simp only [e1] at q
      | dct kvs t => simp only [e1] at q
  | _ => exact q.elim
theorem q_umeth0 {a : Ex} {m : Str} {pa : Expr} {apos : Pos} {T : Tab} {k : Nat} {sc : Scope} (O : XOk X c G T k sc) (hm : m ≠ ("__init__" : Str)) (ha : PE X pa (tE (lay X c) W E (wE G E a)))
    (hp : plainX pa = true) (hline : (apos.endLine == pos.line) = true) : PE X (.Call (.Attribute pa m apos) [] [] pos) (tE (lay X c) W E (wE G E (.umeth a m .nil))) := by
  refine PE.imp (pe_methD0 ha O.room (plain_attr hp _ X.env) hline) fun σ H Q h => ?_
  obtain ⟨e, S, Qd, he, hs, hf, k, xw⟩ := h
  simp only [wE, wEs] at hf
  refine ⟨e, S, _, he, hs, hf, fun v S1 u H1 st q hs1 rv => ?_, xw⟩
  cases v with
  | ref p =>
    cases rv
    cases e1 : S1 p with
    | none => simp only [e1] at q
    | some o =>
      cases o with
      | ins ci fs =>
        simp only [e1] at q
        obtain ⟨l, q⟩ := q
        obtain ⟨sp, hG, q⟩ := withO_some q
        exact ⟨_, own_found O hG hm hs1 e1 l, [.ref p], S1, Qd, noE, ⟨_, _, rfl, rfl, rfl⟩, hs1, q, k.step st, fun _ _ _ _ z => z.elim⟩
      | lst xs => simp only [e1] at q
      | dct kvs t => simp only [e1] at q
  | _ => exact q.elim
end
end DL

set_option autoImplicit true
set_option Elab.async false
set_option linter.all false
set_option maxRecDepth 100000
set_option maxHeartbeats 2000000
/-! Own layer, part 8: targets, what is walked, comprehensions. -/
namespace DL
open PySem PySem.Spec PyProof.Rows L2

/-! ### targets -/
def gMany : List Nat → TGs
  | [] => gNil
  | i :: r => gCons (gName i) (gMany r)
def gT (K : PySem.W.Frag) : Tg → TG
  | .one i => gName i
  | .many is => gTup K is.length (gMany is)
theorem wipe_set_in {v : Option V} : ∀ {vs : List Nat} {σ : L2.St} {i : Nat}, i ∈ vs → wipe (σ.set i v) vs = wipe σ vs
  | [], _, _, h => by simp at h
  | j :: vs, σ, i, h => by
    show (wipe (σ.set i v) vs).set j none = (wipe σ vs).set j none
    by_cases e : i = j
    · subst e
      have key : ∀ (vs : List Nat) (σ : L2.St), (wipe (σ.set i v) vs).set i none = (wipe σ vs).set i none := by
        intro vs
        induction vs with
        | nil => intro σ; show (σ.set i v).set i none = σ.set i none; rw [List.set_set]
        | cons k vs ih =>
          intro σ
          show ((wipe (σ.set i v) vs).set k none).set i none = ((wipe σ vs).set k none).set i none
          by_cases e2 : k = i
          · subst e2; rw [List.set_set, List.set_set]; exact ih σ
          · rw [List.set_comm _ _ e2, List.set_comm _ _ e2, ih σ]
      exact key vs σ
    · have h' : i ∈ vs := by
        rcases List.mem_cons.mp h with z | z
        · exact absurd z e
        · exact z
      rw [wipe_set_in h']
theorem many_ok {K : PySem.W.Frag} {H : Hp} {Q : L2.St → Hp → Prop} : ∀ {is : List Nat} {vs : List Val} {us : List V} {e e' : Env} {σ : L2.St}, bindMany e is vs = some e' → RVs K H vs us → RE K H e σ →
    (∀ σ', RE K H e' σ' → (∀ ws : List Nat, (∀ i ∈ is, i ∈ ws) → wipe σ' ws = wipe σ ws) → Q σ' H) → gMany is us σ H Q
  | [], [], us, e, e', σ, h, r, re, k => by
    cases r
    have h' : some e = some e' := h
    cases h'
    exact ⟨rfl, k σ re fun _ _ => rfl⟩
  | [], _ :: _, _, _, _, _, h, _, _, _ => by cases h
  | _ :: _, [], _, _, _, _, h, _, _, _ => by cases h
  | i :: is, v :: vs, us, e, e', σ, h, r, re, k => by
    obtain ⟨u, us', rfl, r1, r2⟩ := r
    refine ⟨u, us', rfl, ?_⟩
    refine many_ok (e := e.set i (some v)) (e' := e') h r2 (re.set i r1) fun σ' re' hw => k σ' re' fun ws hin => ?_
    rw [hw ws fun j hj => hin j (List.mem_cons_of_mem _ hj)]
    exact wipe_set_in (hin i (by simp))
theorem many_len : ∀ {is : List Nat} {vs : List Val} {e e' : Env}, bindMany e is vs = some e' → vs.length = is.length
  | [], [], _, _, _ => rfl
  | [], _ :: _, _, _, h => by cases h
  | _ :: _, [], _, _, h => by cases h
  | i :: is, v :: vs, e, e', h => by
    have h' : bindMany (e.set i (some v)) is vs = some e' := h
    simp [many_len h']
theorem gT_ok {K : PySem.W.Frag} {H : Hp} {Q : L2.St → Hp → Prop} {tg : Tg} {v : Val} {u : V} {e e' : Env} {σ : L2.St} (h : bindT tg e v = some e') (r : RV K H v u) (re : RE K H e σ)
    (k : ∀ σ', RE K H e' σ' → (∀ ws : List Nat, (∀ i ∈ tgSlots tg, i ∈ ws) → wipe σ' ws = wipe σ ws) → Q σ' H) : gT K tg u σ H Q := by
  cases tg with
  | one i =>
    have h' : some (e.set i (some v)) = some e' := h
    cases h'
    exact k _ (re.set i r) fun ws hin => wipe_set_in (hin i (by simp [tgSlots]))
  | many is =>
    cases v with
    | tup vs =>
      obtain ⟨a, us, rfl, hq, hr⟩ := r
      have h' : bindMany e is vs = some e' := h
      exact ⟨a, us, rfl, hq, by rw [← hr.length]; exact many_len h', many_ok h' hr re k⟩
    | _ => cases h
/-- names in a row are targets -/
theorem gs_ok {X : Cx} {T : Tab} {sc : Scope} (hN : X.N.Nodup) (eN : X.N = T.N) (hl : ∀ x, locC sc x = true → Loc X.env.scope x ∧ (X.fn x = true ∨ X.env.scope.names.lookup x = some .local)) :
    ∀ {is : List Nat} {es : List Expr}, tgC T sc is es = true → PGs X es (gMany is) ∧ (assignEach es X.env).length = is.length ∧ (assignEach es X.env).findIdx? (·.1) = none
  | [], [], _ => ⟨pgs_nil, rfl, rfl⟩
  | i :: is, .Name x p :: es, h => by
    have h' : ((decide (T.N[i]? = some x) && locC sc x) && tgC T sc is es) = true := h
    rw [Bool.and_eq_true, Bool.and_eq_true] at h'
    obtain ⟨⟨h1, h2⟩, h3⟩ := h'
    obtain ⟨g, gl, gf⟩ := gs_ok hN eN hl (is := is) (es := es) h3
    obtain ⟨l1, l2⟩ := hl x h2
    refine ⟨pgs_cons (pg_name hN (by rw [eN]; exact of_decide_eq_true h1) l1 l2) g (by rfl), ?_, ?_⟩
    · show (assignEach es X.env).length + 1 = is.length + 1
      rw [gl]
    · show List.findIdx? (fun x => x.1) ((false, assign (.Name x p) X.env) :: assignEach es X.env) = none
      rw [List.findIdx?_cons, gf]
      rfl
  | [], _ :: _, h => by simp [tgC] at h
  | _ :: _, [], h => by simp [tgC] at h
  | i :: is, e :: es, h => by
    cases e <;> first | (simp [tgC] at h; done) | skip
    rename_i x p
    have h' : ((decide (T.N[i]? = some x) && locC sc x) && tgC T sc is es) = true := h
    rw [Bool.and_eq_true, Bool.and_eq_true] at h'
    obtain ⟨⟨h1, h2⟩, h3⟩ := h'
    obtain ⟨g, gl, gf⟩ := gs_ok hN eN hl (is := is) (es := es) h3
    obtain ⟨l1, l2⟩ := hl x h2
    refine ⟨pgs_cons (pg_name hN (by rw [eN]; exact of_decide_eq_true h1) l1 l2) g (by rfl), ?_, ?_⟩
    · show (assignEach es X.env).length + 1 = is.length + 1
      rw [gl]
    · show List.findIdx? (fun x => x.1) ((false, assign (.Name x p) X.env) :: assignEach es X.env) = none
      rw [List.findIdx?_cons, gf]
      rfl
theorem g_ok {X : Cx} {T : Tab} {sc : Scope} (hN : X.N.Nodup) (eN : X.N = T.N) (hc : X.calm = true) (hl : ∀ x, locC sc x = true → Loc X.env.scope x ∧ (X.fn x = true ∨ X.env.scope.names.lookup x = some .local)) {tg : Tg} {e : Expr}
    (h : tgtC T sc tg e = true) : PG X e (gT X.K tg) := by
  cases tg with
  | one i =>
    cases e <;> first | (simp [tgtC] at h; done) | skip
    rename_i x p
    have h' : (decide (T.N[i]? = some x) && locC sc x) = true := h
    rw [Bool.and_eq_true] at h'
    obtain ⟨l1, l2⟩ := hl x h'.2
    exact pg_name hN (by rw [eN]; exact of_decide_eq_true h'.1) l1 l2
  | many is =>
    cases e <;> first | (simp [tgtC] at h; done) | skip
    rename_i es k p
    have h' : tgC T sc is es = true := h
    obtain ⟨g, gl, gf⟩ := gs_ok hN eN hl h'
    exact pg_tup hc g gl gf
end DL

set_option autoImplicit true
set_option Elab.async false
set_option linter.all false
set_option maxRecDepth 100000
set_option maxHeartbeats 2000000
/-! Own layer, part 9: what is walked. -/
namespace DL
open PySem PySem.Spec PyProof.Rows L2
structure WalkV (L : Lay) (H1 : Hp) (J : It) (xs : List Val) (grd : Sto → Prop) : Prop where
  small : xs.length ≤ sizeLine
  go : ∀ i H S, i < xs.length → Tp L.K H1 H → RS L H S → grd S → J.go i H
  stop : ∀ H S, Tp L.K H1 H → RS L H S → grd S → J.stop xs.length H
  yld : ∀ i H S x H', i < xs.length → Tp L.K H1 H → RS L H S → grd S → J.yld i H x H' → ∃ v, xs[i]? = some v ∧ RV L.K H' v x ∧ Stp L H S H' S ∧ RS L H' S ∧ ∀ b, H b ≠ none → H' b = H b
def tI (L : Lay) (W : WX) (E : Nat → Sto → Prop) (f : Env → Sto → (List Val → (Sto → Prop) → Sto → Prop) → Prop) : TI := fun σ H R => ∃ e S K, RE L.K H e σ ∧ RS L H S ∧ f e S K ∧
  (∀ xs grd S' H' J, Stp L H S H' S' → K xs grd S' → RS L H' S' → WalkV L H' J xs grd → R J H') ∧ XW L W E σ H S
theorem PI.imp {X : Cx} {tg it : Expr} {t t' : TI} (h : PI X tg it t) (hh : ∀ σ H R, t' σ H R → t σ H R) : PI X tg it t' := ⟨fun pins s σ H R I q => h.run pins s σ H R I (hh _ _ _ q)⟩
section
variable {L : Lay} {H1 : Hp}
theorem wv_list {a : Addr} {xs : List Val} (hz : xs.length ≤ sizeLine) : WalkV L H1 (Itl L.K a) xs (fun S => S a = some (.lst xs)) where
  small := hz
  go := fun i H S hi _ rs g => by
    obtain ⟨us, h1, h2⟩ := rs a _ g
    have hi' : i < us.length := by rw [← h2.length]; exact hi
    exact ⟨us, us[i], SqL.of h1, by simp [hi']⟩
  stop := fun H S _ rs g => by
    obtain ⟨us, h1, h2⟩ := rs a _ g
    exact ⟨us, SqL.of h1, by rw [← h2.length]; exact Nat.le_refl _⟩
  yld := fun i H S x H' hi _ rs g y => by
    obtain ⟨us, h1, h2⟩ := rs a _ g
    obtain ⟨rfl, y⟩ := y
    obtain ⟨v, e, r⟩ := h2.getr (y us (SqL.of h1))
    exact ⟨v, e, r, .refl, rs, fun _ _ => rfl⟩
theorem wv_tup {a : Addr} {xs : List Val} {us : List V} (hq : SqT L.K H1 a us) (hr : RVs L.K H1 xs us) (hz : xs.length ≤ sizeLine) : WalkV L H1 (Itt L.K a) xs (fun _ => True) where
  small := hz
  go := fun i H S hi t rs g => by
    have hi' : i < us.length := by rw [← hr.length]; exact hi
    exact ⟨us, us[i], t.1 _ _ hq, by simp [hi']⟩
  stop := fun H S t rs g => ⟨us, t.1 _ _ hq, by rw [← hr.length]; exact Nat.le_refl _⟩
  yld := fun i H S x H' hi t rs g y => by
    obtain ⟨rfl, y⟩ := y
    obtain ⟨v, e, r⟩ := hr.getr (y us (t.1 _ _ hq))
    exact ⟨v, e, RV.mono t _ _ r, .refl, rs, fun _ _ => rfl⟩
theorem range_get (lo : Int) (n : Nat) (st : Int) (i : Nat) (h : i < n) : (rangeL lo n st)[i]? = some (.int (lo + (i : Int) * st)) := by
  unfold rangeL
  rw [List.getElem?_map, List.getElem?_range h]
  rfl
theorem range_len (lo : Int) (n : Nat) (st : Int) : (rangeL lo n st).length = n := by
  unfold rangeL
  rw [List.length_map, List.length_range]
theorem wv_rng {lo : Int} {n : Nat} (hz : n ≤ sizeLine) : WalkV L H1 (L2.Itr lo n) (rangeL lo n 1) (fun _ => True) where
  small := by rw [range_len]; exact hz
  go := fun i H S hi t rs g => by rw [range_len] at hi; exact hi
  stop := fun H S t rs g => by rw [range_len]; exact Nat.le_refl _
  yld := fun i H S x H' hi t rs g y => by
    rw [range_len] at hi
    obtain ⟨rfl, rfl⟩ := y
    exact ⟨_, range_get _ _ _ _ hi, by rw [Int.mul_one]; rfl, .refl, rs, fun _ _ => rfl⟩
theorem wv_rngC {lo c : Int} {n : Nat} (hz : n ≤ sizeLine) : WalkV L H1 (Itc lo c n) (rangeL lo n c) (fun _ => True) where
  small := by rw [range_len]; exact hz
  go := fun i H S hi t rs g => by rw [range_len] at hi; exact hi
  stop := fun H S t rs g => by rw [range_len]; exact Nat.le_refl _
  yld := fun i H S x H' hi t rs g y => by
    rw [range_len] at hi
    obtain ⟨rfl, rfl⟩ := y
    exact ⟨_, range_get _ _ _ _ hi, rfl, .refl, rs, fun _ _ => rfl⟩
theorem wv_str {z : Str} (hz : z.cps.size ≤ sizeLine) : WalkV L H1 (Its z) (z.cps.toList.map fun c => .str ⟨#[c]⟩) (fun _ => True) where
  small := by simpa using hz
  go := fun i H S hi t rs g => by
    have hi' : i < z.cps.size := by simpa using hi
    exact hi'
  stop := fun H S t rs g => by
    have h : z.cps.size ≤ (z.cps.toList.map fun c => Val.str ⟨#[c]⟩).length := by simp
    exact h
  yld := fun i H S x H' hi t rs g y => by
    obtain ⟨rfl, c, e, rfl⟩ := y
    exact ⟨.str ⟨#[c]⟩, by rw [List.getElem?_map, Array.getElem?_toList, e]; rfl, rfl, .refl, rs, fun _ _ => rfl⟩
/-- a new pair -/
theorem pair_new {H : Hp} {S : Sto} {T : Addr} {v w : Val} {x y : V} (rs : RS L H S) (n : H T = none) (rv : RV L.K H v x) (rw' : RV L.K H w y) :
    RV L.K (upd H T (.tup [x, y])) (.tup [v, w]) (.ref T) ∧ Stp L H S (upd H T (.tup [x, y])) S ∧ RS L (upd H T (.tup [x, y])) S ∧ ∀ b, H b ≠ none → upd H T (.tup [x, y]) b = H b := by
  have t : Tp L.K H (upd H T (.tup [x, y])) := Tp.fresh n
  exact ⟨⟨T, [x, y], rfl, SqT.of upd_same, x, [y], rfl, RV.mono t _ _ rv, y, [], rfl, RV.mono t _ _ rw', rfl⟩, Stp.new n, rs.new n, fun b hb => upd_ne fun e => hb (by rw [e]; exact n)⟩
theorem enum_len : ∀ (n : Nat) (xs : List Val), (enumL n xs).length = xs.length
  | _, [] => rfl
  | n, x :: xs => by
    show (enumL (n + 1) xs).length + 1 = xs.length + 1
    rw [enum_len (n + 1) xs]
theorem enum_get : ∀ (n : Nat) (xs : List Val) (i : Nat) (v : Val), xs[i]? = some v → (enumL n xs)[i]? = some (.tup [.int ((n + i : Nat) : Int), v])
  | _, [], _, _, h => by simp at h
  | n, x :: xs, 0, v, h => by
    simp at h
    subst h
    rfl
  | n, x :: xs, i + 1, v, h => by
    have := enum_get (n + 1) xs i v (by simpa using h)
    show (enumL (n + 1) xs)[i]? = _
    rw [this, show n + 1 + i = n + (i + 1) by omega]
theorem wv_enum {a : Addr} {xs : List Val} (hz : xs.length ≤ sizeLine) : WalkV L H1 (Ite L.K a) (enumL 0 xs) (fun S => S a = some (.lst xs)) where
  small := by rw [enum_len]; exact hz
  go := fun i H S hi _ rs g => by
    rw [enum_len] at hi
    obtain ⟨us, h1, h2⟩ := rs a _ g
    have hi' : i < us.length := by rw [← h2.length]; exact hi
    exact ⟨us, us[i], SqL.of h1, by simp [hi']⟩
  stop := fun H S _ rs g => by
    rw [enum_len]
    obtain ⟨us, h1, h2⟩ := rs a _ g
    exact ⟨us, SqL.of h1, by rw [← h2.length]; exact Nat.le_refl _⟩
  yld := fun i H S x H' hi _ rs g y => by
    obtain ⟨us, h1, h2⟩ := rs a _ g
    obtain ⟨T, z, rfl, n, rfl, y⟩ := y
    obtain ⟨v, e, r⟩ := h2.getr (y us (SqL.of h1))
    obtain ⟨q1, q2, q3, q4⟩ := pair_new (v := .int (i : Nat)) (x := .int (i : Nat)) rs n rfl r
    exact ⟨_, by rw [enum_get 0 xs i v e, Nat.zero_add], q1, q2, q3, q4⟩
theorem zip_len : ∀ (xs ys : List Val), (zipL xs ys).length = min xs.length ys.length
  | [], _ => by simp [zipL]
  | _ :: _, [] => by simp [zipL]
  | x :: xs, y :: ys => by
    show (zipL xs ys).length + 1 = _
    rw [zip_len xs ys]
    simp
theorem zip_get : ∀ (xs ys : List Val) (i : Nat) (v w : Val), xs[i]? = some v → ys[i]? = some w → (zipL xs ys)[i]? = some (.tup [v, w])
  | [], _, _, _, _, h, _ => by simp at h
  | _ :: _, [], _, _, _, _, h => by simp at h
  | x :: xs, y :: ys, 0, v, w, h, h' => by
    simp at h h'
    subst h h'
    rfl
  | x :: xs, y :: ys, i + 1, v, w, h, h' => by
    show (zipL xs ys)[i]? = _
    exact zip_get xs ys i v w (by simpa using h) (by simpa using h')
theorem wv_zip {a b : Addr} {xs ys : List Val} (hz : xs.length ≤ sizeLine) : WalkV L H1 (Itz L.K a b) (zipL xs ys) (fun S => S a = some (.lst xs) ∧ S b = some (.lst ys)) where
  small := by rw [zip_len]; omega
  go := fun i H S hi _ rs g => by
    rw [zip_len] at hi
    obtain ⟨us, h1, h2⟩ := rs a _ g.1
    obtain ⟨ws, h3, h4⟩ := rs b _ g.2
    have l1 := h2.length
    have l2 := h4.length
    exact ⟨us, ws, us[i]'(by omega), ws[i]'(by omega), SqL.of h1, SqL.of h3, by simp, by simp⟩
  stop := fun H S _ rs g => by
    rw [zip_len]
    obtain ⟨us, h1, h2⟩ := rs a _ g.1
    obtain ⟨ws, h3, h4⟩ := rs b _ g.2
    have l1 := h2.length
    have l2 := h4.length
    exact ⟨us, ws, SqL.of h1, SqL.of h3, by omega⟩
  yld := fun i H S x H' hi _ rs g y => by
    obtain ⟨us, h1, h2⟩ := rs a _ g.1
    obtain ⟨ws, h3, h4⟩ := rs b _ g.2
    obtain ⟨T, z, z2, rfl, n, rfl, y1, y2⟩ := y
    obtain ⟨v, e, r⟩ := h2.getr (y1 us (SqL.of h1))
    obtain ⟨w, e2, r2⟩ := h4.getr (y2 ws (SqL.of h3))
    obtain ⟨q1, q2, q3, q4⟩ := pair_new rs n r r2
    exact ⟨_, zip_get _ _ _ _ _ e e2, q1, q2, q3, q4⟩
theorem wv_zipT {a b : Addr} {xs ys : List Val} {us ws : List V} (ha : SqT L.K H1 a us) (ra : RVs L.K H1 xs us) (hb : SqT L.K H1 b ws) (rb : RVs L.K H1 ys ws) (hz : xs.length ≤ sizeLine) : WalkV L H1 (RZ.ItzT L.K a b) (zipL xs ys) (fun _ => True) where
  small := by rw [zip_len]; omega
  go := fun i H S hi t rs g => by
    rw [zip_len] at hi
    have l1 := ra.length
    have l2 := rb.length
    exact ⟨us, ws, us[i]'(by omega), ws[i]'(by omega), t.1 _ _ ha, t.1 _ _ hb, by simp, by simp⟩
  stop := fun H S t rs g => by
    rw [zip_len]
    have l1 := ra.length
    have l2 := rb.length
    exact ⟨us, ws, t.1 _ _ ha, t.1 _ _ hb, by omega⟩
  yld := fun i H S x H' hi t rs g y => by
    obtain ⟨T, z, z2, rfl, n, rfl, y1, y2⟩ := y
    obtain ⟨v, e, r⟩ := ra.getr (y1 us (t.1 _ _ ha))
    obtain ⟨w, e2, r2⟩ := rb.getr (y2 ws (t.1 _ _ hb))
    obtain ⟨q1, q2, q3, q4⟩ := pair_new rs n (RV.mono t _ _ r) (RV.mono t _ _ r2)
    exact ⟨_, zip_get _ _ _ _ _ e e2, q1, q2, q3, q4⟩
end
/-! ### a dict's keys -/
def Itd' (P : Program) (w : World) (a : Addr) (n t : Nat) : It :=
  ⟨fun i H => i < n ∧ ∃ es, H a = some (dctO a es t) ∧ es.size = n ∧ ∃ e x, es[i]? = some e ∧ RelV x e.key,
   fun i H x H' => H' = H ∧ ∀ es, H a = some (dctO a es t) → ∃ e, es[i]? = some e ∧ RelV x e.key,
   fun i H => n ≤ i ∧ ∃ es, H a = some (dctO a es t) ∧ es.size = n⟩
theorem raw_eq {h : Heap} {a : Addr} {es es' : Array DictEntry} {t t' : Nat} (x : h.DictRaw a es t) (y : h.DictRaw a es' t') : es = es' := by
  obtain ⟨o, e1, _, d1⟩ := x
  obtain ⟨o', e2, _, d2⟩ := y
  rw [e1] at e2
  cases e2
  rw [d1] at d2
  cases d2
  rfl
theorem turn_dct {P : Program} {w : World} {K : PySem.W.Frag} {tg : Expr} (a it : Addr) (n t : Nat) : Turn P w K tg (Itd' P w a n t) [it] it (fun i h => h.IsKeyIter it a i n t) where
  mem := by simp
  obj := fun i h st b hb => by
    have e : b = it := by simpa using hb
    subst e
    obtain ⟨o, e, c, d⟩ := st
    exact ⟨o, e, fun v z => by rw [d] at z; cases z⟩
  keep := fun i h h' st k => by
    obtain ⟨o, e, c, d⟩ := st
    exact ⟨o, k it (by simp) _ e, c, d⟩
  item := by
    intro X hP hw hK hc i pins s σ H E I hf st hg
    subst hP hw hK
    obtain ⟨hi, es, hd, hn, e, x, he, rx⟩ := hg
    obtain ⟨f0, f1, f2, f3, f4, f5⟩ := hf it (by simp)
    have hm := raw_of I hd
    subst hn
    refine wpAny_pyNext_keys_item_raw st hm hi fun h' st' sb => ?_
    have I1 : Inv X pins σ H { s with heap := h' } := I.turned (t' := s.toks) (fun b o hb e => (sb.2 b hb).trans e) f0 f1 f3 f4 f5
    obtain ⟨o, e1, c1, d1⟩ := id st'
    have e2 : es[i] = e := by
      rw [Array.getElem?_eq_getElem hi] at he
      exact Option.some.inj he
    exact ⟨es[i].key, rfl, go_of (s := { s with heap := h' }) e1 c1 d1 (by decide) ⟨x, H, I1, by rw [e2]; exact rx, ⟨rfl, fun es' h' => by
      rw [← raw_eq hm (raw_of I h')]
      exact ⟨e, he, rx⟩⟩, st', fun b hb => (hf b hb).1⟩⟩
  done := by
    intro X hP hw hK hc i pins s σ H E I hf st hg
    subst hP hw hK
    obtain ⟨hi, es, hd, hn⟩ := hg
    obtain ⟨f0, f1, f2, f3, f4, f5⟩ := hf it (by simp)
    have hm := raw_of I hd
    subst hn
    exact wpAny_pyNext_keys_end_raw (I.ok.hd hc) st hm hi fun h' eb => ⟨rfl, I.turned (t' := s.toks) (fun b o hb e => eb b o hb e) f0 f1 f3 f4 f5⟩
  self := fun _ _ _ _ _ st h => wpAny_pyIter_keyiter st h
theorem leaf_at {L : Lay} {H : Hp} {kvs : List (Val × Val)} {es : Array DictEntry} {lvs : List (Key × Value)} (d : LeafD L (mixE L.P L.w) H kvs es lvs) {i : Nat} {p : Val × Val} (h : kvs[i]? = some p) : ∃ e x, es[i]? = some e ∧ RelV x e.key ∧ RV L.K H p.1 x := by
  have hp : ∃ q, lvs[i]? = some q ∧ keyOf p.1 = some q.1 := by
    have go : ∀ {kvs : List (Val × Val)} {lvs : List (Key × Value)} {i : Nat}, Paired (fun (p : Val × Val) (q : Key × Value) => keyOf p.1 = some q.1 ∧ ∃ u, RV L.K H p.2 u ∧ RelV u q.2) kvs lvs → kvs[i]? = some p → ∃ q, lvs[i]? = some q ∧ keyOf p.1 = some q.1 := by
      intro kvs lvs i r
      induction r generalizing i with
      | nil => intro z; simp at z
      | @cons a b as bs hab t ih =>
        intro z
        cases i with
        | zero => simp at z; subst z; exact ⟨b, rfl, hab.1⟩
        | succ j => exact ih (by simpa using z)
    exact go d.rep h
  obtain ⟨q, e1, e2⟩ := hp
  have hes : ∃ e, es.toList[i]? = some e ∧ keyIs q.1 e.key = true := by
    have go : ∀ {es : List DictEntry} {lvs : List (Key × Value)} {i : Nat}, Pairs (mixKind L.P L.w) es lvs → lvs[i]? = some q → ∃ e, es[i]? = some e ∧ keyIs q.1 e.key = true := by
      intro es lvs i r
      induction r generalizing i with
      | nil => intro z; simp at z
      | @cons e kv es' kvs' h1 h2 t ih =>
        intro z
        cases i with
        | zero => simp at z; subst z; exact ⟨e, rfl, h1⟩
        | succ j => exact ih (by simpa using z)
    exact go d.prs e1
  obtain ⟨e, e3, e4⟩ := hes
  refine ⟨e, ?_⟩
  obtain ⟨p1, p2⟩ := p
  obtain ⟨q1, q2⟩ := q
  have e5 : es[i]? = some e := by rw [← Array.getElem?_toList]; exact e3
  cases p1 with
  | int j =>
    cases e2
    obtain ⟨t, ht⟩ := Value.isInt_shape (k := j) (v := e.key) e4
    exact ⟨.int j, e5, ⟨t, ht⟩, rfl⟩
  | str x =>
    cases e2
    obtain ⟨t, ht⟩ := Value.isStrOf_shape (x := x) (v := e.key) e4
    exact ⟨.str x, e5, ⟨t, ht⟩, rfl⟩
  | _ => cases e2
theorem tupd_at {L : Lay} {H : Hp} {kvs : List (Val × Val)} {es : Array DictEntry} {xs : List (NestedKey × Addr × Value)} (d : TupD L H kvs es xs) {i : Nat} {p : Val × Val} (h : kvs[i]? = some p) : ∃ e x, es[i]? = some e ∧ RelV x e.key ∧ RV L.K H p.1 x := by
  have hp : ∃ q, xs[i]? = some q ∧ RV L.K H p.1 (.ref q.2.1) := by
    have go : ∀ {kvs : List (Val × Val)} {xs : List (NestedKey × Addr × Value)} {i : Nat}, Paired (TupR L H) kvs xs → kvs[i]? = some p → ∃ q, xs[i]? = some q ∧ RV L.K H p.1 (.ref q.2.1) := by
      intro kvs xs i r
      induction r generalizing i with
      | nil => intro z; simp at z
      | @cons a b as bs hab t ih =>
        intro z
        cases i with
        | zero => simp at z; subst z; exact ⟨b, rfl, hab.2.2.2.2.1⟩
        | succ j => exact ih (by simpa using z)
    exact go d.rep h
  obtain ⟨q, e1, e2⟩ := hp
  refine ⟨entryOfKey (nestedKind L.P L.w) q, .ref q.2.1, ?_, rfl, e2⟩
  rw [← Array.getElem?_toList, d.ents, List.getElem?_map, e1]
  rfl
theorem wv_dct {L : Lay} {H1 : Hp} {a : Addr} {kvs : List (Val × Val)} {t : Nat} (ok : keysOk kvs = true) (hz : kvs.length ≤ sizeLine) : WalkV L H1 (Itd' L.P L.w a kvs.length t) (kvs.map (·.1)) (fun S => S a = some (.dct kvs t)) := by
  have key : ∀ {H : Hp} {S : Sto}, RS L H S → S a = some (.dct kvs t) → ∃ es, H a = some (dctO a es t) ∧ es.size = kvs.length ∧ ∀ (i : Nat) (p : Val × Val), kvs[i]? = some p → ∃ (e : DictEntry) (x : V), es[i]? = some e ∧ RelV x e.key ∧ RV L.K H p.1 x := by
    intro H S rs g
    obtain ⟨es, h1, h2, h3, h4, h5⟩ := rs a _ g
    refine ⟨es, h1, h4, fun i p hp => ?_⟩
    rcases h5 with ⟨b, lvs, h5⟩ | ⟨xs, h5⟩
    · cases b with
      | true => exact leaf_at h5 hp
      | false =>
        exfalso
        cases kvs with
        | nil => simp at hp
        | cons q r =>
          obtain ⟨q1, q2⟩ := q
          have z := h5.rep
          cases z with
          | cons z _ =>
            have z1 : kcl q1 = 1 := (leafE L.P L.w).ecl z.1
            have ok' : (kcl q1 != 1) = true := ok
            rw [z1] at ok'
            cases ok'
    · exact tupd_at h5 hp
  refine ⟨by rw [List.length_map]; exact hz, fun i H S hi _ rs g => ?_, fun H S _ rs g => ?_, fun i H S x H' hi _ rs g y => ?_⟩
  · rw [List.length_map] at hi
    obtain ⟨es, h1, h2, h3⟩ := key rs g
    obtain ⟨e, x, e1, e2, _⟩ := h3 i kvs[i] (by simp [hi])
    exact ⟨hi, es, h1, h2, e, x, e1, e2⟩
  · rw [List.length_map]
    obtain ⟨es, h1, h2, h3⟩ := key rs g
    exact ⟨Nat.le_refl _, es, h1, h2⟩
  · rw [List.length_map] at hi
    obtain ⟨es, h1, h2, h3⟩ := key rs g
    obtain ⟨rfl, y⟩ := y
    obtain ⟨e, z, e1, e2, e3⟩ := h3 i kvs[i] (by simp [hi])
    obtain ⟨e', e4, e5⟩ := y es h1
    rw [e1] at e4
    cases e4
    have : z = x := e2.inj e5
    subst this
    exact ⟨kvs[i].1, by simp [hi], e3, .refl, rs, fun _ _ => rfl⟩
end DL

set_option autoImplicit true
set_option Elab.async false
set_option linter.all false
set_option maxRecDepth 100000
set_option maxHeartbeats 4000000
/-! Own layer, part 9b: enumerate over tuples and texts. -/
namespace DL
open PySem PySem.Spec PyProof.Rows L2

/-- enumerate of one argument begins, told by how that is walked -/
theorem enum_new1 {v : Value} {o : Obj} {Hd : Heap → Prop} (B : Begins v o Hd) :
    Meets (Builtin.«enumerate.__new__» ⟨[.type "enumerate", v], []⟩) (fun _ R s => Hd s.heap ∧
      R (.ok (.ret (.ref (s.heap.push o).objs.size))) { s with heap := (s.heap.push o).push { cls := .type "enumerate", data := .fields #[.none, .bool false, .ref s.heap.objs.size, rawInt 0, .none, .none] } }) :=
  .of_wp fun prog w A R s h => by
    obtain ⟨hp, g, d, tk, os⟩ := s
    obtain ⟨hh, h⟩ := h
    have hsub := sub_enumerate
    have q1 : ∀ {A' : Around} {E Q : Value → Shared → Prop}, Q (.ref hp.objs.size) ⟨hp.push o, g, d, tk, os⟩ → wpAny (model prog w) A' (pyIter v) Q E ⟨hp, g, d, tk, os⟩ := fun q => B.iter _ _ _ _ ⟨hp, g, d, tk, os⟩ _ hh q
    wp_walk using q1
    refine wpAny_stack_any fun st => wpAny_pure ?_
    split
    · rename_i c _ _ _ _ _
      cases (c == Value.type "enumerate") <;> (wp_walk using q1; exact ⟨_, rfl, h⟩)
    · wp_walk using q1
      exact ⟨_, rfl, h⟩
theorem enum_begin1 {prog : Program} {w : World} {A : Around} {E : Value → Shared → Prop} {s : Shared} {v : Value} {o : Obj} {Hd : Heap → Prop} {Q : Value → Shared → Prop} (B : Begins v o Hd) (hh : Hd s.heap)
    (h : ∀ h', IsEnum h' (s.heap.objs.size + 1) s.heap.objs.size 0 .none → h'.get? s.heap.objs.size = some o → (∀ b ob, s.heap.get? b = some ob → h'.get? b = some ob) → Q (.ref (s.heap.objs.size + 1)) { s with heap := h' }) :
    wpAny (model prog w) A (call (.type "enumerate") [v]) Q E s := by
  refine callType_new F.called_enumerate (by decide) (F.typeCall_enumerate_1 _) (F.newCall_enumerate_1 _) (fun obj => F.args_object_init_2 obj _) F.entry_enumerate_new (enum_new1 B) ⟨hh, ?_⟩
  have e1 : (s.heap.push o).objs.size = s.heap.objs.size + 1 := Heap.size_push ..
  have e2 : IsEnum ((s.heap.push o).push { cls := .type "enumerate", data := .fields #[.none, .bool false, .ref s.heap.objs.size, rawInt 0, .none, .none] }) (s.heap.objs.size + 1) s.heap.objs.size 0 .none := by
    rw [← e1]
    exact Heap.get?_push_size _ rfl
  show _ ∧ _
  rw [e1]
  exact ⟨⟨_, e2, rfl⟩, h _ e2 (Heap.get?_push_of_some _ (Heap.get?_push_size _ B.free)) fun b ob q => Heap.get?_push_of_some _ (Heap.get?_push_of_some _ q)⟩

/-- the tuple at a, each item in a new pair -/
def IteT (K : PySem.W.Frag) (a : Addr) : It where
  go i H := ∃ (us : List V) (x : V), SqT K H a us ∧ us[i]? = some x
  yld i H v H' := ∃ T x, v = .ref T ∧ H T = none ∧ H' = upd H T (.tup [.int (i : Nat), x]) ∧ ∀ us, SqT K H a us → us[i]? = some x
  stop i H := ∃ us : List V, SqT K H a us ∧ us.length = i
/-- the text's signs, each in a new pair -/
def IteS (z : Str) : It where
  go i _ := i < z.cps.size
  yld i H v H' := ∃ T c, v = .ref T ∧ H T = none ∧ H' = upd H T (.tup [.int (i : Nat), .str ⟨#[c]⟩]) ∧ z.cps[i]? = some c
  stop i _ := z.cps.size = i
section
variable {P : Program} {w : World} {K : PySem.W.Frag} {elts : List Expr} {kk : Nat} {tpos : Pos}
/-- one pair of an enumerate -/
theorem enum_pair {X : Cx} {pins : List (Addr × Obj)} {s : Shared} {σ : L2.St} {H : Hp} {E : Value → Shared → Prop} {e it : Addr} {fp : List Addr} {n i : Nat} {old : Value} {Pv : Nat → Value → Prop} {St : Nat → Heap → Prop}
    (I : Inv X pins σ H s) (D : Draws X.prog X.w X.A.in1 it fp n Pv St) (he : IsEnum s.heap e it ((i : Nat) : Int) old) (hst : St i s.heap) (hi : i < n) (hne : e ≠ it) (hef : e ∉ fp) (hif : it ∈ fp) (hf : ∀ b ∈ [e, it], FpOk X pins H b)
    {J : It} {tn : Nat → Heap → Prop} (hy : ∀ u, Pv i u → ∃ x : V, RelV x u ∧ ∀ T, H T = none → J.yld i H (.ref T) (upd H T (.tup [.int (i : Nat), x])))
    (htn : ∀ h' old', IsEnum h' e it (((i + 1 : Nat)) : Int) old' → St (i + 1) h' → tn (i + 1) h') :
    wpAny (model X.prog X.w) X.A (pyNext (.ref e)) (fun r s1 => ∃ u, r = some u ∧
      wpAny (model X.prog X.w) X.A (letOwnedTupleGo (.Tuple elts kk tpos) (.ref e) u) (fun _ s2 => ∃ x H', Inv X pins σ H' s2 ∧ RelV x u ∧ J.yld i H x H' ∧ tn (i + 1) s2.heap ∧ ∀ b ∈ [e, it], H' b = none) E s1) E s := by
  have hel : e < s.heap.objs.size := Heap.lt_size he
  have hil : it < s.heap.objs.size := by
    obtain ⟨_, q⟩ := D.live _ _ hst
    exact Heap.lt_size q
  have old2 : ∀ b ∈ [e, it], b < s.heap.objs.size := fun b hb => by
    simp only [List.mem_cons, List.not_mem_nil, or_false] at hb
    rcases hb with z | z
    · rw [z]; exact hel
    · rw [z]; exact hil
  refine wpAny_pyNext_enum_itemD D he hst hi hne hef fun u h' tk hu ho hst' hT hsz hk => ?_
  obtain ⟨x, rx, yx⟩ := hy u hu
  refine ⟨_, rfl, wpAny_letOwnedTupleGo_enum (s := { s with heap := h', toks := tk + 1 }) ho fun h'' he' sb => ?_⟩
  have hT2 : h''.get? s.heap.objs.size = some { cls := .type "tuple", data := .seq #[.int i tk, u] } := (sb.2 _ (Nat.ne_of_gt hel)).trans hT
  have new : ObjOk X.prog X.w (upd H s.heap.objs.size (.tup [.int (i : Nat), x])) h'' s.heap.objs.size (.tup [.int (i : Nat), x]) :=
    ⟨by show 2 ≤ sizeLine; decide, [.int i tk, u], .cons ⟨_, rfl⟩ (.cons rx .nil), ⟨_, hT2, rfl, _, rfl⟩⟩
  have I1 : Inv X pins σ (upd H s.heap.objs.size (.tup [.int (i : Nat), x])) { s with heap := h'', toks := tk + 1 } :=
    I.turnedNew (ch := [e, it]) (fun b ob hb q => (sb.2 b fun z => hb (by rw [z]; simp)).trans (hk b ob (fun z => hb (by rw [z]; simp)) (fun z => hb (by rw [z]; simp)) q)) hf (Nat.le_refl _) new
  refine ⟨.ref s.heap.objs.size, _, I1, rfl, yx _ (I.hok.fresh (Nat.le_refl _)), htn h'' u ?_ ?_, fun b hb => ?_⟩
  · rw [show ((i + 1 : Nat) : Int) = (i : Int) + 1 by omega]
    exact he'
  · exact D.frame _ _ _ hst' fun b hb o q => (sb.2 b fun z => hef (z ▸ hb)).trans q
  · rw [upd_ne (Nat.ne_of_lt (old2 b hb))]
    exact (hf b hb).1
theorem turn_enumT (a e it : Addr) : Turn P w K (.Tuple elts kk tpos) (IteT K a) [e, it] e (fun i h => (∃ old, IsEnum h e it ((i : Nat) : Int) old) ∧ h.IsTupleIter it a i ∧ e ≠ it) where
  mem := by simp
  obj := fun i h st b hb => by
    obtain ⟨⟨old, he⟩, ⟨o, ho, _, hd⟩, _⟩ := st
    simp only [List.mem_cons, List.not_mem_nil, or_false] at hb
    rcases hb with z | z
    · refine ⟨_, (show h.get? b = _ from z ▸ he), fun v q => ?_⟩
      cases q
    · exact ⟨o, by rw [z]; exact ho, fun v q => by rw [hd] at q; cases q⟩
  keep := fun i h h' st k => by
    obtain ⟨⟨old, he⟩, hi, hne⟩ := st
    exact ⟨⟨old, k e (by simp) _ he⟩, hi.at fun o q => k it (by simp) o q, hne⟩
  item := by
    intro X hP hw hK hc i pins s σ H E I hf st hg
    subst hP hw hK
    obtain ⟨⟨old, he⟩, hit, hne⟩ := st
    obtain ⟨us, x, hq, hx⟩ := hg
    obtain ⟨its, rv, p, hz⟩ := I.tuple hq
    have pt : s.heap.IsTuple a its.toArray := p
    have hai : a ≠ it := fun z => by
      obtain ⟨o1, e1, c1, _⟩ := pt
      obtain ⟨o2, e2, c2, _⟩ := hit
      rw [z, e2] at e1
      cases e1
      rw [c2] at c1
      exact absurd (Value.type.inj c1) (by decide)
    have hae : a ≠ e := fun z => by
      obtain ⟨o1, e1, c1, _⟩ := pt
      rw [z, show s.heap.get? e = some _ from he] at e1
      cases e1
      exact absurd (Value.type.inj c1) (by decide)
    have hl := rv.length
    have hi : i < its.toArray.size := by
      have := (List.getElem?_eq_some_iff.mp hx).1
      simp
      omega
    refine enum_pair (J := IteT X.K a) (tn := fun i h => (∃ old, IsEnum h e it ((i : Nat) : Int) old) ∧ h.IsTupleIter it a i ∧ e ≠ it) I (Draws.tuple (A := X.A.in1) (I.ok.hd hc) it a hai its.toArray) he ⟨hit, pt⟩ hi hne (by simp [hne, Ne.symm hae]) (by simp) hf (fun u hu => ?_) fun h' old' he' hs' => ⟨⟨old', he'⟩, hs'.1, hne⟩
    obtain ⟨u', hu', ru⟩ := rv.get hx
    have : u = u' := by
      have h1 : its[i]? = some u := by simpa using hu
      rw [hu'] at h1
      exact (Option.some.inj h1).symm
    subst this
    exact ⟨x, ru, fun T nT => ⟨T, x, rfl, nT, rfl, fun ys hy => by rw [I.tuple_inj hy hq]; exact hx⟩⟩
  done := by
    intro X hP hw hK hc i pins s σ H E I hf st hg
    subst hP hw hK
    obtain ⟨⟨old, he⟩, hit, hne⟩ := st
    obtain ⟨us, hq, hx⟩ := hg
    obtain ⟨its, rv, p, hz⟩ := I.tuple hq
    have pt : s.heap.IsTuple a its.toArray := p
    obtain ⟨f0, f1, f2, f3, f4, f5⟩ := hf it (by simp)
    have hl := rv.length
    have hai : a ≠ it := fun z => by
      obtain ⟨o1, e1, c1, _⟩ := pt
      obtain ⟨o2, e2, c2, _⟩ := hit
      rw [z, e2] at e1
      cases e1
      rw [c2] at c1
      exact absurd (Value.type.inj c1) (by decide)
    have hsz : its.toArray.size = i := by
      simp
      omega
    exact wpAny_pyNext_enum_endD (Draws.tuple (A := X.A.in1) (I.ok.hd hc) it a hai its.toArray) he (by rw [hsz]; exact ⟨hit, pt⟩) fun h' eb => ⟨rfl, I.turned (t' := s.toks) (fun b o hb q => eb b o hb q) f0 f1 f3 f4 f5⟩
  self := fun A i s Q E st h => by
    obtain ⟨⟨_, he⟩, _⟩ := st
    exact wpAny_pyIter_enum he h
theorem turn_enumS (z : Str) (t : Tok) (e it : Addr) : Turn P w K (.Tuple elts kk tpos) (IteS z) [e, it] e (fun i h => (∃ old, IsEnum h e it ((i : Nat) : Int) old) ∧ h.IsStrIter it (strIterType z) z t i ∧ e ≠ it) where
  mem := by simp
  obj := fun i h st b hb => by
    obtain ⟨⟨old, he⟩, ⟨o, ho, _, hd⟩, _⟩ := st
    simp only [List.mem_cons, List.not_mem_nil, or_false] at hb
    rcases hb with z | z
    · refine ⟨_, (show h.get? b = _ from z ▸ he), fun v q => ?_⟩
      cases q
    · exact ⟨o, by rw [z]; exact ho, fun v q => by rw [hd] at q; cases q⟩
  keep := fun i h h' st k => by
    obtain ⟨⟨old, he⟩, ⟨o, ho, r⟩, hne⟩ := st
    exact ⟨⟨old, k e (by simp) _ he⟩, ⟨o, k it (by simp) o ho, r⟩, hne⟩
  item := by
    intro X hP hw hK hc i pins s σ H E I hf st hg
    subst hP hw hK
    obtain ⟨⟨old, he⟩, hit, hne⟩ := st
    refine enum_pair (J := IteS z) (tn := fun i h => (∃ old, IsEnum h e it ((i : Nat) : Int) old) ∧ h.IsStrIter it (strIterType z) z t i ∧ e ≠ it) I (Draws.text (A := X.A.in1) (I.ok.hd hc) it z t) he hit hg hne (by simp [hne]) (by simp) hf (fun u hu => ?_) fun h' old' he' hs' => ⟨⟨old', he'⟩, hs', hne⟩
    obtain ⟨c, t', hcx, rfl⟩ := hu
    exact ⟨.str ⟨#[c]⟩, ⟨t', rfl⟩, fun T nT => ⟨T, c, rfl, nT, rfl, hcx⟩⟩
  done := by
    intro X hP hw hK hc i pins s σ H E I hf st hg
    subst hP hw hK
    obtain ⟨⟨old, he⟩, hit, hne⟩ := st
    obtain ⟨f0, f1, f2, f3, f4, f5⟩ := hf it (by simp)
    have hsz : z.cps.size = i := hg
    exact wpAny_pyNext_enum_endD (Draws.text (A := X.A.in1) (I.ok.hd hc) it z t) he (by rw [hsz]; exact hit) fun h' eb => ⟨rfl, I.turned (t' := s.toks) (fun b o hb q => eb b o hb q) f0 f1 f3 f4 f5⟩
  self := fun A i s Q E st h => by
    obtain ⟨⟨_, he⟩, _⟩ := st
    exact wpAny_pyIter_enum he h
end
/-- enumerate of a list, a tuple, a text -/
def iEnumD (K : PySem.W.Frag) (ta : TA) : TI := fun σ H R => ta σ H fun vs H1 => (∃ a xs, vs = [.ref a] ∧ SqL K H1 a xs ∧ R (Ite K a) H1) ∨ (∃ a xs, vs = [.ref a] ∧ SqT K H1 a xs ∧ R (IteT K a) H1) ∨ ∃ z, vs = [.str z] ∧ R (IteS z) H1
theorem pi_enumD {X : Cx} {e : Expr} {ta : TA} {p pos tpos : Pos} {elts : List Expr} {kk : Nat} (hg : Gl X "enumerate") (hm : X.mg "enumerate" = none) (ha : PA X [e] ta) (hs : starEach [e] X.env = [(false, eval e X.env)]) :
    PI X (.Tuple elts kk tpos) (.Call (.Name "enumerate" p) [e] [] pos) (iEnumD X.K ta) := by
  refine ⟨fun pins s σ H R I h => Call_ (ld_blt I hg hm boot_enumerate (PyProof.Rows.callWith_type1 (thn (ha.run pos pins s σ H _ I h) fun us s1 ⟨vs, H1, I1, r1, q1⟩ => ?_) hs rfl))⟩
  have two : ∀ {h' : Heap} (b : Addr), b ∈ [s1.heap.objs.size + 1, s1.heap.objs.size] → FpOk X pins H1 b := fun b hb => by
    simp only [List.mem_cons, List.not_mem_nil, or_false] at hb
    have hle : s1.heap.objs.size ≤ b := by
      rcases hb with z | z
      · rw [z]; exact Nat.le_succ _
      · rw [z]; exact Nat.le_refl _
    exact I1.fpOk hle (I1.hok.fresh hle)
  rcases q1 with ⟨a, xs, rfl, hq, q⟩ | ⟨a, xs, rfl, hq, q⟩ | ⟨z, rfl, q⟩
  · obtain ⟨u, rfl, ru⟩ := vals1 r1
    obtain rfl : u = Value.ref a := ru
    obtain ⟨its, rv, pl, hz⟩ := I1.list hq
    refine enum_begin1 (begins_list a its.toArray) pl.isList fun h' he hit hk => wpAny_pyIter_enum he ?_
    exact ⟨_, [_, _], _, _, H1, rfl, I1.kept (t' := s1.toks) hk, turn_enum a _ _, ⟨⟨.none, he⟩, ⟨_, hit, rfl, rfl⟩, Nat.succ_ne_self _⟩, two (h' := h'), q⟩
  · obtain ⟨u, rfl, ru⟩ := vals1 r1
    obtain rfl : u = Value.ref a := ru
    obtain ⟨its, rv, pl, hz⟩ := I1.tuple hq
    refine enum_begin1 (begins_tuple a its.toArray) pl fun h' he hit hk => wpAny_pyIter_enum he ?_
    exact ⟨_, [_, _], _, _, H1, rfl, I1.kept (t' := s1.toks) hk, turn_enumT a _ _, ⟨⟨.none, he⟩, ⟨_, hit, rfl, rfl⟩, Nat.succ_ne_self _⟩, two (h' := h'), q⟩
  · obtain ⟨u, rfl, t, rfl⟩ := vals1 r1
    refine enum_begin1 (begins_text z t) trivial fun h' he hit hk => wpAny_pyIter_enum he ?_
    exact ⟨_, [_, _], _, _, H1, rfl, I1.kept (t' := s1.toks) hk, turn_enumS z t _ _, ⟨⟨.none, he⟩, ⟨_, hit, rfl, rfl⟩, Nat.succ_ne_self _⟩, two (h' := h'), q⟩
section
variable {L : Lay} {H1 : Hp}
theorem wv_enumT {a : Addr} {xs : List Val} {us : List V} (hq : SqT L.K H1 a us) (hr : RVs L.K H1 xs us) (hz : xs.length ≤ sizeLine) : WalkV L H1 (IteT L.K a) (enumL 0 xs) (fun _ => True) where
  small := by rw [enum_len]; exact hz
  go := fun i H S hi t rs g => by
    rw [enum_len, hr.length] at hi
    exact ⟨us, us[i], t.1 _ _ hq, by simp [hi]⟩
  stop := fun H S t rs g => by
    rw [enum_len]
    exact ⟨us, t.1 _ _ hq, hr.length.symm⟩
  yld := fun i H S x H' hi t rs g y => by
    obtain ⟨T, z, rfl, n, rfl, y⟩ := y
    obtain ⟨v, e, r⟩ := (RVs.mono t _ _ hr).getr (y us (t.1 _ _ hq))
    obtain ⟨q1, q2, q3, q4⟩ := pair_new (v := .int (i : Nat)) (x := .int (i : Nat)) rs n rfl r
    exact ⟨_, by rw [enum_get 0 xs i v e, Nat.zero_add], q1, q2, q3, q4⟩
theorem wv_enumS {z : Str} (hz : z.cps.size ≤ sizeLine) : WalkV L H1 (IteS z) (enumL 0 (z.cps.toList.map fun c => .str ⟨#[c]⟩)) (fun _ => True) where
  small := by rw [enum_len]; simpa using hz
  go := fun i H S hi t rs g => by
    rw [enum_len] at hi
    have hi' : i < z.cps.size := by simpa using hi
    exact hi'
  stop := fun H S t rs g => by
    rw [enum_len]
    show z.cps.size = _
    simp
  yld := fun i H S x H' hi t rs g y => by
    obtain ⟨T, c, rfl, n, rfl, y⟩ := y
    obtain ⟨q1, q2, q3, q4⟩ := pair_new (L := L) (v := .int (i : Nat)) (x := .int (i : Nat)) (w := .str ⟨#[c]⟩) (y := .str ⟨#[c]⟩) rs n rfl rfl
    exact ⟨_, by rw [enum_get 0 _ i (.str ⟨#[c]⟩) (by rw [List.getElem?_map, Array.getElem?_toList, y]; rfl), Nat.zero_add], q1, q2, q3, q4⟩
end
end DL

set_option autoImplicit true
set_option Elab.async false
set_option linter.all false
set_option maxRecDepth 100000
set_option maxHeartbeats 2000000
/-! Own layer, part 10: iterations and comprehensions. -/
namespace DL
open PySem PySem.Spec PyProof.Rows L2
section
variable {X : Cx} {c : LC} {W : WX} {E : Nat → Sto → Prop} {G : Cfg} {pos : Pos} {tg : Expr}
theorem i_val {pa : Expr} {a : Ex} (ha : PE X pa (tE (lay X c) W E (wE G E a))) : PI X tg pa (tI (lay X c) W E (wI G E (.val a))) := by
  refine ⟨fun pins s σ H R I h => ?_⟩
  obtain ⟨e, S, K, he, hs, hf, k, xw⟩ := h
  simp only [wI] at hf
  refine thn (ha.run pins s σ H (fun u H1 => ∃ v S1, Stp (lay X c) H S H1 S1 ∧ RS (lay X c) H1 S1 ∧ RV X.K H1 v u ∧ withO (iterOf v S1) fun p => K p.1 p.2 S1) I
    ⟨e, S, _, he, hs, hf, fun v S1 u H1 st q hs1 rv => ⟨v, S1, st, hs1, rv, q⟩, xw⟩) fun val s1 ⟨u, H1, I1, r1, v, S1, st, hs1, rv, q⟩ => ?_
  obtain ⟨⟨xs, grd⟩, e1, q⟩ := withO_some q
  cases v with
  | tup ys =>
    obtain ⟨p, us, rfl, hq, hr⟩ := rv
    cases r1
    have e2 : some (ys, fun _ => True) = some (xs, grd) := e1
    cases e2
    obtain ⟨its, rvv, pl, hz⟩ := I1.tuple hq
    exact wpAny_pyIter_tuple (show s1.heap.IsTuple p its.toArray from pl) (pi_one (tk := s1.toks) I1 _ (turn_tuple p _) ⟨_, Heap.get?_push_size _ rfl, rfl, rfl⟩ (k _ _ _ _ _ st q hs1 (wv_tup hq hr (by rw [hr.length]; exact hz))))
  | str z =>
    cases rv
    obtain ⟨t, rfl⟩ := r1
    unfold iterOf at e1
    by_cases hz : z.cps.size ≤ line
    · simp only [if_pos hz] at e1
      cases e1
      have hz' : z.cps.size ≤ sizeLine := by rw [← line_eq]; exact hz
      cases ha : z.cps.all (· < 128)
      · exact wpAny_pyIter_wide ha (pi_one (tk := s1.toks) I1 _ (turn_str _ z t "str_iterator" (.inr rfl)) ⟨_, Heap.get?_push_size _ rfl, rfl, rfl⟩ (k _ _ _ _ _ st q hs1 (wv_str hz')))
      · exact wpAny_pyIter_ascii ha (pi_one (tk := s1.toks) I1 _ (turn_str _ z t "str_ascii_iterator" (.inl rfl)) ⟨_, Heap.get?_push_size _ rfl, rfl, rfl⟩ (k _ _ _ _ _ st q hs1 (wv_str hz')))
    · simp only [if_neg hz] at e1
      cases e1
  | ref p =>
    have eu : u = .ref p := rv
    subst eu
    cases r1
    cases ep : S1 p with
    | none => simp only [iterOf, ep] at e1; cases e1
    | some o =>
      cases o with
      | lst ys =>
        simp only [iterOf, ep] at e1
        cases e1
        obtain ⟨us, hl, hr⟩ := hs1 p _ ep
        obtain ⟨its, rvv, pl, hz⟩ := I1.list (SqL.of hl)
        exact wpAny_pyIter_list pl.isList (pi_one (tk := s1.toks) I1 _ (turn_list p _) ⟨_, Heap.get?_push_size _ rfl, rfl, rfl⟩ (k _ _ _ _ _ st q hs1 (wv_list (by rw [hr.length]; exact hz))))
      | dct kvs t =>
        simp only [iterOf, ep] at e1
        cases ok : keysOk kvs with
        | false => rw [ok] at e1; cases e1
        | true =>
          rw [ok] at e1
          cases e1
          obtain ⟨es, h1, h2, h3, h4, h5⟩ := hs1 p _ ep
          refine wpAny_pyIter_dict_raw h2 (raw_of I1 h1) (pi_one (tk := s1.toks) I1 _ (turn_dct (w := X.w) p _ kvs.length t) ⟨_, Heap.get?_push_size _ rfl, rfl, ?_⟩ (k _ _ _ _ _ st q hs1 (wv_dct ok h3)))
          rw [h4]
          rfl
      | ins ci fs => simp only [iterOf, ep] at e1; cases e1
  | _ => cases e1
theorem i_rng1 {pa : Expr} {es : Exs} {p : Pos} {T : Tab} {k : Nat} {sc : Scope} (O : XOk X c G T k sc) (hg : Gl X "range") (h : PA X [pa] (tA (lay X c) W E 1 (wEs G E es))) (hp : plainX pa = true) : PI X tg (.Call (.Name "range" p) [pa] [] pos) (tI (lay X c) W E (wI G E (.rng es))) := by
  refine PI.imp (pi_range1 hg (O.nm.blt _ (by simp)) h (by rw [plain_star hp]; rfl)) fun σ H R h => ?_
  obtain ⟨e, S, K, he, hs, hf, k, xw⟩ := h
  simp only [wI] at hf
  refine ⟨e, S, _, he, hs, hf, fun vs S1 us H1 st q hs1 rvs hl => ?_, xw⟩
  cases vs with
  | nil => cases hl
  | cons v r =>
    cases r with
    | cons _ _ => simp at hl
    | nil =>
      obtain ⟨u, rfl, ru⟩ := rvs.one
      cases v with
      | int n =>
        cases ru
        obtain ⟨q1, q2, q3⟩ := q
        exact ⟨n, rfl, by omega, by omega, k _ _ _ _ _ st q3 hs1 (wv_rng (by rw [sizeLine_eq]; omega))⟩
      | _ => exact q.elim
theorem i_rng2 {pa pb : Expr} {es : Exs} {p : Pos} {T : Tab} {k : Nat} {sc : Scope} (O : XOk X c G T k sc) (hg : Gl X "range") (h : PA X [pa, pb] (tA (lay X c) W E 2 (wEs G E es))) (hp : plainX pa = true) (hp2 : plainX pb = true) : PI X tg (.Call (.Name "range" p) [pa, pb] [] pos) (tI (lay X c) W E (wI G E (.rng es))) := by
  refine PI.imp (pi_range2 hg (O.nm.blt _ (by simp)) h (by rw [plain_star hp, plain_star hp2]; rfl) (by rw [plain_star hp2]; rfl)) fun σ H R h => ?_
  obtain ⟨e, S, K, he, hs, hf, k, xw⟩ := h
  simp only [wI] at hf
  refine ⟨e, S, _, he, hs, hf, fun vs S1 us H1 st q hs1 rvs hl => ?_, xw⟩
  cases vs with
  | nil => cases hl
  | cons v r =>
    cases r with
    | nil => simp at hl
    | cons w r =>
      cases r with
      | cons _ _ => simp at hl
      | nil =>
        obtain ⟨u, u2, rfl, ru, ru2⟩ := rvs.two
        cases v with
        | int n =>
          cases w with
          | int m =>
            cases ru; cases ru2
            obtain ⟨q1, q3⟩ := q
            exact ⟨n, m, rfl, ⟨by omega, by omega, by omega, by omega⟩, k _ _ _ _ _ st q3 hs1 (wv_rng (by rw [sizeLine_eq]; omega))⟩
          | _ => exact q.elim
        | _ => cases w <;> exact q.elim
theorem i_rng3 {pa pb pc : Expr} {es : Exs} {p : Pos} {T : Tab} {k : Nat} {sc : Scope} (O : XOk X c G T k sc) (hg : Gl X "range") (h : PA X [pa, pb, pc] (tA (lay X c) W E 3 (wEs G E es))) (hp : plainX pa = true) (hp2 : plainX pb = true) (hp3 : plainX pc = true) :
    PI X tg (.Call (.Name "range" p) [pa, pb, pc] [] pos) (tI (lay X c) W E (wI G E (.rng es))) := by
  refine PI.imp (pi_range3 hg (O.nm.blt _ (by simp)) h (by rw [plain_star hp]) (by rw [plain_star hp2, plain_star hp3]; rfl)) fun σ H R h => ?_
  obtain ⟨e, S, K, he, hs, hf, k, xw⟩ := h
  simp only [wI] at hf
  refine ⟨e, S, _, he, hs, hf, fun vs S1 us H1 st q hs1 rvs hl => ?_, xw⟩
  cases vs with
  | nil => cases hl
  | cons v r =>
    cases r with
    | nil => simp at hl
    | cons w r =>
      cases r with
      | nil => simp at hl
      | cons z r =>
        cases r with
        | cons _ _ => simp at hl
        | nil =>
          obtain ⟨u, us', rfl, ru, rr⟩ := rvs
          obtain ⟨u2, u3, rfl, ru2, ru3⟩ := RVs.two rr
          cases v with
          | int n =>
            cases w with
            | int m =>
              cases z with
              | int j =>
                cases ru; cases ru2; cases ru3
                obtain ⟨q0, q1, q3⟩ := q
                subst q0
                exact ⟨n, m, -1, (n - m).toNat, rfl, RgC.neg (by omega) (by omega) (by omega) (by omega), k _ _ _ _ _ st q3 hs1 (wv_rngC (by rw [sizeLine_eq]; omega))⟩
              | _ => exact q.elim
            | _ => cases z <;> exact q.elim
          | _ => cases w <;> cases z <;> exact q.elim
/-- lists and tuples are not too long -/
def Short (K : PySem.W.Frag) (H : Hp) : Prop := (∀ a us, H a = some (.lst us) → us.length ≤ sizeLine) ∧ ∀ a us, SqT K H a us → us.length ≤ sizeLine
theorem PE.big {e : Expr} {t : TE} (h : PE X e t) : PE X e (fun σ H Q => t σ H fun u H' => Short X.K H' → Q u H') := ⟨fun pins s σ H Q I q => by
  refine thn (h.run pins s σ H _ I q) fun v s' ⟨u, H', I', r, q'⟩ => ⟨u, H', I', r, q' ⟨fun a us e => ?_, fun a us e => ?_⟩⟩
  · obtain ⟨_, _, _, z⟩ := I'.list (SqL.of e)
    exact z
  · obtain ⟨_, _, _, z⟩ := I'.tuple e
    exact z⟩
theorem i_enum {pa : Expr} {a : Ex} {p tpos : Pos} {elts : List Expr} {kk : Nat} {T : Tab} {k : Nat} {sc : Scope} (O : XOk X c G T k sc) (hg : Gl X "enumerate") (ha : PE X pa (tE (lay X c) W E (wE G E a))) (hp : plainX pa = true) :
    PI X (.Tuple elts kk tpos) (.Call (.Name "enumerate" p) [pa] [] pos) (tI (lay X c) W E (wI G E (.enum a))) := by
  refine PI.imp (pi_enumD hg (O.nm.blt _ (by simp)) (pa_cons (PE.big ha) pa_nil (plain_star hp [] X.env)) (by rw [plain_star hp]; rfl)) fun σ H R h => ?_
  obtain ⟨e, S, K, he, hs, hf, k, xw⟩ := h
  simp only [wI] at hf
  refine ⟨e, S, _, he, hs, hf, fun v S1 u H1 st q hs1 rv big => ?_, xw⟩
  obtain ⟨⟨xs, grd⟩, e1, q⟩ := withO_some q
  cases v with
  | ref p =>
    have eu : u = .ref p := rv
    subst eu
    cases ep : S1 p with
    | none => simp only [listOf, ep] at e1; cases e1
    | some o =>
      cases o with
      | lst ys =>
        simp only [listOf, ep] at e1
        cases e1
        obtain ⟨us, hl, hr⟩ := hs1 p _ ep
        exact .inl ⟨p, us, rfl, SqL.of hl, k _ _ _ _ _ st q hs1 (wv_enum (by rw [hr.length]; exact big.1 _ _ hl))⟩
      | dct kvs t => simp only [listOf, ep] at e1; cases e1
      | ins ci fs => simp only [listOf, ep] at e1; cases e1
  | tup ys =>
    obtain ⟨p, us, rfl, hq, hr⟩ := rv
    cases e1
    exact .inr (.inl ⟨p, us, rfl, hq, k _ _ _ _ _ st q hs1 (wv_enumT hq hr (by rw [hr.length]; exact big.2 _ _ hq))⟩)
  | str z =>
    have eu : u = .str z := rv
    subst eu
    unfold listOf at e1
    by_cases hz : z.cps.size ≤ line
    · simp only [if_pos hz] at e1
      cases e1
      exact .inr (.inr ⟨z, rfl, k _ _ _ _ _ st q hs1 (wv_enumS (by rw [← line_eq]; exact hz))⟩)
    · simp only [if_neg hz] at e1
      cases e1
  | _ => cases e1
theorem i_zip {pa pb : Expr} {a b : Ex} {p tpos : Pos} {elts : List Expr} {kk : Nat} {T : Tab} {k : Nat} {sc : Scope} (O : XOk X c G T k sc) (hg : Gl X "zip") (ha : PE X pa (tE (lay X c) W E (wE G E a))) (hb : PE X pb (tE (lay X c) W E (wE G E b))) (hp : plainX pa = true) (hp2 : plainX pb = true) :
    PI X (.Tuple elts kk tpos) (.Call (.Name "zip" p) [pa, pb] [] pos) (tI (lay X c) W E (wI G E (.zip a b))) := by
  refine PI.imp (RZ.pi_zipA hg (O.nm.blt _ (by simp)) (pa_cons ha (pa_cons (PE.big hb) pa_nil (plain_star hp2 [] X.env)) (plain_star hp _ X.env)) (plain_star hp _ X.env) (by rw [plain_star hp2]; rfl)) fun σ H R h => ?_
  obtain ⟨e, S, K, he, hs, hf, k, xw⟩ := h
  simp only [wI] at hf
  refine ⟨e, S, _, he, hs, hf, fun v S1 u H1 st q hs1 rv => ?_, xw⟩
  refine ⟨e, S1, _, he.mono st.tp, hs1, q, fun w S2 u2 H2 st2 q hs2 rw' big => ?_, xw.step st⟩
  obtain ⟨⟨xs, grd⟩, e1, q⟩ := withO_some q
  have rv := RV.mono st2.tp _ _ rv
  have st3 := st.trans st2
  cases v with
  | ref pp =>
    have eu : u = .ref pp := rv
    subst eu
    cases w with
    | ref qq =>
      have eu : u2 = .ref qq := rw'
      subst eu
      cases ep : S2 pp with
      | none => simp only [zipOf, ep] at e1; cases e1
      | some o =>
        cases o with
        | lst ys =>
          cases eq : S2 qq with
          | none => simp only [zipOf, ep, eq] at e1; cases e1
          | some o2 =>
            cases o2 with
            | lst zs =>
              simp only [zipOf, ep, eq] at e1
              cases e1
              obtain ⟨us, hl, hr⟩ := hs2 pp _ ep
              obtain ⟨ws, hl2, hr2⟩ := hs2 qq _ eq
              exact ⟨pp, qq, us, ws, rfl, .inl ⟨SqL.of hl, SqL.of hl2, k _ _ _ _ _ st3 q hs2 (wv_zip (by rw [hr.length]; exact big.1 _ _ hl))⟩⟩
            | dct kvs t => simp only [zipOf, ep, eq] at e1; cases e1
            | ins ci fs => simp only [zipOf, ep, eq] at e1; cases e1
        | dct kvs t => simp only [zipOf, ep] at e1; cases e1
        | ins ci fs => simp only [zipOf, ep] at e1; cases e1
    | _ => cases e1
  | tup ys =>
    cases w with
    | tup zs =>
      obtain ⟨pp, us, rfl, hl, hr⟩ := rv
      obtain ⟨qq, ws, rfl, hl2, hr2⟩ := rw'
      have e2 : some (zipL ys zs, fun _ => True) = some (xs, grd) := e1
      cases e2
      exact ⟨pp, qq, us, ws, rfl, .inr ⟨hl, hl2, k _ _ _ _ _ st3 q hs2 (wv_zipT hl hr hl2 hr2 (by rw [hr.length]; exact big.2 _ _ hl))⟩⟩
    | _ => cases e1
  | _ => cases w <;> cases e1

/-! ### comprehensions -/
/-- the new list's place and items -/
def tC (L : Lay) (W : WX) (E : Nat → Sto → Prop) (f : Env → Sto → (List Val → Sto → Prop) → Prop) : TE := fun σ H Q => ∃ e S K, RE L.K H e σ ∧ RS L H S ∧ f e S K ∧
  (∀ D us vs S' H', Stp L H S H' S' → K vs S' → RS L H' S' → H' D = some (.lst us) → RVs L.K H' vs us → S' D = none → vs.length ≤ sizeLine → H D = none → Q (.ref D) H') ∧ XW L W E σ H S
def noW : WX := fun _ _ _ _ => False
/-- the test of a comprehension -/
def tF (L : Lay) (f : Env → Sto → (Bool → Sto → Prop) → Prop) : TT := fun σ H Q => ∃ e S Qd, RE L.K H e σ ∧ RS L H S ∧ f e S Qd ∧ ∀ b S' H', Stp L H S H' S' → Qd b S' → RS L H' S' → Q b H'
theorem xw_no {L : Lay} {σ : L2.St} {H : Hp} {S : Sto} : XW L noW noE σ H S := fun _ _ _ _ z _ => z.elim
/-- one turn -/
def turnW (G : Cfg) (tg : Tg) (own : List Nat) (e : Env) (elt : Ex) (cond : Oe) : Val → Sto → (Option Val → Sto → Prop) → Prop :=
  fun x S2 k => withO (bindT tg (wipeE e own) x) fun e' => wIf G cond e' S2 fun b S3 => (b = true → wE G noE elt e' S3 fun v S4 => k (some v) S4) ∧ (b = false → k none S3)
/-- the turns of a comprehension over the hand layer's -/
theorem q_turns {own : List Nat} {J : It} {D : Addr} {L : Lay} {G : Cfg} {elt : Ex} {cond : Oe} {grd : Sto → Prop} {K : List Val → Sto → Prop} {xs : List Val} {e : Env} {σ : L2.St} {H1 : Hp} {S1 : Sto} {Q : VK} {tg : Tg}
    (wv : WalkV L H1 J xs grd) (nD : H1 D = none) (hs : RS L H1 S1) (he : RE L.K H1 e σ) (hin : ∀ i ∈ tgSlots tg, i ∈ own)
    (hw : wTurns (turnW G tg own e elt cond) grd K xs [] S1)
    (hd : ∀ us vs S' H', Stp L H1 S1 H' S' → K vs S' → RS L H' S' → H' D = some (.lst us) → RVs L.K H' vs us → S' D = none → vs.length ≤ sizeLine → Q (.ref D) H') :
    ∃ W : Nat → Nat → Hp → Prop, (∃ m, W 0 m (upd H1 D (.lst []))) ∧ ∀ i m H, W i m H →
      (J.stop i H ∧ Q (.ref D) H) ∨ (J.go i H ∧ ∃ Nx : Hp → Prop, (∀ H', Nx H' → ∃ m', m' < m ∧ W (i + 1) m' H') ∧ ∀ x H', J.yld i H x H' → gT L.K tg x (wipe σ own) H' fun σ2 H2 => wipe σ2 own = wipe σ own ∧ tF L (wIf G cond) σ2 H2 fun b H3 =>
        if b = true then tE L noW noE (wE G noE elt) σ2 H3 fun y H4 => ∃ acc, H4 D = some (.lst acc) ∧ acc.length < sizeLine ∧ Nx (upd H4 D (.lst (acc ++ [y]))) else Nx H3) := by
  refine ⟨fun i m H => ∃ (acc : List Val) (us : List V) (S : Sto), m = xs.length - i ∧ i ≤ xs.length ∧ acc.length ≤ i ∧ H D = some (.lst us) ∧ RVs L.K H acc us ∧ RS L H S ∧ Stp L H1 S1 H S ∧ S D = none ∧ wTurns (turnW G tg own e elt cond) grd K (xs.drop i) acc S,
    ⟨xs.length, [], [], S1, by simp, Nat.zero_le _, Nat.zero_le _, upd_same, rfl, hs.new nD, Stp.new nD, RS.off hs nD, by simpa using hw⟩, ?_⟩
  rintro i m H ⟨acc, us, S, rfl, hi, hl, hD, hr, rs, st, sD, hw⟩
  by_cases hlt : i < xs.length
  · have ed : xs.drop i = xs[i] :: xs.drop (i + 1) := List.drop_eq_getElem_cons hlt
    rw [ed] at hw
    obtain ⟨g, hw⟩ := hw
    obtain ⟨e', eb, hw⟩ := withO_some hw
    refine .inr ⟨wv.go i H S hlt st.tp rs g, fun H' => ∃ (acc : List Val) (us : List V) (S : Sto), acc.length ≤ i + 1 ∧ H' D = some (.lst us) ∧ RVs L.K H' acc us ∧ RS L H' S ∧ Stp L H1 S1 H' S ∧ S D = none ∧ wTurns (turnW G tg own e elt cond) grd K (xs.drop (i + 1)) acc S, ?_, fun x H' y => ?_⟩
    · rintro H' ⟨acc', us', S', h1, h2, h3, h4, h5, h6, h7⟩
      exact ⟨xs.length - (i + 1), by omega, acc', us', S', rfl, by omega, h1, h2, h3, h4, h5, h6, h7⟩
    · obtain ⟨v, e1, rv, st', rs', kp⟩ := wv.yld i H S x H' hlt st.tp rs g y
      have ev : v = xs[i] := by
        rw [List.getElem?_eq_getElem hlt] at e1
        exact (Option.some.inj e1).symm
      subst ev
      have hD' : H' D = some (.lst us) := by rw [kp D (by rw [hD]; exact fun z => by cases z)]; exact hD
      have small := wv.small
      have st1 : Stp L H1 S1 H' S := st.trans st'
      refine gT_ok eb rv ((he.mono st1.tp).wipe own) fun σ2 re2 wz => ⟨?_, ?_⟩
      · have key : ∀ l : List Nat, ∀ τ : L2.St, wipe (wipe τ l) l = wipe τ l := by
          intro l
          induction l with
          | nil => intro τ; rfl
          | cons k l ih =>
            intro τ
            show (wipe ((wipe τ l).set k none) l).set k none = (wipe τ l).set k none
            have : ∀ (m : List Nat) (ρ : L2.St), (wipe (ρ.set k none) m).set k none = (wipe ρ m).set k none := by
              intro m
              induction m with
              | nil => intro ρ; show (ρ.set k none).set k none = ρ.set k none; rw [List.set_set]
              | cons j m ihm =>
                intro ρ
                show ((wipe (ρ.set k none) m).set j none).set k none = ((wipe ρ m).set j none).set k none
                by_cases e2 : j = k
                · subst e2; rw [List.set_set, List.set_set]; exact ihm ρ
                · rw [List.set_comm _ _ e2, List.set_comm _ _ e2, ihm ρ]
            rw [this, ih]
        rw [wz own hin, key]
      · refine ⟨e', S, _, re2, rs', hw, fun b S3 H3 st3 q3 rs3 => ?_⟩
        have hD3 : H3 D = some (.lst us) := st3.frm D _ hD' sD
        have sD3 : S3 D = none := st3.off hD' sD
        cases b with
        | true =>
          refine iteT ?_
          refine ⟨e', S3, _, re2.mono st3.tp, rs3, q3.1 rfl, fun w S4 y4 H4 st4 q4 rs4 rw4 => ?_, xw_no⟩
          have hD4 : H4 D = some (.lst us) := st4.frm D _ hD3 sD3
          have sD4 : S4 D = none := st4.off hD3 sD3
          have hr4 : RVs L.K H4 acc us := RVs.mono ((st'.trans st3).trans st4).tp _ _ hr
          have t5 : Tp L.K H4 (upd H4 D (.lst (us ++ [y4]))) := Tp.write hD4 (fun _ e => by cases e) (fun _ _ e => by cases e)
          refine ⟨us, hD4, by rw [← hr.length]; omega, acc ++ [w], us ++ [y4], S4, by simp; omega, upd_same, RVs.mono t5 _ _ (RVs.append hr4 (RVs.of1 rw4)), ?_, ?_, sD4, q4⟩
          · exact fun a o q => (rs4 a o q).mono t5 (upd_ne fun z => by subst z; rw [sD4] at q; cases q)
          · have st5 : Stp L H1 S1 H4 S4 := (st1.trans st3).trans st4
            refine ⟨st5.tp.trans t5, fun a h => ?_, st5.dom, fun a u h n => ?_⟩
            · by_cases z : a = D
              · subst z; rw [upd_same]; exact fun z => by cases z
              · rw [upd_ne z]; exact st5.more a h
            · rw [upd_ne (ne_of_none h nD)]; exact st5.frm a u h n
        | false =>
          refine iteF ?_
          refine ⟨acc, us, S3, by omega, hD3, RVs.mono (st'.trans st3).tp _ _ hr, rs3, st1.trans st3, sD3, ?_⟩
          have := q3.2 rfl
          simpa using this
  · have e : i = xs.length := by omega
    subst e
    rw [List.drop_length] at hw
    exact .inl ⟨wv.stop H S st.tp rs hw.1, hd us acc S H st hw.2 rs hD hr sD (Nat.le_trans hl wv.small)⟩
end
theorem q_comp {X : Cx} {c : LC} {W : WX} {E : Nat → Sto → Prop} {G : Cfg} {pos : Pos} {tg : Tg} {own : List Nat} {elt : Ex} {it : Itr} {cond : Oe} {ptg pit pelt : Expr} {ifs : List Expr} {scope : Scope} (hc : X.calm = true) (hN : X.N.Nodup) {N : List Str} {ow : List (Str × Nat)}
    (hi : PI X ptg pit (tI (lay X c) W E (wI G E it))) (ok : BlkOk X.N X.env.scope scope ow) (how : ow.map (·.2) = own)
    (hg : ∀ (s : Shared) (H : Hp) (C : Addr) (cl : List (Str × Addr)) (fp : List Addr), PG (X.blk s H scope (compEnvC scope cl C X.env) fp) ptg (gT X.K tg))
    (ht : ∀ (s : Shared) (H : Hp) (C : Addr) (cl : List (Str × Addr)) (fp : List Addr), PTs (X.blk s H scope (compEnvC scope cl C X.env) fp) ifs (tF (lay X c) (wIf G cond)))
    (he : ∀ (s : Shared) (H : Hp) (C : Addr) (cl : List (Str × Addr)) (fp : List Addr), PE (X.blk s H scope (compEnvC scope cl C X.env) fp) pelt (tE (lay X c) noW noE (wE G noE elt)))
    (hp : plainX pit = true) (hin : ∀ i ∈ tgSlots tg, i ∈ own) : PE X (.ListComp pelt [⟨ptg, pit, ifs, 0⟩] scope pos) (tC (lay X c) W E (wC G E (.mk tg own elt it cond))) := by
  refine PE.imp (pe_lc hc hN hi ok hg ht he (fun x => plain_fold hp X.env x)) fun σ H Q h => ?_
  obtain ⟨e, S, K, re, hs, hf, k, xw⟩ := h
  simp only [wC] at hf
  refine ⟨e, S, _, re, hs, hf, fun xs grd S1 H1 J st q hs1 wv D nD => ?_, xw⟩
  rw [how]
  have nD0 : H D = none := by
    cases e0 : H D with
    | none => rfl
    | some o => exact absurd nD (st.more D (by rw [e0]; exact fun z => by cases z))
  exact q_turns wv nD hs1 (re.mono st.tp) hin q fun us vs S' H' st' kv rs' hD hr sD hl => k D us vs S' H' (st.trans st') kv rs' hD hr sD hl nD0
end DL

set_option autoImplicit true
set_option Elab.async false
set_option linter.all false
set_option maxRecDepth 100000
set_option maxHeartbeats 2000000
/-! Own layer, part 10b: displays of dicts. -/
namespace DL
open PySem PySem.Spec PyProof.Rows L2
section
variable {X : Cx} {c : LC} {W : WX} {E : Nat → Sto → Prop} {G : Cfg} {pos : Pos}
theorem rs_dict0 {L : Lay} {H : Hp} {S : Sto} {p : Addr} (rs : RS L H S) (h : H p = some (dctO p #[] 0)) (hp : (p == sysModules) = false) : RS L H (up S p (.dct [] 0)) := fun a o q => by
  by_cases e : a = p
  · subst e
    rw [up_same] at q
    cases q
    exact rd_empty h hp
  · rw [up_ne e] at q
    exact rs a o q
theorem q_dict0 : PE X (.Dict [] [] pos) (tE (lay X c) W E (wE G E .dict0)) := by
  refine PE.imp pe_dict0 fun σ H Q h p np hp => ?_
  obtain ⟨e, S, Qd, he, hs, hf, k, xw⟩ := h
  simp only [wE] at hf
  exact k (.ref p) (up S p (.dct [] 0)) (.ref p) _ (Stp.alloc np) (hf p 0 (RS.off hs np)) (rs_dict0 (hs.new np) upd_same hp) rfl
theorem q_dict1 {pk pv : Expr} {a b : Ex} (hu : X.A.units + 10 < cLine) (ha : PE X pk (tE (lay X c) W E (wE G E a))) (hb : PE X pv (tE (lay X c) W E (wE G E b))) : PE X (.Dict [some pk] [pv] pos) (tE (lay X c) W E (wE G E (.dict1 a b))) := by
  refine ⟨fun pins s σ H Q I h => dict1_walk ?_⟩
  obtain ⟨e, S, Qd, he, hs, hf, k, xw⟩ := h
  simp only [wE] at hf
  have np : H s.heap.objs.size = none := I.hok.fresh (Nat.le_refl _)
  have hp : (s.heap.objs.size == sysModules) = false := beq_eq_false_iff_ne.mpr (Ne.symm (Nat.ne_of_lt I.big))
  have I1 := I.laid (a := s.heap.objs.size) (o := dctO s.heap.objs.size #[] 0) (h' := s.heap.push { cls := .type "dict", data := .dict #[] }) (t' := s.toks) (fun _ _ q => Heap.get?_push_of_some _ q) (Nat.le_refl _) (raw_empty s.heap)
  generalize s.heap.objs.size = p at np hp I1 ⊢
  have st0 : Stp (lay X c) H S (upd H p (dctO p #[] 0)) S := Stp.new np
  have sp : S p = none := RS.off hs np
  refine thn (ha.run pins _ σ _ (fun u H1 => ∃ x S1, Stp (lay X c) (upd H p (dctO p #[] 0)) S H1 S1 ∧ RS (lay X c) H1 S1 ∧ RV X.K H1 x u ∧ wE G E b e S1 fun y S2 => kindOk [] x = true ∧ ∀ p t, S2 p = none → Qd (.ref p) (up S2 p (.dct [(x, y)] t))) I1
    ⟨e, S, _, he.mono st0.tp, hs.new np, hf, fun v S1 u H1 st q rs1 rv => ⟨v, S1, st, rs1, rv, q⟩, xw.step st0⟩) fun uv s1 ⟨u, H1, J1, ru, x, S1, st1, rs1, rx, q1⟩ => ?_
  have st01 := st0.trans st1
  refine thn (hb.run pins _ σ _ (fun u2 H2 => ∃ y S2, Stp (lay X c) H1 S1 H2 S2 ∧ RS (lay X c) H2 S2 ∧ RV X.K H2 y u2 ∧ kindOk [] x = true ∧ ∀ p t, S2 p = none → Qd (.ref p) (up S2 p (.dct [(x, y)] t))) J1
    ⟨e, S1, _, he.mono st01.tp, rs1, q1, fun v S2 u H2 st q rs2 rv => ⟨v, S2, st, rs2, rv, q⟩, xw.step st01⟩) fun uv2 s2 ⟨u2, H2, J2, ru2, y, S2, st2, rs2, ry, ok, q2⟩ => ?_
  have st02 := st1.trans st2
  have h2 : H2 p = some (dctO p #[] 0) := st02.frm p _ upd_same sp
  have sp2 : S2 p = none := st02.off upd_same sp
  have stp : Stp (lay X c) H S H2 (up S2 p (.dct [] 0)) := by
    have z := st0.trans st02
    refine ⟨z.tp, z.more, fun a ha => ?_, z.frm⟩
    by_cases e1 : a = p
    · rw [e1]; exact .inr np
    · rw [up_ne e1] at ha
      exact z.dom a ha
  refine thn (dct_dset (c := c) (S := up S2 p (.dct [] 0)) (k := x) (v := y) hu J2 (rs_dict0 rs2 h2 hp) up_same ok (RV.mono st2.tp _ _ rx) ru ry ru2 (by show 0 < line; unfold line; decide)
    (Q := fun _ s3 => ∃ H3 t', Inv X pins σ H3 s3 ∧ Stp (lay X c) H2 (up S2 p (.dct [] 0)) H3 (up (up S2 p (.dct [] 0)) p (.dct (dput [] x y) t')) ∧ RS (lay X c) H3 (up (up S2 p (.dct [] 0)) p (.dct (dput [] x y) t'))) fun s' H' t' J st rs' => ⟨H', t', J, st, rs'⟩) fun _ s3 ⟨H3, t', J3, st3, rs3⟩ => ?_
  have e3 : up (up S2 p (.dct [] 0)) p (.dct (dput [] x y) t') = up S2 p (.dct [(x, y)] t') := by
    funext a
    unfold up
    split <;> rfl
  rw [e3] at st3 rs3
  exact ⟨.ref p, H3, J3, rfl, k _ _ _ _ (stp.trans st3) (q2 p t' sp2) rs3 rfl⟩
theorem rvs_rg {K : PySem.W.Frag} {H : Hp} (lo : Int) : ∀ (l : List Nat), RVs K H (l.map fun (k : Nat) => Val.int (lo + (k : Int) * 1)) (l.map fun i => V.int (lo + (i : Nat)))
  | [] => rfl
  | i :: r => ⟨_, _, rfl, (by
    show V.int (lo + (i : Int)) = V.int (lo + (i : Int) * 1)
    rw [Int.mul_one]), rvs_rg lo r⟩
theorem rvs_range {K : PySem.W.Frag} {H : Hp} (n : Int) : RVs K H (rangeL 0 n.toNat 1) (rgV 0 n) := by
  unfold rangeL rgV
  rw [Int.sub_zero]
  exact rvs_rg 0 _
theorem q_trng {pa : Expr} {a : Ex} {p p2 pos2 : Pos} {T : Tab} {k : Nat} {sc : Scope} (O : XOk X c G T k sc) (hg : Gl X "tuple") (hg2 : Gl X "range") (ha : PE X pa (tE (lay X c) W E (wE G E a))) (hp : plainX pa = true) :
    PE X (.Call (.Name "tuple" p) [.Call (.Name "range" p2) [pa] [] pos2] [] pos) (tE (lay X c) W E (wE G E (.trng (.cons a .nil)))) := by
  refine PE.imp (pe_tupRg O.calm hg (O.nm.blt _ (by simp)) (prg_1 hg2 (O.nm.blt _ (by simp)) ha (plain_star hp [] X.env))) fun σ H Q h => ?_
  obtain ⟨e, S, Qd, he, hs, hf, k, xw⟩ := h
  simp only [wE, wEs] at hf
  refine ⟨e, S, _, he, hs, hf, fun v S1 u H1 st q hs1 rv => ?_, xw⟩
  cases v with
  | int n =>
    cases rv
    obtain ⟨q1, q2, _, q3⟩ := q
    exact ⟨n, rfl, ⟨by omega, by omega, by omega, by omega, by omega⟩, fun p np => (k.step st).tup q3 hs1 (rvs_range n) np⟩
  | _ => exact q.elim
theorem q_lrng {pa : Expr} {a : Ex} {p p2 pos2 : Pos} {T : Tab} {k : Nat} {sc : Scope} (O : XOk X c G T k sc) (hg : Gl X "list") (hg2 : Gl X "range") (ha : PE X pa (tE (lay X c) W E (wE G E a))) (hp : plainX pa = true) :
    PE X (.Call (.Name "list" p) [.Call (.Name "range" p2) [pa] [] pos2] [] pos) (tE (lay X c) W E (wE G E (.lrng (.cons a .nil)))) := by
  refine PE.imp (pe_listRg O.calm hg (O.nm.blt _ (by simp)) (prg_1 hg2 (O.nm.blt _ (by simp)) ha (plain_star hp [] X.env))) fun σ H Q h => ?_
  obtain ⟨e, S, Qd, he, hs, hf, k, xw⟩ := h
  simp only [wE, wEs] at hf
  refine ⟨e, S, _, he, hs, hf, fun v S1 u H1 st q hs1 rv => ?_, xw⟩
  cases v with
  | int n =>
    cases rv
    obtain ⟨q1, q2, _, q3⟩ := q
    exact ⟨n, rfl, ⟨by omega, by omega, by omega, by omega, by omega⟩, fun p np => (k.step st).lst q3 hs1 (rvs_range n) np⟩
  | _ => exact q.elim
end
end DL

set_option autoImplicit true
set_option Elab.async false
set_option linter.all false
set_option maxRecDepth 100000
set_option maxHeartbeats 8000000
/-! Own layer, part 11: every expression. -/
namespace DL
open PySem PySem.Spec PyProof.Rows L2

theorem vis_of {sc : Scope} {x : Str} (h : visC sc x = true) : Vis sc x := by
  unfold visC at h
  split at h <;> first | exact .inl (by assumption) | exact .inr (.inl (by assumption)) | exact .inr (.inr (by assumption)) | cases h
theorem loc_of {sc : Scope} {x : Str} (h : locC sc x = true) : sc.names.lookup x = some .local ∨ sc.names.lookup x = some .cell := by
  unfold locC at h
  split at h <;> first | exact .inl (by assumption) | exact .inr (by assumption) | cases h
theorem glo_of {sc : Scope} {x : Str} (h : gloC sc x = true) : sc.names.lookup x = some .globalImplicit := by
  unfold gloC at h
  split at h
  · assumption
  · cases h
theorem name_of {x : Str} (h : nameC x = true) : (x == ("__debug__" : Str)) = false ∧ (x == ("__classdict__" : Str)) = false ∧ x ≠ "__name__" := by
  unfold nameC at h
  simp only [Bool.and_eq_true, Bool.not_eq_true', decide_eq_true_eq, decide_eq_false_iff_not] at h
  exact ⟨h.1.1, h.1.2, h.2⟩
theorem call_of {sc : Scope} {x y : Str} (h : callC sc x y = true) : y = x ∧ sc.names.lookup y = some .globalImplicit ∧ (y == ("__debug__" : Str)) = false ∧ y ≠ "__name__" := by
  unfold callC at h
  rw [Bool.and_eq_true, Bool.and_eq_true] at h
  obtain ⟨⟨h1, h2⟩, h3⟩ := h
  obtain ⟨n1, n2, n3⟩ := name_of h3
  exact ⟨(of_decide_eq_true h1).symm, glo_of h2, n1, n3⟩
/-- the arguments are plain -/
def allPlain : List Expr → Bool
  | [] => true
  | e :: r => plainX e && allPlain r
theorem es_plain {T : Tab} {sc : Scope} : ∀ {es : Exs} {ps : List Expr}, chkEs T sc es ps = true → allPlain ps = true ∧ ps.length = es.len
  | .nil, [], _ => ⟨rfl, rfl⟩
  | .nil, _ :: _, h => by simp [chkEs] at h
  | .cons _ _, [], h => by simp [chkEs] at h
  | .cons a r, p :: ps, h => by
    simp only [chkEs, Bool.and_eq_true] at h
    obtain ⟨i1, i2⟩ := es_plain h.2
    exact ⟨by simp [allPlain, h.1.2, i1], by simp [Exs.len, i2]⟩
theorem star_plain (env : PySem.Env) : ∀ {ps : List Expr}, allPlain ps = true → ∀ p ∈ starEach ps env, p.1 = false
  | [], _, p, hp => by simp [starEach] at hp
  | e :: r, h, p, hp => by
    simp only [allPlain, Bool.and_eq_true] at h
    rw [plain_star h.1] at hp
    rcases List.mem_cons.mp hp with z | z
    · rw [z]
    · exact star_plain env h.2 p z
theorem XOk.blk {X : Cx} {c : LC} {G : Cfg} {T : Tab} {k : Nat} {sc : Scope} (O : XOk X c G T k sc) (s : Shared) (H : Hp) (scope : Scope) (C : Addr) (cl : List (Str × Addr)) (fp : List Addr) : XOk (X.blk s H scope (compEnvC scope cl C X.env) fp) c G T k (relS scope sc) :=
  ⟨O.nm, O.room, O.calm, O.N, by rw [← O.sc]; rfl⟩
theorem blk_loc {X : Cx} {s : Shared} {H : Hp} {scope : Scope} {C : Addr} {cl : List (Str × Addr)} {fp : List Addr} : ∀ x, locC scope x = true →
    Loc (X.blk s H scope (compEnvC scope cl C X.env) fp).env.scope x ∧ ((X.blk s H scope (compEnvC scope cl C X.env) fp).fn x = true ∨ (X.blk s H scope (compEnvC scope cl C X.env) fp).env.scope.names.lookup x = some .local) := by
  intro x h
  rcases loc_of h with z | z
  · have q : (relS scope X.env.scope).names.lookup x = some .local := lookup_relS_keep (by decide) z
    exact ⟨.inl q, .inr q⟩
  · have q : (relS scope X.env.scope).names.lookup x = some .cell := lookup_relS_keep (by decide) z
    exact ⟨.inr q, .inl (by show (scope.names.lookup x == some .cell) = true; rw [z]; rfl)⟩
theorem own_snd (N : List Str) (own : List Nat) : (own.map fun i => (N.getD i "", i)).map (·.2) = own := by
  rw [List.map_map]
  conv => rhs; rw [← List.map_id own]
  rfl
/-- all of a def's facts in one -/
abbrev Snd (x : Ex) : Prop := ∀ (X : Cx) (c : LC) (G : Cfg) (T : Tab) (k : Nat) (sc : Scope) (W : WX) (E : Nat → Sto → Prop) (pe : Expr), XOk X c G T k sc → Takes X W → chkE T sc x pe = true → PE X pe (tE (lay X c) W E (wE G E x))
abbrev SndT (x : Ex) : Prop := ∀ (X : Cx) (c : LC) (G : Cfg) (T : Tab) (k : Nat) (sc : Scope) (W : WX) (E : Nat → Sto → Prop) (pe : Expr), XOk X c G T k sc → Takes X W → chkE T sc x pe = true → PT X pe (tT (lay X c) W E (wE G E x))
abbrev SndEs (x : Exs) : Prop := ∀ (X : Cx) (c : LC) (G : Cfg) (T : Tab) (k : Nat) (sc : Scope) (W : WX) (E : Nat → Sto → Prop) (pes : List Expr), XOk X c G T k sc → Takes X W → chkEs T sc x pes = true → PA X pes (tA (lay X c) W E x.len (wEs G E x))
abbrev SndO (x : Oe) : Prop := ∀ (X : Cx) (c : LC) (G : Cfg) (T : Tab) (k : Nat) (sc : Scope) (W : WX) (E : Nat → Sto → Prop) (pe : Option Expr), XOk X c G T k sc → Takes X W → chkO T sc x pe = true → PO X pe (tO (lay X c) W E (wO G E x))
abbrev SndI (x : Itr) : Prop := ∀ (X : Cx) (c : LC) (G : Cfg) (T : Tab) (k : Nat) (sc : Scope) (W : WX) (E : Nat → Sto → Prop) (tg pe : Expr), XOk X c G T k sc → Takes X W → chkI T sc x tg pe = true → PI X tg pe (tI (lay X c) W E (wI G E x))
abbrev SndC (x : Cmp) : Prop := ∀ (X : Cx) (c : LC) (G : Cfg) (T : Tab) (k : Nat) (sc : Scope) (W : WX) (E : Nat → Sto → Prop) (pe : Expr), XOk X c G T k sc → Takes X W → chkC T sc x pe = true → PE X pe (tC (lay X c) W E (wC G E x))
abbrev SndF (x : Oe) : Prop := ∀ (X : Cx) (c : LC) (G : Cfg) (T : Tab) (k : Nat) (sc : Scope) (ifs : List Expr), XOk X c G T k sc → Takes X noW → chkIf T sc x ifs = true → PTs X ifs (tF (lay X c) (wIf G x))

theorem d_bin {o : Bop} {a b : Ex} (ha : Snd a) (hb : Snd b) : Snd (.bin o a b) := by
  intro X c G T k sc W E pe O tk h
  cases pe with
  | BinOp pa po pb pos =>
    simp only [chkE, Bool.and_eq_true] at h
    have qa := ha X c G T k sc W E pa O tk h.1.2
    have qb := hb X c G T k sc W E pb O tk h.2
    have ho := h.1.1
    cases o <;> cases po <;> first | cases ho | skip
    · exact q_bin o_add qa qb
    · exact q_bin o_sub qa qb
    · exact q_bin o_mul qa qb
    · exact q_bin o_fdiv qa qb
    · exact q_bin o_mod qa qb
    · exact q_bin o_pow qa qb
  | _ => simp [chkE] at h
theorem un120 {X : Cx} {k : Nat} (r : Room k X.A) : X.A.units + 120 < cLine := by
  have := r.un
  omega
theorem cmp_rule {X : Cx} {c : LC} {o : Cop} {po : CmpOp} (hu : X.A.units + 120 < cLine) (h : copC o po = true) : OpR X (compareOp po) (rv2 (lay X c) (wCmp o)) := by
  cases o <;> cases po <;> first | cases h | skip
  · exact o_eq hu
  · exact o_ne hu
  · exact o_lt hu
  · exact o_le
  · exact o_gt
  · exact o_ge
  · exact o_in hu
  · exact o_notin hu
theorem d_cmp {o : Cop} {a b : Ex} (ha : Snd a) (hb : Snd b) : Snd (.cmp o a b) ∧ SndT (.cmp o a b) := by
  constructor
  · intro X c G T k sc W E pe O tk h
    cases pe with
    | Compare pa ops cs pos =>
      match ops, cs, h with
      | [po], [pb], h =>
        simp only [chkE, Bool.and_eq_true] at h
        exact q_cmp (cmp_rule (un120 O.room) h.1.1.1) (ha X c G T k sc W E pa O tk h.1.1.2) (hb X c G T k sc W E pb O tk h.1.2) h.2
      | [], _, h => simp [chkE] at h
      | [_], [], h => simp [chkE] at h
      | [_], _ :: _ :: _, h => simp [chkE] at h
      | _ :: _ :: _, _, h => simp [chkE] at h
    | _ => simp [chkE] at h
  · intro X c G T k sc W E pe O tk h
    cases pe with
    | Compare pa ops cs pos =>
      match ops, cs, h with
      | [po], [pb], h =>
        simp only [chkE, Bool.and_eq_true] at h
        exact t_cmp (cmp_rule (un120 O.room) h.1.1.1) (ha X c G T k sc W E pa O tk h.1.1.2) (hb X c G T k sc W E pb O tk h.1.2) h.2
      | [], _, h => simp [chkE] at h
      | [_], [], h => simp [chkE] at h
      | [_], _ :: _ :: _, h => simp [chkE] at h
      | _ :: _ :: _, _, h => simp [chkE] at h
    | _ => simp [chkE] at h

theorem gl_of {X : Cx} {c : LC} {G : Cfg} {T : Tab} {k : Nat} {sc : Scope} (O : XOk X c G T k sc) {x : Str} (h : sc.names.lookup x = some .globalImplicit) : Gl X x := by
  rw [← O.sc] at h
  exact h
theorem d_var {i : Nat} : Snd (.var i) ∧ SndT (.var i) := by
  have key : Snd (.var i) := by
    intro X c G T k sc W E pe O tk h
    unfold chkE at h; split at h <;> first | contradiction | skip
    rename_i i' x pos heq
    cases heq
    simp only [Bool.and_eq_true, decide_eq_true_eq] at h
    obtain ⟨n1, n2, n3⟩ := name_of h.2
    exact q_var (by rw [O.N]; exact h.1.1) (by rw [O.sc]; exact vis_of h.1.2) n1 n2
  refine ⟨key, ?_⟩
  intro X c G T k sc W E pe O tk h
  have q := key X c G T k sc W E pe O tk h
  unfold chkE at h; split at h <;> first | contradiction | skip
  exact t_val q fun _ => rfl
theorem d_glob {x : Str} : Snd (.glob x) ∧ SndT (.glob x) := by
  have key : Snd (.glob x) := by
    intro X c G T k sc W E pe O tk h
    unfold chkE at h; split at h <;> first | contradiction | skip
    rename_i x' y pos heq
    cases heq
    obtain ⟨rfl, h1, h2, h3⟩ := call_of h
    refine ⟨fun pins s σ H Q I hh => ?_⟩
    obtain ⟨e, S, Qd, he, hs, hf, k, xw⟩ := hh
    simp only [wE] at hf
    obtain ⟨v, e1, q⟩ := withO_some hf
    obtain ⟨u, vv, e2, r, rv⟩ := O.nm.cvs _ _ e1
    exact (pe_glob (gl_of O h1) e2 r h2).run pins s σ H Q I (k.here q hs (rv H))
  refine ⟨key, ?_⟩
  intro X c G T k sc W E pe O tk h
  have q := key X c G T k sc W E pe O tk h
  unfold chkE at h; split at h <;> first | contradiction | skip
  exact t_val q fun _ => rfl
theorem d_int {i : Int} : Snd (.int i) ∧ SndT (.int i) := by
  have key : Snd (.int i) := by
    intro X c G T k sc W E pe O tk h
    unfold chkE at h; split at h <;> first | contradiction | skip
    rename_i i' j y pos heq
    cases heq
    cases of_decide_eq_true h
    exact q_const (v := .int i) pe_int (fun _ => rfl) fun _ _ _ q => by simpa only [wE] using q
  refine ⟨key, ?_⟩
  intro X c G T k sc W E pe O tk h
  have q := key X c G T k sc W E pe O tk h
  unfold chkE at h; split at h <;> first | contradiction | skip
  exact t_val q fun _ => rfl
theorem d_bl {i : Bool} : Snd (.bl i) ∧ SndT (.bl i) := by
  have key : Snd (.bl i) := by
    intro X c G T k sc W E pe O tk h
    unfold chkE at h; split at h <;> first | contradiction | skip
    rename_i i' j y pos heq
    cases heq
    cases of_decide_eq_true h
    exact q_const (v := .bl i) pe_bl (fun _ => rfl) fun _ _ _ q => by simpa only [wE] using q
  refine ⟨key, ?_⟩
  intro X c G T k sc W E pe O tk h
  have q := key X c G T k sc W E pe O tk h
  unfold chkE at h; split at h <;> first | contradiction | skip
  exact t_val q fun _ => rfl
theorem d_str {i : Str} : Snd (.str i) ∧ SndT (.str i) := by
  have key : Snd (.str i) := by
    intro X c G T k sc W E pe O tk h
    unfold chkE at h; split at h <;> first | contradiction | skip
    rename_i i' j y pos heq
    cases heq
    cases of_decide_eq_true h
    exact q_const (v := .str i) pe_str (fun _ => rfl) fun _ _ _ q => by simpa only [wE] using q
  refine ⟨key, ?_⟩
  intro X c G T k sc W E pe O tk h
  have q := key X c G T k sc W E pe O tk h
  unfold chkE at h; split at h <;> first | contradiction | skip
  exact t_val q fun _ => rfl
theorem d_non : Snd .non ∧ SndT .non := by
  have key : Snd .non := by
    intro X c G T k sc W E pe O tk h
    unfold chkE at h; split at h <;> first | contradiction | skip
    exact q_const (v := .non) pe_non (fun _ => rfl) fun _ _ _ q => by simpa only [wE] using q
  refine ⟨key, ?_⟩
  intro X c G T k sc W E pe O tk h
  have q := key X c G T k sc W E pe O tk h
  unfold chkE at h; split at h <;> first | contradiction | skip
  exact t_val q fun _ => rfl
theorem d_bin' {o : Bop} {a b : Ex} (ha : Snd a) (hb : Snd b) : Snd (.bin o a b) ∧ SndT (.bin o a b) := by
  refine ⟨d_bin ha hb, ?_⟩
  intro X c G T k sc W E pe O tk h
  have q := d_bin ha hb X c G T k sc W E pe O tk h
  unfold chkE at h; split at h <;> first | contradiction | skip
  exact t_val q fun _ => rfl
theorem d_neg {a : Ex} (ha : Snd a) : Snd (.neg a) ∧ SndT (.neg a) := by
  have key : Snd (.neg a) := by
    intro X c G T k sc W E pe O tk h
    unfold chkE at h; split at h <;> first | contradiction | skip
    rename_i a' pa pos heq
    cases heq
    exact q_neg (ha X c G T k sc W E pa O tk h)
  refine ⟨key, ?_⟩
  intro X c G T k sc W E pe O tk h
  have q := key X c G T k sc W E pe O tk h
  unfold chkE at h; split at h <;> first | contradiction | skip
  exact t_val q fun _ => rfl
theorem d_not {a : Ex} (ha : Snd a ∧ SndT a) : Snd (.not a) ∧ SndT (.not a) := by
  constructor
  · intro X c G T k sc W E pe O tk h
    unfold chkE at h; split at h <;> first | contradiction | skip
    rename_i a' pa pos heq
    cases heq
    exact q_not (ha.1 X c G T k sc W E pa O tk h)
  · intro X c G T k sc W E pe O tk h
    unfold chkE at h; split at h <;> first | contradiction | skip
    rename_i a' pa pos heq
    cases heq
    exact t_not (ha.2 X c G T k sc W E pa O tk h)
theorem d_isN {a : Ex} (ha : Snd a) : Snd (.isN a) ∧ SndT (.isN a) := by
  constructor
  · intro X c G T k sc W E pe O tk h
    unfold chkE at h; split at h <;> first | contradiction | skip
    rename_i a' pa j p2 pos heq
    cases heq
    exact q_isN (ha X c G T k sc W E pa O tk h)
  · intro X c G T k sc W E pe O tk h
    unfold chkE at h; split at h <;> first | contradiction | skip
    rename_i a' pa j p2 pos heq
    cases heq
    refine t_cmp1 (pc_isN (ha X c G T k sc W E pa O tk h)) rfl fun σ H Q hh => ?_
    obtain ⟨e, S, Qd, he, hs, hf, k, xw⟩ := hh
    simp only [wE] at hf
    refine ⟨e, S, _, he, hs, hf, fun v S1 u H1 st q hs1 rv => ?_, xw⟩
    cases v with
    | non => cases rv; exact (k.step st).here (v := .bl true) q hs1 rfl
    | bl _ => cases rv; exact (k.step st).here (v := .bl false) q hs1 rfl
    | int _ => cases rv; exact (k.step st).here (v := .bl false) q hs1 rfl
    | str _ => cases rv; exact (k.step st).here (v := .bl false) q hs1 rfl
    | tup _ => obtain ⟨_, _, rfl, _⟩ := rv; exact (k.step st).here (v := .bl false) q hs1 rfl
    | ref _ => cases rv; exact (k.step st).here (v := .bl false) q hs1 rfl
    | lst _ => obtain ⟨_, _, rfl, _⟩ := rv; exact (k.step st).here (v := .bl false) q hs1 rfl
theorem d_notN {a : Ex} (ha : Snd a) : Snd (.notN a) ∧ SndT (.notN a) := by
  constructor
  · intro X c G T k sc W E pe O tk h
    unfold chkE at h; split at h <;> first | contradiction | skip
    rename_i a' pa j p2 pos heq
    cases heq
    exact q_notN (ha X c G T k sc W E pa O tk h)
  · intro X c G T k sc W E pe O tk h
    unfold chkE at h; split at h <;> first | contradiction | skip
    rename_i a' pa j p2 pos heq
    cases heq
    refine t_cmp1 (pc_notN (ha X c G T k sc W E pa O tk h)) rfl fun σ H Q hh => ?_
    obtain ⟨e, S, Qd, he, hs, hf, k, xw⟩ := hh
    simp only [wE] at hf
    refine ⟨e, S, _, he, hs, hf, fun v S1 u H1 st q hs1 rv => ?_, xw⟩
    cases v with
    | non => cases rv; exact (k.step st).here (v := .bl false) q hs1 rfl
    | bl _ => cases rv; exact (k.step st).here (v := .bl true) q hs1 rfl
    | int _ => cases rv; exact (k.step st).here (v := .bl true) q hs1 rfl
    | str _ => cases rv; exact (k.step st).here (v := .bl true) q hs1 rfl
    | tup _ => obtain ⟨_, _, rfl, _⟩ := rv; exact (k.step st).here (v := .bl true) q hs1 rfl
    | ref _ => cases rv; exact (k.step st).here (v := .bl true) q hs1 rfl
    | lst _ => obtain ⟨_, _, rfl, _⟩ := rv; exact (k.step st).here (v := .bl true) q hs1 rfl
theorem plain_last {op op2 : CmpOp} {b d : Expr} (h : plainX b = true) (h2 : plainX d = true) : lastMarks [op, op2] [b, d] = false := by
  first | exact plain_mark h2 _ | exact plain_mark h _
theorem chain_in {X : Cx} {c : LC} {W : WX} {E : Nat → Sto → Prop} {G : Cfg} {o p : Cop} {a b d : Ex} {σ : L2.St} {H : Hp} {Q : VK} (h : tE (lay X c) W E (wE G E (.chain o p a b d)) σ H Q) :
    tChain (rv2 (lay X c) (wCmp o)) (rv2 (lay X c) (wCmp p)) (tE (lay X c) W E (wE G E a)) (tE (lay X c) W E (wE G E b)) (tE (lay X c) W E (wE G E d)) σ H Q := by
  obtain ⟨e, S, Qd, he, hs, hf, k, xw⟩ := h
  simp only [wE] at hf
  refine ⟨e, S, _, he, hs, hf, fun v S1 u H1 st q hs1 rv => ?_, xw⟩
  refine ⟨e, S1, _, he.mono st.tp, hs1, q, fun v2 S2 u2 H2 st2 q2 hs2 rv2' => ?_, xw.step st⟩
  refine ⟨v, v2, S2, _, RV.mono st2.tp _ _ rv, rv2', hs2, q2, fun v3 S3 u3 H3 st3 q3 hs3 rv3 => ?_⟩
  obtain ⟨z, rfl, q4, q5⟩ := withB_some q3
  cases rv3
  refine ⟨z, rfl, ?_⟩
  have st13 := (st.trans st2).trans st3
  cases z with
  | true =>
    rw [if_pos rfl]
    refine ⟨e, S3, _, he.mono st13.tp, hs3, q4 rfl, fun v4 S4 u4 H4 st4 q6 hs4 rv4 => ?_, xw.step st13⟩
    exact ⟨v2, v4, S4, Qd, RV.mono (st3.trans st4).tp _ _ rv2', rv4, hs4, q6, (k.step st13).step st4⟩
  | false =>
    rw [if_neg Bool.false_ne_true]
    exact (k.step st13).here (q5 rfl) hs3 rfl
theorem d_chain {o p : Cop} {a b d : Ex} (ha : Snd a) (hb : Snd b) (hd : Snd d) : Snd (.chain o p a b d) ∧ SndT (.chain o p a b d) := by
  constructor
  · intro X c G T k sc W E pe O tk h
    unfold chkE at h; split at h <;> first | contradiction | skip
    rename_i o' p' a' b' d' pa po pp pb pd pos heq
    cases heq
    simp only [Bool.and_eq_true] at h
    exact q_chain (cmp_rule (un120 O.room) h.1.1.1.1.1.1) (cmp_rule (un120 O.room) h.1.1.1.1.1.2) (ha X c G T k sc W E pa O tk h.1.1.1.1.2) (hb X c G T k sc W E pb O tk h.1.1.1.2) (hd X c G T k sc W E pd O tk h.1.1.2) h.1.2 h.2
  · intro X c G T k sc W E pe O tk h
    unfold chkE at h; split at h <;> first | contradiction | skip
    rename_i o' p' a' b' d' pa po pp pb pd pos heq
    cases heq
    simp only [Bool.and_eq_true] at h
    refine PT.imp (pt_chain (cmp_rule (c := c) (un120 O.room) h.1.1.1.1.1.1) (cmp_rule (c := c) (un120 O.room) h.1.1.1.1.1.2) (ha X c G T k sc W E pa O tk h.1.1.1.1.2) (hb X c G T k sc W E pb O tk h.1.1.1.2) (hd X c G T k sc W E pd O tk h.1.1.2) (plain_last h.1.2 h.2)) fun σ H Q hh => ?_
    exact chain_in hh
end DL

set_option autoImplicit true
set_option Elab.async false
set_option linter.all false
set_option maxRecDepth 100000
set_option maxHeartbeats 8000000
/-! Own layer, part 12: every expression, the rest. -/
namespace DL
open PySem PySem.Spec PyProof.Rows L2

/-- a conjunction as a test within another -/
abbrev SndW (x : Ex) : Prop := ∀ (X : Cx) (c : LC) (G : Cfg) (T : Tab) (k : Nat) (sc : Scope) (W : WX) (E : Nat → Sto → Prop) (op : PySem.BoolOp) (r : List Expr) (pos : Pos), XOk X c G T k sc → Takes X W → chkE T sc x (.BoolOp op r pos) = true → PW X (.BoolOp op r pos) (tT (lay X c) W E (wE G E x))
theorem sw_no {x : Ex} (h : ∀ T sc op r pos, chkE T sc x (.BoolOp op r pos) = false) : SndW x := fun X c G T k sc W E op r pos _ _ q => by
  rw [h] at q
  cases q
theorem d_and {a b : Ex} (ha : Snd a ∧ SndT a) (hb : Snd b ∧ SndT b ∧ SndW b) : Snd (.and a b) ∧ SndT (.and a b) ∧ SndW (.and a b) := by
  have key : SndW (.and a b) := by
    intro X c G T k sc W E op r pos O tk h
    unfold chkE at h; split at h <;> first | contradiction | skip
    · rename_i a' b' pa pb pos' heq heq2
      cases heq
      cases heq2
      simp only [Bool.and_eq_true] at h
      exact t_and (ha.2 X c G T k sc W E pa O tk h.1) (pw_and1 (hb.2.1 X c G T k sc W E pb O tk h.2))
    · rename_i a' b' pa pb pc r' pos' heq heq2
      cases heq
      cases heq2
      simp only [Bool.and_eq_true] at h
      exact t_and (ha.2 X c G T k sc W E pa O tk h.1) (hb.2.2 X c G T k sc W E .And _ pos O tk h.2)
  refine ⟨?_, ?_, key⟩
  · intro X c G T k sc W E pe O tk h
    unfold chkE at h; split at h <;> first | contradiction | skip
    · rename_i a' b' pa pb pos' heq
      cases heq
      simp only [Bool.and_eq_true] at h
      exact q_and (ha.1 X c G T k sc W E pa O tk h.1) (pe_one (hb.1 X c G T k sc W E pb O tk h.2))
    · rename_i a' b' pa pb pc r' pos' heq
      cases heq
      simp only [Bool.and_eq_true] at h
      exact q_and (ha.1 X c G T k sc W E pa O tk h.1) (hb.1 X c G T k sc W E _ O tk h.2)
  · intro X c G T k sc W E pe O tk h
    cases pe with
    | BoolOp op r pos => exact (key X c G T k sc W E op r pos O tk h).pt
    | _ => simp [chkE] at h
theorem d_or {a b : Ex} (ha : Snd a ∧ SndT a) (hb : Snd b ∧ SndT b ∧ SndW b) : Snd (.or a b) ∧ SndT (.or a b) ∧ SndW (.or a b) := by
  have key : SndW (.or a b) := by
    intro X c G T k sc W E op r pos O tk h
    unfold chkE at h; split at h <;> first | contradiction | skip
    · rename_i a' b' pa pb pos' heq heq2
      cases heq
      cases heq2
      simp only [Bool.and_eq_true] at h
      exact t_or (ha.2 X c G T k sc W E pa O tk h.1) (pw_or1 (hb.2.1 X c G T k sc W E pb O tk h.2))
    · rename_i a' b' pa pb pc r' pos' heq heq2
      cases heq
      cases heq2
      simp only [Bool.and_eq_true] at h
      exact t_or (ha.2 X c G T k sc W E pa O tk h.1) (hb.2.2 X c G T k sc W E .Or _ pos O tk h.2)
  refine ⟨?_, ?_, key⟩
  · intro X c G T k sc W E pe O tk h
    unfold chkE at h; split at h <;> first | contradiction | skip
    · rename_i a' b' pa pb pos' heq
      cases heq
      simp only [Bool.and_eq_true] at h
      exact q_or (ha.1 X c G T k sc W E pa O tk h.1) (pe_one (hb.1 X c G T k sc W E pb O tk h.2))
    · rename_i a' b' pa pb pc r' pos' heq
      cases heq
      simp only [Bool.and_eq_true] at h
      exact q_or (ha.1 X c G T k sc W E pa O tk h.1) (hb.1 X c G T k sc W E _ O tk h.2)
  · intro X c G T k sc W E pe O tk h
    cases pe with
    | BoolOp op r pos => exact (key X c G T k sc W E op r pos O tk h).pt
    | _ => simp [chkE] at h
theorem d_tup {es : Exs} (he : SndEs es) : Snd (.tup es) ∧ SndT (.tup es) := by
  have key : Snd (.tup es) := by
    intro X c G T k sc W E pe O tk h
    unfold chkE at h; split at h <;> first | contradiction | skip
    rename_i es' pes z pos heq
    cases heq
    simp only [Bool.and_eq_true, decide_eq_true_eq] at h
    exact q_tup (he X c G T k sc W E pes O tk h.1) h.2
  refine ⟨key, ?_⟩
  intro X c G T k sc W E pe O tk h
  have q := key X c G T k sc W E pe O tk h
  unfold chkE at h; split at h <;> first | contradiction | skip
  exact t_val q fun _ => rfl
theorem d_lst {es : Exs} (he : SndEs es) : Snd (.lst es) ∧ SndT (.lst es) := by
  have key : Snd (.lst es) := by
    intro X c G T k sc W E pe O tk h
    unfold chkE at h; split at h <;> first | contradiction | skip
    rename_i es' pes pos heq
    cases heq
    simp only [Bool.and_eq_true, decide_eq_true_eq] at h
    exact q_lst (he X c G T k sc W E pes O tk h.1) h.2
  refine ⟨key, ?_⟩
  intro X c G T k sc W E pe O tk h
  have q := key X c G T k sc W E pe O tk h
  unfold chkE at h; split at h <;> first | contradiction | skip
  exact t_val q fun _ => rfl
theorem d_sub {a b : Ex} (ha : Snd a) (hb : Snd b) : Snd (.sub a b) ∧ SndT (.sub a b) := by
  have key : Snd (.sub a b) := by
    intro X c G T k sc W E pe O tk h
    unfold chkE at h; split at h <;> first | contradiction | skip
    rename_i a' b' pa pb pos heq
    cases heq
    simp only [Bool.and_eq_true] at h
    exact q_sub (i_sub (un120 O.room)) (ha X c G T k sc W E pa O tk h.1.1) (hb X c G T k sc W E pb O tk h.1.2) h.2
  refine ⟨key, ?_⟩
  intro X c G T k sc W E pe O tk h
  have q := key X c G T k sc W E pe O tk h
  unfold chkE at h; split at h <;> first | contradiction | skip
  exact t_val q fun _ => rfl
theorem d_slice {a : Ex} {lo hi : Oe} (ha : Snd a) (hl : SndO lo) (hh : SndO hi) : Snd (.slice a lo hi) ∧ SndT (.slice a lo hi) := by
  have key : Snd (.slice a lo hi) := by
    intro X c G T k sc W E pe O tk h
    unfold chkE at h; split at h <;> first | contradiction | skip
    rename_i a' lo' hi' pa plo phi p2 pos heq
    cases heq
    simp only [Bool.and_eq_true] at h
    exact q_slice (ha X c G T k sc W E pa O tk h.1.1) (hl X c G T k sc W E plo O tk h.1.2) (hh X c G T k sc W E phi O tk h.2)
  refine ⟨key, ?_⟩
  intro X c G T k sc W E pe O tk h
  have q := key X c G T k sc W E pe O tk h
  unfold chkE at h; split at h <;> first | contradiction | skip
  exact t_val q fun _ => rfl
theorem d_fld {a : Ex} {f : Str} (ha : Snd a) : Snd (.fld a f) ∧ SndT (.fld a f) := by
  have key : Snd (.fld a f) := by
    intro X c G T k sc W E pe O tk h
    unfold chkE at h; split at h <;> first | contradiction | skip
    rename_i a' f' pa g pos heq
    cases heq
    simp only [Bool.and_eq_true, decide_eq_true_eq] at h
    obtain ⟨⟨rfl, h1⟩, h2⟩ := h
    exact q_fld (ha X c G T k sc W E pa O tk h1) h2
  refine ⟨key, ?_⟩
  intro X c G T k sc W E pe O tk h
  have q := key X c G T k sc W E pe O tk h
  unfold chkE at h; split at h <;> first | contradiction | skip
  exact t_val q fun _ => rfl
theorem plain_row {X : Cx} {T : Tab} {sc : Scope} {es : Exs} {pe : Expr} {pes : List Expr} (pos : Pos) (h : chkEs T sc es (pe :: pes) = true) : plainX pe = true ∧ (backTo pos (starEach pes X.env)).any (·.1) = false := by
  have h1 := (es_plain h).1
  simp only [allPlain, Bool.and_eq_true] at h1
  exact ⟨h1.1, back_plain (star_plain X.env h1.2)⟩
theorem d_call {f : Nat} {es : Exs} (he : SndEs es) : Snd (.call f es) ∧ SndT (.call f es) := by
  have key : Snd (.call f es) := by
    intro X c G T k sc W E pe O tk h
    unfold chkE at h; split at h <;> first | contradiction | skip
    rename_i f' es' x p pe pes pos heq
    cases heq
    simp only [Bool.and_eq_true, decide_eq_true_eq] at h
    obtain ⟨⟨⟨h1, h2⟩, h3⟩, h4⟩ := h
    obtain ⟨p1, p2⟩ := plain_row (X := X) pos h4
    exact q_call O tk h1 (gl_of O (glo_of h2)) (name_of h3).1 (he X c G T k sc W E _ O tk h4) p1 p2
  refine ⟨key, ?_⟩
  intro X c G T k sc W E pe O tk h
  have q := key X c G T k sc W E pe O tk h
  unfold chkE at h; split at h <;> first | contradiction | skip
  exact t_val q fun _ => rfl
theorem d_new {f : Nat} {es : Exs} (he : SndEs es) : Snd (.new f es) ∧ SndT (.new f es) := by
  have key : Snd (.new f es) := by
    intro X c G T k sc W E pe O tk h
    unfold chkE at h; split at h <;> first | contradiction | skip
    rename_i f' es' x p pe pes pos heq
    cases heq
    simp only [Bool.and_eq_true, decide_eq_true_eq] at h
    obtain ⟨⟨⟨h1, h2⟩, h3⟩, h4⟩ := h
    obtain ⟨p1, p2⟩ := plain_row (X := X) pos h4
    exact q_new O h1 (gl_of O (glo_of h2)) (name_of h3).1 (he X c G T k sc W E _ O tk h4) p1 p2
  refine ⟨key, ?_⟩
  intro X c G T k sc W E pe O tk h
  have q := key X c G T k sc W E pe O tk h
  unfold chkE at h; split at h <;> first | contradiction | skip
  exact t_val q fun _ => rfl
theorem d_blt {b : Bt} {es : Exs} (he : SndEs es) : Snd (.blt b es) ∧ SndT (.blt b es) := by
  have key : Snd (.blt b es) := by
    intro X c G T k sc W E pe O tk h
    unfold chkE at h; split at h <;> first | contradiction | skip
    rename_i f' es' x p pe pes pos heq
    cases heq
    simp only [Bool.and_eq_true, decide_eq_true_eq] at h
    obtain ⟨h2, h4⟩ := h
    obtain ⟨p1, p2⟩ := plain_row (X := X) pos h4
    obtain ⟨e, h5, h6, h7⟩ := call_of h2
    exact q_blt O e (gl_of O h5) h7 h6 (he X c G T k sc W E _ O tk h4) p1 p2
  refine ⟨key, ?_⟩
  intro X c G T k sc W E pe O tk h
  have q := key X c G T k sc W E pe O tk h
  unfold chkE at h; split at h <;> first | contradiction | skip
  exact t_val q fun _ => rfl
theorem comp_plain {T : Tab} {sc : Scope} {cm : Cmp} {pe : Expr} (h : chkC T sc cm pe = true) : plainX pe = true := by
  unfold chkC at h
  split at h
  · rfl
  · cases h
theorem d_bltc {b : Bt} {cm : Cmp} (he : SndC cm) : Snd (.bltc b cm) ∧ SndT (.bltc b cm) := by
  have key : Snd (.bltc b cm) := by
    intro X c G T k sc W E pe O tk h
    unfold chkE at h; split at h <;> first | contradiction | skip
    rename_i b' cm' x p pe pos heq
    cases heq
    simp only [Bool.and_eq_true, decide_eq_true_eq] at h
    obtain ⟨h2, h4⟩ := h
    obtain ⟨e, h5, h6, h7⟩ := call_of h2
    have hm := comp_plain h4
    refine PE.imp (pe_callBf (b_listA (c := c) O.calm b) e (gl_of O h5) (by rw [e]; exact nmg O b) (pa_cons (he X c G T k sc W E pe O tk h4) pa_nil (plain_star hm [] X.env)) h7 h6 (plain_star hm [] X.env) rfl) fun σ H Q hh => ?_
    obtain ⟨e, S, Qd, he, hs, hf, k, xw⟩ := hh
    simp only [wE] at hf
    refine ⟨e, S, _, he, hs, hf, fun D us vs S1 H1 st q hs1 hD hr sD hl _ => ?_, xw⟩
    exact ⟨D, us, vs, S1, Qd, rfl, hD, hr, hs1, q, k.step st⟩
  refine ⟨key, ?_⟩
  intro X c G T k sc W E pe O tk h
  have q := key X c G T k sc W E pe O tk h
  unfold chkE at h; split at h <;> first | contradiction | skip
  exact t_val q fun _ => rfl
theorem chk_star {T : Tab} {sc : Scope} {a : Ex} {pa : Expr} (h : chkE T sc a pa = true) (es : List Expr) (env : PySem.Env) : starEach (pa :: es) env = (false, eval pa env) :: starEach es env := by
  cases pa <;> first | rfl | skip
  exfalso
  revert h
  induction a using Ex.rec (motive_2 := fun _ => True) (motive_3 := fun _ => True) (motive_4 := fun _ => True) (motive_5 := fun _ => True) <;> simp_all [chkE, chkC]
end DL

set_option autoImplicit true
set_option Elab.async false
set_option linter.all false
set_option maxRecDepth 100000
set_option maxHeartbeats 8000000
/-! Own layer, part 13: every expression, the end. -/
namespace DL
open PySem PySem.Spec PyProof.Rows L2
theorem un70 {X : Cx} {k : Nat} (r : Room k X.A) : X.A.units + 70 < cLine := by
  have := un120 r
  omega
theorem un10 {X : Cx} {k : Nat} (r : Room k X.A) : X.A.units + 10 < cLine := by
  have := r.un
  omega
theorem d_dict0 : Snd .dict0 ∧ SndT .dict0 := by
  have key : Snd .dict0 := by
    intro X c G T k sc W E pe O tk h
    unfold chkE at h; split at h <;> first | contradiction | skip
    exact q_dict0
  refine ⟨key, ?_⟩
  intro X c G T k sc W E pe O tk h
  have q := key X c G T k sc W E pe O tk h
  unfold chkE at h; split at h <;> first | contradiction | skip
  exact t_val q fun _ => rfl
theorem d_dict1 {a b : Ex} (ha : Snd a) (hb : Snd b) : Snd (.dict1 a b) ∧ SndT (.dict1 a b) := by
  have key : Snd (.dict1 a b) := by
    intro X c G T k sc W E pe O tk h
    unfold chkE at h; split at h <;> first | contradiction | skip
    rename_i a' b' pk pv pos heq
    cases heq
    simp only [Bool.and_eq_true] at h
    exact q_dict1 (un10 O.room) (ha X c G T k sc W E pk O tk h.1) (hb X c G T k sc W E pv O tk h.2)
  refine ⟨key, ?_⟩
  intro X c G T k sc W E pe O tk h
  have q := key X c G T k sc W E pe O tk h
  unfold chkE at h; split at h <;> first | contradiction | skip
  exact t_val q fun _ => rfl
theorem d_trng {es : Exs} (he : ∀ a, es = .cons a .nil → Snd a) : Snd (.trng es) ∧ SndT (.trng es) := by
  have key : Snd (.trng es) := by
    intro X c G T k sc W E pe O tk h
    unfold chkE at h; split at h <;> first | contradiction | skip
    rename_i a' x p y p2 pa pos2 pos heq
    cases heq
    simp only [Bool.and_eq_true] at h
    obtain ⟨⟨⟨h1, h2⟩, h3⟩, h4⟩ := h
    obtain ⟨rfl, g1, _⟩ := call_of h1
    obtain ⟨rfl, g2, _⟩ := call_of h2
    exact q_trng O (gl_of O g1) (gl_of O g2) (he _ rfl X c G T k sc W E pa O tk h3) h4
  refine ⟨key, ?_⟩
  intro X c G T k sc W E pe O tk h
  have q := key X c G T k sc W E pe O tk h
  unfold chkE at h; split at h <;> first | contradiction | skip
  exact t_val q fun _ => rfl
theorem d_lrng {es : Exs} (he : ∀ a, es = .cons a .nil → Snd a) : Snd (.lrng es) ∧ SndT (.lrng es) := by
  have key : Snd (.lrng es) := by
    intro X c G T k sc W E pe O tk h
    unfold chkE at h; split at h <;> first | contradiction | skip
    rename_i a' x p y p2 pa pos2 pos heq
    cases heq
    simp only [Bool.and_eq_true] at h
    obtain ⟨⟨⟨h1, h2⟩, h3⟩, h4⟩ := h
    obtain ⟨rfl, g1, _⟩ := call_of h1
    obtain ⟨rfl, g2, _⟩ := call_of h2
    exact q_lrng O (gl_of O g1) (gl_of O g2) (he _ rfl X c G T k sc W E pa O tk h3) h4
  refine ⟨key, ?_⟩
  intro X c G T k sc W E pe O tk h
  have q := key X c G T k sc W E pe O tk h
  unfold chkE at h; split at h <;> first | contradiction | skip
  exact t_val q fun _ => rfl
theorem d_isi {a : Ex} {t : Ty} (ha : Snd a) : Snd (.isi a t) ∧ SndT (.isi a t) := by
  have key : Snd (.isi a t) := by
    intro X c G T k sc W E pe O tk h
    unfold chkE at h; split at h <;> first | contradiction | skip
    rename_i a' t' x p pa y p2 pos heq
    cases heq
    simp only [Bool.and_eq_true] at h
    obtain ⟨⟨h1, h2⟩, h3⟩ := h
    obtain ⟨e1, g1, _⟩ := call_of h1
    obtain ⟨e2, g2, _⟩ := call_of h2
    exact q_isi O e1 e2 (gl_of O g1) (gl_of O g2) (ha X c G T k sc W E pa O tk h3) (chk_star h3 _ _)
  refine ⟨key, ?_⟩
  intro X c G T k sc W E pe O tk h
  have q := key X c G T k sc W E pe O tk h
  unfold chkE at h; split at h <;> first | contradiction | skip
  exact t_val q fun _ => rfl
theorem d_meth {a : Ex} {m : Mt} {es : Exs} (ha : Snd a) (he : SndEs es) : Snd (.meth a m es) ∧ SndT (.meth a m es) := by
  have key : Snd (.meth a m es) := by
    intro X c G T k sc W E pe O tk h
    unfold chkE at h; split at h <;> first | contradiction | skip
    rename_i a' m' es' pa g apos pes pos heq
    cases heq
    simp only [Bool.and_eq_true, decide_eq_true_eq] at h
    obtain ⟨⟨⟨⟨⟨⟨h1, rfl⟩, h3⟩, h4⟩, h5⟩, h6⟩, h7⟩ := h
    cases pes with
    | nil =>
      cases es with
      | nil => exact q_meth0 (un70 O.room) h1 (ha X c G T k sc W E pa O tk h5) h4 h3
      | cons _ _ => simp [chkEs] at h6
    | cons q qs =>
      obtain ⟨p1, p2⟩ := plain_row (X := X) pos h6
      exact q_meth (un70 O.room) h1 (ha X c G T k sc W E pa O tk h5) (he X c G T k sc W E _ O tk h6) h4 p1 (by rw [(es_plain h6).2]; exact h7) h3 p2
  refine ⟨key, ?_⟩
  intro X c G T k sc W E pe O tk h
  have q := key X c G T k sc W E pe O tk h
  unfold chkE at h; split at h <;> first | contradiction | skip
  exact t_val q fun _ => rfl
theorem d_tix {zs : List Str} {a : Ex} (ha : Snd a) : Snd (.tix zs a) ∧ SndT (.tix zs a) := by
  have key : Snd (.tix zs a) := by
    intro X c G T k sc W E pe O tk h
    unfold chkE at h; split at h <;> first | contradiction | skip
    rename_i zs' a' es z1 z2 g apos pa pos heq
    cases heq
    simp only [Bool.and_eq_true, decide_eq_true_eq] at h
    obtain ⟨⟨⟨⟨⟨rfl, h2⟩, h3⟩, h4⟩, h5⟩, h6⟩ := h
    exact q_tix h2 h6 (ha X c G T k sc W E pa O tk h5) h4 h3
  refine ⟨key, ?_⟩
  intro X c G T k sc W E pe O tk h
  have q := key X c G T k sc W E pe O tk h
  unfold chkE at h; split at h <;> first | contradiction | skip
  exact t_val q fun _ => rfl
theorem d_umeth {a : Ex} {m : Str} {es : Exs} (ha : Snd a) (he : SndEs es) : Snd (.umeth a m es) ∧ SndT (.umeth a m es) := by
  have key : Snd (.umeth a m es) := by
    intro X c G T k sc W E pe O tk h
    unfold chkE at h; split at h <;> first | contradiction | skip
    rename_i a' m' es' pa g apos pes pos heq
    cases heq
    simp only [Bool.and_eq_true, decide_eq_true_eq] at h
    obtain ⟨⟨⟨⟨⟨⟨h1, rfl⟩, h3⟩, h4⟩, h5⟩, h6⟩, h7⟩ := h
    replace h1 : _ := h1
    cases pes with
    | nil =>
      cases es with
      | nil => exact q_umeth0 O h1 (ha X c G T k sc W E pa O tk h5) h4 h3
      | cons _ _ => simp [chkEs] at h6
    | cons q qs =>
      obtain ⟨p1, p2⟩ := plain_row (X := X) pos h6
      exact q_umeth O h1 (ha X c G T k sc W E pa O tk h5) (he X c G T k sc W E _ O tk h6) h4 p1 (by rw [(es_plain h6).2]; exact h7) h3 p2
  refine ⟨key, ?_⟩
  intro X c G T k sc W E pe O tk h
  have q := key X c G T k sc W E pe O tk h
  unfold chkE at h; split at h <;> first | contradiction | skip
  exact t_val q fun _ => rfl
theorem chk_comp {T : Tab} {sc : Scope} {cm : Cmp} {pe : Expr} (h : chkE T sc (.comp cm) pe = true) : chkC T sc cm pe = true := by
  simp only [chkE] at h
  exact h
theorem d_comp {cm : Cmp} (hc : SndC cm) : Snd (.comp cm) ∧ SndT (.comp cm) := by
  have key : Snd (.comp cm) := by
    intro X c G T k sc W E pe O tk h
    refine PE.imp (hc X c G T k sc W E pe O tk (chk_comp h)) fun σ H Q hh => ?_
    obtain ⟨e, S, Qd, he, hs, hf, k, xw⟩ := hh
    simp only [wE] at hf
    refine ⟨e, S, _, he, hs, hf, fun D us vs S1 H1 st q hs1 hD hr sD hl nD => ?_, xw⟩
    refine k (.ref D) (up S1 D (.lst vs)) (.ref D) H1 ⟨st.tp, st.more, fun a ha => ?_, st.frm⟩ (q D sD) (fun a o q => ?_) rfl
    · by_cases z : a = D
      · subst z
        exact .inr nD
      · exact st.dom a (by rw [up_ne z] at ha; exact ha)
    · by_cases z : a = D
      · subst z
        rw [up_same] at q
        cases q
        exact ⟨us, hD, hr⟩
      · rw [up_ne z] at q
        exact hs1 a o q
  refine ⟨key, ?_⟩
  intro X c G T k sc W E pe O tk h
  have q := key X c G T k sc W E pe O tk h
  have h' := chk_comp h
  unfold chkC at h'
  split at h'
  · exact t_val q fun _ => rfl
  · cases h'
theorem t_drop {X : Cx} {c : LC} {W : WX} {E : Nat → Sto → Prop} {G : Cfg} {σ : L2.St} {H : Hp} {Q : VK} {a : Ex} (h : tE (lay X c) W E (wE G E (.drop a)) σ H Q) : tE (lay X c) W E (wE G E a) σ H Q := by
  obtain ⟨e, S, Qd, he, hs, hf, k, xw⟩ := h
  simp only [wE] at hf
  refine ⟨e, S, _, he, hs, hf, fun v S1 u H1 st q hs1 rv => ?_, xw⟩
  refine k v _ u H1 ⟨st.tp, st.more, fun a ha => st.dom a fun z => ha ?_, st.frm⟩ q (hs1.sub keep_sub) rv
  unfold keep
  split
  · exact z
  · rfl
theorem d_drop {a : Ex} (ha : Snd a ∧ SndT a ∧ SndW a) : Snd (.drop a) ∧ SndT (.drop a) ∧ SndW (.drop a) := by
  refine ⟨?_, ?_, ?_⟩
  · intro X c G T k sc W E pe O tk h
    simp only [chkE] at h
    exact q_drop (ha.1 X c G T k sc W E pe O tk h)
  · intro X c G T k sc W E pe O tk h
    simp only [chkE] at h
    exact PT.imp (ha.2.1 X c G T k sc W E pe O tk h) fun σ H Q hh => t_drop hh
  · intro X c G T k sc W E op r pos O tk h
    simp only [chkE] at h
    exact PW.imp (ha.2.2 X c G T k sc W E op r pos O tk h) fun σ H Q hh => t_drop hh

/-! ### lists, parts, walks, comprehensions -/
theorem d_nil : SndEs .nil := by
  intro X c G T k sc W E pes O tk h
  cases pes with
  | nil => exact a_nil
  | cons _ _ => simp [chkEs] at h
theorem d_cons {a : Ex} {r : Exs} (ha : Snd a) (hr : SndEs r) : SndEs (.cons a r) := by
  intro X c G T k sc W E pes O tk h
  cases pes with
  | nil => simp [chkEs] at h
  | cons p ps =>
    simp only [chkEs, Bool.and_eq_true] at h
    exact a_cons (ha X c G T k sc W E p O tk h.1.1) (hr X c G T k sc W E ps O tk h.2) h.1.2
theorem d_onone : SndO .none := by
  intro X c G T k sc W E pe O tk h
  cases pe with
  | none => exact o_none
  | some _ => simp [chkO] at h
theorem d_osome {a : Ex} (ha : Snd a) : SndO (.some a) := by
  intro X c G T k sc W E pe O tk h
  cases pe with
  | none => simp [chkO] at h
  | some p =>
    simp only [chkO] at h
    exact o_some (ha X c G T k sc W E p O tk h)
theorem d_ival {a : Ex} (ha : Snd a) : SndI (.val a) := by
  intro X c G T k sc W E tg pe O tk h
  simp only [chkI, Bool.and_eq_true] at h
  exact i_val (ha X c G T k sc W E pe O tk h.1)
theorem d_irng {es : Exs} (he : SndEs es) : SndI (.rng es) := by
  intro X c G T k sc W E tg pe O tk h
  unfold chkI at h; split at h <;> first | contradiction | skip
  rename_i es' tg' x p pes pos heq
  cases heq
  simp only [Bool.and_eq_true, decide_eq_true_eq] at h
  obtain ⟨⟨h1, h2⟩, h3⟩ := h
  obtain ⟨rfl, g1, _⟩ := call_of h1
  obtain ⟨ap, al⟩ := es_plain h2
  have q := he X c G T k sc W E pes O tk h2
  match pes, ap, al, h2, q with
  | [], _, al, _, _ => simp at al; omega
  | [pa], ap, al, h2, q =>
    rw [← al] at q
    simp only [allPlain, Bool.and_eq_true] at ap
    exact i_rng1 O (gl_of O g1) q ap.1
  | [pa, pb], ap, al, h2, q =>
    rw [← al] at q
    simp only [allPlain, Bool.and_eq_true] at ap
    exact i_rng2 O (gl_of O g1) q ap.1 ap.2.1
  | [pa, pb, pc], ap, al, h2, q =>
    rw [← al] at q
    simp only [allPlain, Bool.and_eq_true] at ap
    exact i_rng3 O (gl_of O g1) q ap.1 ap.2.1 ap.2.2.1
  | _ :: _ :: _ :: _ :: _, _, al, _, _ => simp at al; omega
theorem d_ienum {a : Ex} (ha : Snd a) : SndI (.enum a) := by
  intro X c G T k sc W E tg pe O tk h
  unfold chkI at h; split at h <;> first | contradiction | skip
  rename_i a' t1 t2 t3 x p pa pos heq
  cases heq
  simp only [Bool.and_eq_true] at h
  obtain ⟨rfl, g1, _⟩ := call_of h.1.1
  exact i_enum O (gl_of O g1) (ha X c G T k sc W E pa O tk h.1.2) h.2
theorem d_izip {a b : Ex} (ha : Snd a) (hb : Snd b) : SndI (.zip a b) := by
  intro X c G T k sc W E tg pe O tk h
  unfold chkI at h; split at h <;> first | contradiction | skip
  rename_i a' b' t1 t2 t3 x p pa pb pos heq
  cases heq
  simp only [Bool.and_eq_true] at h
  obtain ⟨rfl, g1, _⟩ := call_of h.1.1.1.1
  exact i_zip O (gl_of O g1) (ha X c G T k sc W E pa O tk h.1.1.1.2) (hb X c G T k sc W E pb O tk h.1.1.2) h.1.2 h.2
theorem no_takes {X : Cx} : Takes X noW := fun _ _ x => by
  obtain ⟨_, _, _, _, _, _, _, _, _, _, _, _, _, _, _, _, z⟩ := x
  exact z.elim
theorem d_fnone : SndF .none := by
  intro X c G T k sc ifs O tk h
  cases ifs with
  | nil =>
    refine ⟨fun pins s σ H Q I hh => pts_nil.run pins s σ H Q I ?_⟩
    obtain ⟨e, S, Qd, he, hs, hf, k⟩ := hh
    simp only [wIf] at hf
    exact k true S H .refl hf hs
  | cons _ _ => simp [chkIf] at h
theorem d_fsome {a : Ex} (ha : SndT a) : SndF (.some a) := by
  intro X c G T k sc ifs O tk h
  match ifs, h with
  | [], h => simp [chkIf] at h
  | [p], h =>
    simp only [chkIf] at h
    refine ⟨fun pins s σ H Q I hh => (pts_one (ha X c G T k sc noW noE p O tk h)).run pins s σ H Q I ?_⟩
    obtain ⟨e, S, Qd, he, hs, hf, k⟩ := hh
    simp only [wIf] at hf
    refine ⟨e, S, _, he, hs, hf, fun v S1 u H1 st q hs1 rv => ?_, xw_no⟩
    obtain ⟨b, rfl, q⟩ := withB_some q
    cases rv
    exact ⟨b, rfl, k b S1 H1 st q hs1⟩
  | _ :: _ :: _, h => simp [chkIf] at h
theorem d_mk {tg : Tg} {own : List Nat} {elt : Ex} {it : Itr} {cond : Oe} (he : Snd elt) (hi : SndI it) (hf : SndF cond) : SndC (.mk tg own elt it cond) := by
  intro X c G T k sc W E pe O tk h
  unfold chkC at h; split at h <;> first | contradiction | skip
  rename_i tg' own' elt' it' cond' pelt ptg pit ifs scope pos heq
  cases heq
  simp only [Bool.and_eq_true, List.all_eq_true, decide_eq_true_eq] at h
  obtain ⟨⟨⟨⟨⟨⟨h1, h2⟩, h3⟩, h4⟩, h5⟩, h6⟩, h7⟩ := h
  have hN : X.N.Nodup := by rw [O.N]; exact O.nm.nd
  refine q_comp (N := T.N) O.calm hN (hi X c G T k sc W E ptg pit O tk h4) (blkOk_by (own := own.map fun i => (T.N.getD i "", i)) (by rw [O.N, O.sc]; exact h1)) (own_snd _ _) (fun s H C cl fp => ?_) (fun s H C cl fp => ?_) (fun s H C cl fp => ?_) h5 h3
  · exact g_ok (X := X.blk s H scope (compEnvC scope cl C X.env) fp) (T := T) (sc := scope) hN O.N O.calm blk_loc h2
  · exact hf _ c G T k _ ifs (O.blk s H scope C cl fp) no_takes h7
  · exact he _ c G T k _ noW noE pelt (O.blk s H scope C cl fp) no_takes h6
end DL

set_option autoImplicit true
set_option Elab.async false
set_option linter.all false
set_option maxRecDepth 100000
set_option maxHeartbeats 8000000
/-! Own layer, part 14: every expression. -/
namespace DL
open PySem PySem.Spec PyProof.Rows L2
theorem and3 {a b c : Prop} (h : a ∧ b) (w : c) : a ∧ b ∧ c := ⟨h.1, h.2, w⟩
mutual
theorem snd : (x : Ex) → Snd x ∧ SndT x ∧ SndW x
  | .var i => and3 d_var (sw_no (by intros; simp [chkE]))
  | .glob x => and3 d_glob (sw_no (by intros; simp [chkE]))
  | .int i => and3 d_int (sw_no (by intros; simp [chkE]))
  | .bl b => and3 d_bl (sw_no (by intros; simp [chkE]))
  | .non => and3 d_non (sw_no (by intros; simp [chkE]))
  | .str x => and3 d_str (sw_no (by intros; simp [chkE]))
  | .bin o a b => and3 (d_bin' (snd a).1 (snd b).1) (sw_no (by intros; simp [chkE]))
  | .neg a => and3 (d_neg (snd a).1) (sw_no (by intros; simp [chkE]))
  | .not a => and3 (d_not ⟨(snd a).1, (snd a).2.1⟩) (sw_no (by intros; simp [chkE]))
  | .cmp o a b => and3 (d_cmp (snd a).1 (snd b).1) (sw_no (by intros; simp [chkE]))
  | .isN a => and3 (d_isN (snd a).1) (sw_no (by intros; simp [chkE]))
  | .notN a => and3 (d_notN (snd a).1) (sw_no (by intros; simp [chkE]))
  | .chain o p a b d => and3 (d_chain (snd a).1 (snd b).1 (snd d).1) (sw_no (by intros; simp [chkE]))
  | .and a b => d_and ⟨(snd a).1, (snd a).2.1⟩ (snd b)
  | .or a b => d_or ⟨(snd a).1, (snd a).2.1⟩ (snd b)
  | .tup es => and3 (d_tup (sndEs es)) (sw_no (by intros; simp [chkE]))
  | .lst es => and3 (d_lst (sndEs es)) (sw_no (by intros; simp [chkE]))
  | .dict0 => and3 d_dict0 (sw_no (by intros; simp [chkE]))
  | .dict1 a b => and3 (d_dict1 (snd a).1 (snd b).1) (sw_no (by intros; simp [chkE]))
  | .sub a b => and3 (d_sub (snd a).1 (snd b).1) (sw_no (by intros; simp [chkE]))
  | .slice a lo hi => and3 (d_slice (snd a).1 (sndO lo) (sndO hi)) (sw_no (by intros; simp [chkE]))
  | .fld a f => and3 (d_fld (snd a).1) (sw_no (by intros; simp [chkE]))
  | .call f es => and3 (d_call (sndEs es)) (sw_no (by intros; simp [chkE]))
  | .new f es => and3 (d_new (sndEs es)) (sw_no (by intros; simp [chkE]))
  | .blt b es => and3 (d_blt (sndEs es)) (sw_no (by intros; simp [chkE]))
  | .bltc b cm => and3 (d_bltc (sndC cm)) (sw_no (by intros; simp [chkE]))
  | .isi a t => and3 (d_isi (snd a).1) (sw_no (by intros; simp [chkE]))
  | .meth a m es => and3 (d_meth (snd a).1 (sndEs es)) (sw_no (by intros; simp [chkE]))
  | .umeth a m es => and3 (d_umeth (snd a).1 (sndEs es)) (sw_no (by intros; simp [chkE]))
  | .comp cm => and3 (d_comp (sndC cm)) (sw_no (by intros; simp [chkE, chkC]))
  | .lzip _ _ => ⟨fun X c G T k sc W E pe O tk h => by simp [chkE] at h, fun X c G T k sc W E pe O tk h => by simp [chkE] at h, sw_no (by intros; simp [chkE])⟩
  | .lrng (.cons a .nil) => and3 (d_lrng fun b e => by cases e; exact (snd a).1) (sw_no (by intros; simp [chkE]))
  | .lrng .nil => ⟨fun X c G T k sc W E pe O tk h => by simp [chkE] at h, fun X c G T k sc W E pe O tk h => by simp [chkE] at h, sw_no (by intros; simp [chkE])⟩
  | .lrng (.cons _ (.cons _ _)) => ⟨fun X c G T k sc W E pe O tk h => by simp [chkE] at h, fun X c G T k sc W E pe O tk h => by simp [chkE] at h, sw_no (by intros; simp [chkE])⟩
  | .trng (.cons a .nil) => and3 (d_trng fun b e => by cases e; exact (snd a).1) (sw_no (by intros; simp [chkE]))
  | .trng .nil => ⟨fun X c G T k sc W E pe O tk h => by simp [chkE] at h, fun X c G T k sc W E pe O tk h => by simp [chkE] at h, sw_no (by intros; simp [chkE])⟩
  | .trng (.cons _ (.cons _ _)) => ⟨fun X c G T k sc W E pe O tk h => by simp [chkE] at h, fun X c G T k sc W E pe O tk h => by simp [chkE] at h, sw_no (by intros; simp [chkE])⟩
  | .drop a => d_drop (snd a)
  | .tix zs a => and3 (d_tix (snd a).1) (sw_no (by intros; simp [chkE]))
theorem sndEs : (x : Exs) → SndEs x
  | .nil => d_nil
  | .cons a r => d_cons (snd a).1 (sndEs r)
theorem sndO : (x : Oe) → SndO x
  | .none => d_onone
  | .some a => d_osome (snd a).1
theorem sndI : (x : Itr) → SndI x
  | .val a => d_ival (snd a).1
  | .rng es => d_irng (sndEs es)
  | .enum a => d_ienum (snd a).1
  | .zip a b => d_izip (snd a).1 (snd b).1
theorem sndC : (x : Cmp) → SndC x
  | .mk tg own elt it cond => d_mk (snd elt).1 (sndI it) (sndF cond)
theorem sndF : (x : Oe) → SndF x
  | .none => d_fnone
  | .some a => d_fsome (snd a).2.1
end
end DL

set_option autoImplicit true
set_option Elab.async false
set_option linter.all false
set_option maxRecDepth 100000
set_option maxHeartbeats 8000000
/-! Own layer, part 15: statements. -/
namespace DL
open PySem PySem.Spec PyProof.Rows L2

/-- a list comprehension -/
def isLC : Expr → Bool
  | .ListComp .. => true
  | .SetComp .. => true
  | .DictComp .. => true
  | _ => false
def isTp : Expr → Bool
  | .Tuple .. => true
  | _ => false
/-- name = [..] on one line, the name a local -/
def swapC (sc : Scope) (x : Str) (p : Pos) : Expr → Bool
  | .ListComp _ _ scope pos => (match sc.names.lookup x with
      | some .local => true
      | _ => false) && (p.line == pos.line) && !(scope.names.any fun y => y.1 == x && (y.2 == .local || y.2 == .cell))
  | _ => false
/-- isinstance(e, C), e the name at slot n; 99: ValueError -/
def isC (T : Tab) (sc : Scope) (n y : Nat) : Expr → Bool
  | .Call (.Name f _) [.Name m _, .Name z _] [] _ => callC sc "isinstance" f && decide (T.N[n]? = some m) && visC sc m && nameC m && (if y = 99 then callC sc "ValueError" z else decide (T.exs.lookup z = some y) && gloC sc z && nameC z)
  | _ => false
def atomC (T : Tab) (sc : Scope) (n : Nat) : Nat × Bool → Expr → Bool
  | (y, true), e => isC T sc n y e
  | (y, false), .UnaryOp .Not e _ => isC T sc n y e
  | _, _ => false
def atomsC (T : Tab) (sc : Scope) (n : Nat) : List (Nat × Bool) → List Expr → Bool
  | [p], [e] => atomC T sc n p e
  | p :: q :: r, e :: es => atomC T sc n p e && atomsC T sc n (q :: r) es
  | _, _ => false
def chkH (T : Tab) (sc : Scope) : Hd → Option Nat → List Stmt → Bool
  | .conj cs, some n, [.Return (some (.BoolOp .And es _)) _] => atomsC T sc n cs es
  | .conj [p], some n, [.Return (some e) _] => atomC T sc n p e
  | .text z cs, some n, [.Return (some (.BinOp (.Constant (.str d) _ _) .Mult (.Call (.Name f _) [.BoolOp .And es _] [] _) _)) _] => decide (z = d) && decide (z.length ≤ 1000) && callC sc "int" f && atomsC T sc n cs es
  | .bl b, _, [.Return (some (.Constant (.bool d) _ _)) _] => decide (b = d)
  | .non, _, [.Return (some (.Constant .none _ _)) _] => true
  | .str b, _, [.Return (some (.Constant (.str d) _ _)) _] => decide (b = d)
  | _, _, _ => false
/-- a name of these is no plain local one -/
def farC (sc : Scope) (es : List Expr) : Bool := es.any fun e => match e with
  | .Name x _ => !decide (sc.names.lookup x = some .local)
  | _ => true
/-- a, b = .., .. as two names on one line, not both written values -/
def parC (x y : Str) (px py : Pos) (pa pb : Expr) : Bool := (py.line == px.line) && !([pa, pb].all (foldedForSure 8)) && !([pa, pb].all (constantsAlone 8)) && !(y == x)
mutual
def chkS (T : Tab) (sc : Scope) : Sm → Stmt → Bool
  | .asg i e, .Assign [.Name x p] pe _ => decide (T.N[i]? = some x) && locC sc x && (if swapC sc x p pe then (match e with
      | .comp c => chkC T sc c pe
      | _ => false) else !isLC pe || !(match sc.names.lookup x with
      | some .local => true
      | _ => false)) && chkE T sc e pe
  | .asgs is e, .Assign [.Tuple es _ _] pe _ => tgC T sc is es && chkE T sc e pe && (!isTp pe || farC sc es)
  | .par i j a b, .Assign [.Tuple [.Name x px, .Name y py] _ _] (.Tuple [pa, pb] _ _) _ => decide (T.N[i]? = some x) && decide (T.N[j]? = some y) && decide (i ≠ j) && decide (sc.names.lookup x = some .local) && decide (sc.names.lookup y = some .local) && chkE T sc a pa && chkE T sc b pb && plainX pa && plainX pb &&
      parC x y px py pa pb
  | .setI a i e, .Assign [.Subscript pa pi _] pe _ => chkE T sc a pa && chkE T sc i pi && chkE T sc e pe && plainX pi
  | .setF a f e, .Assign [.Attribute pa g _] pe _ => decide (f = g) && chkE T sc a pa && chkE T sc e pe
  | .expr e, .Expr pe _ => chkE T sc e pe && !isLC pe
  | .ret e, .Return (some pe) _ => chkE T sc e pe
  | .ret0, .Return none _ => true
  | .bad, _ => true
  | .pass, .Pass _ => true
  | .pass, .Expr (.Constant (.str _) _ _) _ => true
  | .ite c a b, .If pc pa pb _ => chkE T sc c pc && chkSs T sc a pa && chkSs T sc b pb
  | .while c b, .While pc pb [] _ => chkE T sc c pc && chkSs T sc b pb
  | .for tg it b, .For ptg pit pb [] _ => tgtC T sc tg ptg && chkI T sc it ptg pit && plainX pit && chkSs T sc b pb
  | .try1 b c n h, .Try pb [.ExceptHandler (some (.Name x _)) m suite _] [] [] _ => decide (T.exs.lookup x = some c) && gloC sc x && nameC x && chkSs T sc b pb && chkH T sc h n suite && (match n, m with
      | some i, some y => decide (T.N[i]? = some y) && decide (sc.names.lookup y = some .local)
      | none, none => true
      | _, _ => false)
  | .raise c _, .Raise (some (.Call (.Name x _) [.Constant (.str _) _ _] [] _)) none _ => decide (T.exs.lookup x = some c) && gloC sc x && nameC x
  | _, _ => false
def chkSs (T : Tab) (sc : Scope) : Sms → List Stmt → Bool
  | .nil, [] => true
  | .cons s r, p :: ps => chkS T sc s p && chkSs T sc r ps
  | _, _ => false
end

/-- what a def's body stands in -/
structure SOk (X : Cx) (c : LC) (G : Cfg) (T : Tab) (k : Nat) (sc : Scope) (W : WX) : Prop where
  x : XOk X c G T k sc
  tk : Takes X W
  own : PassesOwn (model X.prog X.w) X.A X.env X.xe
  fn : ∀ y, X.fn y = true
  kind : X.env.scope.kind = .function
  own0 : X.stack = X.env :: X.outer ∧ X.env.frame = some X.env.locals
def XWA (L : Lay) (W : WX) (E : Nat → Sto → Prop) (H : Hp) (S : Sto) : Prop := ∀ x S' H' σ, Stp L H S H' S' → E x S' → RS L H' S' → W (.ref (L.ex x)) none σ H'
theorem XWA.step {L : Lay} {W : WX} {E : Nat → Sto → Prop} {H H' : Hp} {S S' : Sto} (h : XWA L W E H S) (st : Stp L H S H' S') : XWA L W E H' S' := fun x S2 H2 σ st2 e r => h x S2 H2 σ (st.trans st2) e r
theorem XWA.at {L : Lay} {W : WX} {E : Nat → Sto → Prop} {H : Hp} {S : Sto} (h : XWA L W E H S) (σ : L2.St) : XW L W E σ H S := fun x S2 H2 st2 e r => h x S2 H2 σ st2 e r
/-- what is wanted behind a statement -/
def NxA (L : Lay) (H : Hp) (S : Sto) (nx : Env → Sto → Prop) (Q : L2.St → Hp → Prop) : Prop := ∀ e' S' σ' H', Stp L H S H' S' → nx e' S' → RE L.K H' e' σ' → RS L H' S' → Q σ' H'
theorem NxA.step {L : Lay} {H H' : Hp} {S S' : Sto} {nx : Env → Sto → Prop} {Q : L2.St → Hp → Prop} (h : NxA L H S nx Q) (st : Stp L H S H' S') : NxA L H' S' nx Q := fun e2 S2 σ2 H2 st2 n re rs => h e2 S2 σ2 H2 (st.trans st2) n re rs
def tS (L : Lay) (W : WX) (E : Nat → Sto → Prop) (f : KV → (Env → Sto → Prop) → Env → Sto → Prop) : TS := fun D σ H => ∃ e S rt nx, RE L.K H e σ ∧ RS L H S ∧ f rt nx e S ∧ NxA L H S nx D.nx ∧ Cont L H S rt D.rt ∧ XWA L W E H S
theorem PS.imp {X : Cx} {st : Stmt} {t t' : TS} (h : PS X st t) (hh : ∀ D σ H, t' D σ H → t D σ H) : PS X st t' := ⟨fun pins s σ H D I q => h.run pins s σ H D I (hh _ _ _ q)⟩
theorem PSs.imp {X : Cx} {st : List Stmt} {t t' : TS} (h : PSs X st t) (hh : ∀ D σ H, t' D σ H → t D σ H) : PSs X st t' := ⟨fun pins s σ H D I q => h.run pins s σ H D I (hh _ _ _ q)⟩

abbrev SndS (x : Sm) : Prop := ∀ (X : Cx) (c : LC) (G : Cfg) (T : Tab) (k : Nat) (sc : Scope) (W : WX) (E : Nat → Sto → Prop) (p : Stmt), SOk X c G T k sc W → chkS T sc x p = true → PS X p (tS (lay X c) W E (fun rt nx e S => wS G E rt x nx e S))
abbrev SndSs (x : Sms) : Prop := ∀ (X : Cx) (c : LC) (G : Cfg) (T : Tab) (k : Nat) (sc : Scope) (W : WX) (E : Nat → Sto → Prop) (p : List Stmt), SOk X c G T k sc W → chkSs T sc x p = true → PSs X p (tS (lay X c) W E (fun rt nx e S => wSs G E rt x nx e S))

theorem sw_plain {pe : Expr} (h : isLC pe = false) (t : Option Expr) (l : Nat) (env : PySem.Env) : swapsWith pe t l env = pure false := by
  cases pe <;> first | rfl | cases h
theorem sw_far {pe t : Expr} (ht : ∀ x p, t ≠ .Name x p) (l : Nat) (env : PySem.Env) : swapsWith pe (some t) l env = pure false := by
  cases t with
  | Name x p => exact absurd rfl (ht _ _)
  | _ => cases pe <;> exact rfl
theorem sw_off {x : Str} {p : Pos} {pe : Expr} (l : Nat) {env : PySem.Env} (h : isLC pe = false ∨ env.scope.names.lookup x ≠ some .local) : swapsWith pe (some (.Name x p)) l env = pure false := by
  rcases h with h | h
  · exact sw_plain h _ _ _
  · have hk : (env.kindOf x == some .local) = false := by
      have : env.kindOf x ≠ some .local := h
      simpa using this
    cases pe <;> first
      | rfl
      | (unfold swapsWith; simp only [hk, Bool.and_false, Bool.false_and] <;> rfl)

/-! ### each -/
section
variable {X : Cx} {c : LC} {W : WX} {E : Nat → Sto → Prop} {G : Cfg} {T : Tab} {k : Nat} {sc : Scope}
theorem tS_in {L : Lay} {W : WX} {E : Nat → Sto → Prop} {f : Env → Sto → KV → Prop} {e : Env} {S : Sto} {Qd : KV} {σ : L2.St} {H : Hp} {Q : VK} (re : RE L.K H e σ) (rs : RS L H S) (h : f e S Qd) (k : Cont L H S Qd Q) (x : XWA L W E H S) : tE L W E f σ H Q :=
  ⟨e, S, Qd, re, rs, h, k, x.at σ⟩
theorem loc_def (O : SOk X c G T k sc W) {x : Str} (h : locC sc x = true) : Loc X.env.scope x := by
  rw [O.x.sc]
  exact loc_of h
theorem s_asg {i : Nat} {e : Ex} : SndS (.asg i e) := by
  intro X c G T k sc W E p O h
  unfold chkS at h; split at h <;> first | contradiction | skip
  rename_i i' e' x px pe pos heq
  cases heq
  simp only [Bool.and_eq_true, decide_eq_true_eq] at h
  obtain ⟨⟨⟨h1, h2⟩, h3⟩, h4⟩ := h
  have hN : X.N.Nodup := by rw [O.x.N]; exact O.x.nm.nd
  have hi : X.N[i]? = some x := by rw [O.x.N]; exact h1
  by_cases sw : swapC sc x px pe = true
  · rw [if_pos sw] at h3
    cases e with
    | comp cm =>
      simp only at h3
      unfold chkC at h3; split at h3 <;> first | contradiction | skip
      rename_i tg own elt it cond pelt ptg pit ifs scope pos2
      simp only [Bool.and_eq_true, List.all_eq_true, decide_eq_true_eq] at h3
      obtain ⟨⟨⟨⟨⟨⟨h1', h2'⟩, h3'⟩, h4'⟩, h5'⟩, h6'⟩, h7'⟩ := h3
      unfold swapC at sw
      simp only [Bool.and_eq_true, Bool.not_eq_true'] at sw
      obtain ⟨⟨sw1, sw2⟩, sw3⟩ := sw
      have hl : X.env.scope.names.lookup x = some .local := by
        rw [O.x.sc]
        split at sw1
        · assumption
        · cases sw1
      refine PS.imp (ps_setLc (wi := tI (lay X c) W E (wI G E it)) (g := gT X.K tg) (tt := tF (lay X c) (wIf G cond)) (te := tE (lay X c) noW noE (wE G noE elt)) (own := own.map fun i => (T.N.getD i "", i)) O.x.calm hN hi hl (sw_true O.kind hl sw2 sw3) ((sndI it) X c G T k sc W E ptg pit O.x O.tk h4') (blkOk_by (own := own.map fun i => (T.N.getD i "", i)) (by rw [O.x.N, O.x.sc]; exact h1'))
        (fun s H C cl fp => g_ok (X := X.blk s H scope (compEnvC scope cl C X.env) fp) (T := T) (sc := scope) hN O.x.N O.x.calm blk_loc h2')
        (fun s H C cl fp => (sndF cond) _ c G T k _ ifs (O.x.blk s H scope C cl fp) no_takes h7') (fun s H C cl fp => (snd elt).1 _ c G T k _ noW noE pelt (O.x.blk s H scope C cl fp) no_takes h6') (fun x => plain_fold h5' X.env x)) fun D σ H hh => ?_
      obtain ⟨e, S, rt, nx, re, rs, hf, hn, hr, xw⟩ := hh
      simp only [wS, wE, wC] at hf
      refine ⟨e, S, _, re, rs, hf, fun xs grd S1 H1 J st q hs1 wv D' nD => ?_, xw.at σ⟩
      rw [own_snd]
      have nD0 : H D' = none := by
        cases e0 : H D' with
        | none => rfl
        | some o => exact absurd nD (st.more D' (by rw [e0]; exact fun z => by cases z))
      refine q_turns (Q := fun x H1 => gName i x σ H1 D.nx) wv nD hs1 (re.mono st.tp) h3' q fun us vs S' H' st' kv rs' hD hr' sD hl' => ?_
      have st2 := st.trans st'
      refine hn (e.set i (some (.ref D'))) (up S' D' (.lst vs)) _ H' ⟨st2.tp, st2.more, fun a ha => ?_, st2.frm⟩ (kv D' sD) ((re.mono st2.tp).set i rfl) (fun a o q => ?_)
      · by_cases z : a = D'
        · subst z
          exact .inr nD0
        · exact st2.dom a (by rw [up_ne z] at ha; exact ha)
      · by_cases z : a = D'
        · subst z
          rw [up_same] at q
          cases q
          exact ⟨us, hD, hr'⟩
        · rw [up_ne z] at q
          exact rs' a o q
    | _ => cases h3
  · rw [if_neg sw] at h3
    have hs : isLC pe = false ∨ X.env.scope.names.lookup x ≠ some .local := by
      rw [O.x.sc]
      rw [Bool.or_eq_true, Bool.not_eq_true', Bool.not_eq_true'] at h3
      rcases h3 with z | z
      · exact .inl z
      · refine .inr fun w => ?_
        rw [w] at z
        cases z
    refine PS.imp (ps_set hN hi (loc_def O h2) ((snd e).1 X c G T k sc W E pe O.x O.tk h4) (sw_off _ hs) (.inl (O.fn x))) fun D σ H hh => ?_
    obtain ⟨e', S, rt, nx, re, rs, hf, hn, hr, xw⟩ := hh
    simp only [wS] at hf
    refine ⟨e', S, _, re, rs, hf, fun v S1 u H1 st q hs1 rv => ?_, xw.at σ⟩
    exact hn _ S1 _ H1 st q ((re.mono st.tp).set i rv) hs1

theorem swapped_far {es : List Expr} {z1 : Nat} {z2 : Pos} {pe : Expr} {env : PySem.Env} (h : farC env.scope es = true) : swappedStores [.Tuple es z1 z2] pe env = pure none := by
  cases pe <;> first | exact rfl | skip
  rename_i vs k2 pt
  have hl : ∀ l : Nat, (es.filterMap fun e => match e with
      | .Name id pos => if (env.kindOf id == some .local && pos.line == l) = true then some id else none
      | _ => none).length < es.length := fun l => by
    rw [List.length_filterMap_lt_length_iff_exists]
    unfold farC at h
    obtain ⟨e, he, q⟩ := List.any_eq_true.mp h
    refine ⟨e, he, ?_⟩
    cases e <;> first | rfl | skip
    rename_i x p
    simp only [Bool.not_eq_true', decide_eq_false_iff_not] at q
    have hk : (env.kindOf x == some .local) = false := by
      have : env.kindOf x ≠ some .local := q
      simpa using this
    simp only [hk, Bool.false_and, Bool.false_eq_true, if_false]
  unfold swappedStores
  have hl2 := hl ((es.head?.map (·.pos.line)).getD 0)
  have e2 : ((es.filterMap fun e => match e with
      | .Name id pos => if (env.kindOf id == some .local && pos.line == (es.head?.map (·.pos.line)).getD 0) = true then some id else none
      | _ => none).length != es.length) = true := by
    simp only [bne_iff_ne, ne_eq]
    omega
  show (if _ then _ else if _ then _ else _) = _
  split
  · rfl
  · split
    · rfl
    · refine if_pos ?_
      rw [Bool.or_eq_true]
      exact .inl e2
theorem s_asgs {is : List Nat} {e : Ex} : SndS (.asgs is e) := by
  intro X c G T k sc W E p O h
  unfold chkS at h; split at h <;> first | contradiction | skip
  rename_i is' e' es z1 z2 pe pos heq
  cases heq
  simp only [Bool.and_eq_true] at h
  obtain ⟨⟨h1, h2⟩, h3⟩ := h
  have hsw : swappedStores [.Tuple es z1 z2] pe X.env = pure none := by
    rw [Bool.or_eq_true, Bool.not_eq_true'] at h3
    rcases h3 with h3 | h3
    · cases pe <;> first | exact rfl | cases h3
    · exact swapped_far (by rw [O.x.sc]; exact h3)
  have hN : X.N.Nodup := by rw [O.x.N]; exact O.x.nm.nd
  have hg := g_ok (X := X) (T := T) (sc := sc) (tg := .many is) (e := .Tuple es z1 z2) hN O.x.N O.x.calm (fun x hx => ⟨loc_def O hx, .inl (O.fn x)⟩) h1
  refine PS.imp (ps_asg ((snd e).1 X c G T k sc W E pe O.x O.tk h2) hg (show swapsWith pe (some (.Tuple es z1 z2)) pos.line X.env = pure false from sw_far (fun x p w => by cases w) _ _) hsw) fun D σ H hh => ?_
  obtain ⟨e', S, rt, nx, re, rs, hf, hn, hr, xw⟩ := hh
  simp only [wS] at hf
  refine ⟨e', S, _, re, rs, hf, fun v S1 u H1 st q hs1 rv => ?_, xw.at σ⟩
  obtain ⟨e2, eb, q⟩ := withO_some q
  exact gT_ok eb rv (re.mono st.tp) fun σ' re' _ => hn e2 S1 σ' H1 st q re' hs1
theorem par_stores {x y : Str} {px py pt : Pos} {pa pb : Expr} {kt k2 : Nat} {pt2 : Pos} {env : PySem.Env} (hk : env.scope.kind = .function) (hx : env.scope.names.lookup x = some .local) (hy : env.scope.names.lookup y = some .local) (h : parC x y px py pa pb = true) (ha : plainX pa = true) (hb : plainX pb = true) :
    swappedStores [.Tuple [.Name x px, .Name y py] kt pt] (.Tuple [pa, pb] k2 pt2) env = pure (some [x, y]) := by
  unfold parC at h
  simp only [Bool.and_eq_true, Bool.not_eq_true'] at h
  obtain ⟨⟨⟨h1, h2⟩, h3⟩, h4⟩ := h
  have kx : env.kindOf x = some .local := hx
  have ky : env.kindOf y = some .local := hy
  have kb : env.blockKind = .function := by unfold Env.blockKind; rw [hk]; rfl
  have h1' : py.line = px.line := by simpa using h1
  have h4n : ¬ y = x := fun z => by rw [z] at h4; simp at h4
  have e1 : (Expr.Name x px).pos = px := rfl
  unfold swappedStores
  simp only [kb, List.length_cons, List.length_nil, bne_self_eq_false, beq_self_eq_true, Bool.true_or, Bool.not_true, Bool.or_self, Bool.false_eq_true, if_false, h2, h3]
  simp [kx, ky, h1', h4n, List.eraseDups_cons, List.filterMap_cons, e1]
  rintro (h | h)
  · clear h3 h2
    cases pa <;> first | (cases ha; done) | (cases h; done)
  · clear h3 h2
    cases pb <;> first | (cases hb; done) | (cases h; done)
theorem s_par {i j : Nat} {a b : Ex} : SndS (.par i j a b) := by
  intro X c G T k sc W E p O h
  unfold chkS at h; split at h <;> first | contradiction | skip
  rename_i i' j' a' b' x px y py z1 z2 pa pb z3 z4 pos heq
  cases heq
  simp only [Bool.and_eq_true, decide_eq_true_eq] at h
  obtain ⟨⟨⟨⟨⟨⟨⟨⟨⟨h1, h2⟩, h3⟩, h4⟩, h5⟩, h6⟩, h7⟩, h8⟩, h9⟩, h10⟩ := h
  have hN : X.N.Nodup := by rw [O.x.N]; exact O.x.nm.nd
  refine PS.imp (ps_par O.x.calm hN (by rw [O.x.N]; exact h1) (by rw [O.x.N]; exact h2) h3 (by rw [O.x.sc]; exact h4) (by rw [O.x.sc]; exact h5) (pa_cons ((snd a).1 X c G T k sc W E pa O.x O.tk h6) (pa_cons ((snd b).1 X c G T k sc W E pb O.x O.tk h7) pa_nil (plain_star h9 [] X.env)) (plain_star h8 [pb] X.env))
    (par_stores O.kind (by rw [O.x.sc]; exact h4) (by rw [O.x.sc]; exact h5) h10 h8 h9)) fun D σ H hh => ?_
  obtain ⟨e', S, rt, nx, re, rs, hf, hn, hr, xw⟩ := hh
  simp only [wS] at hf
  refine ⟨e', S, _, re, rs, hf, fun v S1 u H1 st q hs1 rv => ?_, xw.at σ⟩
  refine ⟨e', S1, _, re.mono st.tp, hs1, q, fun w S2 u2 H2 st2 q2 hs2 rw2 => ?_, (xw.step st).at σ⟩
  exact ⟨u, u2, rfl, hn _ S2 _ H2 (st.trans st2) q2 (((re.mono (st.trans st2).tp).set i (RV.mono st2.tp _ _ rv)).set j rw2) hs2⟩
theorem s_setI {a i e : Ex} : SndS (.setI a i e) := by
  intro X c G T k sc W E p O h
  unfold chkS at h; split at h <;> first | contradiction | skip
  rename_i a' i' e' pa pi z pe pos heq
  cases heq
  simp only [Bool.and_eq_true] at h
  obtain ⟨⟨⟨h1, h2⟩, h3⟩, h4⟩ := h
  have hg : PG X (.Subscript pa pi z) _ := pg_sub ((snd a).1 X c G T k sc W E pa O.x O.tk h1) ((snd i).1 X c G T k sc W E pi O.x O.tk h2) (p_set (c := c) (un120 O.x.room)) (by intro v; cases pi <;> first | exact rfl | cases h4)
  refine PS.imp (ps_asg ((snd e).1 X c G T k sc W E pe O.x O.tk h3) hg (show swapsWith pe (some (.Subscript pa pi z)) pos.line X.env = pure false from sw_far (fun x p w => by cases w) _ _) (by cases pe <;> exact rfl)) fun D σ H hh => ?_
  obtain ⟨e', S, rt, nx, re, rs, hf, hn, hr, xw⟩ := hh
  simp only [wS] at hf
  refine ⟨e', S, _, re, rs, hf, fun v S1 u H1 st q hs1 rv => ?_, xw.at σ⟩
  refine ⟨e', S1, _, re.mono st.tp, hs1, q, fun v2 S2 u2 H2 st2 q2 hs2 rv2 => ?_, (xw.step st).at σ⟩
  refine ⟨e', S2, _, (re.mono st.tp).mono st2.tp, hs2, q2, fun v3 S3 u3 H3 st3 q3 hs3 rv3 => ?_, ((xw.step st).step st2).at σ⟩
  have st13 := (st.trans st2).trans st3
  exact ⟨v2, v3, v, S3, _, RV.mono st3.tp _ _ rv2, rv3, RV.mono (st2.trans st3).tp _ _ rv, hs3, q3, fun S4 H4 st4 q4 hs4 => hn e' S4 σ H4 (st13.trans st4) q4 (re.mono (st13.trans st4).tp) hs4⟩
theorem paired_put {K : PySem.W.Frag} {C : Addr} {H : Hp} {f : Str} {v : Val} {u : V} (na : NoAttr K C f) (r : RV K H v u) : ∀ {fs : List (Str × Val)} {gs : List (Str × V)},
    Paired (fun (p : Str × Val) (q : Str × V) => p.1 = q.1 ∧ NoAttr K C p.1 ∧ RV K H p.2 q.2) fs gs → Paired (fun (p : Str × Val) (q : Str × V) => p.1 = q.1 ∧ NoAttr K C p.1 ∧ RV K H p.2 q.2) (fput f v fs) (putF f u gs) := by
  intro fs gs h
  induction h with
  | nil => exact .cons ⟨rfl, na, r⟩ .nil
  | @cons p q ps qs hq t ih =>
    obtain ⟨p1, p2⟩ := p
    obtain ⟨q1, q2⟩ := q
    obtain ⟨z1, z2, z3⟩ := hq
    have z1' : p1 = q1 := z1
    subst z1'
    unfold fput putF
    by_cases w : p1 = f
    · subst w
      rw [if_pos rfl, if_pos rfl]
      exact .cons ⟨rfl, na, r⟩ t
    · rw [if_neg w, if_neg w]
      exact .cons ⟨rfl, z2, z3⟩ ih
theorem paired_len {A B : Type} {R : A → B → Prop} {xs : List A} {ys : List B} (h : Paired R xs ys) : xs.length = ys.length := by
  induction h with
  | nil => rfl
  | cons _ _ ih => simp [ih]
theorem s_setF {a : Ex} {f : Str} {e : Ex} : SndS (.setF a f e) := by
  intro X c G T k sc W E p O h
  unfold chkS at h; split at h <;> first | contradiction | skip
  rename_i a' f' e' pa g z pe pos heq
  cases heq
  simp only [Bool.and_eq_true, decide_eq_true_eq] at h
  obtain ⟨⟨rfl, h2⟩, h3⟩ := h
  refine PS.imp (ps_fld ((snd a).1 X c G T k sc W E pa O.x O.tk h2) ((snd e).1 X c G T k sc W E pe O.x O.tk h3) (sw_far (fun x p w => by cases w) _ _)) fun D σ H hh => ?_
  obtain ⟨e', S, rt, nx, re, rs, hf, hn, hr, xw⟩ := hh
  simp only [wS] at hf
  refine ⟨e', S, _, re, rs, hf, fun v S1 u H1 st q hs1 rv => ?_, xw.at σ⟩
  refine ⟨e', S1, _, re.mono st.tp, hs1, q, fun v2 S2 u2 H2 st2 q2 hs2 rv2 => ?_, (xw.step st).at σ⟩
  cases v2 with
  | ref p =>
    have eu : u2 = .ref p := rv2
    subst eu
    cases e1 : S2 p with
    | none => simp only [e1] at q2
    | some o =>
      cases o with
      | ins ci fs =>
        simp only [e1] at q2
        obtain ⟨g1, g2, q2⟩ := q2
        obtain ⟨dx, gs, h1, hc, hp⟩ := hs2 p _ e1
        obtain ⟨cl, na⟩ := O.x.nm.fls _ _ g1
        have hl := paired_len hp
        have rv' := RV.mono st2.tp _ _ rv
        refine ⟨p, c.ca ci, dx, gs, rfl, h1, hc, na, by omega, ?_⟩
        have t : Tp X.K H2 (upd H2 p (.ins (c.ca ci) dx (putF f u gs))) := Tp.write h1 (fun _ e => by cases e) (fun _ _ e => by cases e)
        have st3 : Stp (lay X c) H2 S2 (upd H2 p (.ins (c.ca ci) dx (putF f u gs))) (up S2 p (.ins ci (fput f v fs))) := Stp.write h1 (fun _ e => by cases e) (fun _ _ e => by cases e) e1
        have st13 := (st.trans st2).trans st3
        refine hn e' _ σ _ st13 q2 (re.mono st13.tp) (RS.upd hs2 t ⟨dx, _, upd_same, hc, ?_⟩)
        have pp := paired_put (K := X.K) (C := c.ca ci) na rv' hp
        exact Paired.imp pp fun p q ⟨z1, z2, z3⟩ => ⟨z1, z2, RV.mono t _ _ z3⟩
      | lst xs => simp only [e1] at q2
      | dct kvs t => simp only [e1] at q2
  | _ => exact q2.elim
theorem s_expr {e : Ex} : SndS (.expr e) := by
  intro X c G T k sc W E p O h
  unfold chkS at h; split at h <;> first | contradiction | skip
  rename_i e' pe pos heq
  cases heq
  simp only [Bool.and_eq_true, Bool.not_eq_true'] at h
  refine PS.imp (ps_expr ((snd e).1 X c G T k sc W E pe O.x O.tk h.1) (sw_plain h.2 _ _ _)) fun D σ H hh => ?_
  obtain ⟨e', S, rt, nx, re, rs, hf, hn, hr, xw⟩ := hh
  simp only [wS] at hf
  exact ⟨e', S, _, re, rs, hf, fun v S1 u H1 st q hs1 rv => hn e' S1 σ H1 st q (re.mono st.tp) hs1, xw.at σ⟩
theorem s_ret {e : Ex} : SndS (.ret e) := by
  intro X c G T k sc W E p O h
  unfold chkS at h; split at h <;> first | contradiction | skip
  rename_i e' pe pos heq
  cases heq
  refine PS.imp (ps_ret ((snd e).1 X c G T k sc W E pe O.x O.tk h)) fun D σ H hh => ?_
  obtain ⟨e', S, rt, nx, re, rs, hf, hn, hr, xw⟩ := hh
  simp only [wS] at hf
  exact ⟨e', S, _, re, rs, hf, hr, xw.at σ⟩
theorem s_ret0 : SndS .ret0 := by
  intro X c G T k sc W E p O h
  unfold chkS at h; split at h <;> first | contradiction | skip
  refine PS.imp ps_retN fun D σ H hh => ?_
  obtain ⟨e', S, rt, nx, re, rs, hf, hn, hr, xw⟩ := hh
  simp only [wS] at hf
  exact hr.here (v := .non) hf rs rfl
theorem s_pass : SndS .pass := by
  intro X c G T k sc W E p O h
  unfold chkS at h; split at h <;> first | contradiction | skip
  all_goals
    refine PS.imp (by first | exact ps_pass | exact ps_doc) fun D σ H hh => ?_
    obtain ⟨e', S, rt, nx, re, rs, hf, hn, hr, xw⟩ := hh
    simp only [wS] at hf
    exact hn e' S σ H .refl hf re rs
theorem s_ite {e : Ex} {a b : Sms} (ha : SndSs a) (hb : SndSs b) : SndS (.ite e a b) := by
  intro X c G T k sc W E p O h
  unfold chkS at h; split at h <;> first | contradiction | skip
  rename_i e' a' b' pc pa pb pos heq
  cases heq
  simp only [Bool.and_eq_true] at h
  refine PS.imp (ps_if ((snd e).2.1 X c G T k sc W E pc O.x O.tk h.1.1) (ha X c G T k sc W E pa O h.1.2) (hb X c G T k sc W E pb O h.2)) fun D σ H hh => ?_
  obtain ⟨e', S, rt, nx, re, rs, hf, hn, hr, xw⟩ := hh
  simp only [wS] at hf
  refine ⟨e', S, _, re, rs, hf, fun v S1 u H1 st q hs1 rv => ?_, xw.at σ⟩
  obtain ⟨d, rfl, q1, q2⟩ := withB_some q
  cases rv
  refine ⟨d, rfl, ?_⟩
  cases d with
  | true => exact iteT ⟨e', S1, rt, nx, re.mono st.tp, hs1, q1 rfl, hn.step st, hr.step st, xw.step st⟩
  | false => exact iteF ⟨e', S1, rt, nx, re.mono st.tp, hs1, q2 rfl, hn.step st, hr.step st, xw.step st⟩
theorem s_while {e : Ex} {b : Sms} (hb : SndSs b) : SndS (.while e b) := by
  intro X c G T k sc W E p O h
  unfold chkS at h; split at h <;> first | contradiction | skip
  rename_i e' b' pc pb pos heq
  cases heq
  simp only [Bool.and_eq_true] at h
  refine PS.imp (ps_while O.own ((snd e).2.1 X c G T k sc W E pc O.x O.tk h.1) (hb X c G T k sc W E pb O h.2)) fun D σ H hh => ?_
  obtain ⟨e', S, rt, nx, re, rs, hf, hn, hr, xw⟩ := hh
  simp only [wS] at hf
  obtain ⟨V, ⟨m0, v0⟩, turn⟩ := hf
  refine ⟨fun m σ' H' => ∃ e' S', Stp (lay X c) H S H' S' ∧ RE X.K H' e' σ' ∧ RS (lay X c) H' S' ∧ V m e' S', ⟨m0, e', S, .refl, re, rs, v0⟩, ?_⟩
  rintro m σ1 H1 ⟨e1, S1, st, re1, rs1, v1⟩
  refine ⟨e1, S1, _, re1, rs1, turn m e1 S1 v1, fun v S2 u H2 st2 q rs2 rv => ?_, (xw.step st).at σ1⟩
  obtain ⟨d, rfl, q1, q2⟩ := withB_some q
  cases rv
  refine ⟨d, rfl, ?_⟩
  have st12 := st.trans st2
  cases d with
  | true =>
    refine iteT ⟨fun σ' H' => ∃ m', m' < m ∧ ∃ e' S', Stp (lay X c) H S H' S' ∧ RE X.K H' e' σ' ∧ RS (lay X c) H' S' ∧ V m' e' S', fun σ' H' z => z, ?_⟩
    refine ⟨e1, S2, rt, _, re1.mono st2.tp, rs2, q1 rfl, fun e3 S3 σ3 H3 st3 q3 re3 rs3 => ?_, hr.step st12, xw.step st12⟩
    obtain ⟨m', hm, v3⟩ := q3
    exact ⟨m', hm, e3, S3, st12.trans st3, re3, rs3, v3⟩
  | false => exact iteF (hn.step st12 e1 S2 σ1 H2 .refl (q2 rfl) (re1.mono st2.tp) rs2)
theorem s_for {tg : Tg} {it : Itr} {b : Sms} (hb : SndSs b) : SndS (.for tg it b) := by
  intro X c G T k sc W E p O h
  unfold chkS at h; split at h <;> first | contradiction | skip
  rename_i tg' it' b' ptg pit pb pos heq
  cases heq
  simp only [Bool.and_eq_true] at h
  obtain ⟨⟨⟨h1, h2⟩, h3⟩, h4⟩ := h
  have hN : X.N.Nodup := by rw [O.x.N]; exact O.x.nm.nd
  have hg := g_ok (X := X) (T := T) (sc := sc) hN O.x.N O.x.calm (fun x hx => ⟨loc_def O hx, .inl (O.fn x)⟩) h1
  refine PS.imp (ps_for O.own O.x.calm ((sndI it) X c G T k sc W E ptg pit O.x O.tk h2) hg (hb X c G T k sc W E pb O h4) (fun x => plain_fold h3 X.env x)) fun D σ H hh => ?_
  obtain ⟨e', S, rt, nx, re, rs, hf, hn, hr, xw⟩ := hh
  simp only [wS] at hf
  refine ⟨e', S, _, re, rs, hf, fun xs grd S1 H1 J st q rs1 wv => ?_, xw.at σ⟩
  refine ⟨fun i m σ' H' => ∃ e' S', m = xs.length - i ∧ i ≤ xs.length ∧ Stp (lay X c) H1 S1 H' S' ∧ RE X.K H' e' σ' ∧ RS (lay X c) H' S' ∧ wFor tg (fun k e' S' => wSs G E rt b k e' S') grd nx (xs.drop i) e' S', ⟨xs.length, e', S1, by simp, Nat.zero_le _, .refl, re.mono st.tp, rs1, by simpa using q⟩, ?_⟩
  rintro i m σ2 H2 ⟨e2, S2, rfl, hi, st2, re2, rs2, hw⟩
  by_cases hlt : i < xs.length
  · have ed : xs.drop i = xs[i] :: xs.drop (i + 1) := List.drop_eq_getElem_cons hlt
    rw [ed] at hw
    obtain ⟨g, hw⟩ := hw
    obtain ⟨e3, eb, hw⟩ := withO_some hw
    refine .inr ⟨wv.go i H2 S2 hlt st2.tp rs2 g, fun σ' H' => ∃ e' S', Stp (lay X c) H1 S1 H' S' ∧ RE X.K H' e' σ' ∧ RS (lay X c) H' S' ∧ wFor tg (fun k e' S' => wSs G E rt b k e' S') grd nx (xs.drop (i + 1)) e' S', ?_, fun x H3 y => ?_⟩
    · rintro σ' H' ⟨e4, S4, a1, a2, a3, a4⟩
      exact ⟨xs.length - (i + 1), by omega, e4, S4, rfl, hlt, a1, a2, a3, a4⟩
    · obtain ⟨v, e1, rv, st', rs', kp⟩ := wv.yld i H2 S2 x H3 hlt st2.tp rs2 g y
      have ev : v = xs[i] := by
        rw [List.getElem?_eq_getElem hlt] at e1
        exact (Option.some.inj e1).symm
      subst ev
      have st3 := st2.trans st'
      refine gT_ok eb rv (re2.mono st'.tp) fun σ3 re3 _ => ?_
      have st03 := st.trans st3
      exact ⟨e3, S2, rt, _, re3, rs', hw, fun e4 S4 σ4 H4 st4 q4 re4 rs4 => ⟨e4, S4, st3.trans st4, re4, rs4, q4⟩, hr.step st03, xw.step st03⟩
  · have e : i = xs.length := by omega
    subst e
    rw [List.drop_length] at hw
    exact .inl ⟨wv.stop H2 S2 st2.tp rs2 hw.1, hn e2 S2 σ2 H2 (st.trans st2) hw.2 re2 rs2⟩
theorem s_raise {ci : Nat} {x : Str} : SndS (.raise ci x) := by
  intro X c G T k sc W E p O h
  unfold chkS at h; split at h <;> first | contradiction | skip
  rename_i heq
  cases heq
  simp only [Bool.and_eq_true, decide_eq_true_eq] at h
  obtain ⟨⟨h1, h2⟩, h3⟩ := h
  obtain ⟨bmB, B, newId, initId, F, q, gC, kC, bF, tF⟩ := (O.x.nm.exs _ _ h1).ex
  refine PS.imp (ps_raise O.x.calm O.tk (pmk_own F q gC kC (raises_own bF tF) (gl_of O.x (glo_of h2)) (name_of h3).1)) fun D σ H hh => ?_
  obtain ⟨e', S, rt, nx, re, rs, hf, hn, hr, xw⟩ := hh
  simp only [wS] at hf
  exact xw ci S H σ .refl hf rs
theorem s_nil : SndSs .nil := by
  intro X c G T k sc W E p O h
  cases p with
  | nil =>
    refine PSs.imp pss_nil fun D σ H hh => ?_
    obtain ⟨e', S, rt, nx, re, rs, hf, hn, hr, xw⟩ := hh
    simp only [wSs] at hf
    exact hn e' S σ H .refl hf re rs
  | cons _ _ => simp [chkSs] at h
theorem s_cons {s : Sm} {r : Sms} (hs : SndS s) (hr' : SndSs r) : SndSs (.cons s r) := by
  intro X c G T k sc W E p O h
  cases p with
  | nil => simp [chkSs] at h
  | cons p ps =>
    simp only [chkSs, Bool.and_eq_true] at h
    refine PSs.imp (pss_cons (hs X c G T k sc W E p O h.1) (hr' X c G T k sc W E ps O h.2)) fun D σ H hh => ?_
    obtain ⟨e', S, rt, nx, re, rs, hf, hn, hr, xw⟩ := hh
    simp only [wSs] at hf
    exact ⟨e', S, rt, _, re, rs, hf, fun e2 S2 σ2 H2 st q re2 rs2 => ⟨e2, S2, rt, nx, re2, rs2, q, hn.step st, hr.step st, xw.step st⟩, hr, xw⟩
/-! ### try -/
section
variable {X : Cx} {c : LC} {G : Cfg} {T : Tab} {k : Nat} {sc : Scope} {a : Addr} {oe : Obj} {pn : List (Addr × Obj)} {x : Nat}
def tHd (n : Nat) (a : Addr) (b : Bool) : TE := fun σ H Q => σ[n]? = some (some (V.ref a)) ∧ Q (.bl b) H
theorem p_is (O : XOk X c G T k sc) (hx : G.ek x = true) (hz : Zc (.ref (c.ex x)) none oe) (hf : ∃ vs, oe.data = .fields vs) {n y : Nat} {e : Expr} (h : isC T sc n y e = true) : PE (X.suite a ((a, oe) :: pn)) e (tHd n a (G.sub x y)) := by
  unfold isC at h
  split at h <;> first | contradiction | skip
  rename_i f pf m pm z pz pos
  simp only [Bool.and_eq_true, decide_eq_true_eq] at h
  obtain ⟨⟨⟨⟨h1, h2⟩, h3⟩, h4⟩, h5⟩ := h
  obtain ⟨rfl, g1, _⟩ := call_of h1
  obtain ⟨n1, n2, n3⟩ := name_of h4
  have hv : PE (X.suite a ((a, oe) :: pn)) (.Name m pm) (tVar n) := pe_var (by show X.N[n]? = _; rw [O.N]; exact h2) (by show Vis X.env.scope m; rw [O.sc]; exact vis_of h3) n1 n2
  have key : ∀ {v : V} {cv : Value}, PE (X.suite a ((a, oe) :: pn)) (.Name z pz) (L2.tC v) → (∀ u, RelV v u → u = cv) → PySem.W.kitOne X.K (.ref (c.ex x)) cv = some (G.sub x y) →
      PE (X.suite a ((a, oe) :: pn)) (.Call (.Name "isinstance" pf) [.Name m pm, .Name z pz] [] pos) (tHd n a (G.sub x y)) := by
    intro v cv hz2 hr hk
    refine PE.imp (pe_callB (call_isE (O.nm.exc x hx) hz hf) (gl_of O g1) (O.nm.blt _ (by simp)) (by decide +kernel) (pa_cons hv (pa_cons hz2 pa_nil rfl) rfl) (by decide) (by decide) rfl rfl) fun σ H Q hh => ?_
    obtain ⟨h6, h7⟩ := hh
    exact ⟨_, h6, v, cv, _, rfl, hr, hk, h7⟩
  by_cases hy : y = 99
  · rw [if_pos hy] at h5
    subst hy
    obtain ⟨rfl, g2, d2, d3⟩ := call_of h5
    exact key (v := .ty "ValueError") (cv := .type "ValueError") (pe_bltn (v := .ty "ValueError") (u := .type "ValueError") (gl_of O g2) O.nm.vale (by decide +kernel) rfl d3 d2) (fun u r => r) (O.nm.kitV x hx)
  · rw [if_neg hy] at h5
    simp only [Bool.and_eq_true, decide_eq_true_eq] at h5
    obtain ⟨⟨l, g2⟩, d2⟩ := h5
    obtain ⟨bmB, B, newId, initId, F, q, gC, kC, bF, tF⟩ := (O.nm.exs _ _ l).ex
    exact key (v := .ref (c.ex y)) (cv := .ref (c.ex y)) (pe_glob (v := .ref (c.ex y)) (gl_of O (glo_of g2)) gC rfl (name_of d2).1) (fun u r => r) (O.nm.kit x y hx (O.nm.exk _ _ l))
theorem p_atom (O : XOk X c G T k sc) (hx : G.ek x = true) (hz : Zc (.ref (c.ex x)) none oe) (hf : ∃ vs, oe.data = .fields vs) {n : Nat} {p : Nat × Bool} {e : Expr} (h : atomC T sc n p e = true) : PE (X.suite a ((a, oe) :: pn)) e (tHd n a (G.sub x p.1 == p.2)) := by
  unfold atomC at h
  split at h <;> first | contradiction | skip
  · refine PE.imp (p_is O hx hz hf h) fun σ H Q hh => ?_
    obtain ⟨h1, h2⟩ := hh
    exact ⟨h1, by simpa using h2⟩
  · refine PE.imp (pe_not (p_is O hx hz hf h)) fun σ H Q hh => ?_
    obtain ⟨h1, h2⟩ := hh
    exact ⟨h1, _, rfl, by simpa using h2⟩
theorem p_atoms (O : XOk X c G T k sc) (hx : G.ek x = true) (hz : Zc (.ref (c.ex x)) none oe) (hf : ∃ vs, oe.data = .fields vs) {n : Nat} {pos : Pos} : ∀ {cs : List (Nat × Bool)} {es : List Expr}, atomsC T sc n cs es = true →
    PE (X.suite a ((a, oe) :: pn)) (.BoolOp .And es pos) (tHd n a (cs.all fun p => G.sub x p.1 == p.2))
  | [], _, h => by simp [atomsC] at h
  | [p], [], h => by simp [atomsC] at h
  | [p], [e], h => by
    simp only [atomsC] at h
    simp only [List.all_cons, List.all_nil, Bool.and_true]
    exact pe_one (p_atom O hx hz hf h)
  | [p], _ :: _ :: _, h => by simp [atomsC] at h
  | p :: q :: r, [], h => by simp [atomsC] at h
  | p :: q :: r, [e], h => by
    simp only [atomsC, Bool.and_eq_true] at h
    cases r <;> simp [atomsC] at h
  | p :: q :: r, e :: e2 :: es, h => by
    simp only [atomsC, Bool.and_eq_true] at h
    refine PE.imp (pe_and (p_atom O hx hz hf h.1) (p_atoms (cs := q :: r) (es := e2 :: es) O hx hz hf h.2)) fun σ H Q hh => ?_
    obtain ⟨h1, h2⟩ := hh
    refine ⟨h1, _, rfl, ?_⟩
    rw [List.all_cons] at h2
    cases w : (G.sub x p.1 == p.2) with
    | true =>
      rw [w, Bool.true_and] at h2
      exact iteT ⟨h1, h2⟩
    | false =>
      rw [w, Bool.false_and] at h2
      exact iteF h2
/-- a clause's suite, as a reading -/
def tSu (c : LC) (G : Cfg) (h : Hd) (i : Option Nat) (a : Addr) (cls : Value) (d : Option Addr) : TS := fun D σ H => ∃ (x : Nat) (v : V), G.ek x = true ∧ cls = .ref (c.ex x) ∧ d = none ∧ (∀ n, i = some n → ∃ σ0 : L2.St, σ = σ0.set n (some (.ref a))) ∧
  (match h with
    | .conj cs => v = .bl (cs.all fun p => G.sub x p.1 == p.2)
    | .bl b => v = .bl b
    | .non => v = .non
    | .str z => v = .str z
    | .text z cs => v = .str (if (cs.all fun p => G.sub x p.1 == p.2) = true then z else "")
    | _ => False) ∧ D.rt v H
theorem p_suite (O : XOk X c G T k sc) {cls : Value} {d : Option Addr} (hz : Zc cls d oe) (hf : ∃ vs, oe.data = .fields vs) {h : Hd} {i : Option Nat} {su : List Stmt} (hi : ∀ n, i = some n → n < X.N.length) (hc : chkH T sc h i su = true) : PSs (X.suite a ((a, oe) :: pn)) su (tSu c G h i a cls d) := by
  refine ⟨fun pins s σ H D I hh => ?_⟩
  obtain ⟨x, v, hx, rfl, rfl, hs, hv, q⟩ := hh
  have slot : ∀ n, i = some n → σ[n]? = some (some (V.ref a)) := fun n e => by
    obtain ⟨σ0, rfl⟩ := hs n e
    have := I.len
    rw [List.length_set] at this
    rw [List.getElem?_set_self (by rw [this]; exact hi n e)]
  unfold chkH at hc
  split at hc <;> first | contradiction | skip
  · subst hv
    exact (pss_one (ps_ret (p_atoms O hx hz hf hc))).run pins s σ H D I ⟨slot _ rfl, q⟩
  · subst hv
    refine (pss_one (ps_ret (p_atom O hx hz hf hc))).run pins s σ H D I ⟨slot _ rfl, ?_⟩
    simpa using q
  · subst hv
    simp only [Bool.and_eq_true, decide_eq_true_eq] at hc
    obtain ⟨⟨⟨rfl, hzl⟩, h3⟩, h4⟩ := hc
    obtain ⟨rfl, g1, d1, d2⟩ := call_of h3
    refine (pss_one (ps_ret (pe_op op_mulS pe_str (pe_callTy (X := X.suite a ((a, oe) :: pn)) call_int1 (gl_of O g1) (O.nm.blt _ (by simp)) (by decide +kernel) (pa_cons (p_atoms O hx hz hf h4) pa_nil rfl) (by decide) (by decide) rfl rfl)))).run pins s σ H D I ?_
    have fin : ∀ (z : Str) (b : Bool), D.rt (V.str (if b = true then z else "")) H → D.rt (V.str (srep z (if b = true then 1 else 0))) H := by
      intro z b q
      cases b with
      | false => exact q
      | true =>
        have e : srep z 1 = z := by
          obtain ⟨cp⟩ := z
          simp [srep]
        rw [if_pos rfl, e]
        exact q
    have one : ∀ b : Bool, (0 : Int) ≤ (if b = true then 1 else 0) ∧ (if b = true then (1 : Int) else 0) ≤ 1000 := fun b => by cases b <;> decide
    exact ⟨slot _ rfl, .inr ⟨_, rfl, _, _, rfl, rfl, (one _).1, (one _).2, hzl, fin _ _ q⟩⟩
  · subst hv
    cases of_decide_eq_true hc
    exact (pss_one (ps_ret pe_bl)).run pins s σ H D I q
  · subst hv
    exact (pss_one (ps_ret pe_non)).run pins s σ H D I q
  · subst hv
    cases of_decide_eq_true hc
    exact (pss_one (ps_ret pe_str)).run pins s σ H D I q
theorem su_in {L : Lay} {c : LC} {G : Cfg} {h : Hd} {rt : KV} {E : Nat → Sto → Prop} {x : Nat} {i : Option Nat} {a : Addr} {H : Hp} {S : Sto} {D : Ends} {σ : L2.St} {su : List Stmt} {T : Tab} {sc : Scope} (hc : chkH T sc h i su = true) (hk : G.ek x = true) (hw : wH G E rt h x S) (rs : RS L H S) (hr : Cont L H S rt D.rt)
    (hs : ∀ n, i = some n → ∃ σ0 : L2.St, σ = σ0.set n (some (.ref a))) : tSu c G h i a (.ref (c.ex x)) none D σ H := by
  cases h with
  | conj cs => exact ⟨x, _, hk, rfl, rfl, hs, rfl, hr.here (v := .bl _) hw rs rfl⟩
  | bl b => exact ⟨x, _, hk, rfl, rfl, hs, rfl, hr.here (v := .bl _) hw rs rfl⟩
  | non => exact ⟨x, _, hk, rfl, rfl, hs, rfl, hr.here (v := .non) hw rs rfl⟩
  | str z => exact ⟨x, _, hk, rfl, rfl, hs, rfl, hr.here (v := .str _) hw rs rfl⟩
  | text z cs => exact ⟨x, _, hk, rfl, rfl, hs, rfl, hr.here (v := .str _) hw rs rfl⟩
  | raise y => simp [chkH] at hc
end
theorem s_try {b : Sms} {ci : Nat} {n : Option Nat} {h : Hd} (hb : SndSs b) : SndS (.try1 b ci n h) := by
  intro X c G T k sc W E p O hc
  unfold chkS at hc; split at hc <;> first | contradiction | skip
  rename_i b' c' n' h' pb x np m su pos' pos heq
  cases heq
  simp only [Bool.and_eq_true, decide_eq_true_eq] at hc
  obtain ⟨⟨⟨⟨⟨h1, h2⟩, h3⟩, h4⟩, h5⟩, h6⟩ := hc
  obtain ⟨bmB, B, newId, initId, F, q, gC, kC, bF, tF⟩ := (O.x.nm.exs _ _ h1).ex
  have hck := O.x.nm.exk _ _ h1
  have hN : X.N.Nodup := by rw [O.x.N]; exact O.x.nm.nd
  have hnm : Names X x (.ref (c.ex ci)) := ⟨gl_of O.x (glo_of h2), (name_of h3).1, .inl gC⟩
  have hbody : ∀ (W' : WX) (pn : List (Addr × Obj)) (xe : Value → Shared → Prop) (E' : Nat → Sto → Prop), Takes (X.tr pn xe) W' → PassesOwn (model X.prog X.w) X.A X.env xe → PSs (X.tr pn xe) pb (tS (lay X c) W' E' (fun rt nx e S => wSs G E' rt b nx e S)) :=
    fun W' pn xe E' tk own => hb (X.tr pn xe) c G T k sc W' E' pb ⟨⟨O.x.nm, O.x.room, O.x.calm, O.x.N, O.x.sc⟩, tk, own, O.fn, O.kind, O.own0⟩ h4
  have hsne : ∃ b0 sr, su = b0 :: sr := by
    cases su with
    | nil => unfold chkH at h5; split at h5 <;> first | contradiction | skip
    | cons b0 sr => exact ⟨b0, sr, rfl⟩
  obtain ⟨b0, sr, rfl⟩ := hsne
  have tbody : ∀ (W' : WX) (pn : List (Addr × Obj)) (xe : Value → Shared → Prop), Takes (X.tr pn xe) W' → PassesOwn (model X.prog X.w) X.A X.env xe → PSs (X.tr pn xe) pb (fun D σ H => ∃ E', tS (lay X c) W' E' (fun rt nx e S => wSs G E' rt b nx e S) D σ H) :=
    fun W' pn xe tk own => ⟨fun pins s σ H D I ⟨E', hh⟩ => (hbody W' pn xe E' tk own).run pins s σ H D I hh⟩
  cases n with
  | some i =>
    cases m with
    | none => cases h6
    | some y =>
      simp only [Bool.and_eq_true, decide_eq_true_eq] at h6
      have hi : X.N[i]? = some y := by rw [O.x.N]; exact h6.1
      have hlt : i < X.N.length := by
        obtain ⟨w, _⟩ := List.getElem?_eq_some_iff.mp hi
        exact w
      refine PS.imp (ps_try_as (ts := fun a cls d => tSu c G h (some i) a cls d) O.own0.1 O.own0.2 hN hi (by show X.env.scope.names.lookup y = _; rw [O.x.sc]; exact h6.2) hnm O.tk tbody
        (fun a oe cls d pn hz hf => p_suite O.x hz hf (fun n e => by cases e; exact hlt) h5)) fun D σ H hh => ?_
      obtain ⟨e', S, rt, nx, re, rs, hf, hn, hr, xw⟩ := hh
      simp only [wS] at hf
      refine ⟨_, e', S, rt, nx, re, rs, hf, hn, hr, fun x S' H' σ' st q rs' => ?_⟩
      obtain ⟨hk, q1, q2⟩ := q
      refine ⟨G.sub x ci, O.x.nm.exm _ _ hk hck, fun w a na => ?_, fun w => xw x S' H' σ' st (q2 w) rs'⟩
      exact su_in (L := lay X c) h5 hk (q1 w) rs' (hr.step st) fun n e => by cases e; exact ⟨_, rfl⟩
  | none =>
    cases m with
    | some y => cases h6
    | none =>
      refine PS.imp (ps_try_only (ts := fun a cls d => tSu c G h none a cls d) O.own0.1 O.own0.2 hnm O.tk tbody
        (fun a oe cls d pn hz hf => p_suite O.x hz hf (fun n e => by cases e) h5)) fun D σ H hh => ?_
      obtain ⟨e', S, rt, nx, re, rs, hf, hn, hr, xw⟩ := hh
      simp only [wS] at hf
      refine ⟨_, e', S, rt, nx, re, rs, hf, hn, hr, fun x S' H' σ' st q rs' => ?_⟩
      obtain ⟨hk, q1, q2⟩ := q
      refine ⟨G.sub x ci, O.x.nm.exm _ _ hk hck, fun w a na => ?_, fun w => xw x S' H' σ' st (q2 w) rs'⟩
      exact su_in (L := lay X c) h5 hk (q1 w) rs' (hr.step st) fun n e => by cases e
mutual
theorem sndS : (x : Sm) → SndS x
  | .asg i e => s_asg
  | .asgs is e => s_asgs
  | .par i j a b => s_par
  | .setI a i e => s_setI
  | .setF a f e => s_setF
  | .expr e => s_expr
  | .ret e => s_ret
  | .ret0 => s_ret0
  | .pass => s_pass
  | .ite e a b => s_ite (sndSs a) (sndSs b)
  | .while e b => s_while (sndSs b)
  | .for tg it b => s_for (sndSs b)
  | .raise c x => s_raise
  | .bad => fun X c G T k sc W E p O h => ⟨fun pins s σ H D I hh => by
    obtain ⟨e', S, rt, nx, re, rs, hf, hn, hr, xw⟩ := hh
    simp only [wS] at hf⟩
  | .try1 b c n h => s_try (sndSs b)
theorem sndSs : (x : Sms) → SndSs x
  | .nil => s_nil
  | .cons s r => s_cons (sndS s) (sndSs r)
end
end
end DL

set_option autoImplicit true
set_option Elab.async false
set_option linter.all false
set_option maxRecDepth 100000
set_option maxHeartbeats 8000000
/-! Own layer, part 16: a def. -/
namespace DL
open PySem PySem.Spec PyProof.Rows L2

/-- a part of a store -/
def Sto.le (S S' : Sto) : Prop := ∀ a o, S a = some o → S' a = some o
theorem Sto.le.refl (S : Sto) : Sto.le S S := fun _ _ h => h
/-- at the entry -/
def startE (n : Nat) (vs : List Val) : Env := vs.map some ++ List.replicate (n - vs.length) none
/-- what stands behind a return: less is told than is there -/
def rtOf (Q : KV) : KV := fun v S' => ∃ S'', Sto.le S'' S' ∧ Q v S''
def exOf (E : Nat → Sto → Prop) : Nat → Sto → Prop := fun x S' => ∃ S'', Sto.le S'' S' ∧ E x S''
theorem re_start {K : PySem.W.Frag} {H : Hp} {n : Nat} : ∀ {args : List Val} {vs : List V}, RVs K H args vs → RE K H (args.map some ++ List.replicate n none) (vs.map some ++ List.replicate n none)
  | [], vs, r => by
    cases r
    refine ⟨by simp, fun i v q => ?_⟩
    simp only [List.map_nil, List.nil_append] at q
    rw [List.getElem?_replicate] at q
    split at q <;> simp at q
  | a :: as, vs, r => by
    obtain ⟨u, us, rfl, r1, r2⟩ := r
    obtain ⟨h1, h2⟩ := re_start (n := n) r2
    refine ⟨by simpa using h1, fun i v q => ?_⟩
    cases i with
    | zero =>
      simp at q
      subst q
      exact ⟨u, by simp, r1⟩
    | succ i => exact h2 i v (by simpa using q)
theorem def_ok {P : Program} {w : World} {K : PySem.W.Frag} {mg : Str → Option Value} {base : Heap} {x qual : Str} {st : Stmt} {f : Addr} {fd : FuncData} {N ps : List Str} {k : Nat} {c : LC} {G : Cfg} {T : Tab} {sp : DL.Spec} {body : Sms}
    (F : Fun K x qual st f fd) (S : FnScope N ps (defScope st)) (nm : Nm P w K mg base c G T k) (hT : T.N = N) (chk : chkSs T (defScope st) body (defBody st) = true) (ar : Arity ps.length sp)
    (h : ∀ args S Q E, sp args S Q E → wSs G (exOf E) (rtOf Q) body (fun _ S' => rtOf Q .non S') (startE N.length args) S) : FnOk P w K mg base (L2.CX P w) (k + 1) f fd ps (lift ⟨P, w, K, c.ca, c.ex⟩ sp) := by
  refine F.okX S (fun vs H Q E hh => lift_len ar vs H Q E hh) (fun cdv A outer s H vs Q E hr hh => ?_)
  have tk : Takes (cxOf (L2.CX P w) P w K mg base N qual (defScope st) f cdv A outer s H E) (fun cls d _ H => E cls d H) := takes_of rfl rfl rfl rfl
  have own : PassesOwn (model P w) (cxOf (L2.CX P w) P w K mg base N qual (defScope st) f cdv A outer s H E).A (cxOf (L2.CX P w) P w K mg base N qual (defScope st) f cdv A outer s H E).env (cxOf (L2.CX P w) P w K mg base N qual (defScope st) f cdv A outer s H E).xe :=
    passes_of (X := cxOf (L2.CX P w) P w K mg base N qual (defScope st) f cdv A outer s H E) (K := fun e s'' => L2.CX P w outer H s E e s'') (E₁ := fun e s'' => L2.CX P w outer H s E e s'') rfl
  have O : SOk (cxOf (L2.CX P w) P w K mg base N qual (defScope st) f cdv A outer s H E) c G T k (defScope st) (fun cls d _ H => E cls d H) := ⟨⟨nm, hr, rfl, hT.symm, rfl⟩, tk, own, fun _ => rfl, S.kind, rfl, rfl⟩
  obtain ⟨args, S0, Qd, Ed, r, rs, hsp, kk, xx⟩ := hh
  refine ⟨_, (sndSs body) _ c G T k (defScope st) _ (exOf Ed) (defBody st) O chk, ?_⟩
  have hl : args.length = vs.length := r.length
  refine ⟨startE N.length args, S0, rtOf Qd, _, ?_, rs, h args S0 Qd Ed hsp, fun e' S' σ' H' st' q re' rs' => ?_, fun v S' u H' st' q rs' rv => ?_, fun y S' H' σ' st' q rs' => ?_⟩
  · unfold startE L2.start
    rw [hl]
    exact re_start r
  · obtain ⟨S'', le, q⟩ := q
    exact kk .non S'' .non H' ⟨st'.tp, st'.more, fun a ha => st'.dom a fun z => ha (by
      cases e0 : S'' a with
      | none => rfl
      | some o => rw [le a o e0] at z; cases z), st'.frm⟩ q (rs'.sub le) rfl
  · obtain ⟨S'', le, q⟩ := q
    exact kk v S'' u H' ⟨st'.tp, st'.more, fun a ha => st'.dom a fun z => ha (by
      cases e0 : S'' a with
      | none => rfl
      | some o => rw [le a o e0] at z; cases z), st'.frm⟩ q (rs'.sub le) rv
  · obtain ⟨S'', le, q⟩ := q
    exact xx y S'' H' ⟨st'.tp, st'.more, fun a ha => st'.dom a fun z => ha (by
      cases e0 : S'' a with
      | none => rfl
      | some o => rw [le a o e0] at z; cases z), st'.frm⟩ q (rs'.sub le)
end DL

set_option autoImplicit true
set_option Elab.async false
set_option linter.all false
set_option maxRecDepth 100000
set_option maxHeartbeats 4000000
/-! Own layer, plain part 1: stores, turns. -/
namespace DL
open PySem

theorem getV_0 (v : Option Val) (e : Env) : getV (v :: e) 0 = v := rfl
theorem getV_s (v : Option Val) (e : Env) (n : Nat) : getV (v :: e) (n + 1) = getV e n := by
  simp [getV]
theorem startE_nil (n : Nat) : startE n [] = List.replicate n none := by simp [startE]
theorem startE_cons (n : Nat) (v : Val) (vs : List Val) : startE (n + 1) (v :: vs) = some v :: startE n vs := by simp [startE]
theorem withO_s {α : Type} (a : α) (k : α → Prop) : withO (some a) k = k a := rfl
theorem withB_b (b : Bool) (k : Bool → Prop) : withB (.bl b) k = k b := rfl
theorem bind_one (i : Nat) (e : Env) (v : Val) : bindT (.one i) e v = some (e.set i (some v)) := by cases v <;> rfl
theorem bind_two (i j : Nat) (e : Env) (v w : Val) : bindT (.many [i, j]) e (.tup [v, w]) = some ((e.set i (some v)).set j (some w)) := rfl
/-- the turns of a body that makes one item and leaves the store -/
theorem turns_map {body : Val → Sto → (Option Val → Sto → Prop) → Prop} {grd : Sto → Prop} {Q : List Val → Sto → Prop} {S : Sto} (f : Val → Val) (g : grd S) : ∀ {xs acc : List Val}, (∀ x ∈ xs, ∀ k : Option Val → Sto → Prop, k (some (f x)) S → body x S k) → Q (acc ++ xs.map f) S → wTurns body grd Q xs acc S
  | [], acc, _, q => ⟨g, by simpa using q⟩
  | x :: xs, acc, h, q => ⟨g, h x (by simp) _ (turns_map f g (fun y hy => h y (by simp [hy])) (by simpa using q))⟩
/-- .. that may leave an item out -/
theorem turns_fil {body : Val → Sto → (Option Val → Sto → Prop) → Prop} {grd : Sto → Prop} {Q : List Val → Sto → Prop} {S : Sto} (f : Val → Option Val) (g : grd S) : ∀ {xs acc : List Val}, (∀ x ∈ xs, ∀ k : Option Val → Sto → Prop, k (f x) S → body x S k) → Q (acc ++ xs.filterMap f) S → wTurns body grd Q xs acc S
  | [], acc, _, q => ⟨g, by simpa using q⟩
  | x :: xs, acc, h, q => ⟨g, h x (by simp) _ (turns_fil f g (fun y hy => h y (by simp [hy])) (by
      cases e : f x with
      | none => simpa [List.filterMap_cons, e] using q
      | some y => simpa [List.filterMap_cons, e] using q))⟩
theorem bls_map (f : α → Bool) (xs : List α) : Val.bls (xs.map fun x => .bl (f x)) = some (xs.map f) := by
  induction xs with
  | nil => rfl
  | cons x xs ih => simp [Val.bls, ih]
theorem ints_map (f : α → Int) (xs : List α) : Val.ints (xs.map fun x => .int (f x)) = some (xs.map f) := by
  induction xs with
  | nil => rfl
  | cons x xs ih => simp [Val.ints, ih]
theorem keep_self (S : Sto) {v : Val} (h : ∀ a, v ≠ .ref a) : keep S S v = S := by
  funext a
  have hr : isRef v a = false := by cases v <;> first | rfl | exact absurd rfl (h _)
  unfold keep
  rw [hr, Bool.or_false]
  cases e : S a <;> simp
theorem keep_up {S S1 : Sto} {p : Addr} {o : Ob} {v : Val} (h : ∀ a, v ≠ .ref a) (n : S p = none) : keep S (up S1 p o) v = keep S S1 v := by
  funext a
  have hr : isRef v a = false := by cases v <;> first | rfl | exact absurd rfl (h _)
  unfold keep
  rw [hr, Bool.or_false]
  by_cases e : a = p
  · subst e
    simp [n]
  · simp [up, e]
theorem atI_nat {α : Type} (xs : List α) (k : Nat) : L2.atI xs (k : Int) = xs[k]? := by
  unfold L2.atI L2.ixN
  by_cases h : k < xs.length
  · simp [h]
  · simp [h]
theorem atI_0 {α : Type} (a : α) (xs : List α) : L2.atI (a :: xs) 0 = some a := atI_nat (a :: xs) 0
theorem atI_1 {α : Type} (a b : α) (xs : List α) : L2.atI (a :: b :: xs) 1 = some b := atI_nat (a :: b :: xs) 1
theorem atI_2 {α : Type} (a b c : α) (xs : List α) : L2.atI (a :: b :: c :: xs) 2 = some c := atI_nat (a :: b :: c :: xs) 2
theorem atI_3 {α : Type} (a b c d : α) (xs : List α) : L2.atI (a :: b :: c :: d :: xs) 3 = some d := atI_nat (a :: b :: c :: d :: xs) 3
theorem tt_and (P R : Prop) : ((true = true → P) ∧ (true = false → R)) = P := by simp
theorem ff_and (P R : Prop) : ((false = true → P) ∧ (false = false → R)) = R := by simp
/-- a statement, what stands behind it out of sight -/
theorem step {G : Cfg} {E : Nat → Sto → Prop} {rt : KV} {s : Sm} {r : Sms} {nx : Env → Sto → Prop} {e : Env} {S : Sto} (h : ∀ K : Env → Sto → Prop, (∀ e' S', wSs G E rt r nx e' S' → K e' S') → wS G E rt s K e S) : wSs G E rt (.cons s r) nx e S := by
  rw [wSs]
  exact h _ fun _ _ z => z
theorem eqv_int (i j : Int) : PyData.eqv (.int i) (.int j) = decide (i = j) := by
  rw [PyData.eqv, Bool.beq_eq_decide_eq]
theorem see_dat {S : Sto} {n : Nat} {v : Val} (h : v.dat = true) : S.see n v = some v := by
  cases n with
  | zero => unfold Sto.see; rw [if_pos h]
  | succ n => unfold Sto.see; rw [if_pos h]
theorem turns_all {body : Val → Sto → (Option Val → Sto → Prop) → Prop} {grd : Sto → Prop} {Q : KV} {S : Sto} {xs : List Val} (f : Val → Bool) (g : grd S) (h : ∀ x ∈ xs, ∀ k : Option Val → Sto → Prop, k (some (.bl (f x))) S → body x S k) (q : Q (.bl (xs.all f)) S) :
    wTurns body grd (fun vs S1 => wBtL .all vs S1 Q) xs [] S := by
  refine turns_map (fun x => .bl (f x)) g h ?_
  simp only [List.nil_append, wBtL, bls_map, withO_s, List.all_map]
  exact q
theorem turns_any {body : Val → Sto → (Option Val → Sto → Prop) → Prop} {grd : Sto → Prop} {Q : KV} {S : Sto} {xs : List Val} (f : Val → Bool) (g : grd S) (h : ∀ x ∈ xs, ∀ k : Option Val → Sto → Prop, k (some (.bl (f x))) S → body x S k) (q : Q (.bl (xs.any f)) S) :
    wTurns body grd (fun vs S1 => wBtL .any vs S1 Q) xs [] S := by
  refine turns_map (fun x => .bl (f x)) g h ?_
  simp only [List.nil_append, wBtL, bls_map, withO_s, List.any_map]
  exact q
theorem range_mem {x : Val} {lo : Int} {n : Nat} {st : Int} (h : x ∈ rangeL lo n st) : ∃ k : Nat, k < n ∧ x = .int (lo + (k : Int) * st) := by
  unfold rangeL at h
  obtain ⟨k, hk, e⟩ := List.mem_map.mp h
  exact ⟨k, List.mem_range.mp hk, e.symm⟩
theorem tup_of {v : Val} {S : Sto} (h : (!tyOf .tuple v S) = false) : ∃ xs, v = .tup xs := by
  cases v <;> simp [tyOf] at h
  exact ⟨_, rfl⟩
theorem tup_of' {v : Val} {S : Sto} (h : tyOf .tuple v S = true) : ∃ xs, v = .tup xs := by
  cases v <;> simp [tyOf] at h
  exact ⟨_, rfl⟩
theorem range0_mem {x : Val} {n : Nat} (h : x ∈ rangeL 0 n 1) : ∃ k : Nat, k < n ∧ x = .int k := by
  obtain ⟨k, hk, e⟩ := range_mem h
  exact ⟨k, hk, by rw [e, Int.mul_one, Int.zero_add]⟩
theorem range0_all (n : Nat) (f : Val → Bool) : (rangeL 0 n 1).all f = (List.range n).all fun k => f (.int k) := by
  unfold rangeL
  rw [List.all_map]
  congr
  funext k
  simp
theorem see_int (S : Sto) (n : Nat) (i : Int) : S.see n (.int i) = some (.int i) := see_dat rfl
theorem see_bl (S : Sto) (n : Nat) (i : Bool) : S.see n (.bl i) = some (.bl i) := see_dat rfl
theorem see_str (S : Sto) (n : Nat) (i : Str) : S.see n (.str i) = some (.str i) := see_dat rfl
theorem see_non (S : Sto) (n : Nat) : S.see n .non = some .non := see_dat rfl
theorem dep_int (i : Int) : Val.dep (.int i) = 0 := rfl
theorem dep_bl (i : Bool) : Val.dep (.bl i) = 0 := rfl
theorem dep_str (i : Str) : Val.dep (.str i) = 0 := rfl
theorem dep_non : Val.dep .non = 0 := rfl
/-- a for, by what holds at each turn (rest: what is still to come) -/
theorem for_inv {tg : Tg} {body : (Env → Sto → Prop) → Env → Sto → Prop} {grd : Sto → Prop} {nx : Env → Sto → Prop} (P : List Val → Env → Sto → Prop)
    (hs : ∀ x rest e S, P (x :: rest) e S → grd S ∧ withO (bindT tg e x) fun e' => ∀ k : Env → Sto → Prop, (∀ e2 S2, P rest e2 S2 → k e2 S2) → body k e' S) (hd : ∀ e S, P [] e S → grd S ∧ nx e S) :
    ∀ (xs : List Val) (e : Env) (S : Sto), P xs e S → wFor tg body grd nx xs e S
  | [], e, S, h => hd e S h
  | x :: rest, e, S, h => by
    obtain ⟨h1, h2⟩ := hs x rest e S h
    refine ⟨h1, ?_⟩
    cases q : bindT tg e x with
    | none => rw [q] at h2; exact h2
    | some e' =>
      rw [q] at h2
      exact h2 _ fun e2 S2 p => for_inv P hs hd rest e2 S2 p
theorem le_off {S S' : Sto} {p : Addr} (h : Sto.le S S') (n : S' p = none) : S p = none := by
  cases e : S p with
  | none => rfl
  | some o => rw [h p o e] at n; cases n
theorem le_write {S S' : Sto} {p : Addr} {o : Ob} (h : Sto.le S S') (n : S p = none) : Sto.le S (up S' p o) := fun a ob q => by
  unfold up
  split
  · rename_i e
    subst e
    rw [n] at q
    cases q
  · exact h a ob q
theorem le_new {S S' : Sto} {p : Addr} {o : Ob} (h : Sto.le S S') (n : S' p = none) : Sto.le S (up S' p o) := le_write h (le_off h n)
theorem le_bump {S S' : Sto} {b : Addr} {o o2 : Ob} (h : Sto.le (up S b o) S') : Sto.le (up S b o2) (up S' b o2) := fun a ob q => by
  unfold up at q ⊢
  split
  · rename_i e
    rw [if_pos e] at q
    exact q
  · rename_i e
    rw [if_neg e] at q
    exact h a ob (by unfold up; rw [if_neg e]; exact q)
theorem Sto.le.trans {S S1 S2 : Sto} (h : Sto.le S S1) (h2 : Sto.le S1 S2) : Sto.le S S2 := fun a o q => h2 a o (h a o q)
theorem up_get {S : Sto} {a b : Addr} {o : Ob} (n : a ≠ b) : up S b o a = S a := if_neg n
theorem up_self {S : Sto} {b : Addr} {o : Ob} (h : S b = some o) : up S b o = S := by
  funext a
  unfold up
  split
  · rename_i e
    rw [e, h]
  · rfl
/-- a comprehension, by what holds at each turn -/
theorem turns_inv {body : Val → Sto → (Option Val → Sto → Prop) → Prop} {grd : Sto → Prop} {Q : List Val → Sto → Prop} (P : List Val → List Val → Sto → Prop)
    (hs : ∀ x rest acc S, P (x :: rest) acc S → grd S ∧ ∀ k : Option Val → Sto → Prop, (∀ r S', P rest (acc ++ r.toList) S' → k r S') → body x S k) (hd : ∀ acc S, P [] acc S → grd S ∧ Q acc S) :
    ∀ (xs acc : List Val) (S : Sto), P xs acc S → wTurns body grd Q xs acc S
  | [], acc, S, h => hd acc S h
  | x :: rest, acc, S, h => by
    obtain ⟨h1, h2⟩ := hs x rest acc S h
    exact ⟨h1, h2 _ fun r S' p => turns_inv P hs hd rest _ S' p⟩
theorem sees_ints {S : Sto} {n : Nat} : ∀ ns : List Int, S.sees n (ns.map .int) = some (ns.map .int) := by
  intro ns
  induction ns with
  | nil => rw [List.map_nil, Sto.sees]
  | cons i ns ih => rw [List.map_cons, Sto.sees, ih, see_int]
theorem see_ints {S : Sto} {n : Nat} {ns : List Int} : S.see (n + 1) (.lst (ns.map .int)) = some (.lst (ns.map .int)) := by
  unfold Sto.see
  rw [if_neg (by simp [Val.dat])]
  simp only [sees_ints]
  rfl
theorem veq_int_list {S : Sto} {a : Addr} {n : Nat} {ns : List Int} (h : S a = some (.lst (ns.map .int))) : S.see (n + 1) (.ref a) = some (.lst (ns.map .int)) := by
  have key : ∀ ns : List Int, S.sees n (ns.map .int) = some (ns.map .int) := by
    intro ns
    induction ns with
    | nil => rw [List.map_nil, Sto.sees]
    | cons i ns ih =>
      rw [List.map_cons, Sto.sees, ih, see_int]
  unfold Sto.see
  rw [if_neg (by simp [Val.dat])]
  simp only [h, key]
  rfl
/-- a for, its body out of sight -/
theorem for_step {G : Cfg} {E : Nat → Sto → Prop} {rt : KV} {tg : Tg} {it : Itr} {b : Sms} {nx : Env → Sto → Prop} {e : Env} {S : Sto}
    (h : ∀ B : (Env → Sto → Prop) → Env → Sto → Prop, (∀ k e' S', wSs G E rt b k e' S' → B k e' S') → wI G E it e S fun xs grd S1 => wFor tg B grd nx xs e S1) : wS G E rt (.for tg it b) nx e S := by
  rw [wS]
  exact h _ fun _ _ _ z => z
theorem while_step {G : Cfg} {E : Nat → Sto → Prop} {rt : KV} {c : Ex} {b : Sms} {nx : Env → Sto → Prop} {e : Env} {S : Sto} (W : Nat → Env → Sto → Prop) (h0 : ∃ m, W m e S)
    (h : ∀ B : (Env → Sto → Prop) → Env → Sto → Prop, (∀ k e' S', wSs G E rt b k e' S' → B k e' S') → ∀ m e S, W m e S → wE G E c e S fun x S1 => withB x fun k => (k = true → B (fun e' S' => ∃ m', m' < m ∧ W m' e' S') e S1) ∧ (k = false → nx e S1)) :
    wS G E rt (.while c b) nx e S := by
  rw [wS]
  exact ⟨W, h0, h _ fun _ _ _ z => z⟩
theorem ite_step {G : Cfg} {E : Nat → Sto → Prop} {rt : KV} {c : Ex} {a b : Sms} {nx : Env → Sto → Prop} {e : Env} {S : Sto}
    (h : ∀ A B : Env → Sto → Prop, (∀ e' S', wSs G E rt a nx e' S' → A e' S') → (∀ e' S', wSs G E rt b nx e' S' → B e' S') → wE G E c e S fun x S1 => withB x fun k => (k = true → A e S1) ∧ (k = false → B e S1)) : wS G E rt (.ite c a b) nx e S := by
  rw [wS]
  exact h _ _ (fun _ _ z => z) fun _ _ z => z
theorem get_up {S : Sto} {a p : Addr} {o o2 : Ob} (h : S a = some o) (n : S p = none) : up S p o2 a = some o := by
  rw [up_get fun z => by rw [z, n] at h; cases h]
  exact h
theorem ne_new {S : Sto} {a p : Addr} {o : Ob} (h : S a = some o) (n : S p = none) : a ≠ p := fun z => by
  rw [z, n] at h
  cases h
end DL

set_option autoImplicit true
set_option Elab.async false
set_option linter.all false
set_option maxRecDepth 100000
set_option maxHeartbeats 4000000
/-! Own layer, plain part 2: halls. -/
namespace DL
open PySem
def n_is_whole : List Str := ["thing"]
def b_is_whole : Sms :=
  (.cons (.ret (.and (.isi (.var 0) .int) (.not (.isi (.var 0) .bool))))
  .nil)

def n_between : List Str := ["thing", "low", "most"]
def b_between : Sms :=
  (.cons (.ret (.and (.call 0 (.cons (.var 0) .nil)) (.chain .le .le (.var 1) (.var 0) (.var 2))))
  .nil)

def n_is_state : List Str := ["thing", "base", "many", "to"]
def b_is_state : Sms :=
  (.cons (.ret (.and (.isi (.var 0) .tuple) (.and (.cmp .eq (.blt .len (.cons (.var 0) .nil)) (.var 1)) (.bltc .all (.mk (.one 3) [3] (.call 1 (.cons (.var 3) (.cons (.int 0) (.cons (.bin .sub (.var 2) (.int 1)) .nil)))) (.val (.var 0)) .none)))))
  .nil)

def n_is_row : List Str := ["thing", "base", "many", "state", "sign", "k"]
def b_is_row (st : Str) : Sms :=
  (.cons (.ite (.or (.not (.isi (.var 0) .tuple)) (.or (.cmp .ne (.blt .len (.cons (.var 0) .nil)) (.int 2)) (.not (.isi (.sub (.var 0) (.int 0)) .tuple))))
    (.cons (.ret (.bl false))
      .nil)
    .nil)
  (.cons (.asg 2 (.blt .len (.cons (.sub (.var 0) (.int 0)) .nil)))
  (.cons (.ite (.or (.not (.chain .le .le (.int 1) (.var 2) (.glob st))) (.not (.bltc .all (.mk (.one 3) [3] (.call 2 (.cons (.var 3) (.cons (.var 1) (.cons (.var 2) .nil)))) (.val (.sub (.var 0) (.int 0))) .none))))
    (.cons (.ret (.bl false))
      .nil)
    .nil)
  (.cons (.ite (.or (.not (.isi (.sub (.var 0) (.int 1)) .tuple)) (.or (.cmp .ne (.blt .len (.cons (.sub (.var 0) (.int 1)) .nil)) (.var 2)) (.not (.bltc .all (.mk (.one 4) [4] (.call 1 (.cons (.var 4) (.cons (.int 0) (.cons (.int 2) .nil)))) (.val (.sub (.var 0) (.int 1))) .none)))))
    (.cons (.ret (.bl false))
      .nil)
    .nil)
  (.cons (.ret (.bltc .all (.mk (.one 5) [5] (.cmp .eq (.sub (.sub (.var 0) (.int 1)) (.sub (.sub (.sub (.var 0) (.int 0)) (.var 5)) (.int 0))) (.sub (.sub (.var 0) (.int 1)) (.var 5))) (.rng (.cons (.var 2) .nil)) .none)))
  .nil)))))

def n_is_hall : List Str := ["thing", "row"]
def b_is_hall : Sms :=
  (.cons (.ite (.or (.not (.isi (.var 0) .tuple)) (.or (.cmp .ne (.blt .len (.cons (.var 0) .nil)) (.int 2)) (.not (.call 1 (.cons (.sub (.var 0) (.int 0)) (.cons (.int 2) (.cons (.int 3) .nil)))))))
    (.cons (.ret (.bl false))
      .nil)
    .nil)
  (.cons (.ret (.and (.isi (.sub (.var 0) (.int 1)) .tuple) (.and (.cmp .le (.blt .len (.cons (.sub (.var 0) (.int 1)) .nil)) (.int 3)) (.bltc .all (.mk (.one 1) [1] (.call 3 (.cons (.var 1) (.cons (.sub (.var 0) (.int 0)) .nil))) (.val (.sub (.var 0) (.int 1))) .none)))))
  .nil))

def n_checked : List Str := ["hall"]
def b_checked : Sms :=
  (.cons (.ite (.not (.call 4 (.cons (.var 0) .nil)))
    (.cons (.raise 1 "NoHall")
      .nil)
    .nil)
  (.cons (.ret (.var 0))
  .nil))

def n_need_row : List Str := ["hall", "row"]
def b_need_row : Sms :=
  (.cons (.expr (.call 5 (.cons (.var 0) .nil)))
  (.cons (.ite (.not (.call 1 (.cons (.var 1) (.cons (.int 0) (.cons (.bin .sub (.blt .len (.cons (.sub (.var 0) (.int 1)) .nil)) (.int 1)) .nil)))))
    (.cons (.raise 5 "NoNumber")
      .nil)
    .nil)
  .nil))

def n_figures_of : List Str := ["base", "number", "made"]
def b_figures_of : Sms :=
  (.cons (.asg 2 (.lst .nil))
  (.cons (.while (.cmp .gt (.var 1) (.int 0))
    (.cons (.expr (.meth (.var 2) .append (.cons (.bin .mod (.var 1) (.var 0)) .nil)))
      (.cons (.asg 1 (.bin .fdiv (.var 1) (.var 0)))
      .nil)))
  (.cons (.ret (.var 2))
  .nil)))

def n_sign_of : List Str := ["base", "row", "place", "state", "figure"]
def b_sign_of : Sms :=
  (.cons (.asg 3 (.int 0))
  (.cons (.for (.one 4) (.val (.call 7 (.cons (.var 0) (.cons (.var 2) .nil))))
    (.cons (.asg 3 (.sub (.sub (.sub (.var 1) (.int 0)) (.var 3)) (.var 4)))
      .nil))
  (.cons (.ret (.sub (.sub (.var 1) (.int 1)) (.var 3)))
  .nil)))

def n_sign_at : List Str := ["hall", "row", "place"]
def b_sign_at : Sms :=
  (.cons (.expr (.call 6 (.cons (.var 0) (.cons (.var 1) .nil))))
  (.cons (.ite (.or (.not (.call 0 (.cons (.var 2) .nil))) (.cmp .lt (.var 2) (.int 0)))
    (.cons (.raise 5 "NoNumber")
      .nil)
    .nil)
  (.cons (.ret (.call 8 (.cons (.sub (.var 0) (.int 0)) (.cons (.sub (.sub (.var 0) (.int 1)) (.var 1)) (.cons (.var 2) .nil)))))
  .nil)))

mutual
/-- lists within stand in the store -/
def kn (S : Sto) : Val → Bool
  | .ref a => match S a with
    | some (.lst _) => true
    | _ => false
  | .tup xs => kns S xs
  | .lst _ => false
  | .non => true
  | .bl _ => true
  | .int _ => true
  | .str _ => true
def kns (S : Sto) : List Val → Bool
  | [] => true
  | x :: xs => kn S x && kns S xs
end
theorem kn_tyKnown {S : Sto} {v : Val} (h : kn S v = true) : tyKnown v S = true := by
  cases v <;> first | rfl | (simp only [kn] at h; cases h) | skip
  rename_i a
  simp only [kn] at h
  simp only [tyKnown]
  exact h
def isWhole : Val → Bool
  | .int _ => true
  | _ => false
def betw (v : Val) (lo hi : Int) : Bool := match v with
  | .int i => decide (lo ≤ i) && decide (i ≤ hi)
  | _ => false
def isState (v : Val) (base many : Int) : Bool := match v with
  | .tup xs => decide ((xs.length : Int) = base) && xs.all (betw · 0 (many - 1))
  | _ => false
def stOf (b : Val) : List Val := match b with
  | .tup xs => xs
  | _ => []
/-- the sign at a state -/
def atV (xs : List Val) (i : Val) : Option Val := match i with
  | .int k => L2.atI xs k
  | _ => none
def signAt (st sg : List Val) (k : Nat) : Bool := match st[k]?, sg[k]? with
  | some (.tup (.int t :: _)), some y => (match sg[t.toNat]? with
    | some z => z.veq y
    | none => false)
  | _, _ => false
def signsOk (st sg : List Val) (many : Nat) : Bool := (List.range many).all fun k => signAt st sg k
def isRow (v : Val) (base : Int) : Bool := match v with
  | .tup [x, y] => (match x with
    | .tup st => decide (1 ≤ st.length ∧ st.length ≤ 8) && st.all (isState · base st.length) && (match y with
      | .tup sg => decide (sg.length = st.length) && sg.all (betw · 0 2) && signsOk st sg st.length
      | _ => false)
    | _ => false)
  | _ => false
def isHall (v : Val) : Bool := match v with
  | .tup [b, y] => betw b 2 3 && (match y with
    | .tup rows => decide (rows.length ≤ 3) && rows.all fun r => match b with
      | .int i => isRow r i
      | _ => false
    | _ => false)
  | _ => false
def rowsN (v : Val) : Nat := match v with
  | .tup [_, .tup rows] => rows.length
  | _ => 0
def sp_is_whole : Spec := fun vs S Q _ => match vs with
  | [v] => tyKnown v S = true ∧ Q (.bl (isWhole v)) S
  | _ => False
def sp_between : Spec := fun vs S Q _ => match vs with
  | [v, .int lo, .int hi] => tyKnown v S = true ∧ Q (.bl (betw v lo hi)) S
  | _ => False
def sp_is_state : Spec := fun vs S Q _ => match vs with
  | [v, .int base, .int many] => kn S v = true ∧ Q (.bl (isState v base many)) S
  | _ => False
def sp_is_row : Spec := fun vs S Q _ => match vs with
  | [v, .int base] => kn S v = true ∧ (2 ≤ base ∧ base ≤ 3) ∧ Q (.bl (isRow v base)) S
  | _ => False
def sp_is_hall : Spec := fun vs S Q _ => match vs with
  | [v] => kn S v = true ∧ Q (.bl (isHall v)) S
  | _ => False
def sp_checked : Spec := fun vs S Q E => match vs with
  | [v] => kn S v = true ∧ (isHall v = true → Q v S) ∧ (isHall v = false → E 1 S)
  | _ => False
def sp_need_row : Spec := fun vs S Q E => match vs with
  | [v, r] => kn S v = true ∧ kn S r = true ∧ (isHall v = true → (betw r 0 (rowsN v - 1) = true → Q .non S) ∧ (betw r 0 (rowsN v - 1) = false → E 5 S)) ∧ (isHall v = false → E 1 S)
  | _ => False
structure HallG0 (G : Cfg) (st : Str) : Prop where
  f0 : G.fn 0 = some sp_is_whole
  f1 : G.fn 1 = some sp_between
  f2 : G.fn 2 = some sp_is_state
  f3 : G.fn 3 = some sp_is_row
  f4 : G.fn 4 = some sp_is_hall
  f5 : G.fn 5 = some sp_checked
  cs : G.cv st = some (.int 8)
structure HallG (G : Cfg) (st : Str) : Prop extends HallG0 G st where
  f6 : G.fn 6 = some sp_need_row
theorem rt_here {Q : KV} {v : Val} {S : Sto} (h : Q v S) : rtOf Q v S := ⟨S, .refl S, h⟩
theorem ex_here {E : Nat → Sto → Prop} {x : Nat} {S : Sto} (h : E x S) : exOf E x S := ⟨S, .refl S, h⟩
abbrev Wk (G : Cfg) (sp : Spec) (N : List Str) (b : Sms) : Prop := ∀ args S Q E, sp args S Q E → wSs G (exOf E) (rtOf Q) b (fun _ S' => rtOf Q .non S') (startE N.length args) S
theorem w_is_whole {G : Cfg} : Wk G sp_is_whole n_is_whole b_is_whole := by
  intro args S Q E h
  unfold sp_is_whole at h
  split at h <;> first | contradiction | skip
  rename_i v
  obtain ⟨h1, h2⟩ := h
  simp only [b_is_whole, n_is_whole, wSs, wS, wE, wEs, wO, wI, wC, wIf, wBin, wSub, startE_cons, startE_nil, List.replicate, getV_0, getV_s, withO_s, withB_b, bind_one, bind_two, List.set_cons_zero, List.set_cons_succ, wipeE, Nat.zero_add, atI_0, atI_1, atI_2, atI_3, see_int, see_bl, see_str, see_non, dep_int, dep_bl, dep_str, dep_non, Nat.zero_min, Nat.min_zero, Nat.zero_le, true_imp_iff, false_imp_iff, Bool.not_false, Bool.not_true, reduceCtorEq, and_true, true_and, List.length_cons, List.length_nil]
  refine ⟨h1, fun a => ⟨h1, rt_here ?_⟩, fun a => rt_here ?_⟩
  · cases v <;> first | exact h2 | (simp [tyOf] at a; done) | (simp [tyOf, isWhole] at *; exact h2)
  · cases v <;> first | exact h2 | (simp [tyOf] at a; done) | (simp [tyOf, isWhole] at *; exact h2)
theorem w_between {G : Cfg} {st : Str} (g : HallG0 G st) : Wk G sp_between n_between b_between := by
  intro args S Q E h
  unfold sp_between at h
  split at h <;> first | contradiction | skip
  rename_i v lo hi
  obtain ⟨h1, h2⟩ := h
  simp only [b_between, n_between, wSs, wS, wE, wEs, wO, wI, wC, wIf, wBin, wSub, startE_cons, startE_nil, List.replicate, getV_0, getV_s, withO_s, withB_b, bind_one, bind_two, List.set_cons_zero, List.set_cons_succ, wipeE, Nat.zero_add, atI_0, atI_1, atI_2, atI_3, see_int, see_bl, see_str, see_non, dep_int, dep_bl, dep_str, dep_non, Nat.zero_min, Nat.min_zero, Nat.zero_le, true_imp_iff, false_imp_iff, Bool.not_false, Bool.not_true, reduceCtorEq, and_true, true_and, List.length_cons, List.length_nil, g.f0, sp_is_whole]
  refine ⟨h1, fun a => ?_, fun a => rt_here ?_⟩
  · cases v <;> simp [isWhole] at a
    simp only [wCmp, withB_b]
    refine ⟨fun b => rt_here ?_, fun b => rt_here ?_⟩
    · simpa [betw, b] using h2
    · simpa [betw, b] using h2
  · cases v <;> simp_all [isWhole, betw]
theorem kns_mem {S : Sto} : ∀ {xs : List Val} {x : Val}, kns S xs = true → x ∈ xs → kn S x = true
  | y :: ys, x, h, m => by
    simp only [kns, Bool.and_eq_true] at h
    rcases List.mem_cons.mp m with e | e
    · rw [e]; exact h.1
    · exact kns_mem h.2 e
theorem w_is_state {G : Cfg} {st : Str} (g : HallG0 G st) : Wk G sp_is_state n_is_state b_is_state := by
  intro args S Q E h
  unfold sp_is_state at h
  split at h <;> first | contradiction | skip
  rename_i v base many
  obtain ⟨h1, h2⟩ := h
  simp only [b_is_state, n_is_state, wSs, wS, wE, wEs, wO, wI, wC, wIf, wBin, wSub, startE_cons, startE_nil, List.replicate, getV_0, getV_s, withO_s, withB_b, bind_one, bind_two, List.set_cons_zero, List.set_cons_succ, wipeE, Nat.zero_add, atI_0, atI_1, atI_2, atI_3, see_int, see_bl, see_str, see_non, dep_int, dep_bl, dep_str, dep_non, Nat.zero_min, Nat.min_zero, Nat.zero_le, true_imp_iff, false_imp_iff, Bool.not_false, Bool.not_true, reduceCtorEq, and_true, true_and, List.length_cons, List.length_nil, g.f1, sp_between]
  refine ⟨kn_tyKnown h1, fun a => ?_, fun a => rt_here ?_⟩
  · cases v <;> simp [tyOf] at a
    rename_i xs
    simp only [wBt, wCmp, wSs, wS, wE, wEs, wO, wI, wC, wIf, wBin, wSub, startE_cons, startE_nil, List.replicate, getV_0, getV_s, withO_s, withB_b, bind_one, bind_two, List.set_cons_zero, List.set_cons_succ, wipeE, Nat.zero_add, atI_0, atI_1, atI_2, atI_3, see_int, see_bl, see_str, see_non, dep_int, dep_bl, dep_str, dep_non, Nat.zero_min, Nat.min_zero, Nat.zero_le, true_imp_iff, false_imp_iff, Bool.not_false, Bool.not_true, reduceCtorEq, and_true, true_and, List.length_cons, List.length_nil]
    refine ⟨fun b => ?_, fun b => rt_here ?_⟩
    · simp only [iterOf, withO_s]
      refine turns_map (fun x => .bl (betw x 0 (many - 1))) trivial (fun x hx k hk => ?_) ?_
      · exact ⟨kn_tyKnown (kns_mem h1 hx), hk⟩
      · simp only [List.nil_append, wBtL, bls_map, withO_s]
        refine rt_here ?_
        have e : decide ((xs.length : Int) = base) = true := by
          simpa [Val.veq, Val.py, PyData.eqv] using b
        simpa [isState, e, List.all_map] using h2
    · have e : decide ((xs.length : Int) = base) = false := by
        simpa [Val.veq, Val.py, PyData.eqv] using b
      simpa [isState, e] using h2
  · cases v <;> simp_all [isState, tyOf]

theorem len_ne (n m : Nat) : (Val.int (n : Int)).veq (.int (m : Int)) = decide (n = m) := by
  simp only [Val.veq, Val.py, eqv_int]
  exact decide_eq_decide.mpr (by omega)
theorem int_eq (i j : Int) : (Val.int i).veq (.int j) = decide (i = j) := by
  simp only [Val.veq, Val.py, eqv_int]
theorem betw_int {v : Val} {lo hi : Int} (h : betw v lo hi = true) : ∃ i, v = .int i := by
  cases v <;> simp [betw] at h
  exact ⟨_, rfl⟩
theorem betw_le {i : Int} {lo hi : Int} (h : betw (.int i) lo hi = true) : lo ≤ i ∧ i ≤ hi := by
  simpa [betw] using h
theorem state_head {v : Val} {base many : Int} (hb : 2 ≤ base ∧ base ≤ 3) (h : isState v base many = true) : ∃ t ts, v = .tup (.int t :: ts) ∧ 0 ≤ t ∧ t < many := by
  cases v <;> simp only [isState] at h <;> first | (cases h; done) | skip
  rename_i xs
  rw [Bool.and_eq_true] at h
  obtain ⟨h1, h2⟩ := h
  cases xs with
  | nil =>
    have := of_decide_eq_true h1
    simp at this
    omega
  | cons x xs =>
    simp only [List.all_cons, Bool.and_eq_true] at h2
    obtain ⟨i, rfl⟩ := betw_int h2.1
    obtain ⟨h3, h4⟩ := betw_le h2.1
    exact ⟨i, xs, rfl, h3, by omega⟩
theorem w_is_row {G : Cfg} {st : Str} (g : HallG0 G st) : Wk G sp_is_row n_is_row (b_is_row st) := by
  intro args S Q E h
  unfold sp_is_row at h
  split at h <;> first | contradiction | skip
  rename_i v base
  obtain ⟨h1, hb, h2⟩ := h
  have no : ∀ {v : Val}, isRow v base = false → Q (.bl (isRow v base)) S → rtOf Q (.bl false) S := fun e q => rt_here (by rw [e] at q; exact q)
  unfold b_is_row
  refine step fun K hK => ?_
  simp only [n_is_row, wSs, wS, wE, wEs, wO, wI, wC, wIf, wBin, wSub, startE_cons, startE_nil, List.replicate, getV_0, getV_s, withO_s, withB_b, bind_one, bind_two, List.set_cons_zero, List.set_cons_succ, wipeE, Nat.zero_add, atI_0, atI_1, atI_2, atI_3, see_int, see_bl, see_str, see_non, dep_int, dep_bl, dep_str, dep_non, Nat.zero_min, Nat.min_zero, Nat.zero_le, true_imp_iff, false_imp_iff, Bool.not_false, Bool.not_true, reduceCtorEq, and_true, true_and, List.length_cons, List.length_nil]
  refine ⟨kn_tyKnown h1, fun a => ?_, fun a => ?_⟩
  · exact no (by cases v <;> first | rfl | (simp [tyOf] at a)) h2
  · cases v <;> simp [tyOf] at a
    rename_i xs
    simp only [wBt, wCmp, wSs, wS, wE, wEs, wO, wI, wC, wIf, wBin, wSub, startE_cons, startE_nil, List.replicate, getV_0, getV_s, withO_s, withB_b, bind_one, bind_two, List.set_cons_zero, List.set_cons_succ, wipeE, Nat.zero_add, atI_0, atI_1, atI_2, atI_3, see_int, see_bl, see_str, see_non, dep_int, dep_bl, dep_str, dep_non, Nat.zero_min, Nat.min_zero, Nat.zero_le, true_imp_iff, false_imp_iff, Bool.not_false, Bool.not_true, reduceCtorEq, and_true, true_and, List.length_cons, List.length_nil]
    refine ⟨fun b => ?_, fun b => ?_⟩
    · refine no ?_ h2
      match xs, b with
      | [], _ => rfl
      | [_], _ => rfl
      | [_, _], b => simp [int_eq] at b
      | _ :: _ :: _ :: _, _ => rfl
    · match xs, b with
      | [], b => simp [int_eq] at b
      | [_], b => simp [int_eq] at b
      | _ :: _ :: _ :: _, b => simp [int_eq] at b; omega
      | [x, y], _ =>
        have kx : kn S x = true := kns_mem h1 (by simp)
        have ky : kn S y = true := kns_mem h1 (by simp)
        refine ⟨kn_tyKnown kx, fun a2 => ?_, fun a2 => ?_⟩
        · refine no ?_ h2
          cases x <;> first | rfl | (simp [tyOf] at a2)
        · obtain ⟨sts, rfl⟩ := tup_of a2
          refine hK _ _ (step fun K2 hK2 => ?_)
          simp only [wSs, wS, wE, wEs, wO, wI, wC, wIf, wBin, wSub, startE_cons, startE_nil, List.replicate, getV_0, getV_s, withO_s, withB_b, bind_one, bind_two, List.set_cons_zero, List.set_cons_succ, wipeE, Nat.zero_add, atI_0, atI_1, atI_2, atI_3, see_int, see_bl, see_str, see_non, dep_int, dep_bl, dep_str, dep_non, Nat.zero_min, Nat.min_zero, Nat.zero_le, true_imp_iff, false_imp_iff, Bool.not_false, Bool.not_true, reduceCtorEq, and_true, true_and, List.length_cons, List.length_nil, wBt, b_is_row] 
          refine hK2 _ _ (step fun K3 hK3 => ?_)
          have fin : (decide (1 ≤ sts.length ∧ sts.length ≤ 8) && sts.all (isState · base sts.length)) = false → rtOf Q (.bl false) S := fun e => no (by simp only [isRow, e, Bool.false_and]) h2
          simp only [wSs, wS, wE, wEs, wO, wI, wC, wIf, wBin, wSub, startE_cons, startE_nil, List.replicate, getV_0, getV_s, withO_s, withB_b, bind_one, bind_two, List.set_cons_zero, List.set_cons_succ, wipeE, Nat.zero_add, atI_0, atI_1, atI_2, atI_3, see_int, see_bl, see_str, see_non, dep_int, dep_bl, dep_str, dep_non, Nat.zero_min, Nat.min_zero, Nat.zero_le, true_imp_iff, false_imp_iff, Bool.not_false, Bool.not_true, reduceCtorEq, and_true, true_and, List.length_cons, List.length_nil, wCmp, g.cs, g.f2, sp_is_state, iterOf]
          refine ⟨fun a3 => ⟨fun a4 => ?_, fun a4 => ?_⟩, fun a3 => ?_⟩
          · refine fin ?_
            simp only [Bool.not_eq_true', decide_eq_false_iff_not] at a4
            rw [Bool.and_eq_false_iff]
            left
            simp
            omega
          · simp only [decide_eq_true_eq, Bool.not_eq_false', decide_eq_true_eq] at a3 a4
            refine turns_all (fun x => isState x base sts.length) trivial (fun z hz k hk => ⟨kns_mem kx hz, hk⟩) ?_
            simp only [wSs, wS, wE, wEs, wO, wI, wC, wIf, wBin, wSub, startE_cons, startE_nil, List.replicate, getV_0, getV_s, withO_s, withB_b, bind_one, bind_two, List.set_cons_zero, List.set_cons_succ, wipeE, Nat.zero_add, atI_0, atI_1, atI_2, atI_3, see_int, see_bl, see_str, see_non, dep_int, dep_bl, dep_str, dep_non, Nat.zero_min, Nat.min_zero, Nat.zero_le, true_imp_iff, false_imp_iff, Bool.not_false, Bool.not_true, reduceCtorEq, and_true, true_and, List.length_cons, List.length_nil]
            refine ⟨fun a5 => fin ?_, fun a5 => ?_⟩
            · rw [Bool.and_eq_false_iff]
              right
              simpa using a5
            · have hst : (decide (1 ≤ sts.length ∧ sts.length ≤ 8) && sts.all (isState · base sts.length)) = true := by
                rw [Bool.and_eq_true]
                exact ⟨by simp; omega, by simpa using a5⟩
              refine hK3 _ _ (step fun K4 hK4 => ?_)
              simp only [wSs, wS, wE, wEs, wO, wI, wC, wIf, wBin, wSub, startE_cons, startE_nil, List.replicate, getV_0, getV_s, withO_s, withB_b, bind_one, bind_two, List.set_cons_zero, List.set_cons_succ, wipeE, Nat.zero_add, atI_0, atI_1, atI_2, atI_3, see_int, see_bl, see_str, see_non, dep_int, dep_bl, dep_str, dep_non, Nat.zero_min, Nat.min_zero, Nat.zero_le, true_imp_iff, false_imp_iff, Bool.not_false, Bool.not_true, reduceCtorEq, and_true, true_and, List.length_cons, List.length_nil]
              refine ⟨kn_tyKnown ky, fun a6 => ?_, fun a6 => ?_⟩
              · refine no ?_ h2
                cases y <;> first | (simp [isRow]; done) | (simp [tyOf] at a6)
              · obtain ⟨sgs, rfl⟩ := tup_of a6
                simp only [wBt, wCmp, wSs, wS, wE, wEs, wO, wI, wC, wIf, wBin, wSub, startE_cons, startE_nil, List.replicate, getV_0, getV_s, withO_s, withB_b, bind_one, bind_two, List.set_cons_zero, List.set_cons_succ, wipeE, Nat.zero_add, atI_0, atI_1, atI_2, atI_3, see_int, see_bl, see_str, see_non, dep_int, dep_bl, dep_str, dep_non, Nat.zero_min, Nat.min_zero, Nat.zero_le, true_imp_iff, false_imp_iff, Bool.not_false, Bool.not_true, reduceCtorEq, and_true, true_and, List.length_cons, List.length_nil, g.f1, sp_between, iterOf]
                refine ⟨fun b2 => ?_, fun b2 => ?_⟩
                · refine no ?_ h2
                  have : sgs.length ≠ sts.length := by simpa [len_ne] using b2
                  simp [isRow, this]
                · have hl : sgs.length = sts.length := by simpa [len_ne] using b2
                  refine turns_all (fun x => betw x 0 2) trivial (fun z hz k hk => ⟨kn_tyKnown (kns_mem ky hz), hk⟩) ?_
                  simp only [wSs, wS, wE, wEs, wO, wI, wC, wIf, wBin, wSub, startE_cons, startE_nil, List.replicate, getV_0, getV_s, withO_s, withB_b, bind_one, bind_two, List.set_cons_zero, List.set_cons_succ, wipeE, Nat.zero_add, atI_0, atI_1, atI_2, atI_3, see_int, see_bl, see_str, see_non, dep_int, dep_bl, dep_str, dep_non, Nat.zero_min, Nat.min_zero, Nat.zero_le, true_imp_iff, false_imp_iff, Bool.not_false, Bool.not_true, reduceCtorEq, and_true, true_and, List.length_cons, List.length_nil]
                  refine ⟨fun a7 => no ?_ h2, fun a7 => hK4 _ _ ?_⟩
                  · have : (sgs.all fun x => betw x 0 2) = false := by simpa using a7
                    simp [isRow, this]
                  · have hsg : (sgs.all fun x => betw x 0 2) = true := by simpa using a7
                    simp only [wSs, wS, wE, wEs, wO, wI, wC, wIf, wBin, wSub, startE_cons, startE_nil, List.replicate, getV_0, getV_s, withO_s, withB_b, bind_one, bind_two, List.set_cons_zero, List.set_cons_succ, wipeE, Nat.zero_add, atI_0, atI_1, atI_2, atI_3, see_int, see_bl, see_str, see_non, dep_int, dep_bl, dep_str, dep_non, Nat.zero_min, Nat.min_zero, Nat.zero_le, true_imp_iff, false_imp_iff, Bool.not_false, Bool.not_true, reduceCtorEq, and_true, true_and, List.length_cons, List.length_nil, wRng]
                    have h8 : sts.length ≤ 8 := by omega
                    refine ⟨by omega, by omega, ?_⟩
                    refine turns_all (fun x => match x with
                      | .int k => signAt sts sgs k.toNat
                      | _ => false) trivial (fun z hz k hk => ?_) ?_
                    · obtain ⟨j, hj, rfl⟩ := range0_mem hz
                      have hj : j < sts.length := by simpa using hj
                      obtain ⟨t, ts, e1, t1, t2⟩ := state_head hb (List.all_eq_true.mp (show (sts.all fun x => isState x base sts.length) = true by simpa using a5) _ (List.getElem_mem hj))
                      have e2 : sts[j]? = some (.tup (.int t :: ts)) := by rw [List.getElem?_eq_getElem hj, e1]
                      obtain ⟨t', rfl⟩ := Int.eq_ofNat_of_zero_le t1
                      have ht' : t' < sgs.length := by omega
                      have e3 : sgs[t']? = some sgs[t'] := List.getElem?_eq_getElem ht'
                      have e4 : sgs[j]? = some sgs[j] := List.getElem?_eq_getElem (by omega)
                      obtain ⟨p, ep⟩ := betw_int (List.all_eq_true.mp hsg _ (List.getElem_mem ht'))
                      obtain ⟨q, eq⟩ := betw_int (List.all_eq_true.mp hsg _ (List.getElem_mem (show j < sgs.length by omega)))
                      simp only [wCmp, atI_nat, e2, e3, e4, ep, eq, wSs, wS, wE, wEs, wO, wI, wC, wIf, wBin, wSub, startE_cons, startE_nil, List.replicate, getV_0, getV_s, withO_s, withB_b, bind_one, bind_two, List.set_cons_zero, List.set_cons_succ, wipeE, Nat.zero_add, atI_0, atI_1, atI_2, atI_3, see_int, see_bl, see_str, see_non, dep_int, dep_bl, dep_str, dep_non, Nat.zero_min, Nat.min_zero, Nat.zero_le, true_imp_iff, false_imp_iff, Bool.not_false, Bool.not_true, reduceCtorEq, and_true, true_and, List.length_cons, List.length_nil]
                      simpa [signAt, e2, e3, e4, ep, eq] using hk
                    · refine rt_here ?_
                      rw [range0_all]
                      have e : isRow (.tup [.tup sts, .tup sgs]) base = ((List.range sts.length).all fun k => signAt sts sgs k) := by
                        simp only [isRow, hst, hl, hsg, signsOk, Bool.true_and, decide_true]
                      rw [e] at h2
                      simpa using h2
          · refine fin ?_
            rw [Bool.and_eq_false_iff]
            left
            simp at a3 ⊢
            omega
theorem w_is_hall {G : Cfg} {st : Str} (g : HallG0 G st) : Wk G sp_is_hall n_is_hall b_is_hall := by
  intro args S Q E h
  unfold sp_is_hall at h
  split at h <;> first | contradiction | skip
  rename_i v
  obtain ⟨h1, h2⟩ := h
  have no : ∀ {v : Val}, isHall v = false → Q (.bl (isHall v)) S → rtOf Q (.bl false) S := fun e q => rt_here (by rw [e] at q; exact q)
  unfold b_is_hall
  refine step fun K hK => ?_
  simp only [n_is_hall, wSs, wS, wE, wEs, wO, wI, wC, wIf, wBin, wSub, startE_cons, startE_nil, List.replicate, getV_0, getV_s, withO_s, withB_b, bind_one, bind_two, List.set_cons_zero, List.set_cons_succ, wipeE, Nat.zero_add, atI_0, atI_1, atI_2, atI_3, see_int, see_bl, see_str, see_non, dep_int, dep_bl, dep_str, dep_non, Nat.zero_min, Nat.min_zero, Nat.zero_le, true_imp_iff, false_imp_iff, Bool.not_false, Bool.not_true, reduceCtorEq, and_true, true_and, List.length_cons, List.length_nil]
  refine ⟨kn_tyKnown h1, fun a => ?_, fun a => ?_⟩
  · exact no (by cases v <;> first | rfl | (simp [tyOf] at a)) h2
  · obtain ⟨xs, rfl⟩ := tup_of a
    simp only [wBt, wCmp, wSs, wS, wE, wEs, wO, wI, wC, wIf, wBin, wSub, startE_cons, startE_nil, List.replicate, getV_0, getV_s, withO_s, withB_b, bind_one, bind_two, List.set_cons_zero, List.set_cons_succ, wipeE, Nat.zero_add, atI_0, atI_1, atI_2, atI_3, see_int, see_bl, see_str, see_non, dep_int, dep_bl, dep_str, dep_non, Nat.zero_min, Nat.min_zero, Nat.zero_le, true_imp_iff, false_imp_iff, Bool.not_false, Bool.not_true, reduceCtorEq, and_true, true_and, List.length_cons, List.length_nil, g.f1, sp_between]
    refine ⟨fun b => ?_, fun b => ?_⟩
    · refine no ?_ h2
      match xs, b with
      | [], _ => rfl
      | [_], _ => rfl
      | [_, _], b => simp [int_eq] at b
      | _ :: _ :: _ :: _, _ => rfl
    · match xs, b with
      | [], b => simp [int_eq] at b
      | [_], b => simp [int_eq] at b
      | _ :: _ :: _ :: _, b => simp [int_eq] at b; omega
      | [x, y], _ =>
        have kx : kn S x = true := kns_mem h1 (by simp)
        have ky : kn S y = true := kns_mem h1 (by simp)
        simp only [wSs, wS, wE, wEs, wO, wI, wC, wIf, wBin, wSub, startE_cons, startE_nil, List.replicate, getV_0, getV_s, withO_s, withB_b, bind_one, bind_two, List.set_cons_zero, List.set_cons_succ, wipeE, Nat.zero_add, atI_0, atI_1, atI_2, atI_3, see_int, see_bl, see_str, see_non, dep_int, dep_bl, dep_str, dep_non, Nat.zero_min, Nat.min_zero, Nat.zero_le, true_imp_iff, false_imp_iff, Bool.not_false, Bool.not_true, reduceCtorEq, and_true, true_and, List.length_cons, List.length_nil]
        refine ⟨kn_tyKnown kx, fun a2 => ?_, fun a2 => ?_⟩
        · refine no ?_ h2
          have : betw x 2 3 = false := by simpa using a2
          simp [isHall, this]
        · have hx : betw x 2 3 = true := by simpa using a2
          obtain ⟨i, rfl⟩ := betw_int hx
          have hi := betw_le hx
          refine hK _ _ ?_
          simp only [wSs, wS, wE, wEs, wO, wI, wC, wIf, wBin, wSub, startE_cons, startE_nil, List.replicate, getV_0, getV_s, withO_s, withB_b, bind_one, bind_two, List.set_cons_zero, List.set_cons_succ, wipeE, Nat.zero_add, atI_0, atI_1, atI_2, atI_3, see_int, see_bl, see_str, see_non, dep_int, dep_bl, dep_str, dep_non, Nat.zero_min, Nat.min_zero, Nat.zero_le, true_imp_iff, false_imp_iff, Bool.not_false, Bool.not_true, reduceCtorEq, and_true, true_and, List.length_cons, List.length_nil]
          refine ⟨kn_tyKnown ky, fun a3 => ?_, fun a3 => ?_⟩
          · obtain ⟨rows, rfl⟩ := tup_of' a3
            simp only [wBt, wCmp, wSs, wS, wE, wEs, wO, wI, wC, wIf, wBin, wSub, startE_cons, startE_nil, List.replicate, getV_0, getV_s, withO_s, withB_b, bind_one, bind_two, List.set_cons_zero, List.set_cons_succ, wipeE, Nat.zero_add, atI_0, atI_1, atI_2, atI_3, see_int, see_bl, see_str, see_non, dep_int, dep_bl, dep_str, dep_non, Nat.zero_min, Nat.min_zero, Nat.zero_le, true_imp_iff, false_imp_iff, Bool.not_false, Bool.not_true, reduceCtorEq, and_true, true_and, List.length_cons, List.length_nil, iterOf, g.f3, sp_is_row]
            refine ⟨fun a4 => ?_, fun a4 => ?_⟩
            · refine turns_all (fun r => isRow r i) trivial (fun z hz k hk => ⟨kns_mem ky hz, hi, hk⟩) (rt_here ?_)
              have : isHall (.tup [.int i, .tup rows]) = rows.all fun r => isRow r i := by
                have h3 : rows.length ≤ 3 := by
                  have := of_decide_eq_true a4
                  omega
                simp [isHall, hx, h3]
              rw [this] at h2
              exact h2
            · refine no ?_ h2
              have h3 : ¬ rows.length ≤ 3 := by
                have := of_decide_eq_false a4
                omega
              simp [isHall, h3]
          · refine no ?_ h2
            cases y <;> first | (simp [isHall]; done) | (simp [tyOf] at a3)
theorem w_checked {G : Cfg} {st : Str} (g : HallG0 G st) : Wk G sp_checked n_checked b_checked := by
  intro args S Q E h
  unfold sp_checked at h
  split at h <;> first | contradiction | skip
  rename_i v
  obtain ⟨h1, h2, h3⟩ := h
  unfold b_checked
  refine step fun K hK => ?_
  simp only [n_checked, wSs, wS, wE, wEs, wO, wI, wC, wIf, wBin, wSub, startE_cons, startE_nil, List.replicate, getV_0, getV_s, withO_s, withB_b, bind_one, bind_two, List.set_cons_zero, List.set_cons_succ, wipeE, Nat.zero_add, atI_0, atI_1, atI_2, atI_3, see_int, see_bl, see_str, see_non, dep_int, dep_bl, dep_str, dep_non, Nat.zero_min, Nat.min_zero, Nat.zero_le, true_imp_iff, false_imp_iff, Bool.not_false, Bool.not_true, reduceCtorEq, and_true, true_and, List.length_cons, List.length_nil, g.f4, sp_is_hall]
  refine ⟨h1, fun a => ex_here (h3 (by simpa using a)), fun a => hK _ _ ?_⟩
  simp only [wSs, wS, wE, wEs, wO, wI, wC, wIf, wBin, wSub, startE_cons, startE_nil, List.replicate, getV_0, getV_s, withO_s, withB_b, bind_one, bind_two, List.set_cons_zero, List.set_cons_succ, wipeE, Nat.zero_add, atI_0, atI_1, atI_2, atI_3, see_int, see_bl, see_str, see_non, dep_int, dep_bl, dep_str, dep_non, Nat.zero_min, Nat.min_zero, Nat.zero_le, true_imp_iff, false_imp_iff, Bool.not_false, Bool.not_true, reduceCtorEq, and_true, true_and, List.length_cons, List.length_nil]
  exact rt_here (h2 (by simpa using a))
theorem w_need_row {G : Cfg} {st : Str} (g : HallG G st) : Wk G sp_need_row n_need_row b_need_row := by
  intro args S Q E h
  unfold sp_need_row at h
  split at h <;> first | contradiction | skip
  rename_i v r
  obtain ⟨h1, h2, h3, h4⟩ := h
  unfold b_need_row
  refine step fun K hK => ?_
  simp only [n_need_row, wSs, wS, wE, wEs, wO, wI, wC, wIf, wBin, wSub, startE_cons, startE_nil, List.replicate, getV_0, getV_s, withO_s, withB_b, bind_one, bind_two, List.set_cons_zero, List.set_cons_succ, wipeE, Nat.zero_add, atI_0, atI_1, atI_2, atI_3, see_int, see_bl, see_str, see_non, dep_int, dep_bl, dep_str, dep_non, Nat.zero_min, Nat.min_zero, Nat.zero_le, true_imp_iff, false_imp_iff, Bool.not_false, Bool.not_true, reduceCtorEq, and_true, true_and, List.length_cons, List.length_nil, g.f5, sp_checked]
  refine ⟨h1, fun a => hK _ _ (step fun K2 hK2 => ?_), fun a => ex_here (h4 a)⟩
  obtain ⟨i, rows, rfl⟩ : ∃ i rows, v = .tup [i, .tup rows] := by
    cases v <;> first | (simp [isHall] at a; done) | skip
    rename_i xs
    match xs, a with
    | [x, y], a =>
      cases y <;> first | (simp [isHall] at a; done) | exact ⟨_, _, rfl⟩
  simp only [wSs, wS, wE, wEs, wO, wI, wC, wIf, wBin, wSub, startE_cons, startE_nil, List.replicate, getV_0, getV_s, withO_s, withB_b, bind_one, bind_two, List.set_cons_zero, List.set_cons_succ, wipeE, Nat.zero_add, atI_0, atI_1, atI_2, atI_3, see_int, see_bl, see_str, see_non, dep_int, dep_bl, dep_str, dep_non, Nat.zero_min, Nat.min_zero, Nat.zero_le, true_imp_iff, false_imp_iff, Bool.not_false, Bool.not_true, reduceCtorEq, and_true, true_and, List.length_cons, List.length_nil, wBt, g.f1, sp_between]
  refine ⟨kn_tyKnown h2, fun b => ex_here ((h3 a).2 (by simpa [rowsN] using b)), fun b => hK2 _ _ ?_⟩
  simp only [wSs, wS, wE, wEs, wO, wI, wC, wIf, wBin, wSub, startE_cons, startE_nil, List.replicate, getV_0, getV_s, withO_s, withB_b, bind_one, bind_two, List.set_cons_zero, List.set_cons_succ, wipeE, Nat.zero_add, atI_0, atI_1, atI_2, atI_3, see_int, see_bl, see_str, see_non, dep_int, dep_bl, dep_str, dep_non, Nat.zero_min, Nat.min_zero, Nat.zero_le, true_imp_iff, false_imp_iff, Bool.not_false, Bool.not_true, reduceCtorEq, and_true, true_and, List.length_cons, List.length_nil]
  exact rt_here ((h3 a).1 (by simpa [rowsN] using b))
end DL

set_option autoImplicit true
set_option Elab.async false
set_option linter.all false
set_option maxRecDepth 100000
set_option maxHeartbeats 4000000
/-! Own layer, plain part 3: figures and signs. -/
namespace DL
open PySem
/-- the figures, the least one first -/
def digs (b n : Nat) : List Nat := if h : 2 ≤ b ∧ 0 < n then n % b :: digs b (n / b) else []
termination_by n
decreasing_by exact Nat.div_lt_self h.2 (by omega)
theorem digs_zero (b : Nat) : digs b 0 = [] := by
  rw [digs]
  simp
theorem digs_pos {b n : Nat} (hb : 2 ≤ b) (hn : 0 < n) : digs b n = n % b :: digs b (n / b) := by
  rw [digs, dif_pos ⟨hb, hn⟩]
theorem digs_lt {b : Nat} (hb : 2 ≤ b) : ∀ (n d : Nat), d ∈ digs b n → d < b := by
  intro n
  induction n using Nat.strongRecOn with
  | _ n ih =>
    intro d h
    by_cases hn : 0 < n
    · rw [digs_pos hb hn] at h
      rcases List.mem_cons.mp h with e | e
      · rw [e]; exact Nat.mod_lt _ (by omega)
      · exact ih _ (Nat.div_lt_self hn (by omega)) d e
    · have : n = 0 := by omega
      subst this
      rw [digs_zero] at h
      simp at h
/-- a row: for each state its steps, its sign -/
structure Row where
  steps : List (List Nat)
  signs : List Nat
def natV (n : Nat) : Val := .int n
def Row.val (r : Row) : Val := .tup [.tup (r.steps.map fun s => .tup (s.map natV)), .tup (r.signs.map natV)]
structure Row.Ok (r : Row) (b : Nat) : Prop where
  pos : 1 ≤ r.steps.length
  most : r.steps.length ≤ 8
  wide : ∀ s ∈ r.steps, s.length = b
  to : ∀ s ∈ r.steps, ∀ t ∈ s, t < r.steps.length
  sg : r.signs.length = r.steps.length
  two : ∀ x ∈ r.signs, x ≤ 2
  same : ∀ k (h : k < r.steps.length), ∀ t, r.steps[k].head? = some t → r.signs[t]? = r.signs[k]?
/-- where a row's state goes -/
def Row.go (r : Row) (s d : Nat) : Nat := ((r.steps[s]?.getD [])[d]?).getD 0
def Row.run (r : Row) (s : Nat) (ds : List Nat) : Nat := ds.foldl r.go s
def Row.sign (r : Row) (b n : Nat) : Nat := (r.signs[r.run 0 (digs b n)]?).getD 0
theorem Row.Ok.go {r : Row} {b s d : Nat} (o : r.Ok b) (hs : s < r.steps.length) (hd : d < b) : ∃ st, r.steps[s]? = some st ∧ st[d]? = some (r.go s d) ∧ r.go s d < r.steps.length := by
  have e1 : r.steps[s]? = some r.steps[s] := List.getElem?_eq_getElem hs
  have hw := o.wide _ (List.getElem_mem hs)
  have e2 : r.steps[s][d]? = some (r.steps[s][d]'(by omega)) := List.getElem?_eq_getElem (by omega)
  have e3 : r.go s d = r.steps[s][d]'(by omega) := by simp [Row.go, e1, e2]
  refine ⟨_, e1, by rw [e2, e3], ?_⟩
  rw [e3]
  exact o.to _ (List.getElem_mem hs) _ (List.getElem_mem _)
theorem Row.Ok.run {r : Row} {b : Nat} (o : r.Ok b) : ∀ (ds : List Nat) (s : Nat), s < r.steps.length → (∀ d ∈ ds, d < b) → r.run s ds < r.steps.length
  | [], s, hs, _ => hs
  | d :: ds, s, hs, h => by
    obtain ⟨_, _, _, h3⟩ := o.go hs (h d (by simp))
    exact Row.Ok.run o ds _ h3 fun x hx => h x (by simp [hx])
/-- the numbers of a row of values -/
def natsV : List Val → List Nat
  | [] => []
  | .int i :: r => i.toNat :: natsV r
  | _ :: r => 0 :: natsV r
theorem natsV_eq {xs : List Val} {lo hi : Int} (h0 : 0 ≤ lo) (h : ∀ x ∈ xs, betw x lo hi = true) : xs = (natsV xs).map natV := by
  induction xs with
  | nil => rfl
  | cons x xs ih =>
    obtain ⟨i, rfl⟩ := betw_int (h x (by simp))
    have := betw_le (h (.int i) (by simp))
    simp only [natsV, List.map_cons, natV]
    rw [← ih fun y hy => h y (by simp [hy]), Int.toNat_of_nonneg (by omega)]
theorem natsV_len (xs : List Val) : (natsV xs).length = xs.length := by
  induction xs with
  | nil => rfl
  | cons x xs ih => cases x <;> simp [natsV, ih]
theorem natsV_map (ns : List Nat) : natsV (ns.map natV) = ns := by
  induction ns with
  | nil => rfl
  | cons n ns ih => simp [natsV, natV, ih]
def rowOf (v : Val) : Row := match v with
  | .tup [.tup st, .tup sg] => ⟨st.map fun s => match s with
    | .tup xs => natsV xs
    | _ => [], natsV sg⟩
  | _ => ⟨[], []⟩
theorem betw_nat {n : Nat} {lo hi : Int} : betw (natV n) lo hi = (decide (lo ≤ (n : Int)) && decide ((n : Int) ≤ hi)) := rfl
theorem row_of {v : Val} {b : Nat} (hb : 2 ≤ b) (h : isRow v b = true) : v = (rowOf v).val ∧ (rowOf v).Ok b := by
  cases v <;> simp only [isRow] at h <;> first | (cases h; done) | skip
  rename_i xs
  match xs, h with
  | [x, y], h =>
    simp only at h
    cases x <;> simp only [] at h <;> first | (cases h; done) | skip
    rename_i st
    cases y <;> simp only [Bool.and_false] at h <;> first | (cases h; done) | skip
    rename_i sg
    simp only [Bool.and_eq_true, decide_eq_true_eq, List.all_eq_true] at h
    obtain ⟨⟨h1, h2⟩, ⟨h3, h4⟩, h5⟩ := h
    have hst : ∀ s ∈ st, ∃ ns : List Nat, s = .tup (ns.map natV) ∧ ns.length = b ∧ ∀ t ∈ ns, t < st.length := by
      intro s hs
      have q := h2 s hs
      cases s <;> simp only [isState] at q <;> first | (cases q; done) | skip
      rename_i ts
      simp only [Bool.and_eq_true, decide_eq_true_eq, List.all_eq_true] at q
      have e := natsV_eq (Int.le_refl 0) q.2
      refine ⟨natsV ts, by rw [← e], by rw [natsV_len]; omega, fun t ht => ?_⟩
      have : natV t ∈ ts := by rw [e]; exact List.mem_map.mpr ⟨t, ht, rfl⟩
      have := betw_le (q.2 _ this)
      omega
    have e2 := natsV_eq (Int.le_refl 0) h4
    have e1 : st = (rowOf (.tup [.tup st, .tup sg])).steps.map fun s => .tup (s.map natV) := by
      show st = (st.map _).map _
      rw [List.map_map]
      conv => lhs; rw [← List.map_id st]
      refine List.map_congr_left fun s hs => ?_
      obtain ⟨ns, rfl, _, _⟩ := hst s hs
      show Val.tup (ns.map natV) = .tup ((natsV (ns.map natV)).map natV)
      rw [natsV_map]
    refine ⟨?_, ?_⟩
    · show Val.tup [.tup st, .tup sg] = .tup [.tup _, .tup ((natsV sg).map natV)]
      rw [← e2, ← e1]
    · have hm : ∀ s ∈ (rowOf (.tup [.tup st, .tup sg])).steps, s.length = b ∧ ∀ t ∈ s, t < st.length := by
        intro s hs
        obtain ⟨v, hv, rfl⟩ := List.mem_map.mp hs
        obtain ⟨ns, rfl, h7, h8⟩ := hst v hv
        simp only [natsV_map]
        exact ⟨h7, h8⟩
      have hl : (rowOf (.tup [.tup st, .tup sg])).steps.length = st.length := by simp [rowOf]
      refine ⟨by rw [hl]; omega, by rw [hl]; omega, fun s hs => (hm s hs).1, fun s hs t ht => by rw [hl]; exact (hm s hs).2 t ht, by rw [hl]; simp [rowOf, natsV_len]; omega, fun x hx => ?_, fun k hk t ht => ?_⟩
      · have : natV x ∈ sg := by rw [e2]; exact List.mem_map.mpr ⟨x, hx, rfl⟩
        have := betw_le (h4 _ this)
        omega
      · have hk' : k < st.length := by rw [hl] at hk; exact hk
        have q := List.all_eq_true.mp h5 k (List.mem_range.mpr hk')
        obtain ⟨ns, e3, h7, h8⟩ := hst _ (List.getElem_mem hk')
        have e4 : st[k]? = some (.tup (ns.map natV)) := by rw [List.getElem?_eq_getElem hk', e3]
        have e5 : (rowOf (.tup [.tup st, .tup sg])).steps[k] = ns := by
          simp only [rowOf, List.getElem_map, e3, natsV_map]
        rw [e5] at ht
        cases ns with
        | nil => cases ht
        | cons a as =>
          have : a = t := by simpa using ht
          subst this
          show (natsV sg)[a]? = (natsV sg)[k]?
          have ha : a < (natsV sg).length := by
            rw [natsV_len]
            have := h8 a (by simp)
            omega
          have hk2 : k < (natsV sg).length := by rw [natsV_len]; omega
          unfold signAt at q
          rw [e4] at q
          rw [e2] at q
          simp only [List.getElem?_map, List.map_cons, natV, List.getElem?_eq_getElem ha, List.getElem?_eq_getElem hk2, Option.map_some, Int.toNat_natCast] at q
          rw [List.getElem?_eq_getElem ha, List.getElem?_eq_getElem hk2]
          have := (len_ne _ _).symm.trans q
          simp at this
          rw [this]
end DL

set_option autoImplicit true
set_option Elab.async false
set_option linter.all false
set_option maxRecDepth 100000
set_option maxHeartbeats 4000000
/-! Own layer, plain part 4: figures and signs, the walks. -/
namespace DL
open PySem
def sp_figures_of : Spec := fun vs S Q _ => match vs with
  | [.int b, .int n] => (2 ≤ b ∧ b ≤ 3) ∧ ∃ m : Nat, n = (m : Int) ∧ (digs b.toNat m).length < line ∧ ∀ p, S p = none → Q (.ref p) (up S p (.lst ((digs b.toNat m).map natV)))
  | _ => False
def sp_sign_of : Spec := fun vs S Q _ => match vs with
  | [.int b, r, .int n] => (2 ≤ b ∧ b ≤ 3) ∧ isRow r b = true ∧ ∃ m : Nat, n = (m : Int) ∧ (digs b.toNat m).length < line ∧ Q (natV ((rowOf r).sign b.toNat m)) S
  | _ => False
/-- a hall's base, its rows -/
def baseOf (h : Val) : Nat := match h with
  | .tup [.int b, _] => b.toNat
  | _ => 0
def rowsOf (h : Val) : List Val := match h with
  | .tup [_, .tup rows] => rows
  | _ => []
theorem hall_of {h : Val} (q : isHall h = true) : ∃ (b : Nat) (rows : List Val), h = .tup [.int b, .tup rows] ∧ (2 ≤ b ∧ b ≤ 3) ∧ rows.length ≤ 3 ∧ ∀ r ∈ rows, isRow r b = true := by
  cases h <;> simp only [isHall] at q <;> first | (cases q; done) | skip
  rename_i xs
  match xs, q with
  | [x, y], q =>
    simp only [Bool.and_eq_true] at q
    obtain ⟨q1, q2⟩ := q
    obtain ⟨i, rfl⟩ := betw_int q1
    have := betw_le q1
    obtain ⟨b, rfl⟩ := Int.eq_ofNat_of_zero_le (show 0 ≤ i by omega)
    cases y <;> simp only [] at q2 <;> first | (cases q2; done) | skip
    rename_i rows
    simp only [Bool.and_eq_true, decide_eq_true_eq, List.all_eq_true] at q2
    exact ⟨b, rows, rfl, by omega, q2.1, q2.2⟩
def sp_sign_at : Spec := fun vs S Q E => match vs with
  | [h, r, n] => kn S h = true ∧ kn S r = true ∧ kn S n = true ∧ (isHall h = false → E 1 S) ∧ (isHall h = true → (betw r 0 (rowsN h - 1) = false → E 5 S) ∧
      (betw r 0 (rowsN h - 1) = true → (∀ m : Nat, n = .int m → (digs (baseOf h) m).length < line ∧ ∀ k : Nat, r = .int k → ∀ w, (rowsOf h)[k]? = some w → Q (natV ((rowOf w).sign (baseOf h) m)) S) ∧ ((∀ m : Nat, n ≠ .int m) → E 5 S)))
  | _ => False
structure SignG (G : Cfg) (st : Str) : Prop extends HallG G st where
  f7 : G.fn 7 = some sp_figures_of
  f8 : G.fn 8 = some sp_sign_of
  f9 : G.fn 9 = some sp_sign_at
theorem up_up (S : Sto) (p : Addr) (o o2 : Ob) : up (up S p o) p o2 = up S p o2 := by
  funext a
  unfold up
  split <;> rfl
theorem up_le {S : Sto} {p : Addr} {o : Ob} (n : S p = none) : Sto.le S (up S p o) := fun a ob h => by
  unfold up
  split
  · rename_i e
    subst e
    rw [n] at h
    cases h
  · exact h
theorem w_figures_of {G : Cfg} {st : Str} (g : SignG G st) : Wk G sp_figures_of n_figures_of b_figures_of := by
  intro args S Q E h
  unfold sp_figures_of at h
  split at h <;> first | contradiction | skip
  rename_i b n
  obtain ⟨hb, m, rfl, hl, h2⟩ := h
  obtain ⟨b, rfl⟩ := Int.eq_ofNat_of_zero_le (show 0 ≤ b by omega)
  rw [Int.toNat_natCast] at h2 hl
  unfold b_figures_of
  refine step fun K hK => ?_
  simp only [n_figures_of, wSs, wS, wE, wEs, wO, wI, wC, wIf, wBin, wSub, startE_cons, startE_nil, List.replicate, getV_0, getV_s, withO_s, withB_b, bind_one, bind_two, List.set_cons_zero, List.set_cons_succ, wipeE, Nat.zero_add, atI_0, atI_1, atI_2, atI_3, see_int, see_bl, see_str, see_non, dep_int, dep_bl, dep_str, dep_non, Nat.zero_min, Nat.min_zero, Nat.zero_le, true_imp_iff, false_imp_iff, Bool.not_false, Bool.not_true, reduceCtorEq, and_true, true_and, List.length_cons, List.length_nil]
  intro p hp
  refine hK _ _ (step fun K2 hK2 => ?_)
  simp only [wSs, wS, wE, wEs, wO, wI, wC, wIf, wBin, wSub, startE_cons, startE_nil, List.replicate, getV_0, getV_s, withO_s, withB_b, bind_one, bind_two, List.set_cons_zero, List.set_cons_succ, wipeE, Nat.zero_add, atI_0, atI_1, atI_2, atI_3, see_int, see_bl, see_str, see_non, dep_int, dep_bl, dep_str, dep_non, Nat.zero_min, Nat.min_zero, Nat.zero_le, true_imp_iff, false_imp_iff, Bool.not_false, Bool.not_true, reduceCtorEq, and_true, true_and, List.length_cons, List.length_nil, wCmp]
  refine ⟨fun k e S' => ∃ (j : Nat) (done : List Nat), k = j ∧ done ++ digs b j = digs b m ∧ e = [some (.int b), some (.int j), some (.ref p)] ∧ S' = up S p (.lst (done.map natV)), ⟨m, m, [], rfl, rfl, rfl, rfl⟩, ?_⟩
  rintro k e S' ⟨j, done, rfl, hd, rfl, rfl⟩
  simp only [wSs, wS, wE, wEs, wO, wI, wC, wIf, wBin, wSub, startE_cons, startE_nil, List.replicate, getV_0, getV_s, withO_s, withB_b, bind_one, bind_two, List.set_cons_zero, List.set_cons_succ, wipeE, Nat.zero_add, atI_0, atI_1, atI_2, atI_3, see_int, see_bl, see_str, see_non, dep_int, dep_bl, dep_str, dep_non, Nat.zero_min, Nat.min_zero, Nat.zero_le, true_imp_iff, false_imp_iff, Bool.not_false, Bool.not_true, reduceCtorEq, and_true, true_and, List.length_cons, List.length_nil, wCmp, recv, wMt, up_same]
  refine ⟨fun a => ?_, fun a => hK2 _ _ ?_⟩
  · have hj : 0 < k := by
      have := of_decide_eq_true a
      omega
    rw [digs_pos (by omega) hj] at hd
    have hlen : done.length < line := by
      have := congrArg List.length hd
      simp at this
      omega
    refine ⟨by omega, by simpa using hlen, by omega, by omega, k / b, Nat.div_lt_self hj (by omega), k / b, done ++ [k % b], rfl, by simpa using hd, ?_, ?_⟩
    · simp
    · rw [up_up]
      simp [natV]
  · have hj : k = 0 := by
      have := of_decide_eq_false a
      omega
    subst hj
    rw [digs_zero, List.append_nil] at hd
    subst hd
    simp only [wSs, wS, wE, wEs, wO, wI, wC, wIf, wBin, wSub, startE_cons, startE_nil, List.replicate, getV_0, getV_s, withO_s, withB_b, bind_one, bind_two, List.set_cons_zero, List.set_cons_succ, wipeE, Nat.zero_add, atI_0, atI_1, atI_2, atI_3, see_int, see_bl, see_str, see_non, dep_int, dep_bl, dep_str, dep_non, Nat.zero_min, Nat.min_zero, Nat.zero_le, true_imp_iff, false_imp_iff, Bool.not_false, Bool.not_true, reduceCtorEq, and_true, true_and, List.length_cons, List.length_nil]
    exact rt_here (h2 p hp)
theorem w_sign_of {G : Cfg} {st : Str} (g : SignG G st) : Wk G sp_sign_of n_sign_of b_sign_of := by
  intro args S Q E h
  unfold sp_sign_of at h
  split at h <;> first | contradiction | skip
  rename_i b r n
  obtain ⟨hb, hr, m, rfl, hl, h2⟩ := h
  obtain ⟨b, rfl⟩ := Int.eq_ofNat_of_zero_le (show 0 ≤ b by omega)
  rw [Int.toNat_natCast] at h2 hl
  obtain ⟨er, ok⟩ := row_of (by omega) hr
  generalize rowOf r = R at er ok h2
  subst er
  have hdl := digs_lt (b := b) (by omega) m
  unfold b_sign_of
  refine step fun K hK => ?_
  simp only [n_sign_of, wSs, wS, wE, wEs, wO, wI, wC, wIf, wBin, wSub, startE_cons, startE_nil, List.replicate, getV_0, getV_s, withO_s, withB_b, bind_one, bind_two, List.set_cons_zero, List.set_cons_succ, wipeE, Nat.zero_add, atI_0, atI_1, atI_2, atI_3, see_int, see_bl, see_str, see_non, dep_int, dep_bl, dep_str, dep_non, Nat.zero_min, Nat.min_zero, Nat.zero_le, true_imp_iff, false_imp_iff, Bool.not_false, Bool.not_true, reduceCtorEq, and_true, true_and, List.length_cons, List.length_nil]
  refine hK _ _ (step fun K2 hK2 => ?_)
  simp only [wSs, wS, wE, wEs, wO, wI, wC, wIf, wBin, wSub, startE_cons, startE_nil, List.replicate, getV_0, getV_s, withO_s, withB_b, bind_one, bind_two, List.set_cons_zero, List.set_cons_succ, wipeE, Nat.zero_add, atI_0, atI_1, atI_2, atI_3, see_int, see_bl, see_str, see_non, dep_int, dep_bl, dep_str, dep_non, Nat.zero_min, Nat.min_zero, Nat.zero_le, true_imp_iff, false_imp_iff, Bool.not_false, Bool.not_true, reduceCtorEq, and_true, true_and, List.length_cons, List.length_nil, g.f7, sp_figures_of]
  refine ⟨hb, m, rfl, by simpa using hl, fun p hp => ?_⟩
  simp only [iterOf, up_same, wSs, wS, wE, wEs, wO, wI, wC, wIf, wBin, wSub, startE_cons, startE_nil, List.replicate, getV_0, getV_s, withO_s, withB_b, bind_one, bind_two, List.set_cons_zero, List.set_cons_succ, wipeE, Nat.zero_add, atI_0, atI_1, atI_2, atI_3, see_int, see_bl, see_str, see_non, dep_int, dep_bl, dep_str, dep_non, Nat.zero_min, Nat.min_zero, Nat.zero_le, true_imp_iff, false_imp_iff, Bool.not_false, Bool.not_true, reduceCtorEq, and_true, true_and, List.length_cons, List.length_nil, Int.toNat_natCast]
  refine for_inv (fun rest e S' => ∃ (ds : List Nat) (s : Nat) (e4 : Option Val), rest = ds.map natV ∧ s < R.steps.length ∧ (∀ d ∈ ds, d < b) ∧ R.run s ds = R.run 0 (digs b m) ∧
      e = [some (.int b), some R.val, some (.int m), some (.int s), e4] ∧ S' = up S p (.lst ((digs b m).map natV))) ?_ ?_ _ _ _ ⟨digs b m, 0, none, rfl, ok.pos, hdl, rfl, rfl, rfl⟩
  · rintro x rest e S' ⟨ds, s, e4, hr', hs, hds, hrun, rfl, rfl⟩
    cases ds with
    | nil => cases hr'
    | cons d ds =>
      cases hr'
      refine ⟨up_same, ?_⟩
      simp only [wSs, wS, wE, wEs, wO, wI, wC, wIf, wBin, wSub, startE_cons, startE_nil, List.replicate, getV_0, getV_s, withO_s, withB_b, bind_one, bind_two, List.set_cons_zero, List.set_cons_succ, wipeE, Nat.zero_add, atI_0, atI_1, atI_2, atI_3, see_int, see_bl, see_str, see_non, dep_int, dep_bl, dep_str, dep_non, Nat.zero_min, Nat.min_zero, Nat.zero_le, true_imp_iff, false_imp_iff, Bool.not_false, Bool.not_true, reduceCtorEq, and_true, true_and, List.length_cons, List.length_nil]
      intro k hk
      obtain ⟨st', e1, e2, e3⟩ := ok.go hs (hds d (by simp))
      simp only [wSs, wS, wE, wEs, wO, wI, wC, wIf, wBin, wSub, startE_cons, startE_nil, List.replicate, getV_0, getV_s, withO_s, withB_b, bind_one, bind_two, List.set_cons_zero, List.set_cons_succ, wipeE, Nat.zero_add, atI_0, atI_1, atI_2, atI_3, see_int, see_bl, see_str, see_non, dep_int, dep_bl, dep_str, dep_non, Nat.zero_min, Nat.min_zero, Nat.zero_le, true_imp_iff, false_imp_iff, Bool.not_false, Bool.not_true, reduceCtorEq, and_true, true_and, List.length_cons, List.length_nil, Row.val, natV, atI_nat, List.getElem?_map, e1, e2, Option.map_some]
      refine hk _ _ ⟨ds, R.go s d, some (natV d), rfl, e3, fun x hx => hds x (by simp [hx]), hrun, rfl, rfl⟩
  · rintro e S' ⟨ds, s, e4, hr', hs, hds, hrun, rfl, rfl⟩
    refine ⟨up_same, hK2 _ _ ?_⟩
    cases ds with
    | cons d ds => cases hr'
    | nil =>
      have hs' : s = R.run 0 (digs b m) := hrun
      obtain ⟨i, e5⟩ : ∃ i, R.signs[s]? = some i := ⟨_, List.getElem?_eq_getElem (by rw [ok.sg]; exact hs)⟩
      have e6 : R.sign b m = i := by
        unfold Row.sign
        rw [← hs', e5]
        rfl
      rw [e6] at h2
      simp only [wSs, wS, wE, wEs, wO, wI, wC, wIf, wBin, wSub, startE_cons, startE_nil, List.replicate, getV_0, getV_s, withO_s, withB_b, bind_one, bind_two, List.set_cons_zero, List.set_cons_succ, wipeE, Nat.zero_add, atI_0, atI_1, atI_2, atI_3, see_int, see_bl, see_str, see_non, dep_int, dep_bl, dep_str, dep_non, Nat.zero_min, Nat.min_zero, Nat.zero_le, true_imp_iff, false_imp_iff, Bool.not_false, Bool.not_true, reduceCtorEq, and_true, true_and, List.length_cons, List.length_nil, Row.val, atI_nat, List.getElem?_map, e5, Option.map_some]
      exact ⟨S, up_le hp, h2⟩
theorem w_sign_at {G : Cfg} {st : Str} (g : SignG G st) : Wk G sp_sign_at n_sign_at b_sign_at := by
  intro args S Q E h
  unfold sp_sign_at at h
  split at h <;> first | contradiction | skip
  rename_i hl r n
  obtain ⟨h1, h2, h3, h4, h5⟩ := h
  unfold b_sign_at
  refine step fun K hK => ?_
  simp only [n_sign_at, wSs, wS, wE, wEs, wO, wI, wC, wIf, wBin, wSub, startE_cons, startE_nil, List.replicate, getV_0, getV_s, withO_s, withB_b, bind_one, bind_two, List.set_cons_zero, List.set_cons_succ, wipeE, Nat.zero_add, atI_0, atI_1, atI_2, atI_3, see_int, see_bl, see_str, see_non, dep_int, dep_bl, dep_str, dep_non, Nat.zero_min, Nat.min_zero, Nat.zero_le, true_imp_iff, false_imp_iff, Bool.not_false, Bool.not_true, reduceCtorEq, and_true, true_and, List.length_cons, List.length_nil, g.f6, sp_need_row]
  refine ⟨h1, h2, fun a => ⟨fun b => hK _ _ (step fun K2 hK2 => ?_), fun b => ex_here ((h5 a).1 b)⟩, fun a => ex_here (h4 a)⟩
  obtain ⟨hh1, hh2⟩ := (h5 a).2 b
  simp only [wSs, wS, wE, wEs, wO, wI, wC, wIf, wBin, wSub, startE_cons, startE_nil, List.replicate, getV_0, getV_s, withO_s, withB_b, bind_one, bind_two, List.set_cons_zero, List.set_cons_succ, wipeE, Nat.zero_add, atI_0, atI_1, atI_2, atI_3, see_int, see_bl, see_str, see_non, dep_int, dep_bl, dep_str, dep_non, Nat.zero_min, Nat.min_zero, Nat.zero_le, true_imp_iff, false_imp_iff, Bool.not_false, Bool.not_true, reduceCtorEq, and_true, true_and, List.length_cons, List.length_nil, g.f0, sp_is_whole, wCmp]
  refine ⟨kn_tyKnown h3, fun c => ?_, fun c => ?_⟩
  · refine ex_here (hh2 fun m e => ?_)
    rw [e] at c
    simp [isWhole] at c
  · cases n <;> simp [isWhole] at c
    rename_i n
    simp only [wSs, wS, wE, wEs, wO, wI, wC, wIf, wBin, wSub, startE_cons, startE_nil, List.replicate, getV_0, getV_s, withO_s, withB_b, bind_one, bind_two, List.set_cons_zero, List.set_cons_succ, wipeE, Nat.zero_add, atI_0, atI_1, atI_2, atI_3, see_int, see_bl, see_str, see_non, dep_int, dep_bl, dep_str, dep_non, Nat.zero_min, Nat.min_zero, Nat.zero_le, true_imp_iff, false_imp_iff, Bool.not_false, Bool.not_true, reduceCtorEq, and_true, true_and, List.length_cons, List.length_nil]
    refine ⟨fun d => ex_here (hh2 fun m e => ?_), fun d => hK2 _ _ ?_⟩
    · cases e
      have := of_decide_eq_true d
      omega
    · have d := of_decide_eq_false d
      obtain ⟨m, rfl⟩ := Int.eq_ofNat_of_zero_le (show 0 ≤ n by omega)
      obtain ⟨bb, rows, rfl, hb, hrl, hrow⟩ := hall_of a
      obtain ⟨i, rfl⟩ := betw_int b
      have hi := betw_le b
      obtain ⟨k, rfl⟩ := Int.eq_ofNat_of_zero_le hi.1
      have hk : k < rows.length := by
        have := hi.2
        simp only [rowsN] at this
        omega
      have e1 : rows[k]? = some rows[k] := List.getElem?_eq_getElem hk
      obtain ⟨q1, q2⟩ := hh1 m rfl
      have q3 := q2 k rfl rows[k] e1
      simp only [wSs, wS, wE, wEs, wO, wI, wC, wIf, wBin, wSub, startE_cons, startE_nil, List.replicate, getV_0, getV_s, withO_s, withB_b, bind_one, bind_two, List.set_cons_zero, List.set_cons_succ, wipeE, Nat.zero_add, atI_0, atI_1, atI_2, atI_3, see_int, see_bl, see_str, see_non, dep_int, dep_bl, dep_str, dep_non, Nat.zero_min, Nat.min_zero, Nat.zero_le, true_imp_iff, false_imp_iff, Bool.not_false, Bool.not_true, reduceCtorEq, and_true, true_and, List.length_cons, List.length_nil, atI_nat, e1, g.f8, sp_sign_of]
      refine ⟨by omega, hrow _ (List.getElem_mem hk), m, rfl, by simpa [baseOf] using q1, rt_here ?_⟩
      simpa [baseOf] using q3
end DL

set_option autoImplicit true
set_option Elab.async false
set_option linter.all false
set_option maxRecDepth 100000
set_option maxHeartbeats 4000000
/-! Own layer, plain part 5: what the laws draw. -/
namespace DL
open PySem
def n__law_cell_at : List Str := ["_law_script", "_law_k"]
def b__law_cell_at : Sms :=
  (.cons (.ite (.cmp .lt (.var 1) (.blt .len (.cons (.var 0) .nil)))
    (.cons (.ret (.sub (.var 0) (.var 1)))
      .nil)
    .nil)
  (.cons (.ite (.drop (.cmp .eq (.var 0) (.lst .nil)))
    (.cons (.ret (.int 0))
      .nil)
    .nil)
  (.cons (.ret (.bin .add (.bin .mul (.sub (.var 0) (.bin .mod (.var 1) (.blt .len (.cons (.var 0) .nil)))) (.int 31)) (.var 1)))
  .nil)))

def n__law_mixed : List Str := ["_law_script", "_law_k", "_law_many", "_law_drawn"]
def b__law_mixed : Sms :=
  (.cons (.asg 3 (.bin .mod (.bin .mul (.bin .add (.bin .add (.call 100 (.cons (.var 0) (.cons (.var 1) .nil))) (.bin .mul (.int 7919) (.var 1))) (.int 1)) (.int 48271)) (.int 2147483647)))
  (.cons (.ret (.bin .mod (.bin .mod (.bin .add (.bin .add (.bin .mul (.var 3) (.var 3)) (.bin .mul (.int 7) (.var 3))) (.var 1)) (.int 2147483629)) (.var 2)))
  .nil))

def n__law_next : List Str := ["_law_script", "_law_m", "_law_many"]
def b__law_next : Sms :=
  (.cons (.setI (.var 1) (.int 0) (.bin .add (.sub (.var 1) (.int 0)) (.int 1)))
  (.cons (.ret (.call 101 (.cons (.var 0) (.cons (.sub (.var 1) (.int 0)) (.cons (.var 2) .nil)))))
  .nil))

def n__law_row : List Str := ["_law_script", "_law_m", "_law_base", "_law_most", "_law_many", "_law_k", "_law_signs", "_law_steps", "_law_to", "_law_same", "_law_state", "_law_figure"]
def b__law_row : Sms :=
  (.cons (.asg 4 (.bin .add (.int 1) (.call 102 (.cons (.var 0) (.cons (.var 1) (.cons (.var 3) .nil))))))
  (.cons (.asg 6 (.bltc .tuple (.mk (.one 5) [5] (.call 102 (.cons (.var 0) (.cons (.var 1) (.cons (.int 3) .nil)))) (.rng (.cons (.var 4) .nil)) .none)))
  (.cons (.asg 7 (.lst .nil))
  (.cons (.for (.one 5) (.rng (.cons (.var 4) .nil))
    (.cons (.asg 9 (.comp (.mk (.one 8) [8] (.var 8) (.rng (.cons (.var 4) .nil)) (.some (.cmp .eq (.sub (.var 6) (.var 8)) (.sub (.var 6) (.var 5)))))))
      (.cons (.asg 10 (.lst (.cons (.sub (.var 9) (.call 102 (.cons (.var 0) (.cons (.var 1) (.cons (.blt .len (.cons (.var 9) .nil)) .nil))))) .nil)))
      (.cons (.for (.one 11) (.rng (.cons (.int 1) (.cons (.var 2) .nil)))
        (.cons (.expr (.meth (.var 10) .append (.cons (.call 102 (.cons (.var 0) (.cons (.var 1) (.cons (.var 4) .nil)))) .nil)))
          .nil))
      (.cons (.expr (.meth (.var 7) .append (.cons (.blt .tuple (.cons (.var 10) .nil)) .nil)))
      .nil)))))
  (.cons (.ret (.tup (.cons (.blt .tuple (.cons (.var 7) .nil)) (.cons (.var 6) .nil))))
  .nil)))))

def n__law_hall : List Str := ["_law_script", "_law_m", "_law_most", "_law_base", "_law_k", "_law_rows"]
def b__law_hall : Sms :=
  (.cons (.asg 3 (.bin .add (.int 2) (.bin .fdiv (.call 102 (.cons (.var 0) (.cons (.var 1) (.cons (.int 4) .nil)))) (.int 3))))
  (.cons (.asg 5 (.comp (.mk (.one 4) [4] (.call 103 (.cons (.var 0) (.cons (.var 1) (.cons (.var 3) (.cons (.var 2) .nil))))) (.rng (.cons (.bin .add (.int 1) (.call 102 (.cons (.var 0) (.cons (.var 1) (.cons (.int 2) .nil))))) .nil)) .none)))
  (.cons (.ret (.tup (.cons (.var 3) (.cons (.blt .tuple (.cons (.var 5) .nil)) .nil))))
  .nil)))

def cellAt (ns : List Int) (k : Nat) : Int := if k < ns.length then (ns[k]?).getD 0 else if ns = [] then 0 else (ns[k % ns.length]?).getD 0 * 31 + k
def drawn (ns : List Int) (k : Nat) : Int := (cellAt ns k + 7919 * k + 1) * 48271 % 2147483647
def mixed (ns : List Int) (k : Nat) (many : Int) : Int := (drawn ns k * drawn ns k + 7 * drawn ns k + k) % 2147483629 % many
theorem mixed_in {ns : List Int} {k : Nat} {many : Int} (h : 0 < many) : 0 ≤ mixed ns k many ∧ mixed ns k many < many := ⟨Int.emod_nonneg _ (by omega), Int.emod_lt_of_pos _ h⟩
theorem drawn_in (ns : List Int) (k : Nat) : 0 ≤ drawn ns k ∧ drawn ns k < 2147483647 := ⟨Int.emod_nonneg _ (by decide), Int.emod_lt_of_pos _ (by decide)⟩
def sp_cell_at : Spec := fun vs S Q _ => match vs with
  | [.lst sc, .int k] => ∃ (ns : List Int) (m : Nat), k = m ∧ sc = ns.map .int ∧ Q (.int (cellAt ns m)) S
  | _ => False
def sp_mixed : Spec := fun vs S Q _ => match vs with
  | [.lst sc, .int k, .int many] => ∃ (ns : List Int) (m : Nat), k = m ∧ sc = ns.map .int ∧ 0 < many ∧ Q (.int (mixed ns m many)) S
  | _ => False
def sp_next : Spec := fun vs S Q _ => match vs with
  | [.lst sc, .ref b, .int many] => ∃ (ns : List Int) (m : Nat), sc = ns.map .int ∧ S b = some (.lst [.int m]) ∧ 0 < many ∧ ∀ r : Int, 0 ≤ r → r < many → Q (.int r) (up S b (.lst [.int (m + 1 : Nat)]))
  | _ => False
structure DrawG (G : Cfg) : Prop where
  f100 : G.fn 100 = some sp_cell_at
  f101 : G.fn 101 = some sp_mixed
  f102 : G.fn 102 = some sp_next
theorem ints_at (ns : List Int) (k : Nat) (h : k < ns.length) : (ns.map Val.int)[k]? = some (.int ((ns[k]?).getD 0)) := by
  rw [List.getElem?_map, List.getElem?_eq_getElem h]
  rfl
theorem w_cell_at {G : Cfg} : Wk G sp_cell_at n__law_cell_at b__law_cell_at := by
  intro args S Q E h
  unfold sp_cell_at at h
  split at h <;> first | contradiction | skip
  rename_i sc k
  obtain ⟨ns, m, rfl, rfl, h2⟩ := h
  unfold b__law_cell_at
  refine step fun K hK => ?_
  simp only [n__law_cell_at, wSs, wS, wE, wEs, wO, wI, wC, wIf, wBin, wSub, startE_cons, startE_nil, List.replicate, getV_0, getV_s, withO_s, withB_b, bind_one, bind_two, List.set_cons_zero, List.set_cons_succ, wipeE, Nat.zero_add, atI_0, atI_1, atI_2, atI_3, see_int, see_bl, see_str, see_non, dep_int, dep_bl, dep_str, dep_non, Nat.zero_min, Nat.min_zero, Nat.zero_le, true_imp_iff, false_imp_iff, Bool.not_false, Bool.not_true, reduceCtorEq, and_true, true_and, List.length_cons, List.length_nil, wBt, wCmp, List.length_map]
  refine ⟨fun c => ?_, fun c => hK _ _ (step fun K2 hK2 => ?_)⟩
  · have hk : m < ns.length := by
      have := of_decide_eq_true c
      omega
    rw [atI_nat, ints_at ns m hk]
    simp only [wSs, wS, wE, wEs, wO, wI, wC, wIf, wBin, wSub, startE_cons, startE_nil, List.replicate, getV_0, getV_s, withO_s, withB_b, bind_one, bind_two, List.set_cons_zero, List.set_cons_succ, wipeE, Nat.zero_add, atI_0, atI_1, atI_2, atI_3, see_int, see_bl, see_str, see_non, dep_int, dep_bl, dep_str, dep_non, Nat.zero_min, Nat.min_zero, Nat.zero_le, true_imp_iff, false_imp_iff, Bool.not_false, Bool.not_true, reduceCtorEq, and_true, true_and, List.length_cons, List.length_nil]
    refine rt_here ?_
    have : cellAt ns m = (ns[m]?).getD 0 := if_pos hk
    rw [this] at h2
    exact h2
  · have hk : ¬ m < ns.length := by
      have := of_decide_eq_false c
      omega
    simp only [wSs, wS, wE, wEs, wO, wI, wC, wIf, wBin, wSub, startE_cons, startE_nil, List.replicate, getV_0, getV_s, withO_s, withB_b, bind_one, bind_two, List.set_cons_zero, List.set_cons_succ, wipeE, Nat.zero_add, atI_0, atI_1, atI_2, atI_3, see_int, see_bl, see_str, see_non, dep_int, dep_bl, dep_str, dep_non, Nat.zero_min, Nat.min_zero, Nat.zero_le, true_imp_iff, false_imp_iff, Bool.not_false, Bool.not_true, reduceCtorEq, and_true, true_and, List.length_cons, List.length_nil, wCmp]
    intro p hp
    have e2 : (up S p (.lst [])).see 3 (.ref p) = some (.lst []) := veq_int_list (ns := []) up_same
    have ek : ∀ b : Bool, keep S (up S p (.lst [])) (.bl b) = S := fun b => by rw [keep_up (by simp) hp, keep_self S (by simp)]
    simp only [see_ints, e2, wSs, wS, wE, wEs, wO, wI, wC, wIf, wBin, wSub, startE_cons, startE_nil, List.replicate, getV_0, getV_s, withO_s, withB_b, bind_one, bind_two, List.set_cons_zero, List.set_cons_succ, wipeE, Nat.zero_add, atI_0, atI_1, atI_2, atI_3, see_int, see_bl, see_str, see_non, dep_int, dep_bl, dep_str, dep_non, Nat.zero_min, Nat.min_zero, Nat.zero_le, true_imp_iff, false_imp_iff, Bool.not_false, Bool.not_true, reduceCtorEq, and_true, true_and, List.length_cons, List.length_nil, Val.dep, Val.deps, ek]
    refine ⟨by omega, fun d => ?_, fun d => ?_⟩
    · cases ns with
      | cons i ns => simp [Val.veq, Val.py, Val.pys, PyData.eqv, PyData.eqvAll] at d
      | nil => exact rt_here (by simpa [cellAt] using h2)
    · have hne : ns ≠ [] := by
        intro z
        subst z
        simp [Val.veq, Val.py, Val.pys, PyData.eqv, PyData.eqvAll] at d
      have hl : 0 < ns.length := List.length_pos_iff.mpr hne
      refine hK2 _ _ ?_
      simp only [wSs, wS, wE, wEs, wO, wI, wC, wIf, wBin, wSub, startE_cons, startE_nil, List.replicate, getV_0, getV_s, withO_s, withB_b, bind_one, bind_two, List.set_cons_zero, List.set_cons_succ, wipeE, Nat.zero_add, atI_0, atI_1, atI_2, atI_3, see_int, see_bl, see_str, see_non, dep_int, dep_bl, dep_str, dep_non, Nat.zero_min, Nat.min_zero, Nat.zero_le, true_imp_iff, false_imp_iff, Bool.not_false, Bool.not_true, reduceCtorEq, and_true, true_and, List.length_cons, List.length_nil, wBt, List.length_map]
      have e3 : (m : Int) % (ns.length : Int) = ((m % ns.length : Nat) : Int) := by omega
      refine ⟨by omega, ?_⟩
      rw [e3, atI_nat, ints_at ns _ (Nat.mod_lt _ hl)]
      simp only [wSs, wS, wE, wEs, wO, wI, wC, wIf, wBin, wSub, startE_cons, startE_nil, List.replicate, getV_0, getV_s, withO_s, withB_b, bind_one, bind_two, List.set_cons_zero, List.set_cons_succ, wipeE, Nat.zero_add, atI_0, atI_1, atI_2, atI_3, see_int, see_bl, see_str, see_non, dep_int, dep_bl, dep_str, dep_non, Nat.zero_min, Nat.min_zero, Nat.zero_le, true_imp_iff, false_imp_iff, Bool.not_false, Bool.not_true, reduceCtorEq, and_true, true_and, List.length_cons, List.length_nil]
      refine ⟨.inl (.inr (by omega)), rt_here ?_⟩
      have : cellAt ns m = (ns[m % ns.length]?).getD 0 * 31 + m := by
        unfold cellAt
        rw [if_neg hk, if_neg hne]
      rw [this] at h2
      exact h2
theorem w_mixed {G : Cfg} (g : DrawG G) : Wk G sp_mixed n__law_mixed b__law_mixed := by
  intro args S Q E h
  unfold sp_mixed at h
  split at h <;> first | contradiction | skip
  rename_i sc k many
  obtain ⟨ns, m, rfl, rfl, hm, h2⟩ := h
  unfold b__law_mixed
  refine step fun K hK => ?_
  simp only [n__law_mixed, wSs, wS, wE, wEs, wO, wI, wC, wIf, wBin, wSub, startE_cons, startE_nil, List.replicate, getV_0, getV_s, withO_s, withB_b, bind_one, bind_two, List.set_cons_zero, List.set_cons_succ, wipeE, Nat.zero_add, atI_0, atI_1, atI_2, atI_3, see_int, see_bl, see_str, see_non, dep_int, dep_bl, dep_str, dep_non, Nat.zero_min, Nat.min_zero, Nat.zero_le, true_imp_iff, false_imp_iff, Bool.not_false, Bool.not_true, reduceCtorEq, and_true, true_and, List.length_cons, List.length_nil, g.f100, sp_cell_at]
  refine ⟨ns, m, rfl, rfl, .inl (.inl (by omega)), .inl (.inr (by omega)), by omega, hK _ _ ?_⟩
  have hd := drawn_in ns m
  unfold drawn at hd
  simp only [wSs, wS, wE, wEs, wO, wI, wC, wIf, wBin, wSub, startE_cons, startE_nil, List.replicate, getV_0, getV_s, withO_s, withB_b, bind_one, bind_two, List.set_cons_zero, List.set_cons_succ, wipeE, Nat.zero_add, atI_0, atI_1, atI_2, atI_3, see_int, see_bl, see_str, see_non, dep_int, dep_bl, dep_str, dep_non, Nat.zero_min, Nat.min_zero, Nat.zero_le, true_imp_iff, false_imp_iff, Bool.not_false, Bool.not_true, reduceCtorEq, and_true, true_and, List.length_cons, List.length_nil]
  refine ⟨.inl (.inl (by omega)), .inl (.inl (by omega)), by omega, hm, rt_here h2⟩
theorem w_next {G : Cfg} (g : DrawG G) : Wk G sp_next n__law_next b__law_next := by
  intro args S Q E h
  unfold sp_next at h
  split at h <;> first | contradiction | skip
  rename_i sc b many
  obtain ⟨ns, m, rfl, hb, hm, h2⟩ := h
  unfold b__law_next
  refine step fun K hK => ?_
  have e : L2.ixN 1 0 = some 0 := by decide
  simp only [n__law_next, wSs, wS, wE, wEs, wO, wI, wC, wIf, wBin, wSub, startE_cons, startE_nil, List.replicate, getV_0, getV_s, withO_s, withB_b, bind_one, bind_two, List.set_cons_zero, List.set_cons_succ, wipeE, Nat.zero_add, atI_0, atI_1, atI_2, atI_3, see_int, see_bl, see_str, see_non, dep_int, dep_bl, dep_str, dep_non, Nat.zero_min, Nat.min_zero, Nat.zero_le, true_imp_iff, false_imp_iff, Bool.not_false, Bool.not_true, reduceCtorEq, and_true, true_and, List.length_cons, List.length_nil, hb, wSetI, e]
  refine hK _ _ ?_
  simp only [wSs, wS, wE, wEs, wO, wI, wC, wIf, wBin, wSub, startE_cons, startE_nil, List.replicate, getV_0, getV_s, withO_s, withB_b, bind_one, bind_two, List.set_cons_zero, List.set_cons_succ, wipeE, Nat.zero_add, atI_0, atI_1, atI_2, atI_3, see_int, see_bl, see_str, see_non, dep_int, dep_bl, dep_str, dep_non, Nat.zero_min, Nat.min_zero, Nat.zero_le, true_imp_iff, false_imp_iff, Bool.not_false, Bool.not_true, reduceCtorEq, and_true, true_and, List.length_cons, List.length_nil, up_same, List.set_cons_zero, g.f101, sp_mixed]
  refine ⟨ns, m + 1, by omega, rfl, hm, rt_here ?_⟩
  have := mixed_in (ns := ns) (k := m + 1) hm
  exact h2 _ this.1 this.2
end DL

set_option autoImplicit true
set_option Elab.async false
set_option linter.all false
set_option maxRecDepth 100000
set_option maxHeartbeats 4000000
/-! Own layer, plain part 6: drawn rows and halls. -/
namespace DL
open PySem
theorem rangeL_nat (n : Nat) : rangeL 0 n 1 = (List.range' 0 n).map natV := by
  unfold rangeL natV
  rw [List.range_eq_range']
  refine List.map_congr_left fun k _ => ?_
  simp
theorem rangeL_from (lo n : Nat) : rangeL lo n 1 = (List.range' lo n).map natV := by
  unfold rangeL natV
  rw [List.range_eq_range', show List.range' lo n = (List.range' 0 n).map (lo + ·) by rw [List.map_add_range']; simp, List.map_map]
  refine List.map_congr_left fun k _ => ?_
  simp
def sp_row : Spec := fun vs S Q _ => match vs with
  | [.lst sc, .ref b, .int base, .int most] => ∃ (ns : List Int) (m : Nat), sc = ns.map .int ∧ S b = some (.lst [.int m]) ∧ (2 ≤ base ∧ base ≤ 3) ∧ (1 ≤ most ∧ most ≤ 8) ∧
      ∀ (R : Row) (j : Nat), R.Ok base.toNat → (R.steps.length : Int) ≤ most → Q R.val (up S b (.lst [.int j]))
  | _ => False
def sp_hall : Spec := fun vs S Q _ => match vs with
  | [.lst sc, .ref b, .int most] => ∃ (ns : List Int) (m : Nat), sc = ns.map .int ∧ S b = some (.lst [.int m]) ∧ (1 ≤ most ∧ most ≤ 8) ∧
      ∀ (base : Nat) (Rs : List Row) (j : Nat), (2 ≤ base ∧ base ≤ 3) → (1 ≤ Rs.length ∧ Rs.length ≤ 2) → (∀ R ∈ Rs, R.Ok base ∧ (R.steps.length : Int) ≤ most) → Q (.tup [.int base, .tup (Rs.map Row.val)]) (up S b (.lst [.int j]))
  | _ => False
structure DrawH (G : Cfg) : Prop extends DrawG G where
  f103 : G.fn 103 = some sp_row
  f104 : G.fn 104 = some sp_hall
theorem w_row {G : Cfg} (g : DrawH G) : Wk G sp_row n__law_row b__law_row := by
  intro args S Q E h
  unfold sp_row at h
  split at h <;> first | contradiction | skip
  rename_i sc b base most
  obtain ⟨ns, m, rfl, hb, hbase, hmost, h2⟩ := h
  obtain ⟨base, rfl⟩ := Int.eq_ofNat_of_zero_le (show 0 ≤ base by omega)
  rw [Int.toNat_natCast] at h2
  unfold b__law_row
  refine step fun K hK => ?_
  simp only [n__law_row, wSs, wS, wE, wEs, wO, wI, wC, wIf, wBin, wSub, startE_cons, startE_nil, List.replicate, getV_0, getV_s, withO_s, withB_b, bind_one, bind_two, List.set_cons_zero, List.set_cons_succ, wipeE, Nat.zero_add, atI_0, atI_1, atI_2, atI_3, see_int, see_bl, see_str, see_non, dep_int, dep_bl, dep_str, dep_non, Nat.zero_min, Nat.min_zero, Nat.zero_le, true_imp_iff, false_imp_iff, Bool.not_false, Bool.not_true, reduceCtorEq, and_true, true_and, List.length_cons, List.length_nil, g.f102, sp_next]
  refine ⟨ns, m, rfl, hb, by omega, fun r r0 r1 => hK _ _ (step fun K2 hK2 => ?_)⟩
  obtain ⟨r, rfl⟩ := Int.eq_ofNat_of_zero_le r0
  have hmany : (1 : Int) + (r : Int) = ((r + 1 : Nat) : Int) := by omega
  rw [hmany]
  generalize hM : r + 1 = many
  have hmany1 : 1 ≤ many ∧ (many : Int) ≤ most := by omega
  simp only [wSs, wS, wE, wEs, wO, wI, wC, wIf, wBin, wSub, startE_cons, startE_nil, List.replicate, getV_0, getV_s, withO_s, withB_b, bind_one, bind_two, List.set_cons_zero, List.set_cons_succ, wipeE, Nat.zero_add, atI_0, atI_1, atI_2, atI_3, see_int, see_bl, see_str, see_non, dep_int, dep_bl, dep_str, dep_non, Nat.zero_min, Nat.min_zero, Nat.zero_le, true_imp_iff, false_imp_iff, Bool.not_false, Bool.not_true, reduceCtorEq, and_true, true_and, List.length_cons, List.length_nil, g.f102, sp_next, wRng]
  refine ⟨by omega, by omega, ?_⟩
  rw [Int.toNat_natCast, rangeL_nat]
  refine turns_inv (fun rest acc S' => ∃ (sg : List Nat) (j : Nat), acc = sg.map natV ∧ (∀ x ∈ sg, x ≤ 2) ∧ sg.length + rest.length = many ∧ S' = up S b (.lst [.int j])) ?_ ?_ _ _ _ ⟨[], m + 1, rfl, by simp, by simp, rfl⟩
  · rintro x rest acc S' ⟨sg, j, rfl, h3, h4, rfl⟩
    refine ⟨trivial, fun k hk => ?_⟩
    refine ⟨ns, j, rfl, up_same, by omega, fun z z0 z1 => ?_⟩
    obtain ⟨z, rfl⟩ := Int.eq_ofNat_of_zero_le z0
    rw [up_up]
    refine hk _ _ ⟨sg ++ [z], j + 1, by simp [natV], fun x hx => ?_, by simp at h4 ⊢; omega, rfl⟩
    rcases List.mem_append.mp hx with q | q
    · exact h3 x q
    · simp at q
      omega
  rintro acc S' ⟨sg, j, rfl, h3, h4, rfl⟩
  refine ⟨trivial, ?_⟩
  simp only [wBtL]
  refine hK2 _ _ (step fun K3 hK3 => ?_)
  have h4 : sg.length = many := by simpa using h4
  simp only [wSs, wS, wE, wEs, wO, wI, wC, wIf, wBin, wSub, startE_cons, startE_nil, List.replicate, getV_0, getV_s, withO_s, withB_b, bind_one, bind_two, List.set_cons_zero, List.set_cons_succ, wipeE, Nat.zero_add, atI_0, atI_1, atI_2, atI_3, see_int, see_bl, see_str, see_non, dep_int, dep_bl, dep_str, dep_non, Nat.zero_min, Nat.min_zero, Nat.zero_le, true_imp_iff, false_imp_iff, Bool.not_false, Bool.not_true, reduceCtorEq, and_true, true_and, List.length_cons, List.length_nil]
  intro p hp
  have hpb : b ≠ p := fun z => by rw [← z, DL.up_same] at hp; cases hp
  have hSp : S p = none := by rw [up_get (Ne.symm hpb)] at hp; exact hp
  refine hK3 _ _ (step fun K4 hK4 => for_step fun B hB => ?_)
  simp only [wSs, wS, wE, wEs, wO, wI, wC, wIf, wBin, wSub, startE_cons, startE_nil, List.replicate, getV_0, getV_s, withO_s, withB_b, bind_one, bind_two, List.set_cons_zero, List.set_cons_succ, wipeE, Nat.zero_add, atI_0, atI_1, atI_2, atI_3, see_int, see_bl, see_str, see_non, dep_int, dep_bl, dep_str, dep_non, Nat.zero_min, Nat.min_zero, Nat.zero_le, true_imp_iff, false_imp_iff, Bool.not_false, Bool.not_true, reduceCtorEq, and_true, true_and, List.length_cons, List.length_nil, wRng]
  refine ⟨by omega, by omega, ?_⟩
  rw [Int.toNat_natCast, rangeL_nat]
  -- what holds of the steps so far
  refine for_inv (fun rest e S' => ∃ (k0 c j : Nat) (st : List (List Nat)) (v5 v8 v9 v10 v11 : Option Val), rest = (List.range' k0 c).map natV ∧ k0 + c = many ∧ st.length = k0 ∧
      (∀ s ∈ st, s.length = base ∧ ∀ t ∈ s, t < many) ∧ (∀ k (h : k < st.length), ∀ t, st[k].head? = some t → sg[t]? = sg[k]?) ∧
      Sto.le (up S b (.lst [.int j])) S' ∧ S' p = some (.lst (st.map fun s => .tup (s.map natV))) ∧
      e = [some (.lst (ns.map .int)), some (.ref b), some (.int base), some (.int most), some (.int many), v5, some (.tup (sg.map natV)), some (.ref p), v8, v9, v10, v11]) ?_ ?_ _ _ _
    ⟨0, many, j, [], none, none, none, none, none, rfl, by omega, rfl, by simp, by simp, up_le hp, DL.up_same, rfl⟩
  · rintro x rest e S' ⟨k0, c, j, st, v5, v8, v9, v10, v11, hr, hc, hl, h5, h6, le, hp', rfl⟩
    refine ⟨trivial, ?_⟩
    cases c with
    | zero => simp at hr
    | succ c =>
      rw [List.range'_succ, List.map_cons] at hr
      cases hr
      simp only [bind_one, bind_two, withO_s, List.set_cons_zero, List.set_cons_succ]
      intro k hk
      refine hB _ _ _ (step fun K5 hK5 => ?_)
      simp only [wSs, wS, wE, wEs, wO, wI, wC, wIf, wBin, wSub, startE_cons, startE_nil, List.replicate, getV_0, getV_s, withO_s, withB_b, bind_one, bind_two, List.set_cons_zero, List.set_cons_succ, wipeE, Nat.zero_add, atI_0, atI_1, atI_2, atI_3, see_int, see_bl, see_str, see_non, dep_int, dep_bl, dep_str, dep_non, Nat.zero_min, Nat.min_zero, Nat.zero_le, true_imp_iff, false_imp_iff, Bool.not_false, Bool.not_true, reduceCtorEq, and_true, true_and, List.length_cons, List.length_nil, wRng]
      refine ⟨by omega, by omega, ?_⟩
      rw [Int.toNat_natCast, rangeL_nat]
      have hk0 : k0 < many := by omega
      have e1 : sg[k0]? = some (sg[k0]'(by omega)) := List.getElem?_eq_getElem (by omega)
      refine turns_fil (fun x => match x with
        | .int t => if sg[t.toNat]? = sg[k0]? then some x else none
        | _ => none) trivial (fun x hx k hk => ?_) ?_
      · obtain ⟨t, ht, rfl⟩ := List.mem_map.mp hx
        have ht : t < many := by simpa using ht
        have e2 : sg[t]? = some (sg[t]'(by omega)) := List.getElem?_eq_getElem (by omega)
        simp only [natV, wSs, wS, wE, wEs, wO, wI, wC, wIf, wBin, wSub, startE_cons, startE_nil, List.replicate, getV_0, getV_s, withO_s, withB_b, bind_one, bind_two, List.set_cons_zero, List.set_cons_succ, wipeE, Nat.zero_add, atI_0, atI_1, atI_2, atI_3, see_int, see_bl, see_str, see_non, dep_int, dep_bl, dep_str, dep_non, Nat.zero_min, Nat.min_zero, Nat.zero_le, true_imp_iff, false_imp_iff, Bool.not_false, Bool.not_true, reduceCtorEq, and_true, true_and, List.length_cons, List.length_nil, atI_nat, List.getElem?_map, e1, e2, Option.map_some, wCmp, int_eq] at hk ⊢
        by_cases q : sg[t]'(by omega) = sg[k0]'(by omega)
        · have q' : ((sg[t]'(by omega) : Nat) : Int) = ((sg[k0]'(by omega) : Nat) : Int) := by omega
          simp only [q', decide_true, wSs, wS, wE, wEs, wO, wI, wC, wIf, wBin, wSub, startE_cons, startE_nil, List.replicate, getV_0, getV_s, withO_s, withB_b, bind_one, bind_two, List.set_cons_zero, List.set_cons_succ, wipeE, Nat.zero_add, atI_0, atI_1, atI_2, atI_3, see_int, see_bl, see_str, see_non, dep_int, dep_bl, dep_str, dep_non, Nat.zero_min, Nat.min_zero, Nat.zero_le, true_imp_iff, false_imp_iff, Bool.not_false, Bool.not_true, reduceCtorEq, and_true, true_and, List.length_cons, List.length_nil]
          simpa [e1, e2, q] using hk
        · have q' : ¬ ((sg[t]'(by omega) : Nat) : Int) = ((sg[k0]'(by omega) : Nat) : Int) := by omega
          simp only [q', decide_false, wSs, wS, wE, wEs, wO, wI, wC, wIf, wBin, wSub, startE_cons, startE_nil, List.replicate, getV_0, getV_s, withO_s, withB_b, bind_one, bind_two, List.set_cons_zero, List.set_cons_succ, wipeE, Nat.zero_add, atI_0, atI_1, atI_2, atI_3, see_int, see_bl, see_str, see_non, dep_int, dep_bl, dep_str, dep_non, Nat.zero_min, Nat.min_zero, Nat.zero_le, true_imp_iff, false_imp_iff, Bool.not_false, Bool.not_true, reduceCtorEq, and_true, true_and, List.length_cons, List.length_nil]
          simpa [e1, e2, q] using hk
      · intro p2 hp2
        simp only [List.nil_append]
        -- the states of one sign
        generalize hsame : ((List.range' 0 many).map natV).filterMap (fun x => match x with
          | .int t => if sg[t.toNat]? = sg[k0]? then some x else none
          | _ => none) = same
        have hin : ∀ x ∈ same, ∃ t : Nat, x = natV t ∧ t < many ∧ sg[t]? = sg[k0]? := by
          intro x hx
          rw [← hsame] at hx
          obtain ⟨y, hy, e⟩ := List.mem_filterMap.mp hx
          obtain ⟨t, ht, rfl⟩ := List.mem_map.mp hy
          have ht : t < many := by simpa using ht
          simp only [natV, Int.toNat_natCast] at e
          by_cases q : sg[t]? = sg[k0]?
          · rw [if_pos q] at e
            cases e
            exact ⟨t, rfl, ht, q⟩
          · rw [if_neg q] at e
            cases e
        have hpos : 0 < same.length := by
          refine List.length_pos_of_mem (a := natV k0) ?_
          rw [← hsame]
          refine List.mem_filterMap.mpr ⟨natV k0, List.mem_map.mpr ⟨k0, by simp; omega, rfl⟩, ?_⟩
          simp [natV]
        have hb' : S' b = some (.lst [.int j]) := le _ _ DL.up_same
        have hp2b : b ≠ p2 := fun z => by rw [← z, hb'] at hp2; cases hp2
        have hp2p : p ≠ p2 := fun z => by rw [← z, hp'] at hp2; cases hp2
        refine hK5 _ _ (step fun K6 hK6 => ?_)
        simp only [wSs, wS, wE, wEs, wO, wI, wC, wIf, wBin, wSub, startE_cons, startE_nil, List.replicate, getV_0, getV_s, withO_s, withB_b, bind_one, bind_two, List.set_cons_zero, List.set_cons_succ, wipeE, Nat.zero_add, atI_0, atI_1, atI_2, atI_3, see_int, see_bl, see_str, see_non, dep_int, dep_bl, dep_str, dep_non, Nat.zero_min, Nat.min_zero, Nat.zero_le, true_imp_iff, false_imp_iff, Bool.not_false, Bool.not_true, reduceCtorEq, and_true, true_and, List.length_cons, List.length_nil, wBt, DL.up_same, g.f102, sp_next]
        refine ⟨ns, j, rfl, by rw [up_get hp2b]; exact hb', by omega, fun r2 z0 z1 => ?_⟩
        obtain ⟨r2, rfl⟩ := Int.eq_ofNat_of_zero_le z0
        have hr2 : r2 < same.length := by omega
        obtain ⟨t0, et0, ht0, hsg0⟩ := hin _ (List.getElem_mem hr2)
        simp only [up_get (Ne.symm hp2b), DL.up_same, wSs, wS, wE, wEs, wO, wI, wC, wIf, wBin, wSub, startE_cons, startE_nil, List.replicate, getV_0, getV_s, withO_s, withB_b, bind_one, bind_two, List.set_cons_zero, List.set_cons_succ, wipeE, Nat.zero_add, atI_0, atI_1, atI_2, atI_3, see_int, see_bl, see_str, see_non, dep_int, dep_bl, dep_str, dep_non, Nat.zero_min, Nat.min_zero, Nat.zero_le, true_imp_iff, false_imp_iff, Bool.not_false, Bool.not_true, reduceCtorEq, and_true, true_and, List.length_cons, List.length_nil, atI_nat, List.getElem?_eq_getElem hr2, et0]
        intro p3 hp3
        have le2 : Sto.le (up S b (.lst [.int (j + 1 : Nat)])) (up (up S' p2 (.lst same)) b (.lst [.int (j + 1 : Nat)])) := le_bump (le_new le hp2)
        have hp3b : b ≠ p3 := fun z => by rw [← z, DL.up_same] at hp3; cases hp3
        have hp3p2 : p2 ≠ p3 := fun z => by rw [← z, up_get (Ne.symm hp2b), DL.up_same] at hp3; cases hp3
        have hp3p : p ≠ p3 := fun z => by rw [← z, up_get (Ne.symm hpb), up_get hp2p, hp'] at hp3; cases hp3
        have hp2' : (up (up S' p2 (.lst same)) b (.lst [.int (j + 1 : Nat)])) p = some (.lst (st.map fun s => .tup (s.map natV))) := by rw [up_get (Ne.symm hpb), up_get hp2p, hp']
        generalize up (up S' p2 (.lst same)) b (.lst [.int (j + 1 : Nat)]) = S2 at hp3 le2 hp2'
        refine hK6 _ _ (step fun K7 hK7 => for_step fun B2 hB2 => ?_)
        simp only [wSs, wS, wE, wEs, wO, wI, wC, wIf, wBin, wSub, startE_cons, startE_nil, List.replicate, getV_0, getV_s, withO_s, withB_b, bind_one, bind_two, List.set_cons_zero, List.set_cons_succ, wipeE, Nat.zero_add, atI_0, atI_1, atI_2, atI_3, see_int, see_bl, see_str, see_non, dep_int, dep_bl, dep_str, dep_non, Nat.zero_min, Nat.min_zero, Nat.zero_le, true_imp_iff, false_imp_iff, Bool.not_false, Bool.not_true, reduceCtorEq, and_true, true_and, List.length_cons, List.length_nil, wRng]
        refine ⟨⟨by omega, by omega, by omega, by omega⟩, ?_⟩
        rw [show ((base : Int) - 1).toNat = base - 1 by omega, show rangeL 1 (base - 1) 1 = (List.range' 1 (base - 1)).map natV from rangeL_from 1 (base - 1)]
        refine for_inv (fun rest e S' => ∃ (ts : List Nat) (j : Nat) (v11 : Option Val), ts.length + rest.length = base ∧ (∀ t ∈ ts, t < many) ∧ ts.head? = some t0 ∧
            Sto.le (up S b (.lst [.int j])) S' ∧ S' p = some (.lst (st.map fun s => .tup (s.map natV))) ∧ S' p3 = some (.lst (ts.map natV)) ∧
            e = [some (.lst (ns.map .int)), some (.ref b), some (.int base), some (.int most), some (.int many), some (natV k0), some (.tup (sg.map natV)), some (.ref p), v8, some (.ref p2), some (.ref p3), v11]) ?_ ?_ _ _ _
          ⟨[t0], j + 1, v11, by simp; omega, by simpa using ht0, rfl, le_new le2 hp3, by rw [up_get hp3p]; exact hp2', DL.up_same, rfl⟩
        · rintro x rest e S3 ⟨ts, j3, w11, q1, q2, q3, le3, hq, hq3, rfl⟩
          refine ⟨trivial, ?_⟩
          simp only [bind_one, bind_two, withO_s, List.set_cons_zero, List.set_cons_succ]
          intro k' hk'
          refine hB2 _ _ _ (step fun K8 hK8 => ?_)
          have hb3 : S3 b = some (.lst [.int j3]) := le3 _ _ DL.up_same
          simp only [wSs, wS, wE, wEs, wO, wI, wC, wIf, wBin, wSub, startE_cons, startE_nil, List.replicate, getV_0, getV_s, withO_s, withB_b, bind_one, bind_two, List.set_cons_zero, List.set_cons_succ, wipeE, Nat.zero_add, atI_0, atI_1, atI_2, atI_3, see_int, see_bl, see_str, see_non, dep_int, dep_bl, dep_str, dep_non, Nat.zero_min, Nat.min_zero, Nat.zero_le, true_imp_iff, false_imp_iff, Bool.not_false, Bool.not_true, reduceCtorEq, and_true, true_and, List.length_cons, List.length_nil, recv, hq3, g.f102, sp_next, wMt]
          refine ⟨ns, j3, rfl, hb3, by omega, fun r3 y0 y1 => ?_⟩
          obtain ⟨r3, rfl⟩ := Int.eq_ofNat_of_zero_le y0
          simp only [up_get (Ne.symm hp3b), hq3]
          refine ⟨by simp at q1 ⊢; unfold line; omega, hK8 _ _ ?_⟩
          simp only [wSs, wS, wE, wEs, wO, wI, wC, wIf, wBin, wSub, startE_cons, startE_nil, List.replicate, getV_0, getV_s, withO_s, withB_b, bind_one, bind_two, List.set_cons_zero, List.set_cons_succ, wipeE, Nat.zero_add, atI_0, atI_1, atI_2, atI_3, see_int, see_bl, see_str, see_non, dep_int, dep_bl, dep_str, dep_non, Nat.zero_min, Nat.min_zero, Nat.zero_le, true_imp_iff, false_imp_iff, Bool.not_false, Bool.not_true, reduceCtorEq, and_true, true_and, List.length_cons, List.length_nil]
          refine hk' _ _ ⟨ts ++ [r3], j3 + 1, some x, by simp at q1 ⊢; omega, fun t ht => ?_, by rw [List.head?_append, q3]; rfl, le_write (le_bump le3) ?_, by rw [up_get hp3p, up_get (Ne.symm hpb)]; exact hq, by rw [DL.up_same]; simp [natV], rfl⟩
          · rcases List.mem_append.mp ht with q | q
            · exact q2 t q
            · simp at q
              omega
          · rw [up_get (Ne.symm hp3b)]
            have := le_off le2 hp3
            rw [up_get (Ne.symm hp3b)] at this
            exact this
        · rintro e S3 ⟨ts, j3, w11, q1, q2, q3, le3, hq, hq3, rfl⟩
          refine ⟨trivial, hK7 _ _ (step fun K8 hK8 => ?_)⟩
          simp only [wSs, wS, wE, wEs, wO, wI, wC, wIf, wBin, wSub, startE_cons, startE_nil, List.replicate, getV_0, getV_s, withO_s, withB_b, bind_one, bind_two, List.set_cons_zero, List.set_cons_succ, wipeE, Nat.zero_add, atI_0, atI_1, atI_2, atI_3, see_int, see_bl, see_str, see_non, dep_int, dep_bl, dep_str, dep_non, Nat.zero_min, Nat.min_zero, Nat.zero_le, true_imp_iff, false_imp_iff, Bool.not_false, Bool.not_true, reduceCtorEq, and_true, true_and, List.length_cons, List.length_nil, recv, hq, wBt, hq3, wBtL, wMt]
          have hb3 : S3 b = some (.lst [.int j3]) := le3 _ _ DL.up_same
          refine ⟨by simp; unfold line; omega, hK8 _ _ ?_⟩
          simp only [wSs, wS, wE, wEs, wO, wI, wC, wIf, wBin, wSub, startE_cons, startE_nil, List.replicate, getV_0, getV_s, withO_s, withB_b, bind_one, bind_two, List.set_cons_zero, List.set_cons_succ, wipeE, Nat.zero_add, atI_0, atI_1, atI_2, atI_3, see_int, see_bl, see_str, see_non, dep_int, dep_bl, dep_str, dep_non, Nat.zero_min, Nat.min_zero, Nat.zero_le, true_imp_iff, false_imp_iff, Bool.not_false, Bool.not_true, reduceCtorEq, and_true, true_and, List.length_cons, List.length_nil]
          refine hk _ _ ⟨k0 + 1, c, j3, st ++ [ts], some (natV k0), v8, some (.ref p2), some (.ref p3), w11, rfl, by omega, by simp [hl], fun s hs' => ?_, fun k' h t ht => ?_, le_write le3 ?_, by rw [DL.up_same]; simp, rfl⟩
          · rcases List.mem_append.mp hs' with q | q
            · exact h5 s q
            · simp at q
              subst q
              exact ⟨by simpa using q1, q2⟩
          · by_cases hk' : k' < st.length
            · rw [List.getElem_append_left hk'] at ht
              exact h6 k' hk' t ht
            · have : k' = st.length := by simp at h; omega
              subst this
              rw [List.getElem_append_right (Nat.le_refl _)] at ht
              simp only [Nat.sub_self, List.getElem_cons_zero] at ht
              rw [q3] at ht
              cases ht
              rw [hl]
              exact hsg0
          · rw [up_get (Ne.symm hpb)]
            exact hSp
  · rintro e S' ⟨k0, c, j, st, v5, v8, v9, v10, v11, hr, hc, hl, h5, h6, le, hp', rfl⟩
    refine ⟨trivial, hK4 _ _ ?_⟩
    have hc0 : c = 0 := by
      cases c with
      | zero => rfl
      | succ c => rw [List.range'_succ] at hr; cases hr
    subst hc0
    simp only [wSs, wS, wE, wEs, wO, wI, wC, wIf, wBin, wSub, startE_cons, startE_nil, List.replicate, getV_0, getV_s, withO_s, withB_b, bind_one, bind_two, List.set_cons_zero, List.set_cons_succ, wipeE, Nat.zero_add, atI_0, atI_1, atI_2, atI_3, see_int, see_bl, see_str, see_non, dep_int, dep_bl, dep_str, dep_non, Nat.zero_min, Nat.min_zero, Nat.zero_le, true_imp_iff, false_imp_iff, Bool.not_false, Bool.not_true, reduceCtorEq, and_true, true_and, List.length_cons, List.length_nil, wBt, hp', wBtL]
    refine ⟨_, le, h2 ⟨st, sg⟩ j ⟨by simp only; omega, by simp only; omega, fun s hs' => (h5 s hs').1, fun s hs' t ht => ?_, by simp only; omega, h3, fun k h t ht => h6 k h t ht⟩ (by simp only; omega)⟩
    have := (h5 s hs').2 t ht
    simp only
    omega
theorem w_hall {G : Cfg} (g : DrawH G) : Wk G sp_hall n__law_hall b__law_hall := by
  intro args S Q E h
  unfold sp_hall at h
  split at h <;> first | contradiction | skip
  rename_i sc b most
  obtain ⟨ns, m, rfl, hb, hmost, h2⟩ := h
  unfold b__law_hall
  refine step fun K hK => ?_
  simp only [n__law_hall, wSs, wS, wE, wEs, wO, wI, wC, wIf, wBin, wSub, startE_cons, startE_nil, List.replicate, getV_0, getV_s, withO_s, withB_b, bind_one, bind_two, List.set_cons_zero, List.set_cons_succ, wipeE, Nat.zero_add, atI_0, atI_1, atI_2, atI_3, see_int, see_bl, see_str, see_non, dep_int, dep_bl, dep_str, dep_non, Nat.zero_min, Nat.min_zero, Nat.zero_le, true_imp_iff, false_imp_iff, Bool.not_false, Bool.not_true, reduceCtorEq, and_true, true_and, List.length_cons, List.length_nil, g.f102, sp_next]
  refine ⟨ns, m, rfl, hb, by omega, fun r r0 r1 => ⟨by omega, by omega, hK _ _ (step fun K2 hK2 => ?_)⟩⟩
  obtain ⟨base, hbs⟩ := Int.eq_ofNat_of_zero_le (show 0 ≤ 2 + r / 3 by omega)
  rw [hbs]
  have hbase : 2 ≤ base ∧ base ≤ 3 := by omega
  simp only [wSs, wS, wE, wEs, wO, wI, wC, wIf, wBin, wSub, startE_cons, startE_nil, List.replicate, getV_0, getV_s, withO_s, withB_b, bind_one, bind_two, List.set_cons_zero, List.set_cons_succ, wipeE, Nat.zero_add, atI_0, atI_1, atI_2, atI_3, see_int, see_bl, see_str, see_non, dep_int, dep_bl, dep_str, dep_non, Nat.zero_min, Nat.min_zero, Nat.zero_le, true_imp_iff, false_imp_iff, Bool.not_false, Bool.not_true, reduceCtorEq, and_true, true_and, List.length_cons, List.length_nil, g.f102, sp_next, g.f103, sp_row, wRng]
  refine ⟨ns, m + 1, rfl, DL.up_same, by omega, fun z z0 z1 => ?_⟩
  obtain ⟨z, rfl⟩ := Int.eq_ofNat_of_zero_le z0
  refine ⟨by omega, by omega, ?_⟩
  rw [show (1 + (z : Int)).toNat = z + 1 by omega, rangeL_nat, up_up]
  refine turns_inv (fun rest acc S' => ∃ (Rs : List Row) (j : Nat), acc = Rs.map Row.val ∧ (∀ R ∈ Rs, R.Ok base ∧ (R.steps.length : Int) ≤ most) ∧ Rs.length + rest.length = z + 1 ∧ S' = up S b (.lst [.int j])) ?_ ?_ _ _ _
    ⟨[], m + 1 + 1, rfl, by simp, by simp, rfl⟩
  · rintro x rest acc S' ⟨Rs, j, rfl, h3, h4, rfl⟩
    refine ⟨trivial, fun k hk => ?_⟩
    refine ⟨ns, j, rfl, DL.up_same, by omega, hmost, fun R j2 ok hl => ?_⟩
    rw [up_up]
    refine hk _ _ ⟨Rs ++ [R], j2, by simp, fun R' hR => ?_, by simp at h4 ⊢; omega, rfl⟩
    rcases List.mem_append.mp hR with q | q
    · exact h3 R' q
    · simp at q
      subst q
      exact ⟨by simpa using ok, hl⟩
  · rintro acc S' ⟨Rs, j, rfl, h3, h4, rfl⟩
    refine ⟨trivial, fun p hp => hK2 _ _ ?_⟩
    simp only [wSs, wS, wE, wEs, wO, wI, wC, wIf, wBin, wSub, startE_cons, startE_nil, List.replicate, getV_0, getV_s, withO_s, withB_b, bind_one, bind_two, List.set_cons_zero, List.set_cons_succ, wipeE, Nat.zero_add, atI_0, atI_1, atI_2, atI_3, see_int, see_bl, see_str, see_non, dep_int, dep_bl, dep_str, dep_non, Nat.zero_min, Nat.min_zero, Nat.zero_le, true_imp_iff, false_imp_iff, Bool.not_false, Bool.not_true, reduceCtorEq, and_true, true_and, List.length_cons, List.length_nil, wBt, DL.up_same, wBtL]
    refine ⟨_, up_le hp, h2 base Rs j hbase (by simp at h4; omega) h3⟩
end DL

set_option autoImplicit true
set_option Elab.async false
set_option linter.all false
set_option maxRecDepth 100000
set_option maxHeartbeats 4000000
/-! Own layer, plain part 7: rows as values; what is equal to itself. -/
namespace DL
open PySem
theorem veqs_refl_aux : ∀ (n : Nat) (v : Val), sizeOf v ≤ n → v.dat = true → PyData.eqv v.py v.py = true := by
  intro n
  induction n with
  | zero => intro v h; cases v <;> simp at h
  | succ n ih =>
    intro v h hd
    have key : ∀ xs : List Val, sizeOf xs ≤ n → Val.dats xs = true → PyData.eqvAll (Val.pys xs) (Val.pys xs) = true := by
      intro xs
      induction xs with
      | nil => intro _ _; simp [Val.pys, PyData.eqvAll]
      | cons x xs ihx =>
        intro h1 h2
        simp only [Val.dats, Bool.and_eq_true] at h2
        simp only [List.cons.sizeOf_spec] at h1
        rw [Val.pys, PyData.eqvAll, ih x (by omega) h2.1, ihx (by omega) h2.2]
        rfl
    cases v with
    | tup xs =>
      simp only [Val.tup.sizeOf_spec] at h
      rw [Val.py, PyData.eqv]
      exact key xs (by omega) (by simpa [Val.dat] using hd)
    | lst xs => simp [Val.dat] at hd
    | ref a => simp [Val.dat] at hd
    | int i => rw [Val.py, eqv_int]; simp
    | non => simp [Val.py, PyData.eqv]
    | bl b => simp [Val.py, PyData.eqv]
    | str x => simp [Val.py, PyData.eqv]
theorem veq_refl {v : Val} (h : v.dat = true) : v.veq v = true := veqs_refl_aux _ v (Nat.le_refl _) h
theorem dats_map {α : Type} (f : α → Val) (h : ∀ x, (f x).dat = true) (xs : List α) : Val.dats (xs.map f) = true := by
  induction xs with
  | nil => rfl
  | cons x xs ih => simp [Val.dats, h, ih]
theorem deps_map {α : Type} (f : α → Val) (n : Nat) (h : ∀ x, (f x).dep ≤ n) (xs : List α) : Val.deps (xs.map f) ≤ n := by
  induction xs with
  | nil => simp [Val.deps]
  | cons x xs ih =>
    have := h x
    simp [Val.deps]
    omega
theorem kns_map {α : Type} (S : Sto) (f : α → Val) (h : ∀ x, kn S (f x) = true) (xs : List α) : kns S (xs.map f) = true := by
  induction xs with
  | nil => rfl
  | cons x xs ih => simp [kns, h, ih]
theorem row_dat (R : Row) : R.val.dat = true := by
  simp [Row.val, Val.dat, Val.dats, dats_map, natV]
theorem row_dep (R : Row) : R.val.dep ≤ 3 := by
  have h1 := deps_map natV 0 (fun x => by simp [natV, Val.dep]) R.signs
  have h2 := deps_map (fun s : List Nat => Val.tup (s.map natV)) 1 (fun s => by
    have := deps_map natV 0 (fun x => by simp [natV, Val.dep]) s
    simp only [Val.dep]
    omega) R.steps
  simp only [Row.val, Val.dep, Val.deps]
  omega
theorem row_kn (S : Sto) (R : Row) : kn S R.val = true := by
  simp [Row.val, kn, kns, kns_map, natV]
theorem isRow_val {R : Row} {b : Nat} (hb : 2 ≤ b) (o : R.Ok b) : isRow R.val b = true := by
  have h1 := o.pos
  have h2 := o.most
  have e1 : ((R.steps.map fun s => Val.tup (s.map natV)).all fun v => isState v b R.steps.length) = true := by
    rw [List.all_map, List.all_eq_true]
    intro s hs
    show isState (.tup (s.map natV)) b R.steps.length = true
    simp only [isState, List.length_map, o.wide s hs, decide_true, Bool.true_and, List.all_map, List.all_eq_true]
    intro t ht
    have := o.to s hs t ht
    show betw (natV t) 0 _ = true
    simp [betw_nat]
    omega
  have e2 : ((R.signs.map natV).all fun v => betw v 0 2) = true := by
    rw [List.all_map, List.all_eq_true]
    intro x hx
    have := o.two x hx
    show betw (natV x) 0 2 = true
    simp [betw_nat]
    omega
  have e3 : signsOk (R.steps.map fun s => Val.tup (s.map natV)) (R.signs.map natV) R.steps.length = true := by
    unfold signsOk
    rw [List.all_eq_true]
    intro k hk
    have hk : k < R.steps.length := List.mem_range.mp hk
    have hw := o.wide _ (List.getElem_mem hk)
    have hs := o.same k hk
    have ht := o.to _ (List.getElem_mem hk)
    have e4 : (R.steps.map fun s => Val.tup (s.map natV))[k]? = some (.tup (R.steps[k].map natV)) := by rw [List.getElem?_map, List.getElem?_eq_getElem hk]; rfl
    generalize R.steps[k] = s at hw hs ht e4
    cases s with
    | nil => simp at hw; omega
    | cons t ts =>
      have e5 := hs t rfl
      have hk2 : k < R.signs.length := by rw [o.sg]; exact hk
      have e6 : R.signs[k]? = some R.signs[k] := List.getElem?_eq_getElem hk2
      rw [e6] at e5
      unfold signAt
      rw [e4]
      simp only [List.getElem?_map, e6, List.map_cons, natV, Option.map_some, Int.toNat_natCast, e5]
      exact veq_refl rfl
  have e1' : (R.steps.all fun s => isState (.tup (s.map natV)) b R.steps.length) = true := by
    rw [List.all_map] at e1
    exact e1
  simp only [Row.val, isRow, List.length_map, o.sg, decide_true, Bool.true_and, e2, e3, Bool.and_true, List.all_map]
  rw [Bool.and_eq_true]
  refine ⟨decide_eq_true ⟨h1, h2⟩, ?_⟩
  exact e1'
theorem rowOf_val (R : Row) : rowOf R.val = R := by
  obtain ⟨st, sg⟩ := R
  simp only [rowOf, Row.val, List.map_map, natsV_map]
  congr
  conv => rhs; rw [← List.map_id st]
  refine List.map_congr_left fun s _ => ?_
  simp [natsV_map]
/-- a hall of rows -/
def hallV (b : Nat) (Rs : List Row) : Val := .tup [.int b, .tup (Rs.map Row.val)]
theorem hall_dat (b : Nat) (Rs : List Row) : (hallV b Rs).dat = true := by
  simp [hallV, Val.dat, Val.dats, dats_map, row_dat]
theorem hall_dep (b : Nat) (Rs : List Row) : (hallV b Rs).dep ≤ 5 := by
  have := deps_map Row.val 3 row_dep Rs
  simp only [hallV, Val.dep, Val.deps]
  omega
theorem hall_kn (S : Sto) (b : Nat) (Rs : List Row) : kn S (hallV b Rs) = true := by
  simp [hallV, kn, kns, kns_map, row_kn]
theorem isHall_val {b : Nat} {Rs : List Row} (hb : 2 ≤ b ∧ b ≤ 3) (hl : Rs.length ≤ 3) (h : ∀ R ∈ Rs, R.Ok b) : isHall (hallV b Rs) = true := by
  have e : betw (.int b) 2 3 = true := by simp [betw]; omega
  simp only [hallV, isHall, e, Bool.true_and, List.length_map, decide_eq_true hl, List.all_map, List.all_eq_true]
  exact fun R hR => isRow_val hb.1 (h R hR)
theorem digs_len {b : Nat} (hb : 2 ≤ b) : ∀ (k n : Nat), n < 2 ^ k → (digs b n).length ≤ k
  | 0, n, h => by
    have : n = 0 := by simpa using h
    subst this
    rw [digs_zero]
    simp
  | k + 1, n, h => by
    by_cases hn : 0 < n
    · rw [digs_pos hb hn, List.length_cons]
      have : n / b < 2 ^ k := by
        rw [Nat.div_lt_iff_lt_mul (by omega)]
        have : 2 ^ k * 2 ≤ 2 ^ k * b := Nat.mul_le_mul_left _ hb
        rw [Nat.pow_succ] at h
        omega
      have := digs_len hb k (n / b) this
      omega
    · have : n = 0 := by omega
      subst this
      rw [digs_zero]
      simp
end DL

set_option autoImplicit true
set_option Elab.async false
set_option linter.all false
set_option maxRecDepth 100000
set_option maxHeartbeats 4000000
/-! Own layer, pure level, part 1: own lists and dicts by what they hold; the store that nobody changes. -/
namespace DL
open PySem

/-- a value; a list or a dict (o: nobody else has it); a tuple of a new list and a value -/
inductive PV where
  | d (v : Val) | l (o : Bool) (xs : List Val) | m (o : Bool) (kvs : List (Val × Val)) | p (xs : List Val) (v : Val)
abbrev PEnv := List (Option PV)
abbrev PK := PV → Prop
abbrev PSpec := List PV → Sto → PK → (Nat → Prop) → Prop
def isRefV : Val → Bool
  | .ref _ => true
  | .non => false
  | .bl _ => false
  | .int _ => false
  | .str _ => false
  | .tup _ => false
  | .lst _ => false
def PV.bor : PV → PV
  | .l _ xs => .l false xs
  | .m _ kvs => .m false kvs
  | .d v => .d v
  | .p xs v => .p xs v
def PV.isP : PV → Bool
  | .p _ _ => true
  | .l _ _ => false
  | .m _ _ => false
  | .d _ => false
def getP (e : PEnv) (i : Nat) : Option PV := (e[i]?).join
/-- a list's content -/
def lof (S : Sto) : PV → Option (List Val)
  | .l _ xs => some xs
  | .m _ _ => none
  | .p _ _ => none
  | .d v => match v with
    | .ref a => match S a with
      | some (.lst xs) => some xs
      | _ => none
    | _ => none
def dof (S : Sto) : PV → Option (List (Val × Val))
  | .m _ kvs => some kvs
  | .l _ _ => none
  | .p _ _ => none
  | .d v => match v with
    | .ref a => match S a with
      | some (.dct kvs _) => some kvs
      | _ => none
    | _ => none
/-- a plain value -/
def dvl : PV → Option Val
  | .d v => match v with
    | .ref _ => none
    | v => some v
  | _ => none
def ds : List PV → Option (List Val)
  | [] => some []
  | .d v :: r => (ds r).map (v :: ·)
  | _ :: _ => none
def withD : PV → (Val → Prop) → Prop
  | .d v, k => k v
  | _, _ => False
def withPB : PV → (Bool → Prop) → Prop
  | .d (.bl b), k => k b
  | _, _ => False
def withPI : PV → (Int → Prop) → Prop
  | .d (.int b), k => k b
  | _, _ => False
def ArgR1 (S : Sto) (v : Val) : PV → Prop
  | .d x => v = x
  | .l o xs => o = false ∧ ∃ a, v = .ref a ∧ S a = some (.lst xs)
  | .m o kvs => o = false ∧ ∃ a t, v = .ref a ∧ S a = some (.dct kvs t)
  | .p _ _ => False
def ArgR (S : Sto) : List Val → List PV → Prop
  | [], [] => True
  | v :: vs, p :: ps => ArgR1 S v p ∧ ArgR S vs ps
  | _, _ => False
def ResU (Q : KV) (S : Sto) : PV → Prop
  | .d v => Q v S
  | .l _ xs => ∀ p, S p = none → Q (.ref p) (up S p (.lst xs))
  | .m _ kvs => ∀ p t, S p = none → Q (.ref p) (up S p (.dct kvs t))
  | .p xs v => ∀ p, S p = none → Q (.tup [.ref p, v]) (up S p (.lst xs))
/-- a promise of the pure level -/
def up1 (ps : PSpec) : Spec := fun vs S Q E => ∃ (pvs : List PV) (S0 : Sto) (Qp : PK) (Ep : Nat → Prop), Sto.le S0 S ∧ ArgR S vs pvs ∧ ps pvs S0 Qp Ep ∧ (∀ r, Qp r → ResU Q S r) ∧ ∀ x, Ep x → E x S
/-- a def that changes its second argument, a list, and tells a plain value -/
abbrev LSpec := List PV → Sto → (Val → List Val → Prop) → Prop
def upL (ls : LSpec) : Spec := fun vs S Q _ => ∃ (v0 : Val) (b : Addr) (vr : List Val) (r0 : PV) (xs : List Val) (prs : List PV) (S0 : Sto) (Qp : Val → List Val → Prop), vs = v0 :: .ref b :: vr ∧ Sto.le S0 S ∧ S0 b = none ∧ S b = some (.lst xs) ∧ ArgR1 S v0 r0 ∧ ArgR S vr prs ∧
  ls (r0 :: .l false xs :: prs) S0 Qp ∧ ∀ v xs', Qp v xs' → Q v (up S b (.lst xs'))
structure PCfg where
  G : Cfg
  fn : Nat → Option PSpec
  mt : Nat → Str → Option PSpec
  ln : Nat → Option LSpec
  okl : ∀ f ls, ln f = some ls → ∃ sp, G.fn f = some sp ∧ ∀ vs S Q E, upL ls vs S Q E → sp vs S Q E
  okf : ∀ f ps, fn f = some ps → ∃ sp, G.fn f = some sp ∧ ∀ vs S Q E, up1 ps vs S Q E → sp vs S Q E
  okm : ∀ c m ps, mt c m = some ps → ∃ sp, G.mt c m = some sp ∧ ∀ vs S Q E, up1 ps vs S Q E → sp vs S Q E

def pBin (o : Bop) (x y : PV) (S : Sto) (Q : PK) : Prop := match lof S x, lof S y with
  | some xs, some ys => o = .add ∧ xs.length + ys.length ≤ line ∧ Q (.l true (xs ++ ys))
  | some xs, none => withPI y fun k => o = .mul ∧ (0 ≤ k ∧ k < 2 ^ 62 ∧ xs.length * k.toNat ≤ line) ∧ Q (.l true (List.replicate k.toNat xs).flatten)
  | none, _ => withO (dvl x) fun a => withO (dvl y) fun b => wBin o a b S fun v _ => Q (.d v)
def pSee (S : Sto) : PV → Option Val
  | .d v => S.see 3 v
  | .l _ xs => (S.sees 2 xs).map .lst
  | .m _ _ => none
  | .p _ _ => none
def pCmp (o : Cop) (x y : PV) (S : Sto) (Q : PK) : Prop := match o with
  | .eq => withO (pSee S x) fun a => withO (pSee S y) fun b => min a.dep b.dep ≤ 100 ∧ Q (.d (.bl (a.veq b)))
  | .ne => withO (pSee S x) fun a => withO (pSee S y) fun b => min a.dep b.dep ≤ 100 ∧ Q (.d (.bl (!a.veq b)))
  | .isin => withD x fun a => match lof S y with
    | some ys => a.dat = true ∧ a.dep ≤ 100 ∧ withO (S.sees 3 ys) fun zs => Q (.d (.bl (veqAny a zs)))
    | none => match dof S y with
      | some kvs => kindOk kvs a = true ∧ Q (.d (.bl (dget kvs a).isSome))
      | none => withO (dvl y) fun b => wCmp .isin a b S fun v _ => Q (.d v)
  | .notin => withD x fun a => match lof S y with
    | some ys => a.dat = true ∧ a.dep ≤ 100 ∧ withO (S.sees 3 ys) fun zs => Q (.d (.bl (!veqAny a zs)))
    | none => match dof S y with
      | some kvs => kindOk kvs a = true ∧ Q (.d (.bl (dget kvs a).isNone))
      | none => withO (dvl y) fun b => wCmp .notin a b S fun v _ => Q (.d v)
  | o => withO (dvl x) fun a => withO (dvl y) fun b => wCmp o a b S fun v _ => Q (.d v)
def pSub (x y : PV) (S : Sto) (Q : PK) : Prop := withD y fun k => match lof S x with
  | some xs => withPI (.d k) fun i => withO (L2.atI xs i) fun v => Q (.d v)
  | none => match dof S x with
    | some kvs => kindOk kvs k = true ∧ withO (dget kvs k) fun v => Q (.d v)
    | none => withO (dvl x) fun a => wSub a k S fun v _ => Q (.d v)
def pSlice (x : PV) (lo hi : Option Int) (S : Sto) (Q : PK) : Prop := match lof S x with
  | some xs => Q (.l true (cutL xs lo hi))
  | none => withO (dvl x) fun a => wSlice a lo hi S fun v _ => Q (.d v)
def pBtL (b : Bt) (xs : List Val) (S : Sto) (Q : PK) : Prop := match b with
  | .len => Q (.d (.int xs.length))
  | .all => withO (Val.bls xs) fun bs => Q (.d (.bl (bs.all id)))
  | .any => withO (Val.bls xs) fun bs => Q (.d (.bl (bs.any id)))
  | .tuple => Q (.d (.tup xs))
  | .sum => withO (Val.ints xs) fun ns => Q (.d (.int ns.sum))
  | .max1 => withO (Val.ints xs) fun ns => 0 < ns.length ∧ ∀ m, m ∈ ns → (∀ y, y ∈ ns → y ≤ m) → Q (.d (.int m))
  | .min1 => withO (Val.ints xs) fun ns => 0 < ns.length ∧ ∀ m, m ∈ ns → (∀ y, y ∈ ns → m ≤ y) → Q (.d (.int m))
  | .dict => ∃ ps : List (Val × Val), xs = ps.map (fun p => Val.tup [p.1, p.2]) ∧ (∀ p ∈ ps, isIS p.1 = true) ∧ Q (.m true (dputs [] ps))
  | .sorted => (∃ ns, Val.ints xs = some ns ∧ ∀ ms : List Int, ms.Perm ns → ms.Pairwise (· ≤ ·) → Q (.l true (ms.map .int))) ∨
      (∃ ss, Val.strs xs = some ss ∧ ss.length < 64 ∧ ∀ ms : List Str, ms.Perm ss → PyProof.Rows.sortedS ms = true → Q (.l true (ms.map .str))) ∨
      (∃ nss, Val.itups xs = some nss ∧ (∀ ns ∈ nss, 0 < ns.length) ∧ ∀ mss : List (List Int), mss.Perm nss → mss.Pairwise (fun a b => HT.lexLt b a = false) → Q (.l true (mss.map fun ns => .tup (ns.map .int))))
  | .list => Q (.l true xs)
  | _ => False
def pBt (b : Bt) (rs : List PV) (S : Sto) (Q : PK) : Prop := match rs with
  | [x] => match lof S x with
    | some xs => pBtL b xs S Q
    | none => match dof S x with
      | some kvs => (b = .len ∧ Q (.d (.int kvs.length))) ∨ (b = .list ∧ (∀ p ∈ kvs, isIS p.1 = true) ∧ Q (.l true (kvs.map (·.1)))) ∨ (b = .dict ∧ (∀ p ∈ kvs, isIS p.1 = true) ∧ Q (.m true kvs))
      | none => withO (dvl x) fun a => match b, a with
        | .list, .tup xs => Q (.l true xs)
        | b, a => wBt b [a] S fun v _ => Q (.d v)
  | [x, y] => withO (dvl x) fun a => withO (dvl y) fun b' => wBt b [a, b'] S fun v _ => Q (.d v)
  | _ => False
def pMt (m : Mt) (x : PV) (rs : List PV) (S : Sto) (Q : PK) : Prop := match m, rs with
  | .index, [.d v] => withO (lof S x) fun xs => (v.dat && Val.dats xs && decide (v.dep ≤ 60) && decide (Val.deps xs ≤ 60) && v.py.canLay0 && PyData.canLayAll0 (Val.pys xs)) = true ∧ withO (findI (·.veq v) xs 0) fun j => Q (.d (.int j))
  | .count, [.d v] => withO (lof S x) fun xs => (v.dat && Val.dats xs && decide (v.dep ≤ 60)) = true ∧ Q (.d (.int (countV v xs)))
  | .get, [.d k, .d v] => withO (dof S x) fun kvs => kindOk kvs k = true ∧ Q (.d ((dget kvs k).getD v))
  | _, _ => False
def pRecv (m : Mt) (x : PV) (S : Sto) : Bool := match m with
  | .get => (dof S x).isSome
  | .index => (lof S x).isSome
  | .count => (lof S x).isSome
  | _ => false
def pIsi (t : Ty) (x : PV) (S : Sto) (Q : PK) : Prop := match x with
  | .d v => tyKnown v S = true ∧ Q (.d (.bl (tyOf t v S)))
  | .l _ _ => Q (.d (.bl (decide (t = .list))))
  | _ => False
def seqP (S : Sto) (x : PV) : Option (List Val) := match x with
  | .l _ xs => some xs
  | .d v => (seqOf v S).map (·.1)
  | _ => none
def iterP (S : Sto) (x : PV) : Option (List Val) := match x with
  | .l _ xs => some xs
  | .m _ kvs => if keysOk kvs then some (kvs.map (·.1)) else none
  | .d v => (iterOf v S).map (·.1)
  | .p _ _ => none
def enP (S : Sto) (x : PV) : Option (List Val) := match x with
  | .l _ xs => some xs
  | .d v => (listOf v S).map (·.1)
  | _ => none
def zipP (S : Sto) (x y : PV) : Option (List Val) := match lof S x, lof S y with
  | some xs, some ys => some (zipL xs ys)
  | none, none => match x, y with
    | .d (.tup xs), .d (.tup ys) => some (zipL xs ys)
    | _, _ => none
  | _, _ => none
def wipeP (e : PEnv) : List Nat → PEnv
  | [] => e
  | i :: r => (wipeP e r).set i none
def bindManyP (e : PEnv) : List Nat → List Val → Option PEnv
  | [], [] => some e
  | i :: r, v :: vs => bindManyP (e.set i (some (.d v))) r vs
  | _, _ => none
def bindP (tg : Tg) (e : PEnv) (v : Val) : Option PEnv := match tg, v with
  | .one i, v => some (e.set i (some (.d v)))
  | .many is, .tup vs => bindManyP e is vs
  | .many _, _ => none
def pTurns (body : Val → (Option Val → Prop) → Prop) (Q : List Val → Prop) : List Val → List Val → Prop
  | [], acc => Q acc
  | x :: xs, acc => body x fun r => pTurns body Q xs (acc ++ r.toList)
def noP : Nat → Prop := fun _ => False
mutual
def pE (g : PCfg) (S : Sto) (E : Nat → Prop) : Ex → PEnv → PK → Prop
  | .var i, e, Q => withO (getP e i) fun r => Q r.bor
  | .glob x, e, Q => withO (g.G.cv x) fun v => Q (.d v)
  | .int i, e, Q => Q (.d (.int i))
  | .bl b, e, Q => Q (.d (.bl b))
  | .non, e, Q => Q (.d .non)
  | .str x, e, Q => Q (.d (.str x))
  | .bin o a b, e, Q => pE g S E a e fun x => pE g S E b e fun y => pBin o x y S Q
  | .neg a, e, Q => pE g S E a e fun x => withPI x fun i => Q (.d (.int (-i)))
  | .not a, e, Q => pE g S E a e fun x => withPB x fun b => Q (.d (.bl (!b)))
  | .cmp o a b, e, Q => pE g S E a e fun x => pE g S E b e fun y => pCmp o x y S Q
  | .isN a, e, Q => pE g S E a e fun x => match x with
    | .d .non => Q (.d (.bl true))
    | _ => Q (.d (.bl false))
  | .notN a, e, Q => pE g S E a e fun x => match x with
    | .d .non => Q (.d (.bl false))
    | _ => Q (.d (.bl true))
  | .chain o p a b c, e, Q => pE g S E a e fun x => pE g S E b e fun y => pCmp o x y S fun z => withPB z fun k =>
      (k = true → pE g S E c e fun u => pCmp p y u S Q) ∧ (k = false → Q (.d (.bl false)))
  | .and a b, e, Q => pE g S E a e fun x => withPB x fun k => (k = true → pE g S E b e Q) ∧ (k = false → Q (.d (.bl false)))
  | .or a b, e, Q => pE g S E a e fun x => withPB x fun k => (k = true → Q (.d (.bl true))) ∧ (k = false → pE g S E b e Q)
  | .tup es, e, Q => pEs g S E es e fun rs => withO (ds rs) fun vs => Q (.d (.tup vs))
  | .lst es, e, Q => pEs g S E es e fun rs => withO (ds rs) fun vs => Q (.l true vs)
  | .dict0, e, Q => Q (.m true [])
  | .dict1 k v, e, Q => pE g S E k e fun x => withD x fun x => pE g S E v e fun y => withD y fun y => kindOk [] x = true ∧ Q (.m true [(x, y)])
  | .sub a i, e, Q => pE g S E a e fun x => pE g S E i e fun y => pSub x y S Q
  | .slice a lo hi, e, Q => pE g S E a e fun x => pO g S E lo e fun l => pO g S E hi e fun h => pSlice x l h S Q
  | .fld a f, e, Q => pE g S E a e fun x => withD x fun v => match v with
    | .ref p => match S p with
      | some (.ins _ fs) => withO (fs.lookup f) fun v => Q (.d v)
      | _ => False
    | _ => False
  | .call f es, e, Q => pEs g S E es e fun rs => withO (g.fn f) fun ps => ps (rs.map PV.bor) S (fun r => r.isP = false ∧ Q r) E
  | .new c es, e, Q => False
  | .blt b es, e, Q => pEs g S E es e fun rs => pBt b rs S Q
  | .bltc b c, e, Q => pC g S E c e fun vs => pBtL b vs S Q
  | .isi a t, e, Q => pE g S E a e fun x => pIsi t x S Q
  | .meth a m es, e, Q => pE g S E a e fun x => pRecv m x S = true ∧ pEs g S E es e fun rs => pMt m x rs S Q
  | .umeth a m es, e, Q => pE g S E a e fun x => withD x fun v => match v with
    | .ref p => match S p with
      | some (.ins c fs) => fs.lookup m = none ∧ withO (g.mt c m) fun ps => pEs g S E es e fun rs => ps (.d (.ref p) :: rs.map PV.bor) S (fun r => r.isP = false ∧ Q r) noP
      | _ => False
    | _ => False
  | .comp c, e, Q => pC g S E c e fun vs => Q (.l true vs)
  | .lzip a b, e, Q => pE g S E a e fun x => pE g S E b e fun y => withO (seqP S x) fun xs => withO (seqP S y) fun ys => Q (.l true (zipL xs ys))
  | .lrng es, e, Q => pEs g S E es e fun rs => withO (ds rs) fun vs => wRng vs fun lo n st => st = 1 ∧ Q (.l true (rangeL lo n 1))
  | .trng es, e, Q => pEs g S E es e fun rs => withO (ds rs) fun vs => wRng vs fun lo n st => st = 1 ∧ Q (.d (.tup (rangeL lo n 1)))
  | .drop a, e, Q => pE g S E a e Q
  | .tix zs a, e, Q => pE g S E a e fun x => withD x fun v => match v with
    | .str z => withO (strIx z zs 0) fun j => Q (.d (.int j))
    | _ => False
def pEs (g : PCfg) (S : Sto) (E : Nat → Prop) : Exs → PEnv → (List PV → Prop) → Prop
  | .nil, e, Q => Q []
  | .cons a r, e, Q => pE g S E a e fun x => pEs g S E r e fun xs => Q (x :: xs)
def pO (g : PCfg) (S : Sto) (E : Nat → Prop) : Oe → PEnv → (Option Int → Prop) → Prop
  | .none, e, Q => Q none
  | .some a, e, Q => pE g S E a e fun x => withPI x fun i => Q (some i)
def pI (g : PCfg) (S : Sto) (E : Nat → Prop) : Itr → PEnv → (List Val → Prop) → Prop
  | .val a, e, Q => pE g S E a e fun x => withO (iterP S x) Q
  | .rng es, e, Q => pEs g S E es e fun rs => withO (ds rs) fun vs => wRng vs fun lo n st => Q (rangeL lo n st)
  | .enum a, e, Q => pE g S E a e fun x => withO (enP S x) fun xs => Q (enumL 0 xs)
  | .zip a b, e, Q => pE g S E a e fun x => pE g S E b e fun y => withO (zipP S x y) Q
def pC (g : PCfg) (S : Sto) (E : Nat → Prop) : Cmp → PEnv → (List Val → Prop) → Prop
  | .mk tg own elt it cond, e, Q => pI g S E it e fun xs =>
      pTurns (fun x k => withO (bindP tg (wipeP e own) x) fun e' => pIf g S cond e' fun b => (b = true → pE g S noP elt e' fun v => withD v fun v => k (some v)) ∧ (b = false → k none)) Q xs []
def pIf (g : PCfg) (S : Sto) : Oe → PEnv → (Bool → Prop) → Prop
  | .none, e, Q => Q true
  | .some a, e, Q => pE g S noP a e fun x => withPB x Q
end

def pFor (tg : Tg) (body : (PEnv → Prop) → PEnv → Prop) (nx : PEnv → Prop) : List Val → PEnv → Prop
  | [], e => nx e
  | x :: xs, e => withO (bindP tg e x) fun e' => body (fun e2 => pFor tg body nx xs e2) e'
/-- from here on nobody changes it -/
def frz1 (e : PEnv) (j : Nat) : PEnv := match getP e j with
  | some r => e.set j (some r.bor)
  | none => e
def frz (e : PEnv) : Itr → PEnv
  | .val (.var j) => frz1 e j
  | .enum (.var j) => frz1 e j
  | .zip (.var i) (.var j) => frz1 (frz1 e i) j
  | .zip (.var i) _ => frz1 e i
  | .zip _ (.var j) => frz1 e j
  | _ => e
def isV : Ex → Bool
  | .var _ => true
  | _ => false
/-- what an assignment takes -/
def okA : PV → Bool
  | .l o _ => o
  | .m o _ => o
  | .d _ => true
  | .p _ _ => false
def pH (g : PCfg) (E : Nat → Prop) (rt : PK) : Hd → Nat → Prop
  | .conj cs, x => rt (.d (.bl (cs.all fun p => g.G.sub x p.1 == p.2)))
  | .text z cs, x => rt (.d (.str (if (cs.all fun p => g.G.sub x p.1 == p.2) = true then z else "")))
  | .bl b, _ => rt (.d (.bl b))
  | .non, _ => rt (.d .non)
  | .str z, _ => rt (.d (.str z))
  | .raise c, _ => E c
/-- an own list as it is handed out -/
def pMove (e : PEnv) (i j : Nat) (nx : PEnv → Prop) : Prop := withO (getP e j) fun r => match r with
  | .l true xs => i ≠ j ∧ nx ((e.set i (some (.l true xs))).set j none)
  | .m true xs => i ≠ j ∧ nx ((e.set i (some (.m true xs))).set j none)
  | r => nx (e.set i (some r))
def extP (S : Sto) : PV → Option (List Val)
  | .l o xs => if o then some xs else none
  | .d v => (seqOf v S).map (·.1)
  | _ => none
def pX (g : PCfg) (S : Sto) (E : Nat → Prop) (a : Ex) (nx : PEnv → Prop) (e : PEnv) : Prop := match a with
  | .meth (.var j) .append (.cons x .nil) => withO (getP e j) fun q => match q with
    | .l true xs => pE g S E x e fun r => withD r fun v => xs.length < line ∧ nx (e.set j (some (.l true (xs ++ [v]))))
    | _ => False
  | .meth (.var j) .extend (.cons x .nil) => withO (getP e j) fun q => match q with
    | .l true xs => pE g S E x e fun r => withO (extP S r) fun ys => xs.length + ys.length ≤ line ∧ nx (e.set j (some (.l true (xs ++ ys))))
    | _ => False
  | a => pE g S E a e fun _ => nx e
def pIs (g : PCfg) (S : Sto) (E : Nat → Prop) : Itr → PEnv → (List Val → Prop) → Prop
  | .val a, e, Q => pE g S E a e fun x => (isV a || okA x) = true ∧ withO (iterP S x) Q
  | .rng es, e, Q => pEs g S E es e fun rs => withO (ds rs) fun vs => wRng vs fun lo n st => Q (rangeL lo n st)
  | .enum a, e, Q => pE g S E a e fun x => (isV a || okA x) = true ∧ withO (enP S x) fun xs => Q (enumL 0 xs)
  | .zip a b, e, Q => pE g S E a e fun x => (isV a || okA x) = true ∧ pE g S E b e fun y => (isV b || okA y) = true ∧ withO (zipP S x y) Q
def pUn (is : List Nat) (e : PEnv) (nx : PEnv → Prop) (r : PV) : Prop := match r with
  | .d v => withO (bindP (.many is) e v) nx
  | .p xs v => match is with
    | [i, j] => i ≠ j ∧ nx ((e.set i (some (.l true xs))).set j (some (.d v)))
    | _ => False
  | _ => False
def pLend (g : PCfg) (S : Sto) (E : Nat → Prop) (i f : Nat) (es : Exs) (nx : PEnv → Prop) (e : PEnv) : Prop := match es with
  | .cons a (.cons b r) => pE g S E a e fun x => match b with
    | .var j => withO (getP e j) fun q => match q with
      | .l true xs => pEs g S E r e fun rs => withO (g.ln f) fun ls => ls (x.bor :: .l false xs :: rs.map PV.bor) S fun v xs' => isRefV v = false ∧ nx ((e.set j (some (.l true xs'))).set i (some (.d v)))
      | _ => False
    | b => pE g S E b e fun q => match q with
      | .l true xs => pEs g S E r e fun rs => withO (g.ln f) fun ls => ls (x.bor :: .l false xs :: rs.map PV.bor) S fun v _ => isRefV v = false ∧ nx (e.set i (some (.d v)))
      | _ => False
  | _ => False
def pAsg (g : PCfg) (S : Sto) (E : Nat → Prop) (i : Nat) (a : Ex) (nx : PEnv → Prop) (e : PEnv) : Prop := match a with
  | .var j => pMove e i j nx
  | .drop (.call f es) => pLend g S E i f es nx e
  | a => pE g S E a e fun r => okA r = true ∧ nx (e.set i (some r))
def pAsgs (g : PCfg) (S : Sto) (E : Nat → Prop) (is : List Nat) (a : Ex) (nx : PEnv → Prop) (e : PEnv) : Prop := match a with
  | .call f es => pEs g S E es e fun rs => withO (g.fn f) fun ps => ps (rs.map PV.bor) S (pUn is e nx) E
  | a => pE g S E a e (pUn is e nx)
def pSetI (g : PCfg) (S : Sto) (E : Nat → Prop) (a i c : Ex) (nx : PEnv → Prop) (e : PEnv) : Prop := match a with
  | .var j => withO (getP e j) fun q => pE g S E c e fun r => withD r fun v => pE g S E i e fun y => withD y fun k => match q with
    | .l true xs => withPI (.d k) fun n => withO (L2.ixN xs.length n) fun t => nx (e.set j (some (.l true (xs.set t v))))
    | .m true kvs => kindOk kvs k = true ∧ kvs.length < line ∧ nx (e.set j (some (.m true (dput kvs k v))))
    | _ => False
  | _ => False
def pRet (g : PCfg) (S : Sto) (E : Nat → Prop) (rt : PK) (a : Ex) (e : PEnv) : Prop := match a with
  | .var j => withO (getP e j) fun r => okA r = true ∧ rt r
  | a => pE g S E a e fun r => okA r = true ∧ rt r
mutual
def pS (g : PCfg) (S : Sto) (E : Nat → Prop) (rt : PK) : Sm → (PEnv → Prop) → PEnv → Prop
  | .asg i a, nx, e => pAsg g S E i a nx e
  | .asgs is a, nx, e => pAsgs g S E is a nx e
  | .par i j a b, nx, e => pE g S E a e fun x => withD x fun v => pE g S E b e fun y => withD y fun w => nx ((e.set i (some (.d v))).set j (some (.d w)))
  | .setI a i c, nx, e => pSetI g S E a i c nx e
  | .setF a f c, nx, e => False
  | .expr a, nx, e => pX g S E a nx e
  | .ret a, nx, e => pRet g S E rt a e
  | .ret0, nx, e => rt (.d .non)
  | .pass, nx, e => nx e
  | .ite c a b, nx, e => pE g S E c e fun x => withPB x fun k => (k = true → pSs g S E rt a nx e) ∧ (k = false → pSs g S E rt b nx e)
  | .while c b, nx, e => ∃ W : Nat → PEnv → Prop, (∃ m, W m e) ∧ ∀ m e, W m e → pE g S E c e fun x => withPB x fun k =>
      (k = true → pSs g S E rt b (fun e' => ∃ m', m' < m ∧ W m' e') e) ∧ (k = false → nx e)
  | .for tg it b, nx, e => pIs g S E it e fun xs => pFor tg (fun k e' => pSs g S E rt b k e') nx xs (frz e it)
  | .raise c _, nx, e => E c
  | .bad, nx, e => False
  | .try1 b c _ h, nx, e => pSs g S (fun x => g.G.ek x = true ∧ (g.G.sub x c = true → pH g E rt h x) ∧ (g.G.sub x c = false → E x)) rt b nx e
def pSs (g : PCfg) (S : Sto) (E : Nat → Prop) (rt : PK) : Sms → (PEnv → Prop) → PEnv → Prop
  | .nil, nx, e => nx e
  | .cons s r, nx, e => pS g S E rt s (fun e' => pSs g S E rt r nx e') e
end
def startP (n : Nat) (vs : List PV) : PEnv := vs.map some ++ List.replicate (n - vs.length) none
abbrev Wp (g : PCfg) (ps : PSpec) (N : List Str) (b : Sms) : Prop := ∀ args S Q E, ps args S Q E → pSs g S E Q b (fun _ => Q (.d .non)) (startP N.length args)
end DL

set_option autoImplicit true
set_option Elab.async false
set_option autoImplicit false
set_option linter.all false
set_option maxRecDepth 100000
set_option maxHeartbeats 4000000
/-! Own layer, pure level, part 2: what stands behind the pure level; operations. -/
namespace DL
open PySem

def ResR (S S' : Sto) (v : Val) : PV → Prop
  | .d x => v = x
  | .l o xs => ∃ a, v = .ref a ∧ S' a = some (.lst xs) ∧ (o = true → S a = none)
  | .m o kvs => ∃ a t, v = .ref a ∧ S' a = some (.dct kvs t) ∧ (o = true → S a = none)
  | .p _ _ => False
theorem ResR.le {S S1 S2 : Sto} {v : Val} : ∀ {r : PV}, ResR S S1 v r → Sto.le S1 S2 → ResR S S2 v r
  | .d _, h, _ => h
  | .l _ _, ⟨a, e, h, f⟩, q => ⟨a, e, q _ _ h, f⟩
  | .m _ _, ⟨a, t, e, h, f⟩, q => ⟨a, t, e, q _ _ h, f⟩
  | .p _ _, h, _ => h.elim
theorem ResR.base {S S1 S2 : Sto} {v : Val} : ∀ {r : PV}, ResR S1 S2 v r → Sto.le S S1 → ResR S S2 v r
  | .d _, h, _ => h
  | .l _ _, ⟨a, e, h, f⟩, q => ⟨a, e, h, fun o => le_off q (f o)⟩
  | .m _ _, ⟨a, t, e, h, f⟩, q => ⟨a, t, e, h, fun o => le_off q (f o)⟩
  | .p _ _, h, _ => h.elim
theorem ResR.bor {S S1 S2 : Sto} {v : Val} : ∀ {r : PV}, ResR S1 S2 v r → ResR S S2 v r.bor
  | .d _, h => h
  | .l _ _, ⟨a, e, h, f⟩ => ⟨a, e, h, fun o => by cases o⟩
  | .m _ _, ⟨a, t, e, h, f⟩ => ⟨a, t, e, h, fun o => by cases o⟩
  | .p _ _, h => h.elim
theorem lof_res {S0 S S1 : Sto} {x : PV} {xs : List Val} {v : Val} (h : lof S0 x = some xs) (le : Sto.le S0 S) (r : ResR S1 S v x) : ∃ a, v = .ref a ∧ S a = some (.lst xs) := by
  cases x with
  | l o ys =>
    simp only [lof, Option.some.injEq] at h
    subst h
    obtain ⟨a, e, h, _⟩ := r
    exact ⟨a, e, h⟩
  | m o ys => cases h
  | p ys w => cases h
  | d w =>
    have r : v = w := r
    subst r
    cases v <;> simp only [lof] at h <;> first | (cases h; done) | skip
    rename_i a
    split at h
    · rename_i ys e
      cases h
      exact ⟨a, rfl, le _ _ e⟩
    · cases h
theorem dof_res {S0 S S1 : Sto} {x : PV} {xs : List (Val × Val)} {v : Val} (h : dof S0 x = some xs) (le : Sto.le S0 S) (r : ResR S1 S v x) : ∃ a t, v = .ref a ∧ S a = some (.dct xs t) := by
  cases x with
  | m o ys =>
    simp only [dof, Option.some.injEq] at h
    subst h
    obtain ⟨a, t, e, h, _⟩ := r
    exact ⟨a, t, e, h⟩
  | l o ys => cases h
  | p ys w => cases h
  | d w =>
    have r : v = w := r
    subst r
    cases v <;> simp only [dof] at h <;> first | (cases h; done) | skip
    rename_i a
    split at h
    · rename_i ys t e
      cases h
      exact ⟨a, t, rfl, le _ _ e⟩
    · cases h
theorem dvl_res {S S1 : Sto} {x : PV} {a : Val} {v : Val} (h : dvl x = some a) (r : ResR S1 S v x) : v = a ∧ isRefV a = false := by
  cases x with
  | d w =>
    have r : v = w := r
    subst r
    cases v <;> simp only [dvl, Option.some.injEq] at h <;> first | (subst h; exact ⟨rfl, rfl⟩) | cases h
  | l _ _ => cases h
  | m _ _ => cases h
  | p _ _ => cases h
theorem withO_i {α : Type} {o : Option α} {k : α → Prop} (h : withO o k) : ∃ a, o = some a ∧ k a := by
  cases o with
  | none => exact h.elim
  | some a => exact ⟨a, rfl, h⟩
theorem withD_i {x : PV} {k : Val → Prop} (h : withD x k) : ∃ a, x = .d a ∧ k a := by
  cases x with
  | d a => exact ⟨a, rfl, h⟩
  | l _ _ => exact h.elim
  | m _ _ => exact h.elim
  | p _ _ => exact h.elim
theorem withPB_i {x : PV} {k : Bool → Prop} (h : withPB x k) : ∃ a, x = .d (.bl a) ∧ k a := by
  cases x with
  | d a => cases a <;> first | exact h.elim | exact ⟨_, rfl, h⟩
  | l _ _ => exact h.elim
  | m _ _ => exact h.elim
  | p _ _ => exact h.elim
theorem withPI_i {x : PV} {k : Int → Prop} (h : withPI x k) : ∃ a, x = .d (.int a) ∧ k a := by
  cases x with
  | d a => cases a <;> first | exact h.elim | exact ⟨_, rfl, h⟩
  | l _ _ => exact h.elim
  | m _ _ => exact h.elim
  | p _ _ => exact h.elim
abbrev PKo (Q : PK) (S : Sto) (K : KV) : Prop := ∀ u S' r, Sto.le S S' → ResR S S' u r → Q r → K u S'
theorem PKo.d {Q : PK} {S : Sto} {K : KV} (k : PKo Q S K) {v : Val} (h : Q (.d v)) : K v S := k v S (.d v) (.refl S) rfl h
theorem PKo.l {Q : PK} {S : Sto} {K : KV} (k : PKo Q S K) {xs : List Val} (h : Q (.l true xs)) : ∀ p, S p = none → K (.ref p) (up S p (.lst xs)) := fun p n => k _ _ (.l true xs) (le_new (.refl S) n) ⟨p, rfl, DL.up_same, fun _ => n⟩ h
theorem PKo.m {Q : PK} {S : Sto} {K : KV} (k : PKo Q S K) {xs : List (Val × Val)} (h : Q (.m true xs)) : ∀ p t, S p = none → K (.ref p) (up S p (.dct xs t)) := fun p t n => k _ _ (.m true xs) (le_new (.refl S) n) ⟨p, t, rfl, DL.up_same, fun _ => n⟩ h
theorem bin_pure {o : Bop} {a b : Val} {S0 S : Sto} {Q1 K : KV} (ha : isRefV a = false) (hb : isRefV b = false) (h : wBin o a b S0 Q1) (k : ∀ v, Q1 v S0 → K v S) : wBin o a b S K := by
  cases o <;> cases a <;> first | (cases ha; done) | skip
  all_goals cases b <;> first | (cases hb; done) | skip
  all_goals simp only [wBin] at h ⊢
  all_goals first | contradiction | exact k _ h | exact ⟨h.1, k _ h.2⟩ | exact ⟨h.1, h.2.1, k _ h.2.2⟩ | exact h.elim
theorem slice_pure {a : Val} {lo hi : Option Int} {S0 S : Sto} {Q1 K : KV} (ha : isRefV a = false) (h : wSlice a lo hi S0 Q1) (k : ∀ v, Q1 v S0 → K v S) : wSlice a lo hi S K := by
  cases a <;> first | (cases ha; done) | skip
  all_goals simp only [wSlice] at h ⊢
  all_goals first | contradiction | exact k _ h | exact ⟨h.1, k _ h.2⟩ | exact h.elim
theorem withO_m {α : Type} {o : Option α} {p q : α → Prop} (h : withO o p) (k : ∀ a, p a → q a) : withO o q := by
  cases o with
  | none => exact h
  | some a => exact k a h
theorem sub_pure {a b : Val} {S0 S : Sto} {Q1 K : KV} (ha : isRefV a = false) (h : wSub a b S0 Q1) (k : ∀ v, Q1 v S0 → K v S) : wSub a b S K := by
  cases a <;> first | (cases ha; done) | skip
  all_goals cases b <;> simp only [wSub] at h ⊢
  all_goals first | contradiction | exact withO_m h fun v => k v | exact ⟨h.1, withO_m h.2 fun c => k _⟩ | exact h.elim
mutual
theorem see_le {S S' : Sto} (le : Sto.le S S') : ∀ (n : Nat) (v w : Val), S.see n v = some w → S'.see n v = some w
  | 0, v, w, h => by
    unfold Sto.see at h ⊢
    exact h
  | n + 1, v, w, h => by
    unfold Sto.see at h ⊢
    split at h
    · rename_i d
      rw [if_pos d]
      exact h
    · rename_i d
      rw [if_neg d]
      cases v <;> first | (cases h; done) | skip
      · rename_i a
        simp only at h ⊢
        split at h
        · rename_i xs e
          rw [le _ _ e]
          simp only
          cases q : S.sees n xs with
          | none => rw [q] at h; cases h
          | some ys =>
            rw [q] at h
            rw [sees_le le n xs ys q]
            exact h
        · cases h
      · rename_i xs
        simp only at h ⊢
        cases q : S.sees n xs with
        | none => rw [q] at h; cases h
        | some ys =>
          rw [q] at h
          rw [sees_le le n xs ys q]
          exact h
theorem sees_le {S S' : Sto} (le : Sto.le S S') : ∀ (n : Nat) (v w : List Val), S.sees n v = some w → S'.sees n v = some w
  | n, [], w, h => by
    unfold Sto.sees at h ⊢
    exact h
  | n, x :: xs, w, h => by
    unfold Sto.sees at h ⊢
    cases q : S.see n x with
    | none => rw [q] at h; cases h
    | some y =>
      rw [q] at h
      cases q2 : S.sees n xs with
      | none => rw [q2] at h; cases h
      | some ys =>
        rw [q2] at h
        rw [see_le le n x y q, sees_le le n xs ys q2]
        exact h
end
theorem pSee_res {S0 S S1 : Sto} {x : PV} {v w : Val} (h : pSee S0 x = some w) (le : Sto.le S0 S) (r : ResR S1 S v x) : S.see 3 v = some w := by
  cases x with
  | d z =>
    have r : v = z := r
    subst r
    exact see_le le 3 v w h
  | l o xs =>
    obtain ⟨a, rfl, e, _⟩ := r
    simp only [pSee] at h
    cases q : S0.sees 2 xs with
    | none => rw [q] at h; cases h
    | some ys =>
      rw [q] at h
      unfold Sto.see
      rw [if_neg (by simp [Val.dat])]
      simp only [e, sees_le le 2 xs ys q]
      exact h
  | m _ _ => cases h
  | p _ _ => cases h
theorem cmp_pure {o : Cop} {a b : Val} {S0 S : Sto} {Q1 K : KV} (le : Sto.le S0 S) (ha : isRefV a = false) (hb : isRefV b = false) (h : wCmp o a b S0 Q1) (k : ∀ v, Q1 v S0 → K v S) : wCmp o a b S K := by
  have e1 : ∀ {p : Val → Val → Prop} {q : Val → Val → Prop}, (withO (S0.see 3 a) fun x => withO (S0.see 3 b) fun y => p x y) → (∀ x y, p x y → q x y) → withO (S.see 3 a) fun x => withO (S.see 3 b) fun y => q x y := by
    intro p q h k
    obtain ⟨x, hx, h⟩ := withO_i h
    obtain ⟨y, hy, h⟩ := withO_i h
    rw [see_le le _ _ _ hx, see_le le _ _ _ hy]
    exact k _ _ h
  cases o
  · exact e1 h fun x y h => ⟨h.1, k _ h.2⟩
  · exact e1 h fun x y h => ⟨h.1, k _ h.2⟩
  all_goals cases b <;> first | (cases hb; done) | skip
  all_goals cases a <;> first | (cases ha; done) | skip
  all_goals simp only [wCmp] at h ⊢
  all_goals first | contradiction | exact k _ h | exact ⟨h.1, k _ h.2⟩ | exact ⟨h.1, h.2.1, k _ h.2.2⟩ | exact h.elim | exact withO_m h fun _ h => withO_m h fun _ h => k _ h
theorem op_bin {o : Bop} {x y : PV} {S0 S1 S : Sto} {Q : PK} {v w : Val} (h : pBin o x y S0 Q) (le : Sto.le S0 S) (hx : ResR S1 S v x) (hy : ResR S1 S w y) {K : KV} (k : PKo Q S K) : wBin o v w S K := by
  unfold pBin at h
  split at h
  · rename_i xs ys e1 e2
    obtain ⟨a, rfl, ea⟩ := lof_res e1 le hx
    obtain ⟨b, rfl, eb⟩ := lof_res e2 le hy
    obtain ⟨rfl, h1, h2⟩ := h
    simp only [wBin, ea, eb]
    exact ⟨h1, k.l h2⟩
  · rename_i xs e1 e2
    obtain ⟨a, rfl, ea⟩ := lof_res e1 le hx
    obtain ⟨n, rfl, rfl, h1, h2⟩ := withPI_i h
    have hy : w = .int n := hy
    subst hy
    simp only [wBin, ea]
    exact ⟨h1, k.l h2⟩
  · obtain ⟨a, ea, h⟩ := withO_i h
    obtain ⟨b, eb, h⟩ := withO_i h
    obtain ⟨rfl, ra⟩ := dvl_res ea hx
    obtain ⟨rfl, rb⟩ := dvl_res eb hy
    exact bin_pure ra rb h fun v q => k.d q
theorem op_slice {x : PV} {lo hi : Option Int} {S0 S1 S : Sto} {Q : PK} {v : Val} (h : pSlice x lo hi S0 Q) (le : Sto.le S0 S) (hx : ResR S1 S v x) {K : KV} (k : PKo Q S K) : wSlice v lo hi S K := by
  unfold pSlice at h
  split at h
  · rename_i xs e1
    obtain ⟨a, rfl, ea⟩ := lof_res e1 le hx
    simp only [wSlice, ea]
    exact k.l h
  · obtain ⟨a, ea, h⟩ := withO_i h
    obtain ⟨rfl, ra⟩ := dvl_res ea hx
    exact slice_pure ra h fun v q => k.d q
theorem op_sub {x y : PV} {S0 S1 S : Sto} {Q : PK} {v w : Val} (h : pSub x y S0 Q) (le : Sto.le S0 S) (hx : ResR S1 S v x) (hy : ResR S1 S w y) {K : KV} (k : PKo Q S K) : wSub v w S K := by
  unfold pSub at h
  obtain ⟨z, rfl, h⟩ := withD_i h
  have hy : w = z := hy
  subst hy
  split at h
  · rename_i xs e1
    obtain ⟨a, rfl, ea⟩ := lof_res e1 le hx
    obtain ⟨n, e, h⟩ := withPI_i h
    cases e
    simp only [wSub, ea]
    exact withO_m h fun u q => k.d q
  · split at h
    · rename_i xs e1
      obtain ⟨a, t, rfl, ea⟩ := dof_res e1 le hx
      cases w <;> (simp only [wSub, ea]; exact ⟨h.1, withO_m h.2 fun u q => k.d q⟩)
    · obtain ⟨a, ea, h⟩ := withO_i h
      obtain ⟨rfl, ra⟩ := dvl_res ea hx
      exact sub_pure ra h fun v q => k.d q
theorem op_cmp {o : Cop} {x y : PV} {S0 S1 S : Sto} {Q : PK} {v w : Val} (h : pCmp o x y S0 Q) (le : Sto.le S0 S) (hx : ResR S1 S v x) (hy : ResR S1 S w y) {K : KV} (k : PKo Q S K) : wCmp o v w S K := by
  have hd : ∀ {o}, (withO (dvl x) fun a => withO (dvl y) fun b => wCmp o a b S0 fun v _ => Q (.d v)) → wCmp o v w S K := by
    intro o h
    obtain ⟨a, ea, h⟩ := withO_i h
    obtain ⟨b, eb, h⟩ := withO_i h
    obtain ⟨rfl, ra⟩ := dvl_res ea hx
    obtain ⟨rfl, rb⟩ := dvl_res eb hy
    exact cmp_pure le ra rb h fun v q => k.d q
  cases o
  · obtain ⟨a, ea, h⟩ := withO_i h
    obtain ⟨b, eb, h⟩ := withO_i h
    simp only [wCmp, pSee_res ea le hx, pSee_res eb le hy]
    exact ⟨h.1, k.d h.2⟩
  · obtain ⟨a, ea, h⟩ := withO_i h
    obtain ⟨b, eb, h⟩ := withO_i h
    simp only [wCmp, pSee_res ea le hx, pSee_res eb le hy]
    exact ⟨h.1, k.d h.2⟩
  · exact hd h
  · exact hd h
  · exact hd h
  · exact hd h
  · obtain ⟨z, e0, h'⟩ := withD_i h
    replace h := h'
    clear h'
    subst e0
    have hx : v = z := hx
    subst hx
    split at h
    · rename_i xs e1
      obtain ⟨a, rfl, ea⟩ := lof_res e1 le hy
      obtain ⟨h1, h2, h3⟩ := h
      simp only [wCmp, ea]
      obtain ⟨zs, ez, h3⟩ := withO_i h3
      rw [sees_le le _ _ _ ez]
      exact ⟨h1, h2, k.d h3⟩
    · split at h
      · rename_i xs e1
        obtain ⟨a, t, rfl, ea⟩ := dof_res e1 le hy
        simp only [wCmp, ea]
        exact ⟨h.1, k.d h.2⟩
      · obtain ⟨b, eb, h⟩ := withO_i h
        obtain ⟨rfl, rb⟩ := dvl_res eb hy
        cases w <;> first | (cases rb; done) | skip
        all_goals simp only [wCmp] at h ⊢
        all_goals first | contradiction | exact k.d h | exact ⟨h.1, h.2.1, k.d h.2.2⟩ | exact h.elim | (cases v <;> first | exact h.elim | exact k.d h)
  · obtain ⟨z, e0, h'⟩ := withD_i h
    replace h := h'
    clear h'
    subst e0
    have hx : v = z := hx
    subst hx
    split at h
    · rename_i xs e1
      obtain ⟨a, rfl, ea⟩ := lof_res e1 le hy
      obtain ⟨h1, h2, h3⟩ := h
      simp only [wCmp, ea]
      obtain ⟨zs, ez, h3⟩ := withO_i h3
      rw [sees_le le _ _ _ ez]
      exact ⟨h1, h2, k.d h3⟩
    · split at h
      · rename_i xs e1
        obtain ⟨a, t, rfl, ea⟩ := dof_res e1 le hy
        simp only [wCmp, ea]
        exact ⟨h.1, k.d h.2⟩
      · obtain ⟨b, eb, h⟩ := withO_i h
        obtain ⟨rfl, rb⟩ := dvl_res eb hy
        cases w <;> first | (cases rb; done) | skip
        all_goals simp only [wCmp] at h ⊢
        all_goals first | contradiction | exact k.d h | exact ⟨h.1, h.2.1, k.d h.2.2⟩ | exact h.elim | (cases v <;> first | exact h.elim | exact k.d h)
theorem op_btL {b : Bt} {xs : List Val} {S : Sto} {Q : PK} (h : pBtL b xs S Q) {S' : Sto} {K : KV} (k : PKo Q S' K) : wBtL b xs S' K := by
  cases b <;> simp only [pBtL, wBtL] at h ⊢ <;> first | exact h.elim | exact k.d h | exact withO_m h fun _ h => k.d h | exact k.l h | exact withO_m h fun _ h => ⟨h.1, fun m h1 h2 => k.d (h.2 m h1 h2)⟩ | skip
  · obtain ⟨ps, e, hi, h⟩ := h
    exact ⟨ps, e, hi, fun p t n => k.m h p t n⟩
  · rcases h with ⟨ns, e, h⟩ | ⟨ss, e, e2, h⟩ | ⟨ss, e, e2, h⟩
    · exact .inl ⟨ns, e, fun p ms h1 h2 n => k.l (h ms h1 h2) p n⟩
    · exact .inr (.inl ⟨ss, e, e2, fun p ms h1 h2 n => k.l (h ms h1 h2) p n⟩)
    · exact .inr (.inr ⟨ss, e, e2, fun p ms h1 h2 n => k.l (h ms h1 h2) p n⟩)
theorem bt1_pure {b : Bt} {a : Val} {S0 S : Sto} {Q1 K : KV} (ha : isRefV a = false) (nl : b ≠ .list) (h : wBt b [a] S0 Q1) (k : ∀ v, Q1 v S0 → K v S) : wBt b [a] S K := by
  cases b <;> first | exact absurd rfl nl | skip
  all_goals cases a <;> first | (cases ha; done) | skip
  all_goals simp only [wBt] at h ⊢
  all_goals first | contradiction | exact k _ h | exact ⟨h.1, k _ h.2⟩ | exact h.elim
theorem bt2_pure {b : Bt} {a c : Val} {S0 S : Sto} {Q1 K : KV} (ha : isRefV a = false) (hc : isRefV c = false) (h : wBt b [a, c] S0 Q1) (k : ∀ v, Q1 v S0 → K v S) : wBt b [a, c] S K := by
  cases b
  all_goals cases a <;> first | (cases ha; done) | skip
  all_goals cases c <;> first | (cases hc; done) | skip
  all_goals simp only [wBt] at h ⊢
  all_goals first | contradiction | exact k _ h | exact ⟨h.1, k _ h.2⟩ | exact h.elim
/-- results, one for each -/
def ResRs (S S' : Sto) : List Val → List PV → Prop
  | [], [] => True
  | v :: vs, r :: rs => ResR S S' v r ∧ ResRs S S' vs rs
  | _, _ => False
theorem ResRs.le {S S1 S2 : Sto} (q : Sto.le S1 S2) : ∀ {vs : List Val} {rs : List PV}, ResRs S S1 vs rs → ResRs S S2 vs rs
  | [], [], _ => trivial
  | _ :: _, _ :: _, h => ⟨h.1.le q, h.2.le q⟩
  | [], _ :: _, h => h.elim
  | _ :: _, [], h => h.elim
theorem ResRs.base {S S1 S2 : Sto} (q : Sto.le S S1) : ∀ {vs : List Val} {rs : List PV}, ResRs S1 S2 vs rs → ResRs S S2 vs rs
  | [], [], _ => trivial
  | _ :: _, _ :: _, h => ⟨h.1.base q, h.2.base q⟩
  | [], _ :: _, h => h.elim
  | _ :: _, [], h => h.elim
theorem ds_res {S S' : Sto} : ∀ {vs : List Val} {rs : List PV} {xs : List Val}, ds rs = some xs → ResRs S S' vs rs → vs = xs
  | [], [], xs, h, _ => by cases h; rfl
  | v :: vs, .d w :: rs, xs, h, r => by
    simp only [ds] at h
    cases q : ds rs with
    | none => rw [q] at h; cases h
    | some ys =>
      rw [q] at h
      cases h
      rw [ds_res q r.2, show v = w from r.1]
  | _ :: _, .l _ _ :: _, _, h, _ => by cases h
  | _ :: _, .m _ _ :: _, _, h, _ => by cases h
  | _ :: _, .p _ _ :: _, _, h, _ => by cases h
  | [], _ :: _, _, _, r => r.elim
  | _ :: _, [], _, _, r => r.elim
theorem op_bt {b : Bt} {rs : List PV} {S0 S1 S : Sto} {Q : PK} {vs : List Val} (h : pBt b rs S0 Q) (le : Sto.le S0 S) (hx : ResRs S1 S vs rs) {K : KV} (k : PKo Q S K) : wBt b vs S K := by
  unfold pBt at h
  split at h
  · rename_i x
    cases vs with
    | nil => exact hx.elim
    | cons v vs =>
      cases vs with
      | cons _ _ => exact hx.2.elim
      | nil =>
        obtain ⟨hx, _⟩ := hx
        split at h
        · rename_i xs e1
          obtain ⟨a, rfl, ea⟩ := lof_res e1 le hx
          have h := op_btL h k
          cases b <;> simp only [wBt, ea] <;> first | exact h | exact h.elim
        · split at h
          · rename_i xs e1
            obtain ⟨a, t, rfl, ea⟩ := dof_res e1 le hx
            rcases h with ⟨rfl, h⟩ | ⟨rfl, hi, h⟩ | ⟨rfl, hi, h⟩
            · simp only [wBt, ea]
              exact k.d h
            · simp only [wBt, ea]
              exact ⟨hi, fun p n => k.l h p n⟩
            · simp only [wBt, ea]
              exact ⟨hi, fun p t n => k.m h p t n⟩
          · obtain ⟨a, ea, h⟩ := withO_i h
            obtain ⟨rfl, ra⟩ := dvl_res ea hx
            split at h
            · simp only [wBt]
              exact k.l h
            · rename_i nl
              by_cases hb : b = .list
              · subst hb
                cases v <;> first | (cases ra; done) | exact (nl _ rfl rfl).elim | exact h.elim
              · exact bt1_pure ra hb h fun v q => k.d q
  · rename_i x y
    match vs, hx with
    | [v, w], hx =>
      obtain ⟨a, ea, h⟩ := withO_i h
      obtain ⟨c, ec, h⟩ := withO_i h
      obtain ⟨rfl, ra⟩ := dvl_res ea hx.1
      obtain ⟨rfl, rc⟩ := dvl_res ec hx.2.1
      exact bt2_pure ra rc h fun v q => k.d q
    | [], hx => exact hx.elim
    | [_], hx => exact hx.2.elim
    | _ :: _ :: _ :: _, hx => exact hx.2.2.elim
  · exact h.elim
theorem op_isi {t : Ty} {x : PV} {S0 S1 S : Sto} {Q : PK} {v : Val} (h : pIsi t x S0 Q) (le : Sto.le S0 S) (hx : ResR S1 S v x) {K : KV} (k : PKo Q S K) : tyKnown v S = true ∧ K (.bl (tyOf t v S)) S := by
  cases x with
  | d z =>
    have hx : v = z := hx
    subst hx
    obtain ⟨h1, h2⟩ := h
    cases v with
    | ref a =>
      simp only [tyKnown] at h1 ⊢
      split at h1
      · rename_i xs e
        have e2 := le _ _ e
        rw [e2]
        refine ⟨rfl, ?_⟩
        have e3 : tyOf t (.ref a) S0 = tyOf t (.ref a) S := by cases t <;> simp only [tyOf, e, e2]
        rw [← e3]
        exact k.d h2
      · cases h1
    | lst _ => cases h1
    | non => exact ⟨rfl, by cases t <;> exact k.d h2⟩
    | bl _ => exact ⟨rfl, by cases t <;> exact k.d h2⟩
    | int _ => exact ⟨rfl, by cases t <;> exact k.d h2⟩
    | str _ => exact ⟨rfl, by cases t <;> exact k.d h2⟩
    | tup _ => exact ⟨rfl, by cases t <;> exact k.d h2⟩
  | l o xs =>
    obtain ⟨a, rfl, e, _⟩ := hx
    simp only [pIsi] at h
    refine ⟨by simp only [tyKnown, e], ?_⟩
    have e3 : tyOf t (.ref a) S = decide (t = .list) := by cases t <;> simp [tyOf, e]
    rw [e3]
    exact k.d h
  | m _ _ => exact h.elim
  | p _ _ => exact h.elim
theorem seq_res {S0 S S1 : Sto} {x : PV} {xs : List Val} {v : Val} (h : seqP S0 x = some xs) (le : Sto.le S0 S) (r : ResR S1 S v x) : ∃ grd, seqOf v S = some (xs, grd) := by
  cases x with
  | l o ys =>
    simp only [seqP, Option.some.injEq] at h
    subst h
    obtain ⟨a, rfl, h, _⟩ := r
    exact ⟨_, by simp only [seqOf, h]; rfl⟩
  | m o ys => cases h
  | p ys w => cases h
  | d w =>
    have r : v = w := r
    subst r
    simp only [seqP] at h
    cases v <;> simp only [seqOf] at h <;> first | (cases h; done) | skip
    · simp only [Option.map_some, Option.some.injEq] at h
      subst h
      exact ⟨_, rfl⟩
    · rename_i a
      split at h
      · rename_i ys e2
        simp only [Option.map_some, Option.some.injEq] at h
        subst h
        exact ⟨_, by simp only [seqOf, le _ _ e2]; rfl⟩
      · cases h
theorem iter_res {S0 S S1 : Sto} {x : PV} {xs : List Val} {v : Val} (h : iterP S0 x = some xs) (le : Sto.le S0 S) (r : ResR S1 S v x) : ∃ grd, iterOf v S = some (xs, grd) ∧ ∀ S', (∀ a o, v = .ref a → S a = some o → S' a = some o) → grd S' := by
  cases x with
  | l o ys =>
    simp only [iterP, Option.some.injEq] at h
    subst h
    obtain ⟨a, rfl, h, _⟩ := r
    exact ⟨_, by simp only [iterOf, h], fun S' q => q _ _ rfl h⟩
  | m o ys =>
    obtain ⟨a, t, rfl, e, _⟩ := r
    simp only [iterP] at h
    split at h
    · rename_i ko
      cases h
      exact ⟨_, by simp only [iterOf, e, ko, if_true], fun S' q => q _ _ rfl e⟩
    · cases h
  | p ys w => cases h
  | d w =>
    have r : v = w := r
    subst r
    simp only [iterP] at h
    cases v <;> simp only [iterOf] at h <;> first | (cases h; done) | skip
    · split at h
      · rename_i hz
        cases h
        exact ⟨_, by simp only [iterOf, hz, if_true], fun _ _ => trivial⟩
      · cases h
    · cases h
      exact ⟨_, rfl, fun _ _ => trivial⟩
    · rename_i a
      split at h
      · rename_i ys e2
        simp only [Option.map_some, Option.some.injEq] at h
        subst h
        exact ⟨_, by simp only [iterOf, le _ _ e2], fun S' q => q _ _ rfl (le _ _ e2)⟩
      · rename_i ys t e2
        split at h
        · rename_i ko
          simp only [Option.map_some, Option.some.injEq] at h
          subst h
          exact ⟨_, by simp only [iterOf, le _ _ e2, ko, if_true], fun S' q => q _ _ rfl (le _ _ e2)⟩
        · cases h
      · cases h
theorem list_res {S0 S S1 : Sto} {x : PV} {xs : List Val} {v : Val} (h : enP S0 x = some xs) (le : Sto.le S0 S) (r : ResR S1 S v x) : ∃ grd, listOf v S = some (xs, grd) ∧ ∀ S', (∀ a o, v = .ref a → S a = some o → S' a = some o) → grd S' := by
  cases x with
  | l o ys =>
    simp only [enP, Option.some.injEq] at h
    subst h
    obtain ⟨a, rfl, h, _⟩ := r
    exact ⟨_, by simp only [listOf, h], fun S' q => q _ _ rfl h⟩
  | m o ys => cases h
  | p ys w => cases h
  | d w =>
    have r : v = w := r
    subst r
    simp only [enP] at h
    cases v <;> simp only [listOf] at h <;> first | (cases h; done) | skip
    · split at h
      · rename_i hz
        cases h
        exact ⟨_, by simp only [listOf, hz, if_true], fun _ _ => trivial⟩
      · cases h
    · cases h
      exact ⟨_, rfl, fun _ _ => trivial⟩
    · rename_i a
      split at h
      · rename_i ys e2
        simp only [Option.map_some, Option.some.injEq] at h
        subst h
        exact ⟨_, by simp only [listOf, le _ _ e2], fun S' q => q _ _ rfl (le _ _ e2)⟩
      · cases h
theorem zip_res {S0 S S1 : Sto} {x y : PV} {xs : List Val} {v w : Val} (h : zipP S0 x y = some xs) (le : Sto.le S0 S) (r : ResR S1 S v x) (r2 : ResR S1 S w y) : ∃ grd, zipOf v w S = some (xs, grd) ∧ ∀ S', (∀ a o, v = .ref a ∨ w = .ref a → S a = some o → S' a = some o) → grd S' := by
  unfold zipP at h
  split at h
  · rename_i us ws e1 e2
    obtain ⟨a, rfl, ea⟩ := lof_res e1 le r
    obtain ⟨b, rfl, eb⟩ := lof_res e2 le r2
    cases h
    exact ⟨fun S' => S' a = some (.lst us) ∧ S' b = some (.lst ws), by simp only [zipOf, ea, eb], fun S' q => ⟨q _ _ (.inl rfl) ea, q _ _ (.inr rfl) eb⟩⟩
  · split at h
    · rename_i us ws _ _
      have e1 : v = .tup us := r
      have e2 : w = .tup ws := r2
      cases h
      rw [e1, e2]
      exact ⟨_, rfl, fun _ _ => trivial⟩
    · cases h
  · cases h
end DL

set_option autoImplicit true
set_option Elab.async false
set_option autoImplicit false
set_option linter.all false
set_option maxRecDepth 100000
set_option maxHeartbeats 4000000
/-! Own layer, pure level, part 3: expressions. -/
namespace DL
open PySem

def hasA (pe : PEnv) (i : Nat) : Bool := match getP pe i with
  | some (.l _ _) => true
  | some (.m _ _) => true
  | _ => false
def ownS (pe : PEnv) (i : Nat) : Bool := match getP pe i with
  | some (.l o _) => o
  | some (.m o _) => o
  | _ => false
/-- what a pure environment says -/
structure PR (S0 Se : Sto) (pe : PEnv) (e : Env) (S : Sto) (adr : Nat → Addr) : Prop where
  le0 : Sto.le S0 Se
  leE : Sto.le Se S
  len : e.length = pe.length
  dd : ∀ i v, getP pe i = some (.d v) → getV e i = some v
  ll : ∀ i o xs, getP pe i = some (.l o xs) → getV e i = some (.ref (adr i)) ∧ S (adr i) = some (.lst xs)
  mm : ∀ i o kvs, getP pe i = some (.m o kvs) → getV e i = some (.ref (adr i)) ∧ ∃ t, S (adr i) = some (.dct kvs t)
  nop : ∀ i xs v, getP pe i ≠ some (.p xs v)
  own : ∀ i, ownS pe i = true → Se (adr i) = none ∧ ∀ j, j ≠ i → hasA pe j = true → adr j ≠ adr i
theorem PR.low {S0 Se : Sto} {pe : PEnv} {e : Env} {S : Sto} {adr : Nat → Addr} (h : PR S0 Se pe e S adr) : Sto.le S0 S := h.le0.trans h.leE
theorem PR.step {S0 Se : Sto} {pe : PEnv} {e : Env} {S S' : Sto} {adr : Nat → Addr} (h : PR S0 Se pe e S adr) (le : Sto.le S S') : PR S0 Se pe e S' adr :=
  ⟨h.le0, h.leE.trans le, h.len, h.dd, fun i o xs q => ⟨(h.ll i o xs q).1, le _ _ (h.ll i o xs q).2⟩, fun i o xs q => by
    obtain ⟨h1, t, h2⟩ := h.mm i o xs q
    exact ⟨h1, t, le _ _ h2⟩, h.nop, h.own⟩
theorem getP_set (e : PEnv) (i j : Nat) (x : Option PV) : getP (e.set i x) j = if i = j ∧ i < e.length then x else getP e j := by
  unfold getP
  rw [List.getElem?_set]
  by_cases h : i = j
  · subst h
    by_cases hl : i < e.length
    · simp [hl]
    · simp [hl]
  · simp [h]
theorem getV_set (e : Env) (i j : Nat) (x : Option Val) : getV (e.set i x) j = if i = j ∧ i < e.length then x else getV e j := by
  unfold getV
  rw [List.getElem?_set]
  by_cases h : i = j
  · subst h
    by_cases hl : i < e.length
    · simp [hl]
    · simp [hl]
  · simp [h]
theorem own_has {pe : PEnv} {i : Nat} (h : ownS pe i = true) : hasA pe i = true := by
  unfold ownS at h
  unfold hasA
  split at h <;> first | rfl | cases h
/-- a slot is set to a plain value, or to nothing -/
theorem PR.setD {S0 Se : Sto} {pe : PEnv} {e : Env} {S : Sto} {adr : Nat → Addr} (h : PR S0 Se pe e S adr) (i : Nat) (r : Option PV) (v : Option Val) (hr : ∀ q, r = some q → ∃ w, q = .d w ∧ v = some w) : PR S0 Se (pe.set i r) (e.set i v) S adr := by
  have key : ∀ j q, getP (pe.set i r) j = some q → (∃ w, q = .d w ∧ getV (e.set i v) j = some w) ∨ (getP pe j = some q ∧ getV (e.set i v) j = getV e j) := by
    intro j q hq
    rw [getP_set] at hq
    rw [getV_set, h.len]
    split at hq
    · rename_i c
      rw [if_pos c]
      obtain ⟨w, h1, h2⟩ := hr q hq
      exact .inl ⟨w, h1, h2⟩
    · rename_i c
      rw [if_neg c]
      exact .inr ⟨hq, rfl⟩
  have kA : ∀ j, hasA (pe.set i r) j = true → hasA pe j = true := by
    intro j hj
    unfold hasA at hj
    split at hj
    · rename_i a b q
      rcases key _ _ q with ⟨w, z, _⟩ | ⟨z, _⟩
      · cases z
      · unfold hasA; rw [z]
    · rename_i a b q
      rcases key _ _ q with ⟨w, z, _⟩ | ⟨z, _⟩
      · cases z
      · unfold hasA; rw [z]
    · cases hj
  have kO : ∀ j, ownS (pe.set i r) j = true → ownS pe j = true := by
    intro j hj
    unfold ownS at hj
    split at hj
    · rename_i a b q
      rcases key _ _ q with ⟨w, z, _⟩ | ⟨z, _⟩
      · cases z
      · unfold ownS; rw [z]; exact hj
    · rename_i a b q
      rcases key _ _ q with ⟨w, z, _⟩ | ⟨z, _⟩
      · cases z
      · unfold ownS; rw [z]; exact hj
    · cases hj
  refine ⟨h.le0, h.leE, by simp [h.len], fun j w q => ?_, fun j o xs q => ?_, fun j o xs q => ?_, fun j xs w q => ?_, fun j hj => ⟨(h.own j (kO j hj)).1, fun k n hk => (h.own j (kO j hj)).2 k n (kA k hk)⟩⟩
  · rcases key _ _ q with ⟨w', z, z2⟩ | ⟨z, z2⟩
    · cases z; exact z2
    · rw [z2]; exact h.dd _ _ z
  · rcases key _ _ q with ⟨w', z, z2⟩ | ⟨z, z2⟩
    · cases z
    · rw [z2]; exact h.ll _ _ _ z
  · rcases key _ _ q with ⟨w', z, z2⟩ | ⟨z, z2⟩
    · cases z
    · rw [z2]; exact h.mm _ _ _ z
  · rcases key _ _ q with ⟨w', z, z2⟩ | ⟨z, z2⟩
    · cases z
    · exact h.nop _ _ _ z
theorem PR.bind {S0 Se : Sto} {adr : Nat → Addr} {S : Sto} {tg : Tg} {pe pe' : PEnv} {e : Env} {x : Val} (h : PR S0 Se pe e S adr) (b : bindP tg pe x = some pe') : ∃ e', bindT tg e x = some e' ∧ PR S0 Se pe' e' S adr := by
  have key : ∀ (is : List Nat) (vs : List Val) (pe pe' : PEnv) (e : Env), PR S0 Se pe e S adr → bindManyP pe is vs = some pe' → ∃ e', bindMany e is vs = some e' ∧ PR S0 Se pe' e' S adr := by
    intro is
    induction is with
    | nil =>
      intro vs pe pe' e h b
      cases vs with
      | nil => cases b; exact ⟨e, rfl, h⟩
      | cons _ _ => cases b
    | cons i is ih =>
      intro vs pe pe' e h b
      cases vs with
      | nil => cases b
      | cons v vs => exact ih vs _ _ _ (h.setD i (some (.d v)) (some v) fun q z => by cases z; exact ⟨v, rfl, rfl⟩) b
  cases tg with
  | one i =>
    have e1 : bindP (.one i) pe x = some (pe.set i (some (.d x))) := by cases x <;> rfl
    rw [e1] at b
    cases b
    exact ⟨_, bind_one i e x, h.setD i (some (.d x)) (some x) fun q z => by cases z; exact ⟨x, rfl, rfl⟩⟩
  | many is =>
    cases x <;> first | (cases b; done) | skip
    rename_i vs
    exact key is vs _ _ _ h b
theorem PR.wipe {S0 Se : Sto} {adr : Nat → Addr} {S : Sto} {pe : PEnv} {e : Env} (h : PR S0 Se pe e S adr) : ∀ own : List Nat, PR S0 Se (wipeP pe own) (wipeE e own) S adr
  | [] => h
  | i :: r => (PR.wipe h r).setD i none none fun q z => by cases z
theorem PKo.step {Q : PK} {S S1 : Sto} {K : KV} (k : PKo Q S K) (le : Sto.le S S1) : PKo Q S1 K := fun u S' r l rr q => k u S' r (le.trans l) (rr.base le) q
abbrev PXo (E : Nat → Prop) (S : Sto) (E' : Nat → Sto → Prop) : Prop := ∀ x S', Sto.le S S' → E x → E' x S'
theorem PXo.step {E : Nat → Prop} {S S1 : Sto} {E' : Nat → Sto → Prop} (k : PXo E S E') (le : Sto.le S S1) : PXo E S1 E' := fun x S' l q => k x S' (le.trans l) q
theorem noP_x {S : Sto} : PXo noP S noE := fun _ _ _ h => h.elim
theorem t_turns {S : Sto} {bodyP : Val → (Option Val → Prop) → Prop} {bodyW : Val → Sto → (Option Val → Sto → Prop) → Prop} {grd : Sto → Prop} {Q : List Val → Prop} {K : List Val → Sto → Prop} (hg : ∀ S', Sto.le S S' → grd S')
    (hb : ∀ x kp (kw : Option Val → Sto → Prop) S1, Sto.le S S1 → bodyP x kp → (∀ r S2, Sto.le S1 S2 → kp r → kw r S2) → bodyW x S1 kw) (hq : ∀ vs S', Sto.le S S' → Q vs → K vs S') :
    ∀ (xs acc : List Val) (S1 : Sto), Sto.le S S1 → pTurns bodyP Q xs acc → wTurns bodyW grd K xs acc S1
  | [], acc, S1, le, h => ⟨hg S1 le, hq acc S1 le h⟩
  | x :: xs, acc, S1, le, h => ⟨hg S1 le, hb x _ _ S1 le h fun r S2 le2 q => t_turns hg hb hq xs _ S2 (le.trans le2) q⟩
theorem args_of {S S1 : Sto} : ∀ {vs : List Val} {rs : List PV}, ResRs S S1 vs rs → ArgR S1 vs (rs.map PV.bor)
  | [], [], _ => trivial
  | v :: vs, r :: rs, h => by
    refine ⟨?_, args_of h.2⟩
    have h1 := h.1
    cases r with
    | d x => exact h1
    | l o xs =>
      obtain ⟨a, e, q, _⟩ := h1
      exact ⟨rfl, a, e, q⟩
    | m o xs =>
      obtain ⟨a, t, e, q, _⟩ := h1
      exact ⟨rfl, a, t, e, q⟩
    | p _ _ => exact h1.elim
  | [], _ :: _, h => h.elim
  | _ :: _, [], h => h.elim
theorem resU_of {Q : PK} {S : Sto} {K : KV} (k : PKo Q S K) : ∀ r : PV, r.isP = false ∧ Q r → ResU K S r
  | .d v, h => k.d h.2
  | .l o xs, h => fun p n => k _ _ (.l o xs) (le_new (.refl S) n) ⟨p, rfl, DL.up_same, fun _ => n⟩ h.2
  | .m o xs, h => fun p t n => k _ _ (.m o xs) (le_new (.refl S) n) ⟨p, t, rfl, DL.up_same, fun _ => n⟩ h.2
  | .p _ _, h => by cases h.1
theorem le_keep {S S' : Sto} {v : Val} (le : Sto.le S S') : Sto.le S (keep S S' v) := fun a o h => by
  unfold keep
  rw [h]
  simp only [Option.isSome_some, Bool.true_or, if_true]
  exact le _ _ h
theorem res_keep {S S' : Sto} {v : Val} : ∀ {r : PV}, ResR S S' v r → ResR S (keep S S' v) v r
  | .d _, h => h
  | .l _ _, ⟨a, e, h, f⟩ => ⟨a, e, by subst e; simp [keep, isRef, h], f⟩
  | .m _ _, ⟨a, t, e, h, f⟩ => ⟨a, t, e, by subst e; simp [keep, isRef, h], f⟩
  | .p _ _, h => h.elim
theorem rng_imp {vs : List Val} {K K' : Int → Nat → Int → Prop} (h : wRng vs K) (k : ∀ lo n st, K lo n st → K' lo n st) : wRng vs K' := by
  unfold wRng at h ⊢
  split at h
  · exact ⟨h.1, h.2.1, k _ _ _ h.2.2⟩
  · exact ⟨h.1, k _ _ _ h.2⟩
  · exact ⟨h.1, h.2.1, k _ _ _ h.2.2⟩
  · exact h.elim
mutual
theorem sE : ∀ (x : Ex) {g : PCfg} {S0 : Sto} {E : Nat → Prop} {pe : PEnv} {Q : PK}, pE g S0 E x pe Q → ∀ {Se : Sto} {e : Env} {S : Sto} {adr : Nat → Addr} {E' : Nat → Sto → Prop} {K : KV}, PR S0 Se pe e S adr → PKo Q S K → PXo E S E' → wE g.G E' x e S K
  | .var i, g, S0, E, pe, Q, h, Se, e, S, adr, E', K, pr, k, x => by
    rw [pE] at h
    rw [wE]
    obtain ⟨r, er, h⟩ := withO_i h
    cases r with
    | d v => rw [pr.dd i v er]; exact k.d h
    | l o xs =>
      obtain ⟨h1, h2⟩ := pr.ll i o xs er
      rw [h1]
      exact k _ _ (.l false xs) (.refl S) ⟨_, rfl, h2, fun z => by cases z⟩ h
    | m o xs =>
      obtain ⟨h1, t, h2⟩ := pr.mm i o xs er
      rw [h1]
      exact k _ _ (.m false xs) (.refl S) ⟨_, t, rfl, h2, fun z => by cases z⟩ h
    | p xs v => exact (pr.nop _ _ _ er).elim
  | .glob y, g, S0, E, pe, Q, h, Se, e, S, adr, E', K, pr, k, x => by
    rw [pE] at h
    rw [wE]
    exact withO_m h fun v q => k.d q
  | .int i, g, S0, E, pe, Q, h, Se, e, S, adr, E', K, pr, k, x => by
    rw [pE] at h
    rw [wE]
    exact k.d h
  | .bl i, g, S0, E, pe, Q, h, Se, e, S, adr, E', K, pr, k, x => by
    rw [pE] at h
    rw [wE]
    exact k.d h
  | .non, g, S0, E, pe, Q, h, Se, e, S, adr, E', K, pr, k, x => by
    rw [pE] at h
    rw [wE]
    exact k.d h
  | .str i, g, S0, E, pe, Q, h, Se, e, S, adr, E', K, pr, k, x => by
    rw [pE] at h
    rw [wE]
    exact k.d h
  | .bin o a b, g, S0, E, pe, Q, h, Se, e, S, adr, E', K, pr, k, x => by
    rw [pE] at h
    rw [wE]
    exact sE a h pr (fun u S1 r le1 rr q => sE b q (pr.step le1) (fun w S2 r2 le2 rr2 q2 => op_bin q2 (pr.low.trans (le1.trans le2)) (rr.le le2) (rr2.base le1) (k.step (le1.trans le2))) (x.step le1)) x
  | .neg a, g, S0, E, pe, Q, h, Se, e, S, adr, E', K, pr, k, x => by
    rw [pE] at h
    rw [wE]
    refine sE a h pr (fun u S1 r le1 rr q => ?_) x
    obtain ⟨i, rfl, q⟩ := withPI_i q
    rw [show u = .int i from rr]
    exact (k.step le1).d q
  | .not a, g, S0, E, pe, Q, h, Se, e, S, adr, E', K, pr, k, x => by
    rw [pE] at h
    rw [wE]
    refine sE a h pr (fun u S1 r le1 rr q => ?_) x
    obtain ⟨i, rfl, q⟩ := withPB_i q
    rw [show u = .bl i from rr]
    exact (k.step le1).d q
  | .cmp o a b, g, S0, E, pe, Q, h, Se, e, S, adr, E', K, pr, k, x => by
    rw [pE] at h
    rw [wE]
    exact sE a h pr (fun u S1 r le1 rr q => sE b q (pr.step le1) (fun w S2 r2 le2 rr2 q2 => op_cmp q2 (pr.low.trans (le1.trans le2)) (rr.le le2) (rr2.base le1) (k.step (le1.trans le2))) (x.step le1)) x
  | .tix zs a, g, S0, E, pe, Q, h, Se, e, S, adr, E', K, pr, k, x => by
    rw [pE] at h
    rw [wE]
    refine sE a h pr (fun u S1 r le1 rr q => ?_) x
    cases r with
    | d v =>
      rw [show u = v from rr]
      cases v with
      | str z => exact withO_m q fun j q => (k.step le1).d q
      | _ => exact q.elim
    | l o xs => exact q.elim
    | m o kvs => exact q.elim
    | p xs v => exact q.elim
  | .isN a, g, S0, E, pe, Q, h, Se, e, S, adr, E', K, pr, k, x => by
    rw [pE] at h
    rw [wE]
    refine sE a h pr (fun u S1 r le1 rr q => ?_) x
    cases r with
    | d v =>
      rw [show u = v from rr]
      cases v <;> exact (k.step le1).d q
    | l o xs => obtain ⟨a, rfl, _⟩ := rr; exact (k.step le1).d q
    | m o xs => obtain ⟨a, t, rfl, _⟩ := rr; exact (k.step le1).d q
    | p _ _ => exact rr.elim
  | .notN a, g, S0, E, pe, Q, h, Se, e, S, adr, E', K, pr, k, x => by
    rw [pE] at h
    rw [wE]
    refine sE a h pr (fun u S1 r le1 rr q => ?_) x
    cases r with
    | d v =>
      rw [show u = v from rr]
      cases v <;> exact (k.step le1).d q
    | l o xs => obtain ⟨a, rfl, _⟩ := rr; exact (k.step le1).d q
    | m o xs => obtain ⟨a, t, rfl, _⟩ := rr; exact (k.step le1).d q
    | p _ _ => exact rr.elim
  | .chain o p a b c, g, S0, E, pe, Q, h, Se, e, S, adr, E', K, pr, k, x => by
    rw [pE] at h
    rw [wE]
    refine sE a h pr (fun u S1 r le1 rr q => sE b q (pr.step le1) (fun w S2 r2 le2 rr2 q2 => op_cmp q2 (pr.low.trans (le1.trans le2)) (rr.le le2) (rr2.base le1) fun z S3 r3 le3 rr3 q3 => ?_) (x.step le1)) x
    obtain ⟨bb, rfl, q3⟩ := withPB_i q3
    rw [show z = .bl bb from rr3]
    have le := le1.trans (le2.trans le3)
    refine ⟨fun t => sE c (q3.1 t) (pr.step le) (fun u4 S4 r4 le4 rr4 q4 => op_cmp q4 (pr.low.trans (le.trans le4)) ((rr2.base le1).le (le3.trans le4)) (rr4.base le) (k.step (le.trans le4))) (x.step le), fun t => (k.step le).d (q3.2 t)⟩
  | .and a b, g, S0, E, pe, Q, h, Se, e, S, adr, E', K, pr, k, x => by
    rw [pE] at h
    rw [wE]
    refine sE a h pr (fun u S1 r le1 rr q => ?_) x
    obtain ⟨i, rfl, q⟩ := withPB_i q
    rw [show u = .bl i from rr]
    exact ⟨fun t => sE b (q.1 t) (pr.step le1) (k.step le1) (x.step le1), fun t => (k.step le1).d (q.2 t)⟩
  | .or a b, g, S0, E, pe, Q, h, Se, e, S, adr, E', K, pr, k, x => by
    rw [pE] at h
    rw [wE]
    refine sE a h pr (fun u S1 r le1 rr q => ?_) x
    obtain ⟨i, rfl, q⟩ := withPB_i q
    rw [show u = .bl i from rr]
    exact ⟨fun t => (k.step le1).d (q.1 t), fun t => sE b (q.2 t) (pr.step le1) (k.step le1) (x.step le1)⟩
  | .tup es, g, S0, E, pe, Q, h, Se, e, S, adr, E', K, pr, k, x => by
    rw [pE] at h
    rw [wE]
    refine sEs es h pr (fun vs S1 rs le1 rr q => ?_) x
    obtain ⟨xs, ex, q⟩ := withO_i q
    rw [ds_res ex rr]
    exact (k.step le1).d q
  | .lst es, g, S0, E, pe, Q, h, Se, e, S, adr, E', K, pr, k, x => by
    rw [pE] at h
    rw [wE]
    refine sEs es h pr (fun vs S1 rs le1 rr q => ?_) x
    obtain ⟨xs, ex, q⟩ := withO_i q
    rw [ds_res ex rr]
    exact (k.step le1).l q
  | .dict0, g, S0, E, pe, Q, h, Se, e, S, adr, E', K, pr, k, x => by
    rw [pE] at h
    rw [wE]
    exact k.m h
  | .dict1 a b, g, S0, E, pe, Q, h, Se, e, S, adr, E', K, pr, k, x => by
    rw [pE] at h
    rw [wE]
    refine sE a h pr (fun u S1 r le1 rr q => ?_) x
    obtain ⟨i, rfl, q⟩ := withD_i q
    refine sE b q (pr.step le1) (fun w S2 r2 le2 rr2 q2 => ?_) (x.step le1)
    obtain ⟨j, rfl, q2⟩ := withD_i q2
    rw [show u = i from rr, show w = j from rr2]
    exact ⟨q2.1, (k.step (le1.trans le2)).m q2.2⟩
  | .sub a b, g, S0, E, pe, Q, h, Se, e, S, adr, E', K, pr, k, x => by
    rw [pE] at h
    rw [wE]
    exact sE a h pr (fun u S1 r le1 rr q => sE b q (pr.step le1) (fun w S2 r2 le2 rr2 q2 => op_sub q2 (pr.low.trans (le1.trans le2)) (rr.le le2) (rr2.base le1) (k.step (le1.trans le2))) (x.step le1)) x
  | .slice a lo hi, g, S0, E, pe, Q, h, Se, e, S, adr, E', K, pr, k, x => by
    rw [pE] at h
    rw [wE]
    exact sE a h pr (fun u S1 r le1 rr q => sO lo q (pr.step le1) (fun l S2 le2 q2 => sO hi q2 (pr.step (le1.trans le2)) (fun l3 S3 le3 q3 =>
      op_slice q3 (pr.low.trans (le1.trans (le2.trans le3))) (rr.le (le2.trans le3)) (k.step (le1.trans (le2.trans le3)))) (x.step (le1.trans le2))) (x.step le1)) x
  | .fld a f, g, S0, E, pe, Q, h, Se, e, S, adr, E', K, pr, k, x => by
    rw [pE] at h
    rw [wE]
    refine sE a h pr (fun u S1 r le1 rr q => ?_) x
    obtain ⟨i, e0, q'⟩ := withD_i q
    clear q
    subst e0
    rw [show u = i from rr]
    cases i <;> first | exact q'.elim | skip
    rename_i p
    simp only at q' ⊢
    split at q'
    · rename_i c fs e
      have q := q'
      rw [(pr.low.trans le1) _ _ e]
      exact withO_m q fun v q => (k.step le1).d q
    · exact q'.elim
  | .call f es, g, S0, E, pe, Q, h, Se, e, S, adr, E', K, pr, k, x => by
    rw [pE] at h
    rw [wE]
    refine sEs es h pr (fun vs S1 rs le1 rr q => ?_) x
    obtain ⟨ps, ep, q⟩ := withO_i q
    obtain ⟨sp, es', hs⟩ := g.okf f ps ep
    rw [es']
    exact hs _ _ _ _ ⟨_, S0, _, E, pr.low.trans le1, args_of rr, q, resU_of (k.step le1), fun y hy => x y S1 le1 hy⟩
  | .new c es, g, S0, E, pe, Q, h, Se, e, S, adr, E', K, pr, k, x => by
    rw [pE] at h
    exact h.elim
  | .blt b es, g, S0, E, pe, Q, h, Se, e, S, adr, E', K, pr, k, x => by
    rw [pE] at h
    rw [wE]
    exact sEs es h pr (fun vs S1 rs le1 rr q => op_bt q (pr.low.trans le1) rr (k.step le1)) x
  | .bltc b c, g, S0, E, pe, Q, h, Se, e, S, adr, E', K, pr, k, x => by
    rw [pE] at h
    rw [wE]
    exact sC c h pr (fun vs S1 le1 q => op_btL q (k.step le1)) x
  | .isi a t, g, S0, E, pe, Q, h, Se, e, S, adr, E', K, pr, k, x => by
    rw [pE] at h
    rw [wE]
    exact sE a h pr (fun u S1 r le1 rr q => op_isi q (pr.low.trans le1) rr (k.step le1)) x
  | .meth a m es, g, S0, E, pe, Q, h, Se, e, S, adr, E', K, pr, k, x => by
    rw [pE] at h
    rw [wE]
    refine sE a h pr (fun u S1 r le1 rr q => ?_) x
    obtain ⟨q1, q⟩ := q
    have le0 := pr.low.trans le1
    cases m <;> first | (cases q1; done) | skip
    · simp only [pRecv] at q1
      obtain ⟨kvs, e1⟩ := Option.isSome_iff_exists.mp q1
      obtain ⟨b, rfl, e2⟩ := lof_res e1 le0 rr
      refine ⟨by simp only [recv, e2], sEs es q (pr.step le1) (fun vs S2 rs le2 rr2 q2 => ?_) (x.step le1)⟩
      unfold pMt at q2
      split at q2
      · rename_i y _
        obtain ⟨kvs', e3, q2⟩ := withO_i q2
        rw [e1] at e3
        cases e3
        match vs, rr2 with
        | [v1], rr2 =>
          obtain ⟨r1, _⟩ := rr2
          have r1 : v1 = y := r1
          subst r1
          simp only [wMt, le2 _ _ e2]
          exact ⟨q2.1, withO_m q2.2 fun j q => (k.step (le1.trans le2)).d q⟩
        | [], rr2 => exact rr2.elim
        | _ :: _ :: _, rr2 => exact rr2.2.elim
      · exact absurd (by assumption : Mt.index = Mt.count) (by decide)
      · exact absurd (by assumption : Mt.index = Mt.get) (by decide)
      · exact q2.elim
    · simp only [pRecv] at q1
      obtain ⟨kvs, e1⟩ := Option.isSome_iff_exists.mp q1
      obtain ⟨b, rfl, e2⟩ := lof_res e1 le0 rr
      refine ⟨by simp only [recv, e2], sEs es q (pr.step le1) (fun vs S2 rs le2 rr2 q2 => ?_) (x.step le1)⟩
      unfold pMt at q2
      split at q2
      · exact absurd (by assumption : Mt.count = Mt.index) (by decide)
      · rename_i y _
        obtain ⟨kvs', e3, q2⟩ := withO_i q2
        rw [e1] at e3
        cases e3
        match vs, rr2 with
        | [v1], rr2 =>
          obtain ⟨r1, _⟩ := rr2
          have r1 : v1 = y := r1
          subst r1
          simp only [wMt, le2 _ _ e2]
          exact ⟨q2.1, (k.step (le1.trans le2)).d q2.2⟩
        | [], rr2 => exact rr2.elim
        | _ :: _ :: _, rr2 => exact rr2.2.elim
      · exact absurd (by assumption : Mt.count = Mt.get) (by decide)
      · exact q2.elim
    · simp only [pRecv] at q1
      obtain ⟨kvs, e1⟩ := Option.isSome_iff_exists.mp q1
      obtain ⟨b, t, rfl, e2⟩ := dof_res e1 le0 rr
      refine ⟨by simp only [recv, e2], sEs es q (pr.step le1) (fun vs S2 rs le2 rr2 q2 => ?_) (x.step le1)⟩
      unfold pMt at q2
      split at q2
      · exact absurd (by assumption : Mt.get = Mt.index) (by decide)
      · exact absurd (by assumption : Mt.get = Mt.count) (by decide)
      · rename_i y z _
        obtain ⟨kvs', e3, q2⟩ := withO_i q2
        rw [e1] at e3
        cases e3
        match vs, rr2 with
        | [v1, v2], rr2 =>
          obtain ⟨r1, r2, _⟩ := rr2
          have r1 : v1 = y := r1
          have r2 : v2 = z := r2
          subst r1 r2
          simp only [wMt, le2 _ _ e2]
          exact ⟨q2.1, (k.step (le1.trans le2)).d q2.2⟩
        | [], rr2 => exact rr2.elim
        | [_], rr2 => exact rr2.2.elim
        | _ :: _ :: _ :: _, rr2 => exact rr2.2.2.elim
      · exact q2.elim
  | .umeth a m es, g, S0, E, pe, Q, h, Se, e, S, adr, E', K, pr, k, x => by
    rw [pE] at h
    rw [wE]
    refine sE a h pr (fun u S1 r le1 rr q => ?_) x
    obtain ⟨i, e0, q'⟩ := withD_i q
    clear q
    subst e0
    rw [show u = i from rr]
    cases i <;> first | exact q'.elim | skip
    rename_i p
    simp only at q' ⊢
    split at q'
    · rename_i c fs e
      have q := q'
      rw [(pr.low.trans le1) _ _ e]
      refine ⟨q.1, ?_⟩
      obtain ⟨ps, ep, q2⟩ := withO_i q.2
      obtain ⟨sp, es', hs⟩ := g.okm _ _ ps ep
      rw [es']
      exact sEs es q2 (pr.step le1) (fun vs S2 rs le2 rr2 q3 => hs _ _ _ _ ⟨.d (.ref p) :: rs.map PV.bor, S0, _, noP, pr.low.trans (le1.trans le2), ⟨rfl, args_of rr2⟩, q3, resU_of (k.step (le1.trans le2)), fun y hy => hy.elim⟩) (x.step le1)
    · exact q'.elim
  | .comp c, g, S0, E, pe, Q, h, Se, e, S, adr, E', K, pr, k, x => by
    rw [pE] at h
    rw [wE]
    exact sC c h pr (fun vs S1 le1 q => (k.step le1).l q) x
  | .lzip a b, g, S0, E, pe, Q, h, Se, e, S, adr, E', K, pr, k, x => by
    rw [pE] at h
    rw [wE]
    refine sE a h pr (fun u S1 r le1 rr q => sE b q (pr.step le1) (fun w S2 r2 le2 rr2 q2 => ?_) (x.step le1)) x
    obtain ⟨xs, ex, q2⟩ := withO_i q2
    obtain ⟨ys, ey, q2⟩ := withO_i q2
    obtain ⟨g1, e1⟩ := seq_res ex (pr.low.trans (le1.trans le2)) (rr.le le2)
    obtain ⟨g2, e2⟩ := seq_res ey (pr.low.trans (le1.trans le2)) rr2
    rw [e1, e2]
    exact (k.step (le1.trans le2)).l q2
  | .lrng es, g, S0, E, pe, Q, h, Se, e, S, adr, E', K, pr, k, x => by
    rw [pE] at h
    rw [wE]
    refine sEs es h pr (fun vs S1 rs le1 rr q => ?_) x
    obtain ⟨xs, ex, q⟩ := withO_i q
    rw [ds_res ex rr]
    refine rng_imp q fun lo n st q => ⟨q.1, (k.step le1).l q.2⟩
  | .trng es, g, S0, E, pe, Q, h, Se, e, S, adr, E', K, pr, k, x => by
    rw [pE] at h
    rw [wE]
    refine sEs es h pr (fun vs S1 rs le1 rr q => ?_) x
    obtain ⟨xs, ex, q⟩ := withO_i q
    rw [ds_res ex rr]
    refine rng_imp q fun lo n st q => ⟨q.1, (k.step le1).d q.2⟩
  | .drop a, g, S0, E, pe, Q, h, Se, e, S, adr, E', K, pr, k, x => by
    rw [pE] at h
    rw [wE]
    exact sE a h pr (fun u S1 r le1 rr q => k u _ r (le_keep le1) (res_keep rr) q) x
theorem sEs : ∀ (x : Exs) {g : PCfg} {S0 : Sto} {E : Nat → Prop} {pe : PEnv} {Q : List PV → Prop}, pEs g S0 E x pe Q → ∀ {Se : Sto} {e : Env} {S : Sto} {adr : Nat → Addr} {E' : Nat → Sto → Prop} {K : List Val → Sto → Prop}, PR S0 Se pe e S adr →
    (∀ vs S' rs, Sto.le S S' → ResRs S S' vs rs → Q rs → K vs S') → PXo E S E' → wEs g.G E' x e S K
  | .nil, g, S0, E, pe, Q, h, Se, e, S, adr, E', K, pr, k, x => by
    rw [pEs] at h
    rw [wEs]
    exact k _ _ [] (.refl S) trivial h
  | .cons a r, g, S0, E, pe, Q, h, Se, e, S, adr, E', K, pr, k, x => by
    rw [pEs] at h
    rw [wEs]
    exact sE a h pr (fun u S1 r1 le1 rr q => sEs r q (pr.step le1) (fun vs S2 rs le2 rr2 q2 => k _ _ (r1 :: rs) (le1.trans le2) ⟨rr.le le2, rr2.base le1⟩ q2) (x.step le1)) x
theorem sO : ∀ (x : Oe) {g : PCfg} {S0 : Sto} {E : Nat → Prop} {pe : PEnv} {Q : Option Int → Prop}, pO g S0 E x pe Q → ∀ {Se : Sto} {e : Env} {S : Sto} {adr : Nat → Addr} {E' : Nat → Sto → Prop} {K : Option Int → Sto → Prop}, PR S0 Se pe e S adr →
    (∀ l S', Sto.le S S' → Q l → K l S') → PXo E S E' → wO g.G E' x e S K
  | .none, g, S0, E, pe, Q, h, Se, e, S, adr, E', K, pr, k, x => by
    rw [pO] at h
    rw [wO]
    exact k _ _ (.refl S) h
  | .some a, g, S0, E, pe, Q, h, Se, e, S, adr, E', K, pr, k, x => by
    rw [pO] at h
    rw [wO]
    refine sE a h pr (fun u S1 r1 le1 rr q => ?_) x
    obtain ⟨i, rfl, q⟩ := withPI_i q
    rw [show u = .int i from rr]
    exact k _ _ le1 q
theorem sI : ∀ (x : Itr) {g : PCfg} {S0 : Sto} {E : Nat → Prop} {pe : PEnv} {Q : List Val → Prop}, pI g S0 E x pe Q → ∀ {Se : Sto} {e : Env} {S : Sto} {adr : Nat → Addr} {E' : Nat → Sto → Prop} {K : List Val → (Sto → Prop) → Sto → Prop}, PR S0 Se pe e S adr →
    (∀ xs grd S', Sto.le S S' → (∀ S2, Sto.le S' S2 → grd S2) → Q xs → K xs grd S') → PXo E S E' → wI g.G E' x e S K
  | .val a, g, S0, E, pe, Q, h, Se, e, S, adr, E', K, pr, k, x => by
    rw [pI] at h
    rw [wI]
    refine sE a h pr (fun u S1 r1 le1 rr q => ?_) x
    obtain ⟨xs, ex, q⟩ := withO_i q
    obtain ⟨grd, e1, hg⟩ := iter_res ex (pr.low.trans le1) rr
    rw [e1]
    exact k _ _ _ le1 (fun S2 le2 => hg S2 fun a o _ q => le2 _ _ q) q
  | .rng es, g, S0, E, pe, Q, h, Se, e, S, adr, E', K, pr, k, x => by
    rw [pI] at h
    rw [wI]
    refine sEs es h pr (fun vs S1 rs le1 rr q => ?_) x
    obtain ⟨xs, ex, q⟩ := withO_i q
    rw [ds_res ex rr]
    exact rng_imp q fun lo n st q => k _ _ _ le1 (fun _ _ => trivial) q
  | .enum a, g, S0, E, pe, Q, h, Se, e, S, adr, E', K, pr, k, x => by
    rw [pI] at h
    rw [wI]
    refine sE a h pr (fun u S1 r1 le1 rr q => ?_) x
    obtain ⟨xs, ex, q⟩ := withO_i q
    obtain ⟨grd, e1, hg⟩ := list_res ex (pr.low.trans le1) rr
    rw [e1]
    exact k _ _ _ le1 (fun S2 le2 => hg S2 fun a o _ q => le2 _ _ q) q
  | .zip a b, g, S0, E, pe, Q, h, Se, e, S, adr, E', K, pr, k, x => by
    rw [pI] at h
    rw [wI]
    refine sE a h pr (fun u S1 r1 le1 rr q => sE b q (pr.step le1) (fun w S2 r2 le2 rr2 q2 => ?_) (x.step le1)) x
    obtain ⟨xs, ex, q2⟩ := withO_i q2
    obtain ⟨grd, e1, hg⟩ := zip_res ex (pr.low.trans (le1.trans le2)) (rr.le le2) (rr2.base le1)
    rw [e1]
    exact k _ _ _ (le1.trans le2) (fun S3 le3 => hg S3 fun a o _ q => le3 _ _ q) q2
theorem sC : ∀ (x : Cmp) {g : PCfg} {S0 : Sto} {E : Nat → Prop} {pe : PEnv} {Q : List Val → Prop}, pC g S0 E x pe Q → ∀ {Se : Sto} {e : Env} {S : Sto} {adr : Nat → Addr} {E' : Nat → Sto → Prop} {K : List Val → Sto → Prop}, PR S0 Se pe e S adr →
    (∀ vs S', Sto.le S S' → Q vs → K vs S') → PXo E S E' → wC g.G E' x e S K
  | .mk tg own elt it cond, g, S0, E, pe, Q, h, Se, e, S, adr, E', K, pr, k, x => by
    rw [pC] at h
    rw [wC]
    refine sI it h pr (fun xs grd S1 le1 hg q => ?_) x
    refine t_turns (S := S1) hg (fun y kp kw S2 le2 hb hk => ?_) (fun vs S' le' q' => k vs S' (le1.trans le') q') xs [] S1 (.refl S1) q
    obtain ⟨pe', ep, hb⟩ := withO_i hb
    obtain ⟨e', ee, pr'⟩ := ((pr.step (le1.trans le2)).wipe own).bind ep
    rw [ee]
    refine sIf cond hb pr' (fun b S3 le3 q3 => ⟨fun t => sE elt (q3.1 t) (pr'.step le3) (fun u S4 r le4 rr q4 => ?_) noP_x, fun t => hk _ _ le3 (q3.2 t)⟩)
    obtain ⟨z, rfl, q4⟩ := withD_i q4
    rw [show u = z from rr]
    exact hk _ _ (le3.trans le4) q4
theorem sIf : ∀ (x : Oe) {g : PCfg} {S0 : Sto} {pe : PEnv} {Q : Bool → Prop}, pIf g S0 x pe Q → ∀ {Se : Sto} {e : Env} {S : Sto} {adr : Nat → Addr} {K : Bool → Sto → Prop}, PR S0 Se pe e S adr →
    (∀ l S', Sto.le S S' → Q l → K l S') → wIf g.G x e S K
  | .none, g, S0, pe, Q, h, Se, e, S, adr, K, pr, k => by
    rw [pIf] at h
    rw [wIf]
    exact k _ _ (.refl S) h
  | .some a, g, S0, pe, Q, h, Se, e, S, adr, K, pr, k => by
    rw [pIf] at h
    rw [wIf]
    refine sE a h pr (fun u S1 r1 le1 rr q => ?_) noP_x
    obtain ⟨i, rfl, q⟩ := withPB_i q
    rw [show u = .bl i from rr]
    exact k _ _ le1 q
end
end DL

set_option autoImplicit true
set_option Elab.async false
set_option autoImplicit false
set_option linter.all false
set_option maxRecDepth 100000
set_option maxHeartbeats 4000000
/-! Own layer, pure level, part 4: statements. -/
namespace DL
open PySem

abbrev PN (S0 Se : Sto) (nx : PEnv → Prop) (nx' : Env → Sto → Prop) : Prop := ∀ pe e S adr, nx pe → PR S0 Se pe e S adr → nx' e S
abbrev PRt (Se : Sto) (rt : PK) (rt' : KV) : Prop := ∀ v S' r, Sto.le Se S' → ResR Se S' v r → okA r = true → rt r → rt' v S'
section
variable {S0 Se : Sto} {pe : PEnv} {e : Env} {S : Sto} {adr : Nat → Addr}
theorem PR.hasS (h : PR S0 Se pe e S adr) {j : Nat} (hj : hasA pe j = true) : S (adr j) ≠ none := by
  unfold hasA at hj
  split at hj
  · rename_i a b q
    rw [(h.ll _ _ _ q).2]
    exact fun z => by cases z
  · rename_i a b q
    obtain ⟨_, t, h2⟩ := h.mm _ _ _ q
    rw [h2]
    exact fun z => by cases z
  · cases hj
/-- more of a slot is forgotten -/
theorem PR.less {pe' : PEnv} (h : PR S0 Se pe e S adr) (hl : pe'.length = pe.length) (hh : ∀ j r, getP pe' j = some r → getP pe j = some r ∨ ∃ r0, getP pe j = some r0 ∧ r = r0.bor) : PR S0 Se pe' e S adr := by
  have kA : ∀ j, hasA pe' j = true → hasA pe j = true := by
    intro j hj
    unfold hasA at hj
    split at hj
    · rename_i a b q
      rcases hh _ _ q with z | ⟨r0, z, z2⟩
      · unfold hasA; rw [z]
      · unfold hasA; rw [z]; cases r0 <;> first | rfl | cases z2
    · rename_i a b q
      rcases hh _ _ q with z | ⟨r0, z, z2⟩
      · unfold hasA; rw [z]
      · unfold hasA; rw [z]; cases r0 <;> first | rfl | cases z2
    · cases hj
  have kO : ∀ j, ownS pe' j = true → ownS pe j = true := by
    intro j hj
    unfold ownS at hj
    split at hj
    · rename_i a b q
      subst hj
      rcases hh _ _ q with z | ⟨r0, z, z2⟩
      · unfold ownS; rw [z]
      · cases r0 <;> cases z2
    · rename_i a b q
      subst hj
      rcases hh _ _ q with z | ⟨r0, z, z2⟩
      · unfold ownS; rw [z]
      · cases r0 <;> cases z2
    · cases hj
  refine ⟨h.le0, h.leE, by rw [h.len, hl], fun j w q => ?_, fun j o xs q => ?_, fun j o xs q => ?_, fun j xs w q => ?_, fun j hj => ⟨(h.own j (kO j hj)).1, fun k n hk => (h.own j (kO j hj)).2 k n (kA k hk)⟩⟩
  · rcases hh _ _ q with z | ⟨r0, z, z2⟩
    · exact h.dd _ _ z
    · cases r0 <;> cases z2
      exact h.dd _ _ z
  · rcases hh _ _ q with z | ⟨r0, z, z2⟩
    · exact h.ll _ _ _ z
    · cases r0 <;> cases z2
      exact h.ll _ _ _ z
  · rcases hh _ _ q with z | ⟨r0, z, z2⟩
    · exact h.mm _ _ _ z
    · cases r0 <;> cases z2
      exact h.mm _ _ _ z
  · rcases hh _ _ q with z | ⟨r0, z, z2⟩
    · exact h.nop _ _ _ z
    · cases r0 <;> cases z2
      exact h.nop _ _ _ z
theorem PR.forget (h : PR S0 Se pe e S adr) (j : Nat) : PR S0 Se (pe.set j none) e S adr := h.less (by simp) fun k r q => by
  rw [getP_set] at q
  split at q
  · cases q
  · exact .inl q
theorem PR.frz1 (h : PR S0 Se pe e S adr) (j : Nat) : PR S0 Se (frz1 pe j) e S adr := by
  unfold DL.frz1
  split
  · rename_i r er
    refine h.less (by simp) fun k r' q => ?_
    rw [getP_set] at q
    split at q
    · rename_i c
      cases q
      rw [← c.1]
      exact .inr ⟨r, er, rfl⟩
    · exact .inl q
  · exact h
theorem PR.frz (h : PR S0 Se pe e S adr) (it : Itr) : PR S0 Se (frz pe it) e S adr := by
  unfold DL.frz
  split
  · exact h.frz1 _
  · exact h.frz1 _
  · exact (h.frz1 _).frz1 _
  · exact h.frz1 _
  · exact h.frz1 _
  · exact h
/-- a slot is set to a list or a dict -/
theorem PR.setA (h : PR S0 Se pe e S adr) (i : Nat) {q : PV} {a : Addr} (hq : (∃ o xs, q = .l o xs ∧ S a = some (.lst xs)) ∨ ∃ o kvs t, q = .m o kvs ∧ S a = some (.dct kvs t))
    (h1 : ∀ k, ownS pe k = true → k ≠ i → a ≠ adr k) (h2 : okA q = true → Se a = none ∧ ∀ j, hasA pe j = true → j ≠ i → adr j ≠ a) : PR S0 Se (pe.set i (some q)) (e.set i (some (.ref a))) S (fun j => if j = i then a else adr j) := by
  have key : ∀ j r, getP (pe.set i (some q)) j = some r → (j = i ∧ r = q ∧ getV (e.set i (some (.ref a))) j = some (.ref a)) ∨ (j ≠ i ∧ getP pe j = some r ∧ getV (e.set i (some (.ref a))) j = getV e j) := by
    intro j r hr
    rw [getP_set] at hr
    rw [getV_set, h.len]
    split at hr
    · rename_i c
      rw [if_pos c]
      cases hr
      exact .inl ⟨c.1.symm, rfl, rfl⟩
    · rename_i c
      rw [if_neg c]
      refine .inr ⟨fun z => ?_, hr, rfl⟩
      subst z
      have : ¬ j < pe.length := fun z => c ⟨rfl, z⟩
      unfold getP at hr
      rw [List.getElem?_eq_none (by omega)] at hr
      cases hr
  have kA : ∀ j, hasA (pe.set i (some q)) j = true → j ≠ i → hasA pe j = true := by
    intro j hj n
    unfold hasA at hj
    split at hj
    · rename_i b c z
      rcases key _ _ z with ⟨z, _⟩ | ⟨_, z, _⟩
      · exact absurd z n
      · unfold hasA; rw [z]
    · rename_i b c z
      rcases key _ _ z with ⟨z, _⟩ | ⟨_, z, _⟩
      · exact absurd z n
      · unfold hasA; rw [z]
    · cases hj
  have kO : ∀ j, ownS (pe.set i (some q)) j = true → (j = i ∧ okA q = true) ∨ (j ≠ i ∧ ownS pe j = true) := by
    intro j hj
    unfold ownS at hj
    split at hj
    · rename_i b c z
      subst hj
      rcases key _ _ z with ⟨z, z2, _⟩ | ⟨n, z, _⟩
      · exact .inl ⟨z, by rw [← z2]; rfl⟩
      · exact .inr ⟨n, by unfold ownS; rw [z]⟩
    · rename_i b c z
      subst hj
      rcases key _ _ z with ⟨z, z2, _⟩ | ⟨n, z, _⟩
      · exact .inl ⟨z, by rw [← z2]; rfl⟩
      · exact .inr ⟨n, by unfold ownS; rw [z]⟩
    · cases hj
  refine ⟨h.le0, h.leE, by simp [h.len], fun j w z => ?_, fun j o xs z => ?_, fun j o xs z => ?_, fun j xs w z => ?_, fun j hj => ?_⟩
  · rcases key _ _ z with ⟨z, z2, _⟩ | ⟨n, z, z2⟩
    · rcases hq with ⟨o, xs, e1, _⟩ | ⟨o, xs, t, e1, _⟩ <;> (rw [e1] at z2; cases z2)
    · rw [z2]; exact h.dd _ _ z
  · rcases key _ _ z with ⟨z, z2, z3⟩ | ⟨n, z, z2⟩
    · rw [z3, if_pos z]
      rcases hq with ⟨o, xs, e1, e2⟩ | ⟨o, xs, t, e1, _⟩
      · rw [e1] at z2
        cases z2
        exact ⟨rfl, e2⟩
      · rw [e1] at z2; cases z2
    · rw [z2, if_neg n]; exact h.ll _ _ _ z
  · rcases key _ _ z with ⟨z, z2, z3⟩ | ⟨n, z, z2⟩
    · rw [z3, if_pos z]
      rcases hq with ⟨o, xs, e1, e2⟩ | ⟨o, xs, t, e1, e2⟩
      · rw [e1] at z2; cases z2
      · rw [e1] at z2
        cases z2
        exact ⟨rfl, t, e2⟩
    · rw [z2, if_neg n]; exact h.mm _ _ _ z
  · rcases key _ _ z with ⟨z, z2, _⟩ | ⟨n, z, z2⟩
    · rcases hq with ⟨o, xs, e1, _⟩ | ⟨o, xs, t, e1, _⟩ <;> (rw [e1] at z2; cases z2)
    · exact h.nop _ _ _ z
  · rcases kO j hj with ⟨z, z2⟩ | ⟨n, z⟩
    · subst z
      rw [if_pos rfl]
      refine ⟨(h2 z2).1, fun k nk hk => ?_⟩
      rw [if_neg nk]
      exact (h2 z2).2 k (kA k hk nk) nk
    · rw [if_neg n]
      refine ⟨(h.own j z).1, fun k nk hk => ?_⟩
      by_cases ki : k = i
      · rw [if_pos ki]
        exact h1 j z n
      · rw [if_neg ki]
        exact (h.own j z).2 k nk (kA k hk ki)
/-- an own list or dict is changed -/
theorem PR.mut (h : PR S0 Se pe e S adr) {j : Nat} (hj : ownS pe j = true) {q : PV} {ob : Ob} (hq : (∃ xs, q = .l true xs ∧ ob = .lst xs) ∨ ∃ kvs t, q = .m true kvs ∧ ob = .dct kvs t) : PR S0 Se (pe.set j (some q)) e (up S (adr j) ob) adr := by
  obtain ⟨hn, ho⟩ := h.own j hj
  have hlt : j < pe.length := by
    by_cases z : j < pe.length
    · exact z
    · unfold ownS getP at hj
      rw [List.getElem?_eq_none (by omega)] at hj
      cases hj
  have ev : getV e j = some (.ref (adr j)) := by
    unfold ownS at hj
    split at hj
    · rename_i z; exact (h.ll _ _ _ z).1
    · rename_i z; exact (h.mm _ _ _ z).1
    · cases hj
  have key : ∀ k r, getP (pe.set j (some q)) k = some r → (k = j ∧ r = q) ∨ (k ≠ j ∧ getP pe k = some r) := by
    intro k r hr
    rw [getP_set] at hr
    split at hr
    · rename_i c
      cases hr
      exact .inl ⟨c.1.symm, rfl⟩
    · rename_i c
      exact .inr ⟨fun z => c ⟨z.symm, hlt⟩, hr⟩
  have kA : ∀ k, hasA (pe.set j (some q)) k = true → k ≠ j → hasA pe k = true := by
    intro k hk n
    unfold hasA at hk
    split at hk
    · rename_i b c z
      rcases key _ _ z with ⟨z, _⟩ | ⟨_, z⟩
      · exact absurd z n
      · unfold hasA; rw [z]
    · rename_i b c z
      rcases key _ _ z with ⟨z, _⟩ | ⟨_, z⟩
      · exact absurd z n
      · unfold hasA; rw [z]
    · cases hk
  refine ⟨h.le0, le_write h.leE hn, by simp [h.len], fun k w z => ?_, fun k o xs z => ?_, fun k o xs z => ?_, fun k xs w z => ?_, fun k hk => ?_⟩
  · rcases key _ _ z with ⟨z, z2⟩ | ⟨n, z⟩
    · rcases hq with ⟨xs, e1, _⟩ | ⟨xs, t, e1, _⟩ <;> (rw [e1] at z2; cases z2)
    · exact h.dd _ _ z
  · rcases key _ _ z with ⟨z0, z2⟩ | ⟨n, z⟩
    · rcases hq with ⟨xs, e1, e2⟩ | ⟨xs, t, e1, _⟩
      · rw [e1] at z2
        cases z2
        subst z0 e2
        exact ⟨ev, DL.up_same⟩
      · rw [e1] at z2; cases z2
    · have hA : hasA pe k = true := by unfold hasA; rw [z]
      rw [up_get (ho k n hA)]
      exact h.ll _ _ _ z
  · rcases key _ _ z with ⟨z0, z2⟩ | ⟨n, z⟩
    · rcases hq with ⟨xs, e1, e2⟩ | ⟨xs, t, e1, e2⟩
      · rw [e1] at z2; cases z2
      · rw [e1] at z2
        cases z2
        subst z0 e2
        exact ⟨ev, t, DL.up_same⟩
    · have hA : hasA pe k = true := by unfold hasA; rw [z]
      rw [up_get (ho k n hA)]
      exact h.mm _ _ _ z
  · rcases key _ _ z with ⟨z0, z2⟩ | ⟨n, z⟩
    · rcases hq with ⟨xs, e1, _⟩ | ⟨xs, t, e1, _⟩ <;> (rw [e1] at z2; cases z2)
    · exact h.nop _ _ _ z
  · by_cases n : k = j
    · subst n
      exact ⟨hn, fun i ni hi => ho i ni (kA i hi ni)⟩
    · have hk' : ownS pe k = true := by
        unfold ownS at hk
        split at hk
        · rename_i b c z
          subst hk
          rcases key _ _ z with ⟨z, _⟩ | ⟨_, z⟩
          · exact absurd z n
          · unfold ownS; rw [z]
        · rename_i b c z
          subst hk
          rcases key _ _ z with ⟨z, _⟩ | ⟨_, z⟩
          · exact absurd z n
          · unfold ownS; rw [z]
        · cases hk
      refine ⟨(h.own k hk').1, fun i ni hi => ?_⟩
      by_cases ij : i = j
      · subst ij
        exact (h.own k hk').2 i ni (own_has hj)
      · exact (h.own k hk').2 i ni (kA i hi ij)
theorem PR.weak {Se2 : Sto} (h : PR S0 Se2 pe e S adr) (l0 : Sto.le S0 Se) (l : Sto.le Se Se2) : PR S0 Se pe e S adr :=
  ⟨l0, l.trans h.leE, h.len, h.dd, h.ll, h.mm, h.nop, fun i hi => ⟨le_off l (h.own i hi).1, (h.own i hi).2⟩⟩
/-- places that stay as they are -/
theorem PR.fix (h : PR S0 Se pe e S adr) (Av : Addr → Prop) (hA : ∀ a, Av a → ∀ k, ownS pe k = true → adr k ≠ a) : ∃ Se2, Sto.le Se Se2 ∧ PR S0 Se2 pe e S adr ∧ ∀ S2, Sto.le Se2 S2 → ∀ a o, Av a → S a = some o → S2 a = some o := by
  classical
  refine ⟨fun a => if Av a then S a else Se a, fun a o q => ?_, ⟨fun a o q => ?_, fun a o q => ?_, h.len, h.dd, h.ll, h.mm, h.nop, fun i hi => ⟨?_, (h.own i hi).2⟩⟩, fun S2 le a o av q => le a o ?_⟩
  · try simp only
    split
    · exact h.leE _ _ q
    · exact q
  · try simp only
    split
    · exact h.low _ _ q
    · exact h.le0 _ _ q
  · try simp only at q
    split at q
    · exact q
    · exact h.leE _ _ q
  · try simp only
    rw [if_neg fun z => hA _ z i hi rfl]
    exact (h.own i hi).1
  · try simp only
    rw [if_pos av]
    exact q
/-- a new list or dict in a slot -/
theorem PR.put (h : PR S0 Se pe e S adr) {S1 : Sto} (le : Sto.le S S1) (i : Nat) {v : Val} {r : PV} (hr : ResR S S1 v r) (ok : okA r = true) : ∃ adr', PR S0 Se (pe.set i (some r)) (e.set i (some v)) S1 adr' := by
  have fr : ∀ a, S a = none → (∀ k, hasA pe k = true → adr k ≠ a) := fun a n k hk z => h.hasS hk (by rw [z]; exact n)
  cases r with
  | d x => exact ⟨adr, (h.step le).setD i _ _ fun q z => by cases z; exact ⟨x, rfl, by rw [show v = x from hr]⟩⟩
  | l o xs =>
    obtain ⟨a, rfl, e1, f⟩ := hr
    have n := f ok
    exact ⟨_, (h.step le).setA i (.inl ⟨o, xs, rfl, e1⟩) (fun k hk _ z => fr a n k (own_has hk) z.symm) fun _ => ⟨le_off h.leE n, fun j hj _ => fr a n j hj⟩⟩
  | m o xs =>
    obtain ⟨a, t, rfl, e1, f⟩ := hr
    have n := f ok
    exact ⟨_, (h.step le).setA i (.inr ⟨o, xs, t, rfl, e1⟩) (fun k hk _ z => fr a n k (own_has hk) z.symm) fun _ => ⟨le_off h.leE n, fun j hj _ => fr a n j hj⟩⟩
  | p _ _ => exact hr.elim
end
theorem PXs_o {E : Nat → Prop} {Se S : Sto} {E' : Nat → Sto → Prop} (x : PXo E Se E') (le : Sto.le Se S) : PXo E S E' := x.step le
theorem frz1_own {pe : PEnv} {j i : Nat} (h : ownS (frz1 pe j) i = true) : ownS pe i = true ∧ i ≠ j := by
  unfold frz1 at h
  split at h
  · rename_i r er
    have hj : j < pe.length := by
      by_cases z : j < pe.length
      · exact z
      · unfold getP at er
        rw [List.getElem?_eq_none (by omega)] at er
        cases er
    unfold ownS at h
    rw [getP_set] at h
    by_cases c : j = i
    · subst c
      rw [if_pos ⟨rfl, hj⟩] at h
      cases r <;> cases h
    · rw [if_neg (fun z => c z.1)] at h
      exact ⟨h, fun z => c z.symm⟩
  · rename_i er
    refine ⟨h, fun z => ?_⟩
    subst z
    unfold ownS at h
    rw [er] at h
    cases h
section
variable {g : PCfg} {S0 Se : Sto} {E : Nat → Prop} {pe : PEnv} {e : Env} {S : Sto} {adr : Nat → Addr} {E' : Nat → Sto → Prop}
theorem sEv (a : Ex) {Q : PK} {K : KV} (h : pE g S0 E a pe Q) (pr : PR S0 Se pe e S adr) (k : ∀ u S' r, Sto.le S S' → ResR S S' u r → (∀ j, a = .var j → hasA pe j = true → u = .ref (adr j)) → (∀ j, a = .var j → ∃ q, getP pe j = some q ∧ r = q.bor) → Q r → K u S') (x : PXo E S E') : wE g.G E' a e S K := by
  cases a with
  | var i =>
    rw [pE] at h
    rw [wE]
    obtain ⟨r, er, h⟩ := withO_i h
    cases r with
    | d v =>
      rw [pr.dd i v er]
      refine k _ _ (.d v) (.refl S) rfl (fun j ej hj => ?_) (fun j ej => by cases ej; exact ⟨_, er, rfl⟩) h
      cases ej
      unfold hasA at hj
      rw [er] at hj
      cases hj
    | l o xs =>
      obtain ⟨h1, h2⟩ := pr.ll i o xs er
      rw [h1]
      exact k _ _ (.l false xs) (.refl S) ⟨_, rfl, h2, fun z => by cases z⟩ (fun j ej hj => by cases ej; rfl) (fun j ej => by cases ej; exact ⟨_, er, rfl⟩) h
    | m o xs =>
      obtain ⟨h1, t, h2⟩ := pr.mm i o xs er
      rw [h1]
      exact k _ _ (.m false xs) (.refl S) ⟨_, t, rfl, h2, fun z => by cases z⟩ (fun j ej hj => by cases ej; rfl) (fun j ej => by cases ej; exact ⟨_, er, rfl⟩) h
    | p xs v => exact (pr.nop _ _ _ er).elim
  | _ => exact sE _ h pr (fun u S' r le rr q => k u S' r le rr (fun j z => by cases z) (fun j z => by cases z) q) x
/-- an address that is walked is no own one -/
theorem one_off {a : Ex} {u : Val} {S1 : Sto} {r : PV} (pr : PR S0 Se pe e S adr) (rr : ResR S S1 u r) (hv : ∀ j, a = .var j → hasA pe j = true → u = .ref (adr j)) (ok : (isV a || okA r) = true) (hr : ∀ j, a = .var j → ∃ q, getP pe j = some q ∧ r = q.bor)
    (hc : (∃ xs, r = .d (.tup xs)) ∨ lof S0 r ≠ none ∨ iterP S0 r ≠ none) : ∀ p, u = .ref p → ∀ i, ownS pe i = true → (∀ j, a = .var j → i ≠ j) → adr i ≠ p := by
  intro p hp i hi hij z
  have ho := pr.own i hi
  have hs : S (adr i) ≠ none := pr.hasS (own_has hi)
  have slot : isV a = true → (∃ j, a = .var j ∧ hasA pe j = true) → False := by
    rintro _ ⟨j, ej, hj⟩
    have := hv j ej hj
    rw [hp] at this
    cases this
    exact ho.2 j (fun z => hij j ej z.symm) hj z.symm
  cases r with
  | d w =>
    have rr : u = w := rr
    subst rr
    subst hp
    have : S0 p ≠ none := by
      intro n
      rcases hc with ⟨xs, c⟩ | c | c
      · cases c
      · exact c (by simp only [lof, n])
      · exact c (by simp only [iterP, iterOf, n]; rfl)
    cases q : S0 p with
    | none => exact this q
    | some o =>
      have := pr.le0 _ _ q
      rw [← z, ho.1] at this
      cases this
  | l o xs =>
    obtain ⟨b, e2, _, f⟩ := rr
    rw [hp] at e2
    cases e2
    cases o with
    | true => exact hs (by rw [z]; exact f rfl)
    | false =>
      simp only [okA, Bool.or_false] at ok
      refine slot ok ?_
      cases a <;> first | (cases ok; done) | skip
      rename_i j
      obtain ⟨q, e1, e2⟩ := hr j rfl
      exact ⟨j, rfl, by unfold hasA; rw [e1]; cases q <;> first | rfl | cases e2⟩
  | m o xs =>
    obtain ⟨b, t, e2, _, f⟩ := rr
    rw [hp] at e2
    cases e2
    cases o with
    | true => exact hs (by rw [z]; exact f rfl)
    | false =>
      simp only [okA, Bool.or_false] at ok
      refine slot ok ?_
      cases a <;> first | (cases ok; done) | skip
      rename_i j
      obtain ⟨q, e1, e2⟩ := hr j rfl
      exact ⟨j, rfl, by unfold hasA; rw [e1]; cases q <;> first | rfl | cases e2⟩
  | p _ _ => exact rr.elim
theorem frz_val {a : Ex} {i : Nat} (h : ownS (frz pe (.val a)) i = true) : ownS pe i = true ∧ ∀ j, a = .var j → i ≠ j := by
  cases a <;> first | exact ⟨h, fun j z => by cases z⟩ | skip
  obtain ⟨h1, h2⟩ := frz1_own h
  exact ⟨h1, fun j z => by cases z; exact h2⟩
theorem frz_enum {a : Ex} {i : Nat} (h : ownS (frz pe (.enum a)) i = true) : ownS pe i = true ∧ ∀ j, a = .var j → i ≠ j := by
  cases a <;> first | exact ⟨h, fun j z => by cases z⟩ | skip
  obtain ⟨h1, h2⟩ := frz1_own h
  exact ⟨h1, fun j z => by cases z; exact h2⟩
theorem frz_zip {a b : Ex} {i : Nat} (h : ownS (frz pe (.zip a b)) i = true) : ownS pe i = true ∧ (∀ j, a = .var j → i ≠ j) ∧ ∀ j, b = .var j → i ≠ j := by
  unfold frz at h
  split at h
  · rename_i z; cases z
  · rename_i z; cases z
  · rename_i z
    cases z
    obtain ⟨h1, h2⟩ := frz1_own h
    obtain ⟨h3, h4⟩ := frz1_own h1
    exact ⟨h3, fun j z => by cases z; exact h4, fun j z => by cases z; exact h2⟩
  · rename_i n z
    cases z
    obtain ⟨h3, h4⟩ := frz1_own h
    exact ⟨h3, fun j z => by cases z; exact h4, fun j z => (n _ z).elim⟩
  · rename_i n z
    cases z
    obtain ⟨h3, h4⟩ := frz1_own h
    exact ⟨h3, fun j z => by subst z; exact (n _ rfl).elim, fun j z => by cases z; exact h4⟩
  · rename_i n1 n2 n3 n4 n5
    exact ⟨h, fun j z => by subst z; exact (n4 _ _ rfl).elim, fun j z => by subst z; exact (n5 _ _ rfl).elim⟩
/-- what is walked by a for -/
theorem sIs {it : Itr} {Q : List Val → Prop} (h : pIs g S0 E it pe Q) {K : List Val → (Sto → Prop) → Sto → Prop} (pr : PR S0 Se pe e S adr)
    (k : ∀ (xs : List Val) (grd : Sto → Prop) (S' : Sto) (Av : Addr → Prop), Sto.le S S' → (∀ a, Av a → ∀ i, ownS (frz pe it) i = true → adr i ≠ a) → (∀ S2, (∀ a o, Av a → S' a = some o → S2 a = some o) → grd S2) → Q xs → K xs grd S') (x : PXo E S E') : wI g.G E' it e S K := by
  cases it with
  | val a =>
    rw [wI]
    refine sEv a h pr (fun u S1 r le1 rr hv hr q => ?_) x
    obtain ⟨ok, q⟩ := q
    obtain ⟨xs, ex, q⟩ := withO_i q
    obtain ⟨grd, e1, hg⟩ := iter_res ex (pr.low.trans le1) rr
    rw [e1]
    refine k _ _ _ (fun p => u = .ref p) le1 (fun p hp i hi => ?_) hg q
    obtain ⟨h1, h2⟩ := frz_val hi
    exact one_off pr rr hv ok hr (.inr (.inr (by rw [ex]; exact fun z => by cases z))) p hp i h1 h2
  | rng es =>
    rw [wI]
    refine sEs es h pr (fun vs S1 rs le1 rr q => ?_) x
    obtain ⟨xs, ex, q⟩ := withO_i q
    rw [ds_res ex rr]
    exact rng_imp q fun lo n st q => k _ _ _ (fun _ => False) le1 (fun a z => z.elim) (fun _ _ => trivial) q
  | enum a =>
    rw [wI]
    refine sEv a h pr (fun u S1 r le1 rr hv hr q => ?_) x
    obtain ⟨ok, q⟩ := q
    obtain ⟨xs, ex, q⟩ := withO_i q
    obtain ⟨grd, e1, hg⟩ := list_res ex (pr.low.trans le1) rr
    rw [e1]
    refine k _ _ _ (fun p => u = .ref p) le1 (fun p hp i hi => ?_) hg q
    obtain ⟨h1, h2⟩ := frz_enum hi
    refine one_off pr rr hv ok hr ?_ p hp i h1 h2
    unfold enP at ex
    split at ex
    · exact .inr (.inl fun z => by cases z)
    · rename_i v
      cases v <;> simp only [listOf] at ex <;> first | (cases ex; done) | skip
      · refine .inr (.inr ?_)
        split at ex
        · rename_i hz
          simp [iterP, iterOf, hz]
        · cases ex
      · exact .inl ⟨_, rfl⟩
      · rename_i a'
        split at ex
        · rename_i e2
          exact .inr (.inl (by simp [lof, e2]))
        · cases ex
    · cases ex
  | zip a b =>
    rw [wI]
    refine sEv a h pr (fun u S1 r le1 rr hv hr q => ?_) x
    obtain ⟨ok, q⟩ := q
    refine sEv b q (pr.step le1) (fun w S2 r2 le2 rr2 hv2 hr2 q2 => ?_) (x.step le1)
    obtain ⟨ok2, q2⟩ := q2
    obtain ⟨xs, ex, q2⟩ := withO_i q2
    obtain ⟨grd, e1, hg⟩ := zip_res ex (pr.low.trans (le1.trans le2)) (rr.le le2) (rr2.base le1)
    rw [e1]
    have c : ((∃ xs, r = .d (.tup xs)) ∨ lof S0 r ≠ none ∨ iterP S0 r ≠ none) ∧ ((∃ xs, r2 = .d (.tup xs)) ∨ lof S0 r2 ≠ none ∨ iterP S0 r2 ≠ none) := by
      unfold zipP at ex
      split at ex
      · rename_i z1 z2
        exact ⟨.inr (.inl (by rw [z1]; exact fun z => by cases z)), .inr (.inl (by rw [z2]; exact fun z => by cases z))⟩
      · split at ex
        · exact ⟨.inl ⟨_, rfl⟩, .inl ⟨_, rfl⟩⟩
        · cases ex
      · cases ex
    refine k _ _ _ (fun p => u = .ref p ∨ w = .ref p) (le1.trans le2) (fun p hp i hi => ?_) hg q2
    obtain ⟨h1, h2, h3⟩ := frz_zip hi
    rcases hp with hp | hp
    · exact one_off pr rr hv ok hr c.1 p hp i h1 h2
    · exact one_off (pr.step le1) rr2 hv2 ok2 hr2 c.2 p hp i h1 h3
end
theorem t_for {tg : Tg} {bodyP : (PEnv → Prop) → PEnv → Prop} {bodyW : (Env → Sto → Prop) → Env → Sto → Prop} {grd : Sto → Prop} {nx : PEnv → Prop} {nx' : Env → Sto → Prop} {S0 Se : Sto} (hg : ∀ S', Sto.le Se S' → grd S')
    (hb : ∀ kp kw pe e S adr, bodyP kp pe → PR S0 Se pe e S adr → PN S0 Se kp kw → bodyW kw e S) (hn : PN S0 Se nx nx') : ∀ (xs : List Val) (pe : PEnv) (e : Env) (S : Sto) (adr : Nat → Addr), pFor tg bodyP nx xs pe → PR S0 Se pe e S adr → wFor tg bodyW grd nx' xs e S
  | [], pe, e, S, adr, h, pr => ⟨hg S pr.leE, hn pe e S adr h pr⟩
  | x :: xs, pe, e, S, adr, h, pr => by
    refine ⟨hg S pr.leE, ?_⟩
    obtain ⟨pe', ep, h⟩ := withO_i h
    obtain ⟨e', ee, pr'⟩ := pr.bind ep
    rw [ee]
    exact hb _ _ _ _ _ _ h pr' fun pe2 e2 S2 adr2 q pr2 => t_for hg hb hn xs pe2 e2 S2 adr2 q pr2
end DL

set_option autoImplicit true
set_option Elab.async false
set_option autoImplicit false
set_option linter.all false
set_option maxRecDepth 100000
set_option maxHeartbeats 4000000
/-! Own layer, pure level, part 5: statements, defs. -/
namespace DL
open PySem
theorem set_none {pe : PEnv} {j k : Nat} {r : PV} (h : getP (pe.set j none) k = some r) : k ≠ j ∧ getP pe k = some r := by
  rw [getP_set] at h
  split at h
  · cases h
  · rename_i c
    refine ⟨fun z => c ⟨z.symm, ?_⟩, h⟩
    by_cases q : j < pe.length
    · exact q
    · subst z
      unfold getP at h
      rw [List.getElem?_eq_none (by omega)] at h
      cases h
theorem own_none {pe : PEnv} {j k : Nat} (h : ownS (pe.set j none) k = true) : k ≠ j ∧ ownS pe k = true := by
  unfold ownS at h
  split at h
  · rename_i q
    obtain ⟨h1, h2⟩ := set_none q
    exact ⟨h1, by unfold ownS; rw [h2]; exact h⟩
  · rename_i q
    obtain ⟨h1, h2⟩ := set_none q
    exact ⟨h1, by unfold ownS; rw [h2]; exact h⟩
  · cases h
theorem has_none {pe : PEnv} {j k : Nat} (h : hasA (pe.set j none) k = true) : k ≠ j ∧ hasA pe k = true := by
  unfold hasA at h
  split at h
  · rename_i q
    obtain ⟨h1, h2⟩ := set_none q
    exact ⟨h1, by unfold hasA; rw [h2]⟩
  · rename_i q
    obtain ⟨h1, h2⟩ := set_none q
    exact ⟨h1, by unfold hasA; rw [h2]⟩
  · cases h
section
variable {g : PCfg} {S0 Se : Sto} {E : Nat → Prop} {pe : PEnv} {e : Env} {S : Sto} {adr : Nat → Addr} {E' : Nat → Sto → Prop} {rt : PK} {rt' : KV} {nx : PEnv → Prop} {nx' : Env → Sto → Prop}
theorem s_move {i j : Nat} (h : pMove pe i j nx) (pr : PR S0 Se pe e S adr) (k : PN S0 Se nx nx') : wE g.G E' (.var j) e S fun v S1 => nx' (e.set i (some v)) S1 := by
  rw [wE]
  obtain ⟨r, er, h⟩ := withO_i h
  have own1 : ownS pe j = true → i ≠ j → PR S0 Se ((pe.set i (some r)).set j none) (e.set i (some (.ref (adr j)))) S (fun k => if k = i then adr j else adr k) := by
    intro ho hij
    rw [List.set_comm _ _ hij]
    refine (pr.forget j).setA i ?_ (fun k hk _ z => ?_) fun _ => ⟨(pr.own j ho).1, fun k hk _ => ?_⟩
    · cases r with
      | l o xs => exact .inl ⟨o, xs, rfl, (pr.ll _ _ _ er).2⟩
      | m o xs => obtain ⟨_, t, h2⟩ := pr.mm _ _ _ er; exact .inr ⟨o, xs, t, rfl, h2⟩
      | d _ => unfold ownS at ho; rw [er] at ho; cases ho
      | p _ _ => exact (pr.nop _ _ _ er).elim
    · obtain ⟨kj, hk⟩ := own_none hk
      exact (pr.own k hk).2 j (Ne.symm kj) (own_has ho) z
    · obtain ⟨kj, hk⟩ := has_none hk
      exact (pr.own j ho).2 k kj hk
  have bor1 : ownS pe j = false → hasA pe j = true → PR S0 Se (pe.set i (some r)) (e.set i (some (.ref (adr j)))) S (fun k => if k = i then adr j else adr k) := by
    intro ho ha
    refine pr.setA i ?_ (fun k hk _ z => ?_) fun ok => ?_
    · cases r with
      | l o xs => exact .inl ⟨o, xs, rfl, (pr.ll _ _ _ er).2⟩
      | m o xs => obtain ⟨_, t, h2⟩ := pr.mm _ _ _ er; exact .inr ⟨o, xs, t, rfl, h2⟩
      | d _ => unfold hasA at ha; rw [er] at ha; cases ha
      | p _ _ => exact (pr.nop _ _ _ er).elim
    · have kj : j ≠ k := fun q => by subst q; rw [ho] at hk; cases hk
      exact (pr.own k hk).2 j kj ha z
    · unfold ownS at ho
      rw [er] at ho
      cases r with
      | l o xs => simp only at ho; rw [ho] at ok; cases ok
      | m o xs => simp only at ho; rw [ho] at ok; cases ok
      | d _ => unfold hasA at ha; rw [er] at ha; cases ha
      | p _ _ => exact (pr.nop _ _ _ er).elim
  cases r with
  | d v =>
    rw [pr.dd _ _ er]
    exact k _ _ _ _ h (pr.setD i _ _ fun q z => by cases z; exact ⟨v, rfl, rfl⟩)
  | l o xs =>
    rw [(pr.ll _ _ _ er).1]
    cases o with
    | true => exact k _ _ _ _ h.2 (own1 (by unfold ownS; rw [er]) h.1)
    | false => exact k _ _ _ _ h (bor1 (by unfold ownS; rw [er]) (by unfold hasA; rw [er]))
  | m o xs =>
    rw [(pr.mm _ _ _ er).1]
    cases o with
    | true => exact k _ _ _ _ h.2 (own1 (by unfold ownS; rw [er]) h.1)
    | false => exact k _ _ _ _ h (bor1 (by unfold ownS; rw [er]) (by unfold hasA; rw [er]))
  | p _ _ => exact (pr.nop _ _ _ er).elim
theorem arg1_of {S S1 : Sto} {v : Val} {r : PV} (h : ResR S S1 v r) : ArgR1 S1 v r.bor := by
  have : ArgR S1 [v] [r.bor] := args_of (vs := [v]) (rs := [r]) ⟨h, trivial⟩
  exact this.1
/-- keeping only what was there -/
theorem keep_le {S S1 : Sto} {v : Val} (hv : isRefV v = false) (le : Sto.le S S1) : keep S S1 v = S := by
  funext a
  have hr : isRef v a = false := by cases v <;> first | rfl | cases hv
  unfold keep
  rw [hr, Bool.or_false]
  cases q : S a with
  | none => simp
  | some o => simp [le a o q]
theorem keep_mut {S S1 : Sto} {b : Addr} {o : Ob} {v : Val} (hb : S b ≠ none) (hv : isRefV v = false) (le : Sto.le S S1) : keep S (up S1 b o) v = up S b o := by
  funext a
  have hr : isRef v a = false := by cases v <;> first | rfl | cases hv
  unfold keep up
  rw [hr, Bool.or_false]
  by_cases e : a = b
  · subst e
    have : (S a).isSome = true := by
      cases q : S a with
      | none => exact absurd q hb
      | some _ => rfl
    simp [this]
  · simp only [if_neg e]
    cases q : S a with
    | none => simp
    | some o => simp [le a o q]
theorem s_lend {i f : Nat} {es : Exs} (h : pLend g S0 E i f es nx pe) (pr : PR S0 Se pe e S adr) (k : PN S0 Se nx nx') (x : PXo E Se E') : wE g.G E' (.drop (.call f es)) e S fun v S1 => nx' (e.set i (some v)) S1 := by
  unfold pLend at h
  split at h
  · rename_i a b r
    rw [wE, wE, wEs]
    refine sE a h pr (fun u S1 r1 le1 rr1 q => ?_) (x.step pr.leE)
    rw [wEs]
    have pr1 := pr.step le1
    split at q
    · rename_i j
      obtain ⟨o, eo, q⟩ := withO_i q
      split at q
      · rename_i xs
        obtain ⟨ev, es'⟩ := pr1.ll _ _ _ eo
        have ho : ownS pe j = true := by unfold ownS; rw [eo]
        rw [wE, ev]
        refine sEs r q pr1 (fun vs S2 rs le2 rr2 q2 => ?_) (x.step pr1.leE)
        obtain ⟨ls, el, q2⟩ := withO_i q2
        obtain ⟨sp, e2, hs⟩ := g.okl f ls el
        rw [e2]
        have pr2 := pr1.step le2
        refine hs _ _ _ _ ⟨u, adr j, vs, _, xs, _, S0, _, rfl, pr2.low, le_off pr.le0 (pr.own j ho).1, (pr2.ll _ _ _ eo).2, arg1_of (rr1.le le2), args_of rr2, q2, fun v xs' hq => ?_⟩
        show nx' (e.set i (some v)) (keep S (up S2 (adr j) (.lst xs')) v)
        rw [keep_mut (pr.hasS (own_has ho)) hq.1 (le1.trans le2)]
        exact k _ _ _ _ hq.2 ((pr.mut ho (.inl ⟨_, rfl, rfl⟩)).setD i _ _ fun q z => by cases z; exact ⟨v, rfl, rfl⟩)
      · exact q.elim
    · refine sE b q pr1 (fun w S2 r2 le2 rr2 q2 => ?_) (x.step pr1.leE)
      simp only at q2
      split at q2
      · rename_i xs
        obtain ⟨c, rfl, ec, fc⟩ := rr2
        have pr2 := pr1.step le2
        refine sEs r q2 pr2 (fun vs S3 rs le3 rr3 q3 => ?_) (x.step pr2.leE)
        obtain ⟨ls, el, q3⟩ := withO_i q3
        obtain ⟨sp, e2, hs⟩ := g.okl f ls el
        rw [e2]
        have pr3 := pr2.step le3
        have n1 := fc rfl
        have n0 : S c = none := le_off le1 n1
        refine hs _ _ _ _ ⟨u, c, vs, _, xs, _, S0, _, rfl, pr3.low, le_off pr.low n0, le3 _ _ ec, arg1_of (rr1.le (le2.trans le3)), args_of rr3, q3, fun v xs' hq => ?_⟩
        show nx' (e.set i (some v)) (keep S (up S3 c (.lst xs')) v)
        rw [keep_le hq.1 (le_write (le1.trans (le2.trans le3)) n0)]
        exact k _ _ _ _ hq.2 (pr.setD i _ _ fun q z => by cases z; exact ⟨v, rfl, rfl⟩)
      · exact q2.elim
  · exact h.elim
theorem ext_res {S1 S2 : Sto} {x : PV} {ys : List Val} {v : Val} (h : extP S0 x = some ys) (le : Sto.le S0 S2) (r : ResR S1 S2 v x) : v = .tup ys ∨ ∃ a, v = .ref a ∧ S2 a = some (.lst ys) ∧ (S1 a = none ∨ S0 a ≠ none) := by
  cases x with
  | l o xs =>
    simp only [extP] at h
    split at h
    · rename_i c
      cases h
      obtain ⟨a, e1, e2, f⟩ := r
      exact .inr ⟨a, e1, e2, .inl (f c)⟩
    · cases h
  | m _ _ => cases h
  | p _ _ => cases h
  | d w =>
    have r : v = w := r
    subst r
    simp only [extP] at h
    cases v <;> simp only [seqOf] at h <;> first | (cases h; done) | skip
    · simp only [Option.map_some, Option.some.injEq] at h
      exact .inl (by rw [h])
    · rename_i a
      split at h
      · rename_i zs e2
        simp only [Option.map_some, Option.some.injEq] at h
        subst h
        exact .inr ⟨a, rfl, le _ _ e2, .inr (by rw [e2]; exact fun z => by cases z)⟩
      · cases h
theorem s_X {a : Ex} (h : pX g S0 E a nx pe) (pr : PR S0 Se pe e S adr) (k : PN S0 Se nx nx') (x : PXo E Se E') : wE g.G E' a e S fun _ S1 => nx' e S1 := by
  have gen : (pE g S0 E a pe fun _ => nx pe) → wE g.G E' a e S fun _ S1 => nx' e S1 := fun h => sE a h pr (fun u S1 r le rr q => k _ _ _ _ q (pr.step le)) (x.step pr.leE)
  unfold pX at h
  split at h
  · rename_i j y
    obtain ⟨q, eq, h⟩ := withO_i h
    split at h
    · rename_i xs
      obtain ⟨ev, es⟩ := pr.ll _ _ _ eq
      have ho : ownS pe j = true := by unfold ownS; rw [eq]
      rw [wE, wE, ev]
      refine ⟨by simp only [recv, es], ?_⟩
      rw [wEs]
      refine sE y h pr (fun u S1 r le1 rr q => ?_) (x.step pr.leE)
      obtain ⟨v, rfl, q1, q2⟩ := withD_i q
      rw [wEs, show u = v from rr]
      have e2 := le1 _ _ es
      simp only [wMt, e2]
      exact ⟨q1, k _ _ _ _ q2 ((pr.step le1).mut ho (.inl ⟨_, rfl, rfl⟩))⟩
    · exact h.elim
  · rename_i j y
    obtain ⟨q, eq, h⟩ := withO_i h
    split at h
    · rename_i xs
      obtain ⟨ev, es⟩ := pr.ll _ _ _ eq
      have ho : ownS pe j = true := by unfold ownS; rw [eq]
      rw [wE, wE, ev]
      refine ⟨by simp only [recv, es], ?_⟩
      rw [wEs]
      refine sE y h pr (fun u S1 r le1 rr q => ?_) (x.step pr.leE)
      obtain ⟨ys, ey, q1, q2⟩ := withO_i q
      rw [wEs]
      have e2 := le1 _ _ es
      rcases ext_res ey (pr.low.trans le1) rr with rfl | ⟨b, rfl, eb, hb⟩
      · simp only [wMt, e2]
        exact ⟨q1, k _ _ _ _ q2 ((pr.step le1).mut ho (.inl ⟨_, rfl, rfl⟩))⟩
      · simp only [wMt, e2, eb]
        refine ⟨fun z => ?_, q1, k _ _ _ _ q2 ((pr.step le1).mut ho (.inl ⟨_, rfl, rfl⟩))⟩
        subst z
        rcases hb with hb | hb
        · rw [hb] at es; cases es
        · exact hb (le_off pr.le0 (pr.own j ho).1)
    · exact h.elim
  · exact gen h
end
theorem s_H {g : PCfg} {Se S : Sto} {E : Nat → Prop} {rt : PK} {E' : Nat → Sto → Prop} {rt' : KV} (le : Sto.le Se S) (hr : PRt Se rt rt') (x : PXo E Se E') {h : Hd} {y : Nat} (hh : pH g E rt h y) : wH g.G E' rt' h y S := by
  cases h with
  | conj cs => exact hr _ _ (.d _) le rfl rfl hh
  | text z cs => exact hr _ _ (.d _) le rfl rfl hh
  | bl b => exact hr _ _ (.d _) le rfl rfl hh
  | non => exact hr _ _ (.d _) le rfl rfl hh
  | str z => exact hr _ _ (.d _) le rfl rfl hh
  | raise c => exact x c S le hh
mutual
theorem sS : ∀ (s : Sm) {g : PCfg} {S0 : Sto} {E : Nat → Prop} {rt : PK} {nx : PEnv → Prop} {pe : PEnv}, pS g S0 E rt s nx pe → ∀ {Se : Sto} {e : Env} {S : Sto} {adr : Nat → Addr} {E' : Nat → Sto → Prop} {rt' : KV} {nx' : Env → Sto → Prop}, PR S0 Se pe e S adr → PN S0 Se nx nx' → PRt Se rt rt' → PXo E Se E' → wS g.G E' rt' s nx' e S
  | .asg i a, g, S0, E, rt, nx, pe, h, Se, e, S, adr, E', rt', nx', pr, k, hr, x => by
    rw [pS] at h
    rw [wS]
    unfold pAsg at h
    split at h
    · exact s_move h pr k
    · exact s_lend h pr k x
    · exact sE a h pr (fun u S1 r le rr q => by
        obtain ⟨adr', pr'⟩ := pr.put le i rr q.1
        exact k _ _ _ _ q.2 pr') (x.step pr.leE)
  | .asgs is a, g, S0, E, rt, nx, pe, h, Se, e, S, adr, E', rt', nx', pr, k, hr, x => by
    rw [pS] at h
    rw [wS]
    have un : ∀ v S1, Sto.le S S1 → pUn is pe nx (.d v) → withO (bindT (.many is) e v) fun e' => nx' e' S1 := by
      intro v S1 le q
      obtain ⟨pe', ep, q⟩ := withO_i q
      obtain ⟨e', ee, pr'⟩ := (pr.step le).bind ep
      rw [ee]
      exact k _ _ _ _ q pr'
    unfold pAsgs at h
    split at h
    · rename_i f es
      rw [wE]
      refine sEs es h pr (fun vs S1 rs le1 rr q => ?_) (x.step pr.leE)
      obtain ⟨ps, ep, q⟩ := withO_i q
      obtain ⟨sp, es', hs⟩ := g.okf f ps ep
      rw [es']
      refine hs _ _ _ _ ⟨_, S0, _, E, pr.low.trans le1, args_of rr, q, fun r hq => ?_, fun y hy => x y S1 (pr.leE.trans le1) hy⟩
      clear q
      replace q := hq
      clear hq
      cases r with
      | d v => exact un v S1 le1 q
      | l _ _ => exact q.elim
      | m _ _ => exact q.elim
      | p xs v =>
        unfold pUn at q
        simp only at q
        split at q
        · rename_i i j
          intro p n
          obtain ⟨hij, q⟩ := q
          rw [bind_two]
          have le2 : Sto.le S (up S1 p (.lst xs)) := le1.trans (le_new (.refl S1) n)
          obtain ⟨adr', pr'⟩ := pr.put (S1 := up S1 p (.lst xs)) le2 i (v := .ref p) (r := .l true xs) ⟨p, rfl, DL.up_same, fun _ => le_off le1 n⟩ rfl
          exact k _ _ _ _ q (pr'.setD j _ _ fun q z => by cases z; exact ⟨v, rfl, rfl⟩)
        · exact q.elim
    · refine sE a h pr (fun u S1 r le rr q => ?_) (x.step pr.leE)
      cases r with
      | d v => rw [show u = v from rr]; exact un v S1 le q
      | l _ _ => exact q.elim
      | m _ _ => exact q.elim
      | p _ _ => exact rr.elim
  | .par i j a b, g, S0, E, rt, nx, pe, h, Se, e, S, adr, E', rt', nx', pr, k, hr, x => by
    rw [pS] at h
    rw [wS]
    refine sE a h pr (fun u S1 r le1 rr q => ?_) (x.step pr.leE)
    obtain ⟨v, rfl, q⟩ := withD_i q
    refine sE b q (pr.step le1) (fun w S2 r2 le2 rr2 q2 => ?_) (x.step (pr.leE.trans le1))
    obtain ⟨v2, rfl, q2⟩ := withD_i q2
    rw [show u = v from rr, show w = v2 from rr2]
    exact k _ _ _ _ q2 (((pr.step (le1.trans le2)).setD i _ _ fun q z => by cases z; exact ⟨v, rfl, rfl⟩).setD j _ _ fun q z => by cases z; exact ⟨v2, rfl, rfl⟩)
  | .setI a i c, g, S0, E, rt, nx, pe, h, Se, e, S, adr, E', rt', nx', pr, k, hr, x => by
    rw [pS] at h
    rw [wS]
    unfold pSetI at h
    split at h
    · rename_i j
      obtain ⟨o, eo, h⟩ := withO_i h
      refine sE c h pr (fun u S1 r le1 rr q => ?_) (x.step pr.leE)
      obtain ⟨v, rfl, q⟩ := withD_i q
      rw [show u = v from rr]
      have pr1 := pr.step le1
      rw [wE]
      have go : ∀ w, getV e j = some w → (wE g.G E' i e S1 fun y S3 => wSetI w y v S3 fun S4 => nx' e S4) → withO (getV e j) fun w => wE g.G E' i e S1 fun y S3 => wSetI w y v S3 fun S4 => nx' e S4 := fun w ew h => by rw [ew]; exact h
      cases o with
      | d w =>
        refine go w (pr.dd _ _ eo) (sE i q pr1 (fun y S3 r3 le3 rr3 q3 => ?_) (x.step pr1.leE))
        obtain ⟨k', rfl, q3⟩ := withD_i q3
        exact q3.elim
      | p xs w => exact (pr.nop _ _ _ eo).elim
      | l o xs =>
        refine go _ (pr.ll _ _ _ eo).1 (sE i q pr1 (fun y S3 r3 le3 rr3 q3 => ?_) (x.step pr1.leE))
        obtain ⟨k', rfl, q3⟩ := withD_i q3
        cases o with
        | false => exact q3.elim
        | true =>
          obtain ⟨n, e1, q3⟩ := withPI_i q3
          cases e1
          obtain ⟨t, et, q3⟩ := withO_i q3
          have pr3 := pr1.step le3
          rw [show y = .int n from rr3]
          simp only [wSetI, (pr3.ll _ _ _ eo).2, et]
          exact k _ _ _ _ q3 (pr3.mut (by unfold ownS; rw [eo]) (.inl ⟨_, rfl, rfl⟩))
      | m o xs =>
        refine go _ (pr.mm _ _ _ eo).1 (sE i q pr1 (fun y S3 r3 le3 rr3 q3 => ?_) (x.step pr1.leE))
        obtain ⟨k', rfl, q3⟩ := withD_i q3
        cases o with
        | false => exact q3.elim
        | true =>
          have pr3 := pr1.step le3
          obtain ⟨q4, q5, q6⟩ := q3
          obtain ⟨_, t, e4⟩ := pr3.mm _ _ _ eo
          rw [show y = k' from rr3]
          have fin : kindOk xs k' = true ∧ xs.length < line ∧ ∀ t, nx' e (up S3 (adr j) (.dct (dput xs k' v) t)) := ⟨q4, q5, fun t => k _ _ _ _ q6 (pr3.mut (by unfold ownS; rw [eo]) (.inr ⟨_, t, rfl, rfl⟩))⟩
          cases k' <;> (simp only [wSetI, e4]; exact fin)
    · exact h.elim
  | .setF a f c, g, S0, E, rt, nx, pe, h, Se, e, S, adr, E', rt', nx', pr, k, hr, x => by
    rw [pS] at h
    exact h.elim
  | .expr a, g, S0, E, rt, nx, pe, h, Se, e, S, adr, E', rt', nx', pr, k, hr, x => by
    rw [pS] at h
    rw [wS]
    exact s_X h pr k x
  | .ret a, g, S0, E, rt, nx, pe, h, Se, e, S, adr, E', rt', nx', pr, k, hr, x => by
    rw [pS] at h
    rw [wS]
    unfold pRet at h
    split at h
    · rename_i j
      rw [wE]
      obtain ⟨r, er, ok, h⟩ := withO_i h
      cases r with
      | d v => rw [pr.dd _ _ er]; exact hr _ _ (.d v) pr.leE rfl rfl h
      | l o xs =>
        have ho : ownS pe j = true := by unfold ownS; rw [er]; exact ok
        rw [(pr.ll _ _ _ er).1]
        exact hr _ _ (.l o xs) pr.leE ⟨_, rfl, (pr.ll _ _ _ er).2, fun _ => (pr.own j ho).1⟩ ok h
      | m o xs =>
        have ho : ownS pe j = true := by unfold ownS; rw [er]; exact ok
        obtain ⟨h1, t, h2⟩ := pr.mm _ _ _ er
        rw [h1]
        exact hr _ _ (.m o xs) pr.leE ⟨_, t, rfl, h2, fun _ => (pr.own j ho).1⟩ ok h
      | p _ _ => cases ok
    · exact sE a h pr (fun u S1 r le rr q => hr _ _ r (pr.leE.trans le) (rr.base pr.leE) q.1 q.2) (x.step pr.leE)
  | .ret0, g, S0, E, rt, nx, pe, h, Se, e, S, adr, E', rt', nx', pr, k, hr, x => by
    rw [pS] at h
    rw [wS]
    exact hr _ _ (.d .non) pr.leE rfl rfl h
  | .pass, g, S0, E, rt, nx, pe, h, Se, e, S, adr, E', rt', nx', pr, k, hr, x => by
    rw [pS] at h
    rw [wS]
    exact k _ _ _ _ h pr
  | .ite c a b, g, S0, E, rt, nx, pe, h, Se, e, S, adr, E', rt', nx', pr, k, hr, x => by
    rw [pS] at h
    rw [wS]
    refine sE c h pr (fun u S1 r le rr q => ?_) (x.step pr.leE)
    obtain ⟨i, rfl, q⟩ := withPB_i q
    rw [show u = .bl i from rr]
    exact ⟨fun t => sSs a (q.1 t) (pr.step le) k hr x, fun t => sSs b (q.2 t) (pr.step le) k hr x⟩
  | .while c b, g, S0, E, rt, nx, pe, h, Se, e, S, adr, E', rt', nx', pr, k, hr, x => by
    rw [pS] at h
    rw [wS]
    obtain ⟨W, ⟨m0, h0⟩, hs⟩ := h
    refine ⟨fun m e S => ∃ pe adr, W m pe ∧ PR S0 Se pe e S adr, ⟨m0, pe, adr, h0, pr⟩, ?_⟩
    rintro m e S ⟨pe, adr, hw, pr⟩
    refine sE c (hs m pe hw) pr (fun u S1 r le rr q => ?_) (x.step pr.leE)
    obtain ⟨i, rfl, q⟩ := withPB_i q
    rw [show u = .bl i from rr]
    exact ⟨fun t => sSs b (q.1 t) (pr.step le) (fun pe2 e2 S2 adr2 ⟨m', lt, hw'⟩ pr2 => ⟨m', lt, pe2, adr2, hw', pr2⟩) hr x, fun t => k _ _ _ _ (q.2 t) (pr.step le)⟩
  | .for tg it b, g, S0, E, rt, nx, pe, h, Se, e, S, adr, E', rt', nx', pr, k, hr, x => by
    rw [pS] at h
    rw [wS]
    refine sIs h pr (fun xs grd S1 Av le hA hg q => ?_) (x.step pr.leE)
    obtain ⟨Se2, l2, pr2, hf⟩ := ((pr.step le).frz it).fix Av hA
    have hr2 : PRt Se2 rt rt' := fun v S' r le' rr ok q => hr v S' r (l2.trans le') (rr.base l2) ok q
    exact t_for (fun S' le' => hg S' fun a o av q => hf S' le' a o av q) (fun kp kw pe e S adr hb pr' hk => sSs b hb pr' hk hr2 (x.step l2)) (fun pe e S adr q pr' => k _ _ _ _ q (pr'.weak pr.le0 l2)) xs _ _ _ _ q pr2
  | .bad, g, S0, E, rt, nx, pe, h, Se, e, S, adr, E', rt', nx', pr, k, hr, x => by
    rw [pS] at h
    exact h.elim
  | .raise c y, g, S0, E, rt, nx, pe, h, Se, e, S, adr, E', rt', nx', pr, k, hr, x => by
    rw [pS] at h
    rw [wS]
    exact x c S pr.leE h
  | .try1 b c n hd, g, S0, E, rt, nx, pe, h, Se, e, S, adr, E', rt', nx', pr, k, hr, x => by
    rw [pS] at h
    rw [wS]
    exact sSs b h pr k hr fun y S' le ⟨h1, h2, h3⟩ => ⟨h1, fun t => s_H le hr x (h2 t), fun t => x y S' le (h3 t)⟩
theorem sSs : ∀ (s : Sms) {g : PCfg} {S0 : Sto} {E : Nat → Prop} {rt : PK} {nx : PEnv → Prop} {pe : PEnv}, pSs g S0 E rt s nx pe → ∀ {Se : Sto} {e : Env} {S : Sto} {adr : Nat → Addr} {E' : Nat → Sto → Prop} {rt' : KV} {nx' : Env → Sto → Prop}, PR S0 Se pe e S adr → PN S0 Se nx nx' → PRt Se rt rt' → PXo E Se E' → wSs g.G E' rt' s nx' e S
  | .nil, g, S0, E, rt, nx, pe, h, Se, e, S, adr, E', rt', nx', pr, k, hr, x => by
    rw [pSs] at h
    rw [wSs]
    exact k _ _ _ _ h pr
  | .cons s r, g, S0, E, rt, nx, pe, h, Se, e, S, adr, E', rt', nx', pr, k, hr, x => by
    rw [pSs] at h
    rw [wSs]
    exact sS s h pr (fun pe2 e2 S2 adr2 q pr2 => sSs r q pr2 k hr x) hr x
end
theorem startP_get {n : Nat} {vs : List PV} {i : Nat} {r : PV} (h : getP (startP n vs) i = some r) : vs[i]? = some r := by
  unfold getP startP at h
  rw [List.getElem?_append] at h
  split at h
  · rename_i c
    rw [List.getElem?_map] at h
    cases q : vs[i]? with
    | none => rw [q] at h; cases h
    | some y => rw [q] at h; cases h; rfl
  · rw [List.getElem?_replicate] at h
    split at h <;> cases h
theorem startE_get {n : Nat} {vs : List Val} {i : Nat} {r : Val} (h : vs[i]? = some r) : getV (startE n vs) i = some r := by
  unfold getV startE
  rw [List.getElem?_append_left (by
    rw [List.length_map]
    by_cases q : i < vs.length
    · exact q
    · rw [List.getElem?_eq_none (by omega)] at h; cases h), List.getElem?_map, h]
  rfl
theorem argR_get {S : Sto} : ∀ {vs : List Val} {ps : List PV} {i : Nat} {r : PV}, ArgR S vs ps → ps[i]? = some r → ∃ v, vs[i]? = some v ∧ ArgR1 S v r
  | [], [], _, _, _, h => by simp at h
  | v :: vs, p :: ps, 0, r, a, h => by
    simp at h
    subst h
    exact ⟨v, rfl, a.1⟩
  | v :: vs, p :: ps, i + 1, r, a, h => by
    simp only [List.getElem?_cons_succ] at h ⊢
    exact argR_get a.2 h
  | [], _ :: _, _, _, a, _ => a.elim
  | _ :: _, [], _, _, a, _ => a.elim
theorem argR_len {S : Sto} : ∀ {vs : List Val} {ps : List PV}, ArgR S vs ps → vs.length = ps.length
  | [], [], _ => rfl
  | _ :: _, _ :: _, a => by simp [argR_len a.2]
  | [], _ :: _, a => a.elim
  | _ :: _, [], a => a.elim
def adrOf (v : Option Val) : Addr := match v with
  | some (.ref a) => a
  | _ => 0
/-- a def of the pure level keeps its promise -/
theorem wk_of {g : PCfg} {ps : PSpec} {N : List Str} {b : Sms} (h : Wp g ps N b) : Wk g.G (up1 ps) N b := by
  rintro args S Q E ⟨pvs, S0, Qp, Ep, le, ar, hp, hr, hx⟩
  have hl := argR_len ar
  have pr : PR S0 S (startP N.length pvs) (startE N.length args) S fun i => adrOf (args[i]?) := by
    refine ⟨le, .refl S, by simp [startE, startP, hl], fun i v q => ?_, fun i o xs q => ?_, fun i o xs q => ?_, fun i xs v q => ?_, fun i q => ?_⟩
    · obtain ⟨v', e1, e2⟩ := argR_get ar (startP_get q)
      rw [show v' = v from e2] at e1
      exact startE_get e1
    · obtain ⟨v', e1, _, a, rfl, e3⟩ := argR_get ar (startP_get q)
      rw [e1]
      exact ⟨startE_get e1, e3⟩
    · obtain ⟨v', e1, _, a, t, rfl, e3⟩ := argR_get ar (startP_get q)
      rw [e1]
      exact ⟨startE_get e1, t, e3⟩
    · obtain ⟨v', e1, e2⟩ := argR_get ar (startP_get q)
      exact e2.elim
    · unfold ownS at q
      split at q
      · rename_i o xs z
        obtain ⟨v', e1, e2, _⟩ := argR_get ar (startP_get z)
        rw [e2] at q
        cases q
      · rename_i o xs z
        obtain ⟨v', e1, e2, _⟩ := argR_get ar (startP_get z)
        rw [e2] at q
        cases q
      · cases q
  refine sSs b (h pvs S0 Qp Ep hp) pr (fun pe e S' adr q pr' => ⟨S, pr'.leE, hr (.d .non) q⟩) (fun v S' r le' rr ok q => ?_) fun x S' le' q => ⟨S, le', hx x q⟩
  have hq := hr r q
  cases r with
  | d w => rw [show v = w from rr]; exact ⟨S, le', hq⟩
  | l o xs =>
    obtain ⟨a, rfl, e1, f⟩ := rr
    refine ⟨up S a (.lst xs), fun c ob z => ?_, hq a (f ok)⟩
    by_cases ca : c = a
    · subst ca
      rw [DL.up_same] at z
      cases z
      exact e1
    · rw [up_get ca] at z
      exact le' _ _ z
  | m o xs =>
    obtain ⟨a, t, rfl, e1, f⟩ := rr
    refine ⟨up S a (.dct xs t), fun c ob z => ?_, hq a t (f ok)⟩
    by_cases ca : c = a
    · subst ca
      rw [DL.up_same] at z
      cases z
      exact e1
    · rw [up_get ca] at z
      exact le' _ _ z
  | p _ _ => exact rr.elim
def ArityP (n : Nat) (ps : PSpec) : Prop := ∀ args S Q E, ps args S Q E → args.length = n
theorem arity_up {n : Nat} {ps : PSpec} (h : ArityP n ps) : Arity n (up1 ps) := by
  rintro args S Q E ⟨pvs, S0, Qp, Ep, le, ar, hp, hr, hx⟩
  rw [argR_len ar]
  exact h _ _ _ _ hp
end DL

set_option autoImplicit true
set_option Elab.async false
set_option autoImplicit false
set_option linter.all false
set_option maxRecDepth 100000
set_option maxHeartbeats 4000000
/-! Own layer, pure level, part 6: rules of use. -/
namespace DL
open PySem
theorem getP_0 (v : Option PV) (e : PEnv) : getP (v :: e) 0 = v := rfl
theorem getP_s (v : Option PV) (e : PEnv) (n : Nat) : getP (v :: e) (n + 1) = getP e n := by
  simp [getP]
theorem startP_nil (n : Nat) : startP n [] = List.replicate n none := by simp [startP]
theorem startP_cons (n : Nat) (v : PV) (vs : List PV) : startP (n + 1) (v :: vs) = some v :: startP n vs := by simp [startP]
theorem bindP_one (i : Nat) (e : PEnv) (v : Val) : bindP (.one i) e v = some (e.set i (some (.d v))) := by cases v <;> rfl
theorem bindP_two (i j : Nat) (e : PEnv) (v w : Val) : bindP (.many [i, j]) e (.tup [v, w]) = some ((e.set i (some (.d v))).set j (some (.d w))) := rfl
theorem bindP_three (i j k : Nat) (e : PEnv) (u v w : Val) : bindP (.many [i, j, k]) e (.tup [u, v, w]) = some (((e.set i (some (.d u))).set j (some (.d v))).set k (some (.d w))) := rfl
theorem withD_d (v : Val) (k : Val → Prop) : withD (.d v) k = k v := rfl
theorem withPB_d (b : Bool) (k : Bool → Prop) : withPB (.d (.bl b)) k = k b := rfl
theorem withPI_d (b : Int) (k : Int → Prop) : withPI (.d (.int b)) k = k b := rfl
theorem bor_d (v : Val) : (PV.d v).bor = .d v := rfl
theorem bor_l (o : Bool) (xs : List Val) : (PV.l o xs).bor = .l false xs := rfl
theorem bor_m (o : Bool) (xs : List (Val × Val)) : (PV.m o xs).bor = .m false xs := rfl
theorem isP_d (v : Val) : (PV.d v).isP = false := rfl
theorem isP_l (o : Bool) (xs : List Val) : (PV.l o xs).isP = false := rfl
theorem isP_m (o : Bool) (xs : List (Val × Val)) : (PV.m o xs).isP = false := rfl
theorem okA_d (v : Val) : okA (.d v) = true := rfl
theorem okA_l (o : Bool) (xs : List Val) : okA (.l o xs) = o := rfl
theorem okA_m (o : Bool) (xs : List (Val × Val)) : okA (.m o xs) = o := rfl
theorem lof_l (S : Sto) (o : Bool) (xs : List Val) : lof S (.l o xs) = some xs := rfl
theorem lof_m (S : Sto) (o : Bool) (xs : List (Val × Val)) : lof S (.m o xs) = none := rfl
theorem lof_int (S : Sto) (i : Int) : lof S (.d (.int i)) = none := rfl
theorem lof_bl (S : Sto) (i : Bool) : lof S (.d (.bl i)) = none := rfl
theorem lof_str (S : Sto) (i : Str) : lof S (.d (.str i)) = none := rfl
theorem lof_non (S : Sto) : lof S (.d .non) = none := rfl
theorem lof_tup (S : Sto) (xs : List Val) : lof S (.d (.tup xs)) = none := rfl
theorem lof_lst (S : Sto) (xs : List Val) : lof S (.d (.lst xs)) = none := rfl
theorem dof_l (S : Sto) (o : Bool) (xs : List Val) : dof S (.l o xs) = none := rfl
theorem dof_m (S : Sto) (o : Bool) (xs : List (Val × Val)) : dof S (.m o xs) = some xs := rfl
theorem dof_int (S : Sto) (i : Int) : dof S (.d (.int i)) = none := rfl
theorem dof_bl (S : Sto) (i : Bool) : dof S (.d (.bl i)) = none := rfl
theorem dof_str (S : Sto) (i : Str) : dof S (.d (.str i)) = none := rfl
theorem dof_non (S : Sto) : dof S (.d .non) = none := rfl
theorem dof_tup (S : Sto) (xs : List Val) : dof S (.d (.tup xs)) = none := rfl
theorem dof_lst (S : Sto) (xs : List Val) : dof S (.d (.lst xs)) = none := rfl
theorem dvl_int (i : Int) : dvl (.d (.int i)) = some (.int i) := rfl
theorem dvl_bl (i : Bool) : dvl (.d (.bl i)) = some (.bl i) := rfl
theorem dvl_str (i : Str) : dvl (.d (.str i)) = some (.str i) := rfl
theorem dvl_non : dvl (.d .non) = some .non := rfl
theorem dvl_tup (xs : List Val) : dvl (.d (.tup xs)) = some (.tup xs) := rfl
theorem dvl_lst (xs : List Val) : dvl (.d (.lst xs)) = some (.lst xs) := rfl
theorem ds_nil : ds [] = some [] := rfl
theorem ds_cons (v : Val) (r : List PV) : ds (.d v :: r) = (ds r).map (v :: ·) := rfl
theorem omap_some {α β : Type} (f : α → β) (a : α) : (some a).map f = some (f a) := rfl
theorem pSee_d (S : Sto) (v : Val) : pSee S (.d v) = S.see 3 v := rfl
theorem pSee_l (S : Sto) (o : Bool) (xs : List Val) : pSee S (.l o xs) = (S.sees 2 xs).map .lst := rfl
theorem pLt_i (i j : Int) (S : Sto) (Q : PK) : pCmp .lt (.d (.int i)) (.d (.int j)) S Q = Q (.d (.bl (decide (i < j)))) := rfl
theorem pLe_i (i j : Int) (S : Sto) (Q : PK) : pCmp .le (.d (.int i)) (.d (.int j)) S Q = Q (.d (.bl (decide (i ≤ j)))) := rfl
theorem pGt_i (i j : Int) (S : Sto) (Q : PK) : pCmp .gt (.d (.int i)) (.d (.int j)) S Q = Q (.d (.bl (decide (j < i)))) := rfl
theorem pGe_i (i j : Int) (S : Sto) (Q : PK) : pCmp .ge (.d (.int i)) (.d (.int j)) S Q = Q (.d (.bl (decide (j ≤ i)))) := rfl
theorem pLt_t (xs ys : List Val) (S : Sto) (Q : PK) : pCmp .lt (.d (.tup xs)) (.d (.tup ys)) S Q = (withO (Val.ints xs) fun ns => withO (Val.ints ys) fun ms => Q (.d (.bl (HT.lexLt ns ms)))) := rfl
theorem pEq_i (i j : Int) (S : Sto) (Q : PK) : pCmp .eq (.d (.int i)) (.d (.int j)) S Q = Q (.d (.bl (decide (i = j)))) := by
  simp only [pCmp, pSee_d, see_int, withO_s, dep_int, Nat.min_self, Nat.zero_le, true_and, int_eq]
theorem pNe_i (i j : Int) (S : Sto) (Q : PK) : pCmp .ne (.d (.int i)) (.d (.int j)) S Q = Q (.d (.bl (!decide (i = j)))) := by
  simp only [pCmp, pSee_d, see_int, withO_s, dep_int, Nat.min_self, Nat.zero_le, true_and, int_eq]
theorem veq_str (a b : Str) : (Val.str a).veq (.str b) = decide (a = b) := by
  simp [Val.veq, Val.py, PyData.eqv, Bool.beq_eq_decide_eq]
theorem pEq_s (i j : Str) (S : Sto) (Q : PK) : pCmp .eq (.d (.str i)) (.d (.str j)) S Q = Q (.d (.bl (decide (i = j)))) := by
  simp only [pCmp, pSee_d, see_str, withO_s, dep_str, Nat.min_self, Nat.zero_le, true_and, veq_str]
theorem pNe_s (i j : Str) (S : Sto) (Q : PK) : pCmp .ne (.d (.str i)) (.d (.str j)) S Q = Q (.d (.bl (!decide (i = j)))) := by
  simp only [pCmp, pSee_d, see_str, withO_s, dep_str, Nat.min_self, Nat.zero_le, true_and, veq_str]
theorem veq_bb (a b : Bool) : (Val.bl a).veq (.bl b) = (a == b) := by cases a <;> cases b <;> rfl
theorem pEq_b (i j : Bool) (S : Sto) (Q : PK) : pCmp .eq (.d (.bl i)) (.d (.bl j)) S Q = Q (.d (.bl (i == j))) := by
  simp only [pCmp, pSee_d, see_bl, withO_s, dep_bl, Nat.min_self, Nat.zero_le, true_and, veq_bb]
theorem pNe_b (i j : Bool) (S : Sto) (Q : PK) : pCmp .ne (.d (.bl i)) (.d (.bl j)) S Q = Q (.d (.bl (!(i == j)))) := by
  simp only [pCmp, pSee_d, see_bl, withO_s, dep_bl, Nat.min_self, Nat.zero_le, true_and, veq_bb]
theorem pIn_m (a : Val) (o : Bool) (kvs : List (Val × Val)) (S : Sto) (Q : PK) : pCmp .isin (.d a) (.m o kvs) S Q = (kindOk kvs a = true ∧ Q (.d (.bl (dget kvs a).isSome))) := rfl
theorem pNin_m (a : Val) (o : Bool) (kvs : List (Val × Val)) (S : Sto) (Q : PK) : pCmp .notin (.d a) (.m o kvs) S Q = (kindOk kvs a = true ∧ Q (.d (.bl (dget kvs a).isNone))) := rfl
/-- == of lists that hold data -/
theorem pEq_l {xs ys : List Val} {o o' : Bool} {S : Sto} {Q : PK} (hx : Val.dats xs = true) (hy : Val.dats ys = true) (hd : Val.deps xs ≤ 90) : pCmp .eq (.l o xs) (.l o' ys) S Q = Q (.d (.bl ((Val.lst xs).veq (.lst ys)))) := by
  have hs : ∀ (n : Nat) (zs : List Val), Val.dats zs = true → S.sees n zs = some zs := by
    intro n zs
    induction zs with
    | nil => intro _; rw [Sto.sees]
    | cons z zs ih => intro h; simp only [Val.dats, Bool.and_eq_true] at h; rw [Sto.sees, see_dat h.1, ih h.2]
  have : min (Val.lst xs).dep (Val.lst ys).dep ≤ 100 := by
    have : (Val.lst xs).dep = Val.deps xs + 1 := rfl
    omega
  simp only [pCmp, pSee_l, hs _ _ hx, hs _ _ hy, omap_some, withO_s, this, true_and]
theorem pNe_l {xs ys : List Val} {o o' : Bool} {S : Sto} {Q : PK} (hx : Val.dats xs = true) (hy : Val.dats ys = true) (hd : Val.deps xs ≤ 90) : pCmp .ne (.l o xs) (.l o' ys) S Q = Q (.d (.bl (!(Val.lst xs).veq (.lst ys)))) := by
  have hs : ∀ (n : Nat) (zs : List Val), Val.dats zs = true → S.sees n zs = some zs := by
    intro n zs
    induction zs with
    | nil => intro _; rw [Sto.sees]
    | cons z zs ih => intro h; simp only [Val.dats, Bool.and_eq_true] at h; rw [Sto.sees, see_dat h.1, ih h.2]
  have : min (Val.lst xs).dep (Val.lst ys).dep ≤ 100 := by
    have : (Val.lst xs).dep = Val.deps xs + 1 := rfl
    omega
  simp only [pCmp, pSee_l, hs _ _ hx, hs _ _ hy, omap_some, withO_s, this, true_and]
/-- == of plain values -/
theorem pEq_d {x y : Val} {S : Sto} {Q : PK} (hx : x.dat = true) (hy : y.dat = true) (hd : x.dep ≤ 90) : pCmp .eq (.d x) (.d y) S Q = Q (.d (.bl (x.veq y))) := by
  have : min x.dep y.dep ≤ 100 := by omega
  simp only [pCmp, pSee_d, see_dat hx, see_dat hy, withO_s, this, true_and]
theorem pNe_d {x y : Val} {S : Sto} {Q : PK} (hx : x.dat = true) (hy : y.dat = true) (hd : x.dep ≤ 90) : pCmp .ne (.d x) (.d y) S Q = Q (.d (.bl (!x.veq y))) := by
  have : min x.dep y.dep ≤ 100 := by omega
  simp only [pCmp, pSee_d, see_dat hx, see_dat hy, withO_s, this, true_and]
theorem pSub_l (o : Bool) (xs : List Val) (i : Int) (S : Sto) (Q : PK) : pSub (.l o xs) (.d (.int i)) S Q = withO (L2.atI xs i) fun v => Q (.d v) := rfl
theorem pSub_tup (xs : List Val) (i : Int) (S : Sto) (Q : PK) : pSub (.d (.tup xs)) (.d (.int i)) S Q = withO (L2.atI xs i) fun v => Q (.d v) := rfl
theorem pSub_lst (xs : List Val) (i : Int) (S : Sto) (Q : PK) : pSub (.d (.lst xs)) (.d (.int i)) S Q = withO (L2.atI xs i) fun v => Q (.d v) := rfl
theorem pSub_m (o : Bool) (kvs : List (Val × Val)) (k : Val) (S : Sto) (Q : PK) : pSub (.m o kvs) (.d k) S Q = (kindOk kvs k = true ∧ withO (dget kvs k) fun v => Q (.d v)) := rfl
theorem pSub_str (z : Str) (i : Int) (S : Sto) (Q : PK) : pSub (.d (.str z)) (.d (.int i)) S Q = (z.length ≤ line ∧ withO (L2.atI z.cps.toList i) fun c => Q (.d (.str ⟨#[c]⟩))) := rfl
theorem pBt_l (b : Bt) (o : Bool) (xs : List Val) (S : Sto) (Q : PK) : pBt b [.l o xs] S Q = pBtL b xs S Q := rfl
theorem pBt_len_l (o : Bool) (xs : List Val) (S : Sto) (Q : PK) : pBt .len [.l o xs] S Q = Q (.d (.int xs.length)) := rfl
theorem pBt_tuple_l (o : Bool) (xs : List Val) (S : Sto) (Q : PK) : pBt .tuple [.l o xs] S Q = Q (.d (.tup xs)) := rfl
theorem pBt_list_l (o : Bool) (xs : List Val) (S : Sto) (Q : PK) : pBt .list [.l o xs] S Q = Q (.l true xs) := rfl
theorem pBt_len_m (o : Bool) (xs : List (Val × Val)) (S : Sto) (Q : PK) : pBt .len [.m o xs] S Q = Q (.d (.int xs.length)) := by
  simp [pBt, lof, dof]
theorem pBt_len_tup (xs : List Val) (S : Sto) (Q : PK) : pBt .len [.d (.tup xs)] S Q = Q (.d (.int xs.length)) := rfl
theorem pBt_len_lst (xs : List Val) (S : Sto) (Q : PK) : pBt .len [.d (.lst xs)] S Q = Q (.d (.int xs.length)) := rfl
theorem pBt_len_str (x : Str) (S : Sto) (Q : PK) : pBt .len [.d (.str x)] S Q = (x.length ≤ line ∧ Q (.d (.int x.length))) := rfl
theorem pBt_list_tup (xs : List Val) (S : Sto) (Q : PK) : pBt .list [.d (.tup xs)] S Q = Q (.l true xs) := rfl
theorem pBt_tuple_tup (xs : List Val) (S : Sto) (Q : PK) : pBt .tuple [.d (.tup xs)] S Q = Q (.d (.tup xs)) := rfl
theorem pBt_int_int (i : Int) (S : Sto) (Q : PK) : pBt .int [.d (.int i)] S Q = Q (.d (.int i)) := rfl
theorem pBt_int_bl (b : Bool) (S : Sto) (Q : PK) : pBt .int [.d (.bl b)] S Q = Q (.d (.int (if b then 1 else 0))) := rfl
theorem pBt_max2 (i j : Int) (S : Sto) (Q : PK) : pBt .max2 [.d (.int i), .d (.int j)] S Q = Q (.d (.int (if j > i then j else i))) := rfl
theorem pBt_min2 (i j : Int) (S : Sto) (Q : PK) : pBt .min2 [.d (.int i), .d (.int j)] S Q = Q (.d (.int (if j < i then j else i))) := rfl
theorem pBt_str_int (i : Int) (S : Sto) (Q : PK) : pBt .str [.d (.int i)] S Q = (i.natAbs.log2 < 1920 ∧ Q (.d (.str (toString i)))) := rfl
theorem enP_l (S : Sto) (o : Bool) (xs : List Val) : enP S (.l o xs) = some xs := rfl
theorem enP_tup (S : Sto) (xs : List Val) : enP S (.d (.tup xs)) = some xs := rfl
theorem iterP_l (S : Sto) (o : Bool) (xs : List Val) : iterP S (.l o xs) = some xs := rfl
theorem iterP_tup (S : Sto) (xs : List Val) : iterP S (.d (.tup xs)) = some xs := rfl
/-- a statement, what stands behind it out of sight -/
theorem pstep {g : PCfg} {S : Sto} {E : Nat → Prop} {rt : PK} {s : Sm} {r : Sms} {nx : PEnv → Prop} {e : PEnv} (h : ∀ K : PEnv → Prop, (∀ e', pSs g S E rt r nx e' → K e') → pS g S E rt s K e) : pSs g S E rt (.cons s r) nx e := by
  rw [pSs]
  exact h _ fun _ z => z
theorem pfor_step {g : PCfg} {S : Sto} {E : Nat → Prop} {rt : PK} {tg : Tg} {it : Itr} {b : Sms} {nx : PEnv → Prop} {e : PEnv}
    (h : ∀ B : (PEnv → Prop) → PEnv → Prop, (∀ k e', pSs g S E rt b k e' → B k e') → pIs g S E it e fun xs => pFor tg B nx xs (frz e it)) : pS g S E rt (.for tg it b) nx e := by
  rw [pS]
  exact h _ fun _ _ z => z
theorem pwhile_step {g : PCfg} {S : Sto} {E : Nat → Prop} {rt : PK} {c : Ex} {b : Sms} {nx : PEnv → Prop} {e : PEnv} (W : Nat → PEnv → Prop) (h0 : ∃ m, W m e)
    (h : ∀ B : (PEnv → Prop) → PEnv → Prop, (∀ k e', pSs g S E rt b k e' → B k e') → ∀ m e, W m e → pE g S E c e fun x => withPB x fun k => (k = true → B (fun e' => ∃ m', m' < m ∧ W m' e') e) ∧ (k = false → nx e)) :
    pS g S E rt (.while c b) nx e := by
  rw [pS]
  exact ⟨W, h0, h _ fun _ _ z => z⟩
theorem pite_step {g : PCfg} {S : Sto} {E : Nat → Prop} {rt : PK} {c : Ex} {a b : Sms} {nx : PEnv → Prop} {e : PEnv}
    (h : ∀ A B : PEnv → Prop, (∀ e', pSs g S E rt a nx e' → A e') → (∀ e', pSs g S E rt b nx e' → B e') → pE g S E c e fun x => withPB x fun k => (k = true → A e) ∧ (k = false → B e)) : pS g S E rt (.ite c a b) nx e := by
  rw [pS]
  exact h _ _ (fun _ z => z) fun _ z => z
/-- a for, by what holds at each turn (rest: what is still to come) -/
theorem pfor_inv {tg : Tg} {body : (PEnv → Prop) → PEnv → Prop} {nx : PEnv → Prop} (P : List Val → PEnv → Prop)
    (hs : ∀ x rest e, P (x :: rest) e → withO (bindP tg e x) fun e' => ∀ k : PEnv → Prop, (∀ e2, P rest e2 → k e2) → body k e') (hd : ∀ e, P [] e → nx e) :
    ∀ (xs : List Val) (e : PEnv), P xs e → pFor tg body nx xs e
  | [], e, h => hd e h
  | x :: rest, e, h => by
    have h2 := hs x rest e h
    show withO _ _
    cases q : bindP tg e x with
    | none => rw [q] at h2; exact h2
    | some e' =>
      rw [q] at h2
      exact h2 _ fun e2 p => pfor_inv P hs hd rest e2 p
/-- .. that may leave by a return: what is left -/
theorem pturns_map {body : Val → (Option Val → Prop) → Prop} {Q : List Val → Prop} (f : Val → Val) : ∀ {xs acc : List Val}, (∀ x ∈ xs, ∀ k : Option Val → Prop, k (some (f x)) → body x k) → Q (acc ++ xs.map f) → pTurns body Q xs acc
  | [], acc, _, q => by simpa [pTurns] using q
  | x :: xs, acc, h, q => h x (by simp) _ (pturns_map f (fun y hy => h y (by simp [hy])) (by simpa using q))
theorem pturns_fil {body : Val → (Option Val → Prop) → Prop} {Q : List Val → Prop} (f : Val → Option Val) : ∀ {xs acc : List Val}, (∀ x ∈ xs, ∀ k : Option Val → Prop, k (f x) → body x k) → Q (acc ++ xs.filterMap f) → pTurns body Q xs acc
  | [], acc, _, q => by simpa [pTurns] using q
  | x :: xs, acc, h, q => h x (by simp) _ (pturns_fil f (fun y hy => h y (by simp [hy])) (by
      cases e : f x with
      | none => simpa [List.filterMap_cons, e] using q
      | some y => simpa [List.filterMap_cons, e] using q))
theorem pturns_inv {body : Val → (Option Val → Prop) → Prop} {Q : List Val → Prop} (P : List Val → List Val → Prop)
    (hs : ∀ x rest acc, P (x :: rest) acc → ∀ k : Option Val → Prop, (∀ r, P rest (acc ++ r.toList) → k r) → body x k) (hd : ∀ acc, P [] acc → Q acc) : ∀ (xs acc : List Val), P xs acc → pTurns body Q xs acc
  | [], acc, h => hd acc h
  | x :: rest, acc, h => hs x rest acc h _ fun r p => pturns_inv P hs hd rest _ p
/-- over what a function gives: typed rows -/
theorem pturns_mapT {α : Type} (v : α → Val) {body : Val → (Option Val → Prop) → Prop} {Q : List Val → Prop} (f : α → Val) {as : List α} (h : ∀ x ∈ as, ∀ k : Option Val → Prop, k (some (f x)) → body (v x) k) (q : Q (as.map f)) : pTurns body Q (as.map v) [] := by
  have key : ∀ (as : List α) (acc : List Val), (∀ x ∈ as, ∀ k : Option Val → Prop, k (some (f x)) → body (v x) k) → Q (acc ++ as.map f) → pTurns body Q (as.map v) acc := by
    intro as
    induction as with
    | nil => intro acc _ q; simpa [pTurns] using q
    | cons x as ih => intro acc h q; exact h x (by simp) _ (ih _ (fun y hy => h y (by simp [hy])) (by simpa using q))
  exact key as [] h (by simpa using q)
theorem pturns_allT {α : Type} (v : α → Val) {body : Val → (Option Val → Prop) → Prop} {S : Sto} {Q : PK} (f : α → Bool) {as : List α} (h : ∀ x ∈ as, ∀ k : Option Val → Prop, k (some (.bl (f x))) → body (v x) k) (q : Q (.d (.bl (as.all f)))) : pTurns body (fun vs => pBtL .all vs S Q) (as.map v) [] := by
  refine pturns_mapT v (fun x => .bl (f x)) h ?_
  simp only [pBtL, bls_map, withO_s, List.all_map]
  exact q
theorem pturns_anyT {α : Type} (v : α → Val) {body : Val → (Option Val → Prop) → Prop} {S : Sto} {Q : PK} (f : α → Bool) {as : List α} (h : ∀ x ∈ as, ∀ k : Option Val → Prop, k (some (.bl (f x))) → body (v x) k) (q : Q (.d (.bl (as.any f)))) : pTurns body (fun vs => pBtL .any vs S Q) (as.map v) [] := by
  refine pturns_mapT v (fun x => .bl (f x)) h ?_
  simp only [pBtL, bls_map, withO_s, List.any_map]
  exact q
theorem pturns_filT {α : Type} (v : α → Val) {body : Val → (Option Val → Prop) → Prop} {Q : List Val → Prop} (f : α → Option Val) {as : List α} (h : ∀ x ∈ as, ∀ k : Option Val → Prop, k (f x) → body (v x) k) (q : Q (as.filterMap f)) : pTurns body Q (as.map v) [] := by
  have key : ∀ (as : List α) (acc : List Val), (∀ x ∈ as, ∀ k : Option Val → Prop, k (f x) → body (v x) k) → Q (acc ++ as.filterMap f) → pTurns body Q (as.map v) acc := by
    intro as
    induction as with
    | nil => intro acc _ q; simpa [pTurns] using q
    | cons x as ih =>
      intro acc h q
      refine h x (by simp) _ (ih _ (fun y hy => h y (by simp [hy])) ?_)
      cases e : f x with
      | none => simpa [List.filterMap_cons, e] using q
      | some y => simpa [List.filterMap_cons, e] using q
  exact key as [] h (by simpa using q)
/-- a for over a typed row -/
theorem pfor_invT {α : Type} (v : α → Val) {tg : Tg} {body : (PEnv → Prop) → PEnv → Prop} {nx : PEnv → Prop} (P : List α → PEnv → Prop)
    (hs : ∀ x rest e, P (x :: rest) e → withO (bindP tg e (v x)) fun e' => ∀ k : PEnv → Prop, (∀ e2, P rest e2 → k e2) → body k e') (hd : ∀ e, P [] e → nx e) (as : List α) (e : PEnv) (h : P as e) : pFor tg body nx (as.map v) e := by
  induction as generalizing e with
  | nil => exact hd e h
  | cons x rest ih =>
    have h2 := hs x rest e h
    rw [List.map_cons]
    show withO _ _
    cases q : bindP tg e (v x) with
    | none => rw [q] at h2; exact h2
    | some e' =>
      rw [q] at h2
      exact h2 _ fun e2 p => ih e2 p
/-- a call out of the first level, all plain values -/
def dAll (vs : List Val) : List PV := vs.map .d
theorem argR_d (S : Sto) : ∀ vs : List Val, ArgR S vs (vs.map .d)
  | [] => trivial
  | v :: vs => ⟨rfl, argR_d S vs⟩
theorem up1_d {ps : PSpec} {vs : List Val} {S : Sto} {Q : KV} {E : Nat → Sto → Prop} (h : ps (vs.map .d) S (fun r => ResU Q S r) (fun x => E x S)) : up1 ps vs S Q E :=
  ⟨vs.map .d, S, _, _, .refl S, argR_d S vs, h, fun _ h => h, fun _ h => h⟩
theorem up1_of {ps : PSpec} {vs : List Val} {pvs : List PV} {S : Sto} {Q : KV} {E : Nat → Sto → Prop} (a : ArgR S vs pvs) (h : ps pvs S (fun r => ResU Q S r) (fun x => E x S)) : up1 ps vs S Q E :=
  ⟨pvs, S, _, _, .refl S, a, h, fun _ h => h, fun _ h => h⟩
theorem sees_dats {S : Sto} {n : Nat} : ∀ {xs : List Val}, Val.dats xs = true → S.sees n xs = some xs
  | [], _ => by rw [Sto.sees]
  | x :: xs, h => by
    simp only [Val.dats, Bool.and_eq_true] at h
    rw [Sto.sees, see_dat h.1, sees_dats h.2]
end DL

set_option autoImplicit true
set_option Elab.async false
set_option autoImplicit false
set_option linter.all false
set_option maxRecDepth 100000
set_option maxHeartbeats 4000000
/-! Own layer, pure level, part 7: draws and bounds at the pure level; laws. -/
namespace DL
open PySem
mutual
theorem kn_le {S S' : Sto} (le : Sto.le S S') : ∀ v : Val, kn S v = true → kn S' v = true
  | .ref a, h => by
    simp only [kn] at h ⊢
    split at h
    · rename_i xs e
      rw [le _ _ e]
    · cases h
  | .tup xs, h => kns_le le xs h
  | .lst _, h => by cases h
  | .non, _ => rfl
  | .bl _, _ => rfl
  | .int _, _ => rfl
  | .str _, _ => rfl
theorem kns_le {S S' : Sto} (le : Sto.le S S') : ∀ vs : List Val, kns S vs = true → kns S' vs = true
  | [], _ => rfl
  | v :: vs, h => by
    simp only [kns, Bool.and_eq_true] at h ⊢
    exact ⟨kn_le le v h.1, kns_le le vs h.2⟩
end
def ls_hall : LSpec := fun vs S Q => match vs with
  | [.d (.lst sc), .l _ ms, .d (.int most)] => ∃ (ns : List Int) (m : Nat), sc = ns.map .int ∧ ms = [.int m] ∧ (1 ≤ most ∧ most ≤ 8) ∧
      ∀ (base : Nat) (Rs : List Row) (j : Nat), (2 ≤ base ∧ base ≤ 3) → (1 ≤ Rs.length ∧ Rs.length ≤ 2) → (∀ R ∈ Rs, R.Ok base ∧ (R.steps.length : Int) ≤ most) → Q (hallV base Rs) [.int j]
  | _ => False
theorem lend3 {ls : LSpec} {vs : List Val} {S : Sto} {Q : KV} {E : Nat → Sto → Prop} (h : upL ls vs S Q E) : ∃ (v0 : Val) (b : Addr) (vr : List Val) (r0 : PV) (xs : List Val) (prs : List PV) (S0 : Sto) (Qp : Val → List Val → Prop), vs = v0 :: .ref b :: vr ∧ Sto.le S0 S ∧ S b = some (.lst xs) ∧ ArgR1 S v0 r0 ∧ ArgR S vr prs ∧
    ls (r0 :: .l false xs :: prs) S0 Qp ∧ ∀ v xs', Qp v xs' → Q v (up S b (.lst xs')) := by
  obtain ⟨v0, b, vr, r0, xs, prs, S0, Qp, h1, h2, h3, h4, h5, h6, h7, h8⟩ := h
  exact ⟨v0, b, vr, r0, xs, prs, S0, Qp, h1, h2, h4, h5, h6, h7, h8⟩
theorem up_hall (vs : List Val) (S : Sto) (Q : KV) (E : Nat → Sto → Prop) (h : upL ls_hall vs S Q E) : sp_hall vs S Q E := by
  obtain ⟨v0, b, vr, r0, xs, prs, S0, Qp, rfl, le, hb, a0, ar, hl, hq⟩ := lend3 h
  unfold ls_hall at hl
  split at hl
  · rename_i sc o ms most heq
    simp only [List.cons.injEq, PV.l.injEq] at heq
    obtain ⟨rfl, ⟨_, rfl⟩, rfl⟩ := heq
    obtain ⟨ns, m, rfl, rfl, hm, hh⟩ := hl
    have e0 : v0 = .lst (ns.map .int) := a0
    subst e0
    match vr, ar with
    | [v], ar =>
      have e1 : v = .int most := ar.1
      subst e1
      exact ⟨ns, m, rfl, hb, hm, fun base Rs j h1 h2 h3 => hq _ _ (hh base Rs j h1 h2 h3)⟩
    | [], ar => exact ar.elim
    | _ :: _ :: _, ar => exact ar.2.elim
  · exact hl.elim
/-- a law: True, whatever the script -/
def ps_law : PSpec := fun vs S Q _ => match vs with
  | [.d (.lst sc)] => ∃ ns : List Int, sc = ns.map .int ∧ Q (.d (.bl true))
  | _ => False
def sp_plaw : Spec := fun vs S Q _ => match vs with
  | [.lst sc] => ∃ ns : List Int, sc = ns.map .int ∧ ∀ S', Q (.bl true) S'
  | _ => False
theorem law_wk {G : Cfg} {N : List Str} {b : Sms} (h : Wk G (up1 ps_law) N b) : Wk G sp_plaw N b := by
  intro args S Q E hs
  unfold sp_plaw at hs
  split at hs
  · rename_i sc
    obtain ⟨ns, rfl, hq⟩ := hs
    refine h _ S Q E (up1_d (vs := [.lst (ns.map .int)]) ⟨ns, rfl, hq S⟩)
  · exact hs.elim
theorem enumL_cons (n : Nat) (x : Val) (xs : List Val) : enumL n (x :: xs) = .tup [.int n, x] :: enumL (n + 1) xs := rfl
def ps_between : PSpec := fun vs S Q _ => match vs with
  | [.d v, .d (.int lo), .d (.int hi)] => kn S v = true ∧ Q (.d (.bl (betw v lo hi)))
  | _ => False
theorem up_between (vs : List Val) (S : Sto) (Q : KV) (E : Nat → Sto → Prop) (h : up1 ps_between vs S Q E) : sp_between vs S Q E := by
  obtain ⟨pvs, S0, Qp, Ep, le, ar, hp, hr, hx⟩ := h
  unfold ps_between at hp
  split at hp
  · rename_i v lo hi
    match vs, ar with
    | [v', lo', hi'], ar =>
      have e1 : v' = v := ar.1
      have e2 : lo' = .int lo := ar.2.1
      have e3 : hi' = .int hi := ar.2.2.1
      subst e1 e2 e3
      exact ⟨kn_tyKnown (kn_le le _ hp.1), hr _ hp.2⟩
    | [], ar => exact ar.elim
    | [_], ar => exact ar.2.elim
    | [_, _], ar => exact ar.2.2.elim
    | _ :: _ :: _ :: _ :: _, ar => exact ar.2.2.2.elim
  · exact hp.elim
theorem w_between1 {G : Cfg} (f0 : G.fn 0 = some sp_is_whole) : Wk G sp_between n_between b_between := by
  intro args S Q E h
  unfold sp_between at h
  split at h <;> first | contradiction | skip
  rename_i v lo hi
  obtain ⟨h1, h2⟩ := h
  simp only [b_between, n_between, wSs, wS, wE, wEs, wO, wI, wC, wIf, wBin, wSub, startE_cons, startE_nil, List.replicate, getV_0, getV_s, withO_s, withB_b, bind_one, bind_two, List.set_cons_zero, List.set_cons_succ, wipeE, Nat.zero_add, atI_0, atI_1, atI_2, atI_3, see_int, see_bl, see_str, see_non, dep_int, dep_bl, dep_str, dep_non, Nat.zero_min, Nat.min_zero, Nat.zero_le, true_imp_iff, false_imp_iff, Bool.not_false, Bool.not_true, reduceCtorEq, and_true, true_and, List.length_cons, List.length_nil, f0, sp_is_whole]
  refine ⟨h1, fun a => ?_, fun a => rt_here ?_⟩
  · cases v <;> simp [isWhole] at a
    simp only [wCmp, withB_b]
    refine ⟨fun b => rt_here ?_, fun b => rt_here ?_⟩
    · simpa [betw, b] using h2
    · simpa [betw, b] using h2
  · cases v <;> simp_all [isWhole, betw]
end DL

set_option autoImplicit true
set_option Elab.async false
set_option autoImplicit false
set_option linter.all false
set_option maxRecDepth 100000
set_option maxHeartbeats 4000000
/-! Own layer, plain: sentences as data. -/
namespace DL
open PySem
inductive Tm where
  | nm (c : Nat) | num (n : Nat)
deriving DecidableEq
def nmS (c : Nat) : Str := ⟨#[97 + c]⟩
def nmV (c : Nat) : Val := .str (nmS c)
def Tm.val : Tm → Val
  | .nm c => nmV c
  | .num n => .int n
def Tm.Ok : Tm → Prop
  | .nm c => c < 26
  | .num n => n ≤ 20
inductive Sn where
  | less (t u : Tm) | same (t u : Tm) | sum (t u v : Tm) | sign (r : Nat) (t : Tm) (s : Nat)
  | neg (f : Sn) | con (w : Nat) (f g : Sn) | qu (a : Bool) (c : Nat) (f : Sn)
deriving DecidableEq
def cnS : Nat → Str
  | 0 => "and"
  | 1 => "or"
  | _ => "then"
def quS : Bool → Str
  | false => "some"
  | true => "all"
def Sn.val : Sn → Val
  | .less t u => .tup [.str "less", t.val, u.val]
  | .same t u => .tup [.str "same", t.val, u.val]
  | .sum t u v => .tup [.str "sum", t.val, u.val, v.val]
  | .sign r t s => .tup [.str "sign", .int r, t.val, .int s]
  | .neg f => .tup [.str "not", f.val]
  | .con w f g => .tup [.str (cnS w), f.val, g.val]
  | .qu a c f => .tup [.str (quS a), nmV c, f.val]
def Sn.Ok (rows : Nat) : Sn → Prop
  | .less t u => t.Ok ∧ u.Ok
  | .same t u => t.Ok ∧ u.Ok
  | .sum t u v => t.Ok ∧ u.Ok ∧ v.Ok
  | .sign r t s => r < rows ∧ t.Ok ∧ s ≤ 2
  | .neg f => f.Ok rows
  | .con w f g => w < 3 ∧ f.Ok rows ∧ g.Ok rows
  | .qu _ c f => c < 26 ∧ f.Ok rows
def Sn.deep : Sn → Nat
  | .neg f => f.deep + 1
  | .con _ f g => max f.deep g.deep + 1
  | .qu _ _ f => f.deep + 1
  | _ => 1
def Sn.parts : Sn → Nat
  | .neg f => 1 + f.parts
  | .con _ f g => 1 + (f.parts + g.parts)
  | .qu _ _ f => 1 + f.parts
  | _ => 1
def Sn.terms : Sn → List Tm
  | .less t u => [t, u]
  | .same t u => [t, u]
  | .sum t u v => [t, u, v]
  | .sign _ t _ => [t]
  | _ => []
def Sn.inner : Sn → List Sn
  | .neg f => [f]
  | .con _ f g => [f, g]
  | .qu _ _ f => [f]
  | _ => []
/-- a name stands free within -/
def Sn.occ : Sn → Nat → Bool
  | .neg f, c => f.occ c
  | .con _ f g, c => f.occ c || g.occ c
  | .qu _ d f, c => f.occ c && !decide (c = d)
  | f, c => f.terms.contains (.nm c)
def Sn.free (f : Sn) : List Nat := (List.range 26).filter f.occ
def Sn.bound : Sn → List Nat
  | .neg f => f.bound
  | .con _ f g => f.bound ++ g.bound
  | .qu _ c f => c :: f.bound
  | _ => []
def Sn.fitB (f : Sn) : Bool := decide (f.bound.length + f.free.length ≤ 4) && f.bound.all fun c => decide (f.bound.count c = 1) && !f.occ c
/-- a sentence for a hall of so many rows -/
def Sn.Good (rows : Nat) (f : Sn) : Prop := f.Ok rows ∧ f.parts ≤ 20 ∧ f.fitB = true
theorem Sn.deep_pos (f : Sn) : 1 ≤ f.deep := by cases f <;> simp [Sn.deep]
theorem Sn.parts_pos (f : Sn) : 1 ≤ f.parts := by cases f <;> simp [Sn.parts]
theorem Sn.deep_parts : ∀ f : Sn, f.deep ≤ f.parts
  | .less _ _ => Nat.le_refl _
  | .same _ _ => Nat.le_refl _
  | .sum _ _ _ => Nat.le_refl _
  | .sign _ _ _ => Nat.le_refl _
  | .neg f => by have := f.deep_parts; simp only [Sn.deep, Sn.parts]; omega
  | .con _ f g => by have := f.deep_parts; have := g.deep_parts; simp only [Sn.deep, Sn.parts]; omega
  | .qu _ _ f => by have := f.deep_parts; simp only [Sn.deep, Sn.parts]; omega
theorem nmS_inj {c d : Nat} : nmS c = nmS d ↔ c = d := by
  unfold nmS
  simp
theorem nmV_inj {c d : Nat} : nmV c = nmV d ↔ c = d := by
  unfold nmV
  simp [nmS_inj]
/-! ### what a value says -/
def nmOf (z : Str) : Option Nat := match z.cps.toList with
  | [c] => if 97 ≤ c ∧ c ≤ 122 then some (c - 97) else none
  | _ => none
def tmOf : Val → Option Tm
  | .str z => (nmOf z).map .nm
  | .int i => if 0 ≤ i ∧ i ≤ 20 then some (.num i.toNat) else none
  | _ => none
def plOf (rows : Nat) (w : Str) (r : List Val) : Option Sn :=
  if w = "sign" then (match r with
    | [a, t, s] => match a, tmOf t, s with
      | .int i, some u, .int j => if (0 ≤ i ∧ i < rows) ∧ 0 ≤ j ∧ j ≤ 2 then some (.sign i.toNat u j.toNat) else none
      | _, _, _ => none
    | _ => none)
  else if w = "sum" then (match r with
    | [t, u, v] => match tmOf t, tmOf u, tmOf v with
      | some a, some b, some c => some (.sum a b c)
      | _, _, _ => none
    | _ => none)
  else (match r with
    | [t, u] => match tmOf t, tmOf u with
      | some a, some b => some (if w = "less" then .less a b else .same a b)
      | _, _ => none
    | _ => none)
def isPl (w : Str) : Bool := decide (("less" : Str) = w) || (decide (("same" : Str) = w) || (decide (("sum" : Str) = w) || decide (("sign" : Str) = w)))
def cnOf (w : Str) : Option Nat := if w = "and" then some 0 else if w = "or" then some 1 else if w = "then" then some 2 else none
def quOf (w : Str) : Option Bool := if w = "some" then some false else if w = "all" then some true else none
def snOf (rows : Nat) : Nat → Val → Option Sn
  | m + 1, .tup (.str w :: r) =>
    if isPl w = true then plOf rows w r
    else match cnOf w with
      | some k => (match r with
        | [f, g] => match snOf rows m f, snOf rows m g with
          | some a, some b => some (.con k a b)
          | _, _ => none
        | _ => none)
      | none =>
        if w = "not" then (match r with
          | [f] => (snOf rows m f).map .neg
          | _ => none)
        else match quOf w with
          | some a => (match r with
            | [.str z, f] => match nmOf z, snOf rows m f with
              | some c, some g => some (.qu a c g)
              | _, _ => none
            | _ => none)
          | none => none
  | _, _ => none
theorem nmOf_nmS {c : Nat} (h : c < 26) : nmOf (nmS c) = some c := by
  unfold nmOf nmS
  simp
  omega
theorem nmOf_some {z : Str} {c : Nat} (h : nmOf z = some c) : z = nmS c ∧ c < 26 := by
  obtain ⟨a⟩ := z
  unfold nmOf at h
  cases e : a.toList with
  | nil => simp only [e] at h; cases h
  | cons x l =>
    cases l with
    | nil =>
      simp only [e] at h
      by_cases q : 97 ≤ x ∧ x ≤ 122
      · rw [if_pos q] at h
        cases h
        refine ⟨?_, by omega⟩
        unfold nmS
        congr
        rw [show 97 + (x - 97) = x by omega, ← Array.toArray_toList (xs := a), e]
      · rw [if_neg q] at h
        cases h
    | cons _ _ => simp only [e] at h; cases h
theorem tmOf_val {t : Tm} (h : t.Ok) : tmOf t.val = some t := by
  cases t with
  | nm c => simp only [Tm.val, nmV, tmOf, nmOf_nmS h, Option.map_some]
  | num n =>
    have h : n ≤ 20 := h
    simp only [Tm.val, tmOf]
    rw [if_pos (by omega)]
    simp
theorem tmOf_some {v : Val} {t : Tm} (h : tmOf v = some t) : v = t.val ∧ t.Ok := by
  cases v with
  | str z =>
    simp only [tmOf] at h
    cases e : nmOf z with
    | none => rw [e] at h; cases h
    | some c =>
      rw [e] at h
      cases h
      obtain ⟨rfl, h2⟩ := nmOf_some e
      exact ⟨rfl, h2⟩
  | int i =>
    simp only [tmOf] at h
    by_cases q : 0 ≤ i ∧ i ≤ 20
    · rw [if_pos q] at h
      cases h
      refine ⟨?_, by show i.toNat ≤ 20; omega⟩
      simp only [Tm.val]
      congr
      omega
    · rw [if_neg q] at h
      cases h
  | _ => cases h
theorem snOf_val {rows : Nat} : ∀ (f : Sn) (m : Nat), f.Ok rows → f.deep ≤ m → snOf rows m f.val = some f
  | f, 0, _, h => by have := f.deep_pos; omega
  | .less t u, m + 1, o, _ => by
    simp (decide := true) only [Sn.val, snOf, isPl, plOf, tmOf_val o.1, tmOf_val o.2, if_true, if_false, Bool.or_true, Bool.true_or, decide_true]
  | .same t u, m + 1, o, _ => by
    simp (decide := true) only [Sn.val, snOf, isPl, plOf, tmOf_val o.1, tmOf_val o.2, if_true, if_false, Bool.or_true, Bool.true_or, decide_true]
  | .sum t u v, m + 1, o, _ => by
    simp (decide := true) only [Sn.val, snOf, isPl, plOf, tmOf_val o.1, tmOf_val o.2.1, tmOf_val o.2.2, if_true, if_false, Bool.or_true, Bool.true_or, decide_true]
  | .sign r t s, m + 1, o, _ => by
    obtain ⟨h1, h2, h3⟩ := o
    have e1 : (0 ≤ (r : Int) ∧ (r : Int) < rows) ∧ 0 ≤ (s : Int) ∧ (s : Int) ≤ 2 := by omega
    simp (decide := true) only [Sn.val, snOf, isPl, plOf, tmOf_val h2, if_true, if_false, Bool.or_true, Bool.true_or, decide_true, if_pos e1, Int.toNat_natCast]
  | .neg f, m + 1, o, h => by
    have ih := snOf_val f m o (by simp only [Sn.deep] at h; omega)
    simp (decide := true) only [Sn.val, snOf, isPl, cnOf, ih, if_true, if_false, decide_false, Bool.or_false, Option.map_some]
  | .con w f g, m + 1, o, h => by
    obtain ⟨h1, h2, h3⟩ := o
    simp only [Sn.deep] at h
    have ih1 := snOf_val f m h2 (by omega)
    have ih2 := snOf_val g m h3 (by omega)
    have e1 : isPl (cnS w) = false := by
      match w, h1 with
      | 0, _ => decide
      | 1, _ => decide
      | 2, _ => decide
    have e2 : cnOf (cnS w) = some w := by
      match w, h1 with
      | 0, _ => decide
      | 1, _ => decide
      | 2, _ => decide
    simp only [Sn.val, snOf, e1, e2, ih1, ih2]
    rfl
  | .qu a c f, m + 1, o, h => by
    obtain ⟨h1, h2⟩ := o
    simp only [Sn.deep] at h
    have ih := snOf_val f m h2 (by omega)
    have e1 : isPl (quS a) = false := by cases a <;> decide
    have e2 : cnOf (quS a) = none := by cases a <;> decide
    have e3 : ¬ quS a = "not" := by cases a <;> decide
    have e4 : quOf (quS a) = some a := by cases a <;> decide
    simp only [Sn.val, snOf, e1, e2, e4, nmV, nmOf_nmS h1, ih, if_neg e3]
    rfl
theorem isPl_iff {w : Str} (h : isPl w = true) : w = "less" ∨ w = "same" ∨ w = "sum" ∨ w = "sign" := by
  simp only [isPl, Bool.or_eq_true, decide_eq_true_eq] at h
  rcases h with h | h | h | h
  · exact .inl h.symm
  · exact .inr (.inl h.symm)
  · exact .inr (.inr (.inl h.symm))
  · exact .inr (.inr (.inr h.symm))
theorem plOf_some {rows : Nat} {w : Str} {r : List Val} {f : Sn} (hw : isPl w = true) (h : plOf rows w r = some f) : .tup (.str w :: r) = f.val ∧ f.Ok rows ∧ f.deep = 1 := by
  unfold plOf at h
  split at h
  · rename_i e
    subst e
    split at h
    · rename_i a t s
      split at h
      · rename_i i u j e1
        split at h
        · rename_i q
          cases h
          obtain ⟨rfl, o⟩ := tmOf_some e1
          refine ⟨?_, ⟨by omega, o, by omega⟩, rfl⟩
          simp only [Sn.val]
          congr 3
          · congr; omega
          · congr 3; omega
        · cases h
      · cases h
    · cases h
  · split at h
    · rename_i e
      subst e
      split at h
      · rename_i t u v
        split at h
        · rename_i a b c e1 e2 e3
          cases h
          obtain ⟨rfl, o1⟩ := tmOf_some e1
          obtain ⟨rfl, o2⟩ := tmOf_some e2
          obtain ⟨rfl, o3⟩ := tmOf_some e3
          exact ⟨rfl, ⟨o1, o2, o3⟩, rfl⟩
        · cases h
      · cases h
    · rename_i n1 n2
      split at h
      · rename_i t u
        split at h
        · rename_i a b e1 e2
          cases h
          obtain ⟨rfl, o1⟩ := tmOf_some e1
          obtain ⟨rfl, o2⟩ := tmOf_some e2
          by_cases q : w = "less"
          · subst q
            rw [if_pos rfl]
            exact ⟨rfl, ⟨o1, o2⟩, rfl⟩
          · rw [if_neg q]
            rcases isPl_iff hw with z | z | z | z
            · exact absurd z q
            · subst z
              exact ⟨rfl, ⟨o1, o2⟩, rfl⟩
            · exact absurd z n2
            · exact absurd z n1
        · cases h
      · cases h
theorem cnOf_some {w : Str} {k : Nat} (h : cnOf w = some k) : w = cnS k ∧ k < 3 := by
  unfold cnOf at h
  split at h
  · rename_i e; cases h; exact ⟨e, by omega⟩
  · split at h
    · rename_i e; cases h; exact ⟨e, by omega⟩
    · split at h
      · rename_i e; cases h; exact ⟨e, by omega⟩
      · cases h
theorem quOf_some {w : Str} {a : Bool} (h : quOf w = some a) : w = quS a := by
  unfold quOf at h
  split at h
  · rename_i e; cases h; exact e
  · split at h
    · rename_i e; cases h; exact e
    · cases h
theorem snOf_some {rows : Nat} : ∀ (m : Nat) (v : Val) (f : Sn), snOf rows m v = some f → v = f.val ∧ f.Ok rows ∧ f.deep ≤ m
  | 0, v, f, h => by unfold snOf at h; cases h
  | m + 1, v, f, h => by
    unfold snOf at h
    split at h
    · rename_i m' w r heq
      cases heq
      split at h
      · rename_i hw
        obtain ⟨h1, h2, h3⟩ := plOf_some hw h
        exact ⟨h1, h2, by omega⟩
      · split at h
        · rename_i k hk
          obtain ⟨rfl, hk2⟩ := cnOf_some hk
          split at h
          · rename_i f1 g1
            split at h
            · rename_i a b e1 e2
              cases h
              obtain ⟨rfl, o1, d1⟩ := snOf_some m f1 a e1
              obtain ⟨rfl, o2, d2⟩ := snOf_some m g1 b e2
              exact ⟨rfl, ⟨hk2, o1, o2⟩, by simp only [Sn.deep]; omega⟩
            · cases h
          · cases h
        · split at h
          · rename_i hn
            subst hn
            split at h
            · rename_i f1
              cases e1 : snOf rows m f1 with
              | none => rw [e1] at h; cases h
              | some a =>
                rw [e1] at h
                cases h
                obtain ⟨rfl, o1, d1⟩ := snOf_some m f1 a e1
                exact ⟨rfl, o1, by simp only [Sn.deep]; omega⟩
            · cases h
          · split at h
            · rename_i a ha
              have ea := quOf_some ha
              subst ea
              split at h
              · rename_i z f1
                split at h
                · rename_i c g e1 e2
                  cases h
                  obtain ⟨rfl, hc⟩ := nmOf_some e1
                  obtain ⟨rfl, o1, d1⟩ := snOf_some m f1 g e2
                  exact ⟨rfl, ⟨hc, o1⟩, by simp only [Sn.deep]; omega⟩
                · cases h
              · cases h
            · cases h
    · cases h
/-- a value is a sentence of the hall, or not -/
def goodV (rows : Nat) (v : Val) : Bool := match snOf rows 20 v with
  | some f => decide (f.parts ≤ 20) && f.fitB
  | none => false
theorem goodV_val {rows : Nat} {f : Sn} (h : f.Good rows) : goodV rows f.val = true := by
  have := f.deep_parts
  have h2 := h.2.1
  unfold goodV
  rw [snOf_val f 20 h.1 (by omega)]
  simp [h2, h.2.2]
theorem goodV_some {rows : Nat} {v : Val} (h : goodV rows v = true) : ∃ f : Sn, v = f.val ∧ f.Good rows := by
  unfold goodV at h
  split at h
  · rename_i f e
    obtain ⟨h1, h2, h3⟩ := snOf_some _ _ _ e
    simp only [Bool.and_eq_true, decide_eq_true_eq] at h
    exact ⟨f, h1, h2, h.1, h.2⟩
  · cases h
end DL

set_option autoImplicit true
set_option Elab.async false
set_option autoImplicit false
set_option linter.all false
set_option maxRecDepth 100000
set_option maxHeartbeats 4000000
/-! Own layer, plain: what is a sentence (walks). -/
namespace DL
open PySem
local macro_rules
  | `(tactic| simp! only [$ls,*]) => `(tactic| try simp only [pSs, pS, pE, pEs, pO, pI, pIs, pC, pIf, pAsg, pAsgs, pSetI, pRet, pX, pMove, pUn, pBin, pLt_i, pLe_i, pGt_i, pGe_i, pLt_t, pEq_i, pNe_i, pEq_s, pNe_s, pEq_b, pNe_b, pIn_m, pNin_m, pSub_l, pSub_tup, pSub_lst, pSub_m, pSub_str, pSlice, pBt_len_l, pBt_tuple_l, pBt_list_l, pBt_len_m, pBt_len_tup, pBt_len_lst, pBt_len_str, pBt_list_tup, pBt_tuple_tup, pBt_int_int, pBt_int_bl, pBt_max2, pBt_min2, pBt_str_int, pIsi, pRecv, pMt, wBin, wSub, wSlice, wBt, wRng, startP_cons, startP_nil, List.replicate, getP_0, getP_s, withO_s, withB_b, withD_d, withPB_d, withPI_d, bor_d, bor_l, bor_m, isP_d, isP_l, isP_m, okA_d, okA_l, okA_m, lof_l, lof_m, lof_int, lof_bl, lof_str, lof_non, lof_tup, lof_lst, dof_l, dof_m, dof_int, dof_bl, dof_str, dof_non, dof_tup, dof_lst, dvl_int, dvl_bl, dvl_str, dvl_non, dvl_tup, dvl_lst, ds_nil, ds_cons, omap_some, pSee_d, iterP_l, iterP_tup, enP_l, enP_tup, pLend, see_int, see_bl, see_str, see_non, dep_int, dep_bl, dep_str, dep_non, Nat.zero_min, Nat.min_zero, Nat.zero_le, bindP_one, bindP_two, bindP_three, List.set_cons_zero, List.set_cons_succ, wipeP, Nat.zero_add, atI_0, atI_1, atI_2, atI_3, isV, frz, frz1, Bool.or_false, Bool.or_true, Bool.true_or, Bool.false_or, true_imp_iff, false_imp_iff, Bool.not_false, Bool.not_true, reduceCtorEq, and_true, true_and, List.length_cons, List.length_nil, List.map_cons, List.map_nil, List.length_map, tt_and, ff_and, $ls,*])
  | `(tactic| simp! only [$ls,*] $loc:location) => `(tactic| try simp only [pSs, pS, pE, pEs, pO, pI, pIs, pC, pIf, pAsg, pAsgs, pSetI, pRet, pX, pMove, pUn, pBin, pLt_i, pLe_i, pGt_i, pGe_i, pLt_t, pEq_i, pNe_i, pEq_s, pNe_s, pEq_b, pNe_b, pIn_m, pNin_m, pSub_l, pSub_tup, pSub_lst, pSub_m, pSub_str, pSlice, pBt_len_l, pBt_tuple_l, pBt_list_l, pBt_len_m, pBt_len_tup, pBt_len_lst, pBt_len_str, pBt_list_tup, pBt_tuple_tup, pBt_int_int, pBt_int_bl, pBt_max2, pBt_min2, pBt_str_int, pIsi, pRecv, pMt, wBin, wSub, wSlice, wBt, wRng, startP_cons, startP_nil, List.replicate, getP_0, getP_s, withO_s, withB_b, withD_d, withPB_d, withPI_d, bor_d, bor_l, bor_m, isP_d, isP_l, isP_m, okA_d, okA_l, okA_m, lof_l, lof_m, lof_int, lof_bl, lof_str, lof_non, lof_tup, lof_lst, dof_l, dof_m, dof_int, dof_bl, dof_str, dof_non, dof_tup, dof_lst, dvl_int, dvl_bl, dvl_str, dvl_non, dvl_tup, dvl_lst, ds_nil, ds_cons, omap_some, pSee_d, iterP_l, iterP_tup, enP_l, enP_tup, pLend, see_int, see_bl, see_str, see_non, dep_int, dep_bl, dep_str, dep_non, Nat.zero_min, Nat.min_zero, Nat.zero_le, bindP_one, bindP_two, bindP_three, List.set_cons_zero, List.set_cons_succ, wipeP, Nat.zero_add, atI_0, atI_1, atI_2, atI_3, isV, frz, frz1, Bool.or_false, Bool.or_true, Bool.true_or, Bool.false_or, true_imp_iff, false_imp_iff, Bool.not_false, Bool.not_true, reduceCtorEq, and_true, true_and, List.length_cons, List.length_nil, List.map_cons, List.map_nil, List.length_map, tt_and, ff_and, $ls,*] $loc:location)

def n_is_name : List Str := ["thing"]
def b_is_name : Sms :=
  (.cons (.ret (.and (.isi (.var 0) .str) (.and (.cmp .eq (.blt .len (.cons (.var 0) .nil)) (.int 1)) (.cmp .isin (.var 0) (.glob "LETTERS")))))
  .nil)

def n_is_term : List Str := ["thing"]
def b_is_term : Sms :=
  (.cons (.ret (.or (.call 16 (.cons (.var 0) .nil)) (.call 1 (.cons (.var 0) (.cons (.int 0) (.cons (.int 20) .nil))))))
  .nil)

def n_is_plain : List Str := ["hall", "thing", "term"]
def b_is_plain : Sms :=
  (.cons (.ite (.cmp .eq (.sub (.var 1) (.int 0)) (.str "sign"))
    (.cons (.ite (.or (.cmp .ne (.blt .len (.cons (.var 1) .nil)) (.int 4)) (.not (.call 1 (.cons (.sub (.var 1) (.int 1)) (.cons (.int 0) (.cons (.bin .sub (.blt .len (.cons (.sub (.var 0) (.int 1)) .nil)) (.int 1)) .nil))))))
        (.cons (.ret (.bl false))
          .nil)
        .nil)
      (.cons (.ret (.and (.call 17 (.cons (.sub (.var 1) (.int 2)) .nil)) (.call 1 (.cons (.sub (.var 1) (.int 3)) (.cons (.int 0) (.cons (.int 2) .nil))))))
      .nil))
    .nil)
  (.cons (.ite (.cmp .eq (.sub (.var 1) (.int 0)) (.str "sum"))
    (.cons (.ret (.and (.cmp .eq (.blt .len (.cons (.var 1) .nil)) (.int 4)) (.bltc .all (.mk (.one 2) [2] (.call 17 (.cons (.var 2) .nil)) (.val (.slice (.var 1) (.some (.int 1)) .none)) .none))))
      .nil)
    .nil)
  (.cons (.ret (.and (.cmp .eq (.blt .len (.cons (.var 1) .nil)) (.int 3)) (.and (.call 17 (.cons (.sub (.var 1) (.int 1)) .nil)) (.call 17 (.cons (.sub (.var 1) (.int 2)) .nil)))))
  .nil)))

def n_inner : List Str := ["sentence"]
def b_inner : Sms :=
  (.cons (.ite (.cmp .isin (.sub (.var 0) (.int 0)) (.glob "JOINS"))
    (.cons (.ret (.slice (.var 0) (.some (.int 1)) .none))
      .nil)
    .nil)
  (.cons (.ite (.cmp .eq (.sub (.var 0) (.int 0)) (.str "not"))
    (.cons (.ret (.slice (.var 0) (.some (.int 1)) .none))
      .nil)
    .nil)
  (.cons (.ite (.cmp .isin (.sub (.var 0) (.int 0)) (.tup (.cons (.str "some") (.cons (.str "all") .nil))))
    (.cons (.ret (.slice (.var 0) (.some (.int 2)) .none))
      .nil)
    .nil)
  (.cons (.ret (.tup .nil))
  .nil))))

def n_is_built : List Str := ["hall", "thing", "most", "part"]
def b_is_built : Sms :=
  (.cons (.ite (.or (.cmp .eq (.var 2) (.int 0)) (.or (.not (.isi (.var 1) .tuple)) (.or (.cmp .lt (.blt .len (.cons (.var 1) .nil)) (.int 2)) (.not (.isi (.sub (.var 1) (.int 0)) .str)))))
    (.cons (.ret (.bl false))
      .nil)
    .nil)
  (.cons (.ite (.cmp .isin (.sub (.var 1) (.int 0)) (.tup (.cons (.str "less") (.cons (.str "same") (.cons (.str "sum") (.cons (.str "sign") .nil))))))
    (.cons (.ret (.call 18 (.cons (.var 0) (.cons (.var 1) .nil))))
      .nil)
    .nil)
  (.cons (.ite (.cmp .isin (.sub (.var 1) (.int 0)) (.glob "JOINS"))
    (.cons (.ite (.cmp .ne (.blt .len (.cons (.var 1) .nil)) (.int 3))
        (.cons (.ret (.bl false))
          .nil)
        .nil)
      .nil)
    (.cons (.ite (.cmp .eq (.sub (.var 1) (.int 0)) (.str "not"))
        (.cons (.ite (.cmp .ne (.blt .len (.cons (.var 1) .nil)) (.int 2))
            (.cons (.ret (.bl false))
              .nil)
            .nil)
          .nil)
        (.cons (.ite (.or (.cmp .notin (.sub (.var 1) (.int 0)) (.tup (.cons (.str "some") (.cons (.str "all") .nil)))) (.or (.cmp .ne (.blt .len (.cons (.var 1) .nil)) (.int 3)) (.not (.call 16 (.cons (.sub (.var 1) (.int 1)) .nil)))))
            (.cons (.ret (.bl false))
              .nil)
            .nil)
          .nil))
      .nil))
  (.cons (.ret (.bltc .all (.mk (.one 3) [3] (.call 20 (.cons (.var 0) (.cons (.var 3) (.cons (.bin .sub (.var 2) (.int 1)) .nil)))) (.val (.call 19 (.cons (.var 1) .nil))) .none)))
  .nil))))

mutual
/-- texts within are short -/
def shr : Val → Bool
  | .str z => decide (z.length ≤ 1000)
  | .tup xs => shrs xs
  | .non => true
  | .bl _ => true
  | .int _ => true
  | .ref _ => true
  | .lst _ => true
def shrs : List Val → Bool
  | [] => true
  | x :: xs => shr x && shrs xs
end
/-- a value that may be looked at -/
def okV (S : Sto) (v : Val) : Bool := kn S v && shr v
def okVs (S : Sto) (vs : List Val) : Bool := kns S vs && shrs vs
theorem okV_tup {S : Sto} {xs : List Val} : okV S (.tup xs) = okVs S xs := rfl
theorem okVs_cons {S : Sto} {x : Val} {xs : List Val} : okVs S (x :: xs) = (okV S x && okVs S xs) := by
  simp only [okVs, okV, kns, shrs]
  cases kn S x <;> cases shr x <;> cases kns S xs <;> rfl
theorem okVs_mem {S : Sto} : ∀ {xs : List Val} {x : Val}, okVs S xs = true → x ∈ xs → okV S x = true
  | y :: ys, x, h, m => by
    rw [okVs_cons, Bool.and_eq_true] at h
    rcases List.mem_cons.mp m with e | e
    · rw [e]; exact h.1
    · exact okVs_mem h.2 e
theorem okV_kn {S : Sto} {v : Val} (h : okV S v = true) : kn S v = true := by
  unfold okV at h
  rw [Bool.and_eq_true] at h
  exact h.1
theorem okV_shr {S : Sto} {v : Val} (h : okV S v = true) : shr v = true := by
  unfold okV at h
  rw [Bool.and_eq_true] at h
  exact h.2
def isNmV : Val → Bool
  | .str z => (nmOf z).isSome
  | _ => false
def lettersS : Str := "abcdefghijklmnopqrstuvwxyz"
def joinsV : Val := .tup [.str "and", .str "or", .str "then"]
theorem letters_mem {c : Nat} : c ∈ lettersS.cps.toList ↔ 97 ≤ c ∧ c ≤ 122 := by
  have e : lettersS.cps.toList = List.range' 97 26 := by decide
  rw [e, List.mem_range'_1]
  omega
theorem in_letters {z : Str} (h : z.length = 1) : (!(Builtin.Str.occurrences lettersS z 0 lettersS.length 1).isEmpty) = (nmOf z).isSome := by
  obtain ⟨a⟩ := z
  have h : a.size = 1 := h
  have e : ∃ c, a = #[c] := by
    cases a with
    | mk l =>
      cases l with
      | nil => simp at h
      | cons c l =>
        cases l with
        | nil => exact ⟨c, rfl⟩
        | cons _ _ => simp at h
  obtain ⟨c, rfl⟩ := e
  rw [PySem.StrLaws.found_one]
  unfold nmOf
  by_cases q : 97 ≤ c ∧ c ≤ 122
  · have := letters_mem.mpr q
    simp only [this, decide_true, if_pos q, Option.isSome_some]
  · have : ¬ c ∈ lettersS.cps.toList := fun z => q (letters_mem.mp z)
    simp only [this, decide_false, if_neg q, Option.isSome_none]
theorem nmOf_len {z : Str} (h : z.length ≠ 1) : nmOf z = none := by
  obtain ⟨a⟩ := z
  have h : a.size ≠ 1 := h
  unfold nmOf
  cases a with
  | mk l =>
    cases l with
    | nil => rfl
    | cons c l =>
      cases l with
      | nil => simp at h
      | cons _ _ => rfl
theorem pIn_str (x y : Str) (S : Sto) (Q : PK) : pCmp .isin (.d (.str x)) (.d (.str y)) S Q = Q (.d (.bl (!(Builtin.Str.occurrences y x 0 y.length 1).isEmpty))) := rfl
theorem pIn_t (a : Val) (ys : List Val) (S : Sto) (Q : PK) : pCmp .isin (.d a) (.d (.tup ys)) S Q = ((a.dat && Val.dats ys) = true ∧ a.dep ≤ 100 ∧ Q (.d (.bl (veqAny a ys)))) := rfl
theorem pNin_t (a : Val) (ys : List Val) (S : Sto) (Q : PK) : pCmp .notin (.d a) (.d (.tup ys)) S Q = ((a.dat && Val.dats ys) = true ∧ a.dep ≤ 100 ∧ Q (.d (.bl (!veqAny a ys)))) := rfl
theorem veqAny_nil (x : Val) : veqAny x [] = false := rfl
theorem veqAny_cons (x y : Val) (ys : List Val) : veqAny x (y :: ys) = (y.veq x || veqAny x ys) := rfl
def ps_is_name : PSpec := fun vs S Q _ => match vs with
  | [.d v] => okV S v = true ∧ Q (.d (.bl (isNmV v)))
  | _ => False
def ps_is_term : PSpec := fun vs S Q _ => match vs with
  | [.d v] => okV S v = true ∧ Q (.d (.bl (tmOf v).isSome))
  | _ => False
def ps_is_plain : PSpec := fun vs S Q _ => match vs with
  | [.d h, .d (.tup (.str w :: r))] => ∃ (b : Val) (rows : List Val), h = .tup [b, .tup rows] ∧ rows.length ≤ 10 ∧ isPl w = true ∧ okVs S r = true ∧ r ≠ [] ∧ Q (.d (.bl (plOf rows.length w r).isSome))
  | _ => False
/-- the sentences right within -/
def inV (w : Str) (r : List Val) : List Val := if (cnOf w).isSome = true then r else if w = "not" then r else if (quOf w).isSome = true then r.drop 1 else []
def ps_inner : PSpec := fun vs S Q _ => match vs with
  | [.d (.tup (.str w :: r))] => Q (.d (.tup (inV w r)))
  | _ => False
def ps_is_built (d : Nat) : PSpec := fun vs S Q _ => match vs with
  | [.d h, .d v, .d (.int mi)] => ∃ (m : Nat) (b : Val) (rows : List Val), mi = m ∧ m < d ∧ h = .tup [b, .tup rows] ∧ rows.length ≤ 10 ∧ okV S v = true ∧ Q (.d (.bl (snOf rows.length m v).isSome))
  | _ => False
theorem w_is_name {g : PCfg} (hl : g.G.cv "LETTERS" = some (.str lettersS)) : Wp g ps_is_name n_is_name b_is_name := by
  intro args S Q E h
  unfold ps_is_name at h
  split at h <;> first | contradiction | skip
  rename_i v
  obtain ⟨h1, h2⟩ := h
  have hk := kn_tyKnown (okV_kn h1)
  unfold b_is_name
  refine pstep fun K hK => ?_
  simp! only [n_is_name]
  refine ⟨hk, fun a => ?_, fun a => ?_⟩
  · cases v with
    | str z =>
      have hz : z.length ≤ 1000 := by have := okV_shr h1; simpa [shr] using this
      simp! only [hl]
      refine ⟨by unfold line; omega, fun q => ?_, fun q => ?_⟩
      · have q : z.length = 1 := by have := of_decide_eq_true q; omega
        rw [pIn_str, in_letters q]
        exact ⟨rfl, h2⟩
      · have q : ¬ z.length = 1 := by have := of_decide_eq_false q; omega
        rw [isNmV, nmOf_len q] at h2
        exact h2
    | _ => simp [tyOf] at a
  · cases v with
    | str z => simp [tyOf] at a
    | _ => exact h2
theorem w_is_term {g : PCfg} (f1 : g.fn 1 = some ps_between) (f16 : g.fn 16 = some ps_is_name) : Wp g ps_is_term n_is_term b_is_term := by
  intro args S Q E h
  unfold ps_is_term at h
  split at h <;> first | contradiction | skip
  rename_i v
  obtain ⟨h1, h2⟩ := h
  unfold b_is_term
  refine pstep fun K hK => ?_
  simp! only [n_is_term, f16, ps_is_name, f1, ps_between]
  refine ⟨h1, fun a => ?_, fun a => ⟨okV_kn h1, ?_⟩⟩
  · cases v with
    | str z =>
      have : (tmOf (.str z)).isSome = true := by
        simp only [isNmV] at a
        obtain ⟨c, e⟩ := Option.isSome_iff_exists.mp a
        simp [tmOf, e]
      rw [this] at h2
      exact h2
    | _ => simp [isNmV] at a
  · have : betw v 0 20 = (tmOf v).isSome := by
      cases v with
      | str z =>
        simp only [isNmV] at a
        have e : nmOf z = none := by simpa using a
        simp [betw, tmOf, e]
      | int i =>
        simp only [betw, tmOf]
        by_cases q : 0 ≤ i ∧ i ≤ 20
        · simp [q]
        · rw [if_neg q]
          have : ¬ (0 ≤ i ∧ i ≤ 20) := q
          by_cases q1 : 0 ≤ i
          · have q2 : ¬ i ≤ 20 := fun z => q ⟨q1, z⟩
            simp [q1, q2]
          · simp [q1]
      | _ => rfl
    rw [this]
    exact h2

theorem isNmV_tm {v : Val} (h : isNmV v = true) : (tmOf v).isSome = true := by
  cases v with
  | str z =>
    simp only [isNmV] at h
    obtain ⟨c, e⟩ := Option.isSome_iff_exists.mp h
    simp [tmOf, e]
  | _ => cases h
theorem betw_is {v : Val} {lo hi : Int} (h : betw v lo hi = true) : ∃ i, v = .int i ∧ lo ≤ i ∧ i ≤ hi := by
  cases v with
  | int i => exact ⟨i, rfl, by simpa [betw] using h⟩
  | _ => cases h
theorem betw_not {v : Val} {lo hi : Int} (h : betw v lo hi = false) : ∀ i, v = .int i → ¬ (lo ≤ i ∧ i ≤ hi) := fun i e z => by
  subst e
  simp [betw, z.1, z.2] at h
theorem cut_from {α : Type} (x : α) (xs : List α) (n : Nat) : cutL (x :: xs) (some ((n + 1 : Nat) : Int)) none = xs.drop n := by
  unfold cutL
  rw [HT.sIx_none, HT.sIx_nat]
  by_cases h : n + 1 ≤ (x :: xs).length
  · rw [Nat.min_eq_left h, List.drop_succ_cons]
    exact List.take_of_length_le (by simp)
  · have h2 : xs.length ≤ n := by simp at h; omega
    rw [List.drop_of_length_le h2, List.drop_of_length_le (by simp at h ⊢; omega)]
    exact List.take_nil
theorem cut_1 {α : Type} (x : α) (xs : List α) : cutL (x :: xs) (some 1) none = xs := cut_from x xs 0
theorem cut_2 {α : Type} (x : α) (xs : List α) : cutL (x :: xs) (some 2) none = xs.drop 1 := cut_from x xs 1
theorem j_cn (w : Str) : veqAny (.str w) [.str "and", .str "or", .str "then"] = (cnOf w).isSome := by
  simp only [veqAny_cons, veqAny_nil, veq_str, cnOf]
  by_cases q1 : w = "and"
  · subst q1; decide
  · by_cases q2 : w = "or"
    · subst q2; decide
    · by_cases q3 : w = "then"
      · subst q3; decide
      · simp [q1, q2, q3, Ne.symm q1, Ne.symm q2, Ne.symm q3]
theorem j_qu (w : Str) : veqAny (.str w) [.str "some", .str "all"] = (quOf w).isSome := by
  simp only [veqAny_cons, veqAny_nil, veq_str, quOf]
  by_cases q1 : w = "some"
  · subst q1; decide
  · by_cases q2 : w = "all"
    · subst q2; decide
    · simp [q1, q2, Ne.symm q1, Ne.symm q2]
theorem j_pl (w : Str) : veqAny (.str w) [.str "less", .str "same", .str "sum", .str "sign"] = isPl w := by
  simp only [veqAny_cons, veqAny_nil, veq_str, isPl, Bool.or_false]
theorem w_inner {g : PCfg} (hj : g.G.cv "JOINS" = some joinsV) : Wp g ps_inner n_inner b_inner := by
  intro args S Q E h
  unfold ps_inner at h
  split at h <;> first | contradiction | skip
  rename_i w r
  unfold b_inner
  refine pstep fun K hK => pite_step fun A B hA hB => ?_
  simp! only [n_inner, hj, joinsV, show (0 : Int) = ((0 : Nat) : Int) from rfl, atI_nat, List.getElem?_cons_zero, pIn_t]
  refine ⟨rfl, ?_⟩
  rw [j_cn]
  simp! only []
  refine ⟨fun q => hA _ ?_, fun q => hB _ ?_⟩
  · simp! only [cut_1]
    rw [inV, if_pos q] at h
    exact h
  · simp! only []
    rw [inV, if_neg (by rw [q]; decide)] at h
    refine hK _ (pstep fun K2 hK2 => pite_step fun A B hA hB => ?_)
    simp! only [atI_0]
    refine ⟨fun q => hA _ ?_, fun q => hB _ ?_⟩
    · simp! only [cut_1]
      rw [if_pos (of_decide_eq_true q)] at h
      exact h
    · simp! only []
      rw [if_neg (of_decide_eq_false q)] at h
      refine hK2 _ (pstep fun K3 hK3 => pite_step fun A B hA hB => ?_)
      simp! only [atI_0, pIn_t]
      refine ⟨rfl, ?_⟩
      rw [j_qu]
      simp! only []
      refine ⟨fun q => hA _ ?_, fun q => hB _ ?_⟩
      · simp! only [cut_2]
        rw [if_pos q] at h
        exact h
      · simp! only []
        rw [if_neg (by rw [q]; decide)] at h
        refine hK3 _ ?_
        simp! only []
        exact h
theorem len_cast {α : Type} (xs : List α) (n : Nat) : decide ((xs.length : Int) = (n : Int)) = decide (xs.length = n) := by
  rw [decide_eq_decide]
  omega
theorem w_is_plain {g : PCfg} (f1 : g.fn 1 = some ps_between) (f17 : g.fn 17 = some ps_is_term) : Wp g ps_is_plain n_is_plain b_is_plain := by
  intro args S Q E h
  unfold ps_is_plain at h
  split at h <;> first | contradiction | skip
  rename_i w r
  obtain ⟨b, rows, rfl, hrl, hw, hok, hne, h2⟩ := h
  unfold b_is_plain
  refine pstep fun K hK => pite_step fun A B hA hB => ?_
  simp! only [n_is_plain, atI_0]
  unfold plOf at h2
  refine ⟨fun q => hA _ (pstep fun K2 hK2 => pite_step fun A2 B2 hA2 hB2 => ?_), fun q => hB _ ?_⟩
  · rw [if_pos (of_decide_eq_true q)] at h2
    simp! only []
    refine ⟨fun z => hA2 _ ?_, fun z => ?_⟩
    · have hl : ¬ r.length = 3 := by simp at z; omega
      simp! only []
      split at h2
      · simp at hl
      · exact h2
    · have hl : r.length = 3 := by simp at z; omega
      match r, hl, h2, hok with
      | [a, t, s], _, h2, hok =>
        simp only [okVs_cons, Bool.and_eq_true] at hok
        simp! only [atI_0, atI_1, atI_nat, f1, ps_between]
        refine ⟨okV_kn hok.1, fun y => hA2 _ ?_, fun y => hB2 _ ?_⟩
        · simp! only []
          have y : betw a 0 (rows.length - 1) = false := by simpa using y
          cases a with
          | int i =>
            have := betw_not y i rfl
            simp only at h2
            cases e1 : tmOf t with
            | none => rw [e1] at h2; exact h2
            | some u =>
              rw [e1] at h2
              cases s with
              | int j =>
                simp only at h2
                rw [if_neg (fun z => this ⟨z.1.1, by omega⟩)] at h2
                exact h2
              | _ => exact h2
          | _ => exact h2
        · have y : betw a 0 (rows.length - 1) = true := by simpa using y
          obtain ⟨i, rfl, i0, i1⟩ := betw_is y
          simp! only []
          refine hK2 _ ?_
          simp! only [atI_0, atI_1, atI_nat, f17, ps_is_term, f1, ps_between, show (2 : Int) = ((2 : Nat) : Int) from rfl, show (3 : Int) = ((3 : Nat) : Int) from rfl, List.getElem?_cons_succ, List.getElem?_cons_zero]
          refine ⟨hok.2.1, fun y2 => ⟨okV_kn hok.2.2.1, ?_⟩, fun y2 => ?_⟩
          · obtain ⟨u, e1⟩ := Option.isSome_iff_exists.mp y2
            simp only at h2
            rw [e1] at h2
            cases s with
            | int j =>
              simp only at h2
              by_cases y3 : 0 ≤ j ∧ j ≤ 2
              · rw [if_pos ⟨⟨i0, by omega⟩, y3⟩] at h2
                have : betw (.int j) 0 2 = true := by simp [betw, y3.1, y3.2]
                rw [show ((2 : Nat) : Int) = 2 from rfl, this]
                exact h2
              · rw [if_neg (fun z => y3 z.2)] at h2
                have : betw (.int j) 0 2 = false := by
                  simp only [betw, Bool.and_eq_false_iff, decide_eq_false_iff_not]
                  by_cases y4 : 0 ≤ j
                  · exact .inr fun y5 => y3 ⟨y4, y5⟩
                  · exact .inl y4
                rw [show ((2 : Nat) : Int) = 2 from rfl, this]
                exact h2
            | _ => exact h2
          · have e1 : tmOf t = none := by simpa using y2
            simp only at h2
            rw [e1] at h2
            exact h2
  · rw [if_neg (of_decide_eq_false q)] at h2
    simp! only []
    refine hK _ (pstep fun K2 hK2 => pite_step fun A2 B2 hA2 hB2 => ?_)
    simp! only [atI_0]
    refine ⟨fun q2 => hA2 _ ?_, fun q2 => hB2 _ ?_⟩
    · rw [if_pos (of_decide_eq_true q2)] at h2
      simp! only [cut_1]
      refine ⟨fun z => ?_, fun z => ?_⟩
      · have hl : r.length = 3 := by simp at z; omega
        rw [show r = r.map id from (List.map_id r).symm]
        refine pturns_allT id (fun t => (tmOf t).isSome) (fun t ht k hk => ?_) ?_
        · simp! only [f17, ps_is_term, id]
          exact ⟨okVs_mem hok ht, hk⟩
        · match r, hl, h2 with
          | [t, u, v], _, h2 =>
            simp! only []
            cases e1 : tmOf t <;> cases e2 : tmOf u <;> cases e3 : tmOf v <;> (simp only [e1, e2, e3] at h2; simpa [e1, e2, e3] using h2)
      · have hl : ¬ r.length = 3 := by simp at z; omega
        split at h2
        · simp at hl
        · simp! only []
          exact h2
    · rw [if_neg (of_decide_eq_false q2)] at h2
      simp! only []
      refine hK2 _ ?_
      simp! only []
      refine ⟨fun z => ?_, fun z => ?_⟩
      · have hl : r.length = 2 := by simp at z; omega
        match r, hl, h2, hok with
        | [t, u], _, h2, hok =>
          simp only [okVs_cons, Bool.and_eq_true] at hok
          simp! only [atI_1, atI_nat, f17, ps_is_term, show (2 : Int) = ((2 : Nat) : Int) from rfl, List.getElem?_cons_succ, List.getElem?_cons_zero]
          refine ⟨hok.1, fun y => ⟨hok.2.1, ?_⟩, fun y => ?_⟩
          · obtain ⟨a, e1⟩ := Option.isSome_iff_exists.mp y
            simp only at h2
            rw [e1] at h2
            cases e2 : tmOf u <;> (rw [e2] at h2; exact h2)
          · have e1 : tmOf t = none := by simpa using y
            simp only at h2
            rw [e1] at h2
            exact h2
      · have hl : ¬ r.length = 2 := by simp at z; omega
        split at h2
        · simp at hl
        · simp! only []
          exact h2
theorem veq_strs (a b : Str) : (Val.str a).veq (.str b) = decide (a = b) := veq_str a b
theorem w_is_built {g : PCfg} {d : Nat} (f16 : g.fn 16 = some ps_is_name) (f18 : g.fn 18 = some ps_is_plain) (f19 : g.fn 19 = some ps_inner) (f20 : g.fn 20 = some (ps_is_built d)) (hj : g.G.cv "JOINS" = some joinsV) : Wp g (ps_is_built (d + 1)) n_is_built b_is_built := by
  intro args S Q E h
  unfold ps_is_built at h
  split at h <;> first | contradiction | skip
  rename_i hv v mi
  obtain ⟨m, b, rows, rfl, hm, rfl, hrl, hok, h2⟩ := h
  have hk := kn_tyKnown (okV_kn hok)
  unfold b_is_built
  refine pstep fun K hK => pite_step fun A B hA hB => ?_
  -- not the shape of a tuple that begins with a word
  have no : snOf rows.length m v = none → A [some (.d (.tup [b, .tup rows])), some (.d v), some (.d (.int m)), none] := fun e => hA _ (by
    simp! only []
    rw [e] at h2
    exact h2)
  simp! only [n_is_built]
  refine ⟨fun z => no ?_, fun z => ?_⟩
  · have : m = 0 := by simp at z; omega
    subst this
    unfold snOf
    rfl
  have hm0 : ¬ m = 0 := by simp at z; omega
  obtain ⟨m, rfl⟩ : ∃ k, m = k + 1 := ⟨m - 1, by omega⟩
  refine ⟨hk, fun z => no ?_, fun z => ?_⟩
  · cases v with
    | tup xs => simp [tyOf] at z
    | _ => unfold snOf; rfl
  cases v with
  | tup xs =>
    simp! only []
    refine ⟨fun z => no ?_, fun z => ?_⟩
    · match xs, z with
      | [], _ => unfold snOf; rfl
      | [x], _ =>
        cases x with
        | str w =>
          unfold snOf
          split
          · rename_i q
            unfold plOf
            split
            · rfl
            · split <;> rfl
          · split
            · rfl
            · split
              · rfl
              · split <;> rfl
        | _ => unfold snOf; rfl
      | x :: y :: r, z => simp at z; omega
    · match xs, z, hok, h2, no with
      | [], z, _, _, _ => simp at z
      | [x], z, _, _, _ => simp at z
      | x :: y :: r, z, hok, h2, no =>
        rw [okV_tup, okVs_cons, okVs_cons, Bool.and_eq_true, Bool.and_eq_true] at hok
        simp! only [atI_0]
        refine ⟨kn_tyKnown (okV_kn hok.1), fun z => no ?_, fun z => hB _ ?_⟩
        · cases x with
          | str w => simp [tyOf] at z
          | _ => unfold snOf; rfl
        · cases x with
          | str w =>
            have hokr : okVs S (y :: r) = true := by rw [okVs_cons, Bool.and_eq_true]; exact hok.2
            simp! only []
            refine hK _ (pstep fun K2 hK2 => pite_step fun A2 B2 hA2 hB2 => ?_)
            simp! only [atI_0, pIn_t]
            refine ⟨rfl, ?_⟩
            rw [j_pl]
            refine ⟨fun q => hA2 _ ?_, fun q => hB2 _ ?_⟩
            · simp! only [f18, ps_is_plain]
              refine ⟨b, rows, rfl, hrl, q, hokr, by simp, ?_⟩
              simp only [snOf, if_pos q] at h2
              exact h2
            · simp only [snOf, q, Bool.false_eq_true, if_false] at h2
              simp! only []
              refine hK2 _ (pstep fun K3 hK3 => ?_)
              -- what stands behind: all parts are built
              have fin : ∀ parts : List Val, inV w (y :: r) = parts → (parts.all fun p => (snOf rows.length m p).isSome) = (snOf rows.length (m + 1) (.tup (.str w :: y :: r))).isSome → (∀ p ∈ parts, okV S p = true) →
                  pSs g S E Q (.cons (.ret (.bltc .all (.mk (.one 3) [3] (.call 20 (.cons (.var 0) (.cons (.var 3) (.cons (.bin .sub (.var 2) (.int 1)) .nil)))) (.val (.call 19 (.cons (.var 1) .nil))) .none))) .nil) (fun _ => Q (.d .non))
                    [some (.d (.tup [b, .tup rows])), some (.d (.tup (.str w :: y :: r))), some (.d (.int ((m + 1 : Nat) : Int))), none] := fun parts e1 e2 e3 => by
                simp! only [f19, ps_inner, e1]
                rw [show parts = parts.map id from (List.map_id parts).symm]
                refine pturns_allT id (fun p => (snOf rows.length m p).isSome) (fun p hp k hk => ?_) ?_
                · simp! only [f20, ps_is_built, id]
                  have : ((m + 1 : Nat) : Int) - 1 = ((m : Nat) : Int) := by omega
                  rw [this]
                  exact ⟨m, b, rows, rfl, by omega, rfl, hrl, e3 p hp, hk⟩
                · rw [e2]
                  simp! only [snOf, q]
                  exact h2
              refine pite_step fun A3 B3 hA3 hB3 => ?_
              simp! only [hj, joinsV, atI_0, pIn_t]
              refine ⟨rfl, ?_⟩
              rw [j_cn]
              refine ⟨fun q3 => hA3 _ ?_, fun q3 => hB3 _ ?_⟩
              · obtain ⟨k, ek⟩ := Option.isSome_iff_exists.mp q3
                have ei : inV w (y :: r) = y :: r := by rw [inV, if_pos q3]
                refine pstep fun K4 hK4 => pite_step fun A4 B4 hA4 hB4 => ?_
                simp! only []
                refine ⟨fun z4 => hA4 _ ?_, fun z4 => hB4 _ ?_⟩
                · have hl : ¬ r.length = 1 := by simp at z4; omega
                  simp! only []
                  rw [ek] at h2
                  match r, hl, h2 with
                  | [], _, h2 => exact h2
                  | _ :: _ :: _, _, h2 => exact h2
                · have hl : r.length = 1 := by simp at z4; omega
                  match r, hl, ei, fin, hokr, hK4, hK3 with
                  | [u], _, ei, fin, hokr, hK4, hK3 =>
                    simp! only []
                    refine hK4 _ ?_
                    simp! only []
                    refine hK3 _ (fin _ ei ?_ fun p hp => okVs_mem hokr hp)
                    simp only [snOf, q, ek]
                    cases e1 : snOf rows.length m y <;> cases e2 : snOf rows.length m u <;> simp [e1, e2]
              · have ek : cnOf w = none := by simpa using q3
                rw [ek] at h2
                simp only at h2
                refine pstep fun K4 hK4 => pite_step fun A4 B4 hA4 hB4 => ?_
                simp! only [atI_0]
                refine ⟨fun z4 => hA4 _ ?_, fun z4 => hB4 _ ?_⟩
                · have hw : w = "not" := of_decide_eq_true z4
                  rw [if_pos hw] at h2
                  have ei : inV w (y :: r) = y :: r := by rw [inV, if_neg (by rw [ek]; decide), if_pos hw]
                  refine pstep fun K5 hK5 => pite_step fun A5 B5 hA5 hB5 => ?_
                  simp! only []
                  refine ⟨fun z5 => hA5 _ ?_, fun z5 => hB5 _ ?_⟩
                  · have hl : ¬ r.length = 0 := by simp only [List.length_cons, Bool.not_eq_true', decide_eq_false_iff_not] at z5; omega
                    simp! only []
                    match r, hl, h2 with
                    | [], hl, _ => exact absurd rfl hl
                    | _ :: _, _, h2 => exact h2
                  · have hl : r.length = 0 := by simp only [List.length_cons, Bool.not_eq_false', decide_eq_true_eq] at z5; omega
                    match r, hl, ei, fin, hokr, hK5, hK4, hK3 with
                    | [], _, ei, fin, hokr, hK5, hK4, hK3 =>
                      simp! only []
                      refine hK5 _ ?_
                      simp! only []
                      refine hK4 _ ?_
                      simp! only []
                      refine hK3 _ (fin _ ei ?_ fun p hp => okVs_mem hokr hp)
                      simp only [snOf, q, ek, if_pos hw]
                      cases e1 : snOf rows.length m y <;> simp [e1]
                · have hw : ¬ w = "not" := of_decide_eq_false z4
                  rw [if_neg hw] at h2
                  refine pstep fun K5 hK5 => pite_step fun A5 B5 hA5 hB5 => ?_
                  simp! only [atI_0, pNin_t]
                  refine ⟨rfl, ?_⟩
                  rw [j_qu]
                  cases ea : quOf w with
                  | none =>
                    rw [ea] at h2
                    simp! only [Option.isSome_none]
                    refine hA5 _ ?_
                    simp! only []
                    exact h2
                  | some a =>
                    rw [ea] at h2
                    have ei : inV w (y :: r) = r := by rw [inV, if_neg (by rw [ek]; decide), if_neg hw, if_pos (by rw [ea]; rfl)]; rfl
                    simp! only [Option.isSome_some]
                    refine ⟨fun z5 => hA5 _ ?_, fun z5 => ?_⟩
                    · have hl : ¬ r.length = 1 := by simp at z5; omega
                      simp! only []
                      match r, hl, h2 with
                      | [], _, h2 => cases y <;> exact h2
                      | _ :: _ :: _, _, h2 => cases y <;> exact h2
                    · have hl : r.length = 1 := by simp at z5; omega
                      match r, hl, ei, fin, hokr, hK5, hK4, hK3, h2, hA5, hB5 with
                      | [u], _, ei, fin, hokr, hK5, hK4, hK3, h2, hA5, hB5 =>
                        rw [okVs_cons, Bool.and_eq_true] at hokr
                        simp! only [atI_1, f16, ps_is_name]
                        refine ⟨hokr.1, fun z6 => hA5 _ ?_, fun z6 => hB5 _ ?_⟩
                        · have z6 : isNmV y = false := by simpa using z6
                          simp! only []
                          cases y with
                          | str zz =>
                            simp only [isNmV] at z6
                            have : nmOf zz = none := by simpa using z6
                            simp only [this] at h2
                            exact h2
                          | _ => exact h2
                        · have z6 : isNmV y = true := by simpa using z6
                          simp! only []
                          refine hK5 _ ?_
                          simp! only []
                          refine hK4 _ ?_
                          simp! only []
                          refine hK3 _ (fin _ ei ?_ fun p hp => okVs_mem hokr.2 hp)
                          cases y with
                          | str z =>
                            simp only [isNmV] at z6
                            obtain ⟨c, ec⟩ := Option.isSome_iff_exists.mp z6
                            simp only [snOf, q, ek, if_neg hw, ea, ec]
                            cases e1 : snOf rows.length m u <;> simp [e1]
                          | _ => cases z6
          | _ => simp [tyOf] at z
  | _ => simp [tyOf] at z
end DL

set_option autoImplicit true
set_option Elab.async false
set_option autoImplicit false
set_option linter.all false
set_option maxRecDepth 100000
set_option maxHeartbeats 4000000
/-! Own layer, plain: names of sentences (walks). -/
namespace DL
open PySem
local macro_rules
  | `(tactic| simp! only [$ls,*]) => `(tactic| try simp only [pSs, pS, pE, pEs, pO, pI, pIs, pC, pIf, pAsg, pAsgs, pSetI, pRet, pX, pMove, pUn, pBin, pLt_i, pLe_i, pGt_i, pGe_i, pLt_t, pEq_i, pNe_i, pEq_s, pNe_s, pEq_b, pNe_b, pIn_m, pNin_m, pSub_l, pSub_tup, pSub_lst, pSub_m, pSub_str, pSlice, pBt_len_l, pBt_tuple_l, pBt_list_l, pBt_len_m, pBt_len_tup, pBt_len_lst, pBt_len_str, pBt_list_tup, pBt_tuple_tup, pBt_int_int, pBt_int_bl, pBt_max2, pBt_min2, pBt_str_int, pIsi, pRecv, pMt, wBin, wSub, wSlice, wBt, wRng, startP_cons, startP_nil, List.replicate, getP_0, getP_s, withO_s, withB_b, withD_d, withPB_d, withPI_d, bor_d, bor_l, bor_m, isP_d, isP_l, isP_m, okA_d, okA_l, okA_m, lof_l, lof_m, lof_int, lof_bl, lof_str, lof_non, lof_tup, lof_lst, dof_l, dof_m, dof_int, dof_bl, dof_str, dof_non, dof_tup, dof_lst, dvl_int, dvl_bl, dvl_str, dvl_non, dvl_tup, dvl_lst, ds_nil, ds_cons, omap_some, pSee_d, iterP_l, iterP_tup, enP_l, enP_tup, pLend, see_int, see_bl, see_str, see_non, dep_int, dep_bl, dep_str, dep_non, Nat.zero_min, Nat.min_zero, Nat.zero_le, bindP_one, bindP_two, bindP_three, List.set_cons_zero, List.set_cons_succ, wipeP, Nat.zero_add, atI_0, atI_1, atI_2, atI_3, isV, frz, frz1, Bool.or_false, Bool.or_true, Bool.true_or, Bool.false_or, true_imp_iff, false_imp_iff, Bool.not_false, Bool.not_true, reduceCtorEq, and_true, true_and, List.length_cons, List.length_nil, List.map_cons, List.map_nil, List.length_map, tt_and, ff_and, $ls,*])
  | `(tactic| simp! only [$ls,*] $loc:location) => `(tactic| try simp only [pSs, pS, pE, pEs, pO, pI, pIs, pC, pIf, pAsg, pAsgs, pSetI, pRet, pX, pMove, pUn, pBin, pLt_i, pLe_i, pGt_i, pGe_i, pLt_t, pEq_i, pNe_i, pEq_s, pNe_s, pEq_b, pNe_b, pIn_m, pNin_m, pSub_l, pSub_tup, pSub_lst, pSub_m, pSub_str, pSlice, pBt_len_l, pBt_tuple_l, pBt_list_l, pBt_len_m, pBt_len_tup, pBt_len_lst, pBt_len_str, pBt_list_tup, pBt_tuple_tup, pBt_int_int, pBt_int_bl, pBt_max2, pBt_min2, pBt_str_int, pIsi, pRecv, pMt, wBin, wSub, wSlice, wBt, wRng, startP_cons, startP_nil, List.replicate, getP_0, getP_s, withO_s, withB_b, withD_d, withPB_d, withPI_d, bor_d, bor_l, bor_m, isP_d, isP_l, isP_m, okA_d, okA_l, okA_m, lof_l, lof_m, lof_int, lof_bl, lof_str, lof_non, lof_tup, lof_lst, dof_l, dof_m, dof_int, dof_bl, dof_str, dof_non, dof_tup, dof_lst, dvl_int, dvl_bl, dvl_str, dvl_non, dvl_tup, dvl_lst, ds_nil, ds_cons, omap_some, pSee_d, iterP_l, iterP_tup, enP_l, enP_tup, pLend, see_int, see_bl, see_str, see_non, dep_int, dep_bl, dep_str, dep_non, Nat.zero_min, Nat.min_zero, Nat.zero_le, bindP_one, bindP_two, bindP_three, List.set_cons_zero, List.set_cons_succ, wipeP, Nat.zero_add, atI_0, atI_1, atI_2, atI_3, isV, frz, frz1, Bool.or_false, Bool.or_true, Bool.true_or, Bool.false_or, true_imp_iff, false_imp_iff, Bool.not_false, Bool.not_true, reduceCtorEq, and_true, true_and, List.length_cons, List.length_nil, List.map_cons, List.map_nil, List.length_map, tt_and, ff_and, $ls,*] $loc:location)

def n_parts : List Str := ["sentence", "part"]
def b_parts : Sms :=
  (.cons (.ret (.bin .add (.int 1) (.bltc .sum (.mk (.one 1) [1] (.call 21 (.cons (.var 1) .nil)) (.val (.call 19 (.cons (.var 0) .nil))) .none))))
  .nil)

def n_terms_of : List Str := ["sentence"]
def b_terms_of : Sms :=
  (.cons (.ite (.cmp .eq (.sub (.var 0) (.int 0)) (.str "sign"))
    (.cons (.ret (.tup (.cons (.sub (.var 0) (.int 2)) .nil)))
      .nil)
    .nil)
  (.cons (.ret (.slice (.var 0) (.some (.int 1)) .none))
  .nil))

/-- the first word -/
def Sn.hd : Sn → Str
  | .less _ _ => "less"
  | .same _ _ => "same"
  | .sum _ _ _ => "sum"
  | .sign _ _ _ => "sign"
  | .neg _ => "not"
  | .con w _ _ => cnS w
  | .qu a _ _ => quS a
def Sn.isQu : Sn → Bool
  | .qu _ _ _ => true
  | _ => false
theorem cnOf_cnS (w : Nat) : (cnOf (cnS w)).isSome = true := by
  match w with
  | 0 => decide
  | 1 => decide
  | w + 2 => show (cnOf "then").isSome = true; decide
theorem quOf_cnS (w : Nat) : (quOf (cnS w)).isSome = false := by
  match w with
  | 0 => decide
  | 1 => decide
  | w + 2 => show (quOf "then").isSome = false; decide
theorem inner_in {f : Sn} {S : Sto} {Q : PK} {E : Nat → Prop} (h : Q (.d (.tup (f.inner.map Sn.val)))) : ps_inner [.d f.val] S Q E := by
  cases f with
  | less t u => exact h
  | same t u => exact h
  | sum t u v => exact h
  | sign r t s => exact h
  | neg f => exact h
  | con w f g =>
    show Q (.d (.tup (inV (cnS w) [f.val, g.val])))
    rw [inV, if_pos (cnOf_cnS w)]
    exact h
  | qu a c f => cases a <;> exact h
theorem sub_hd (f : Sn) (S : Sto) (Q : PK) : pSub (.d f.val) (.d (.int 0)) S Q = Q (.d (.str f.hd)) := by
  cases f <;> rfl
theorem qu_hd (f : Sn) : (quOf f.hd).isSome = f.isQu := by
  cases f with
  | con w f g => exact quOf_cnS w
  | qu a c f => cases a <;> rfl
  | _ => rfl
theorem sub_qu (a : Bool) (c : Nat) (f : Sn) (S : Sto) (Q : PK) : pSub (.d (Sn.qu a c f).val) (.d (.int 1)) S Q = Q (.d (nmV c)) := rfl
theorem tmv_dat (t : Tm) : t.val.dat = true := by cases t <;> rfl
theorem tmv_dep (t : Tm) : t.val.dep = 0 := by cases t <;> rfl
theorem snv_dat : ∀ f : Sn, f.val.dat = true
  | .less t u => by simp [Sn.val, Val.dat, Val.dats, tmv_dat]
  | .same t u => by simp [Sn.val, Val.dat, Val.dats, tmv_dat]
  | .sum t u v => by simp [Sn.val, Val.dat, Val.dats, tmv_dat]
  | .sign r t s => by simp [Sn.val, Val.dat, Val.dats, tmv_dat]
  | .neg f => by simp [Sn.val, Val.dat, Val.dats, snv_dat f]
  | .con w f g => by simp [Sn.val, Val.dat, Val.dats, snv_dat f, snv_dat g]
  | .qu a c f => by simp [Sn.val, Val.dat, Val.dats, snv_dat f, nmV]
theorem snv_dep : ∀ f : Sn, f.val.dep ≤ f.deep
  | .less t u => by simp [Sn.val, Val.dep, Val.deps, tmv_dep, Sn.deep]
  | .same t u => by simp [Sn.val, Val.dep, Val.deps, tmv_dep, Sn.deep]
  | .sum t u v => by simp [Sn.val, Val.dep, Val.deps, tmv_dep, Sn.deep]
  | .sign r t s => by simp [Sn.val, Val.dep, Val.deps, tmv_dep, Sn.deep]
  | .neg f => by have := snv_dep f; simp [Sn.val, Val.dep, Val.deps, Sn.deep]; omega
  | .con w f g => by have := snv_dep f; have := snv_dep g; simp [Sn.val, Val.dep, Val.deps, Sn.deep]; omega
  | .qu a c f => by have := snv_dep f; simp [Sn.val, Val.dep, Val.deps, Sn.deep, nmV]; omega
theorem tmv_ok (S : Sto) (t : Tm) : okV S t.val = true := by
  cases t with
  | nm c => simp [okV, Tm.val, nmV, kn, shr, nmS, Str.length]
  | num n => rfl
theorem okV_int (S : Sto) (i : Int) : okV S (.int i) = true := rfl
theorem okVs_nil (S : Sto) : okVs S [] = true := rfl
theorem snv_ok (S : Sto) : ∀ f : Sn, okV S f.val = true
  | .less t u => by simp only [Sn.val, okV_tup, okVs_cons, tmv_ok, okV_int, okVs_nil, Bool.and_true]; rfl
  | .same t u => by simp only [Sn.val, okV_tup, okVs_cons, tmv_ok, okV_int, okVs_nil, Bool.and_true]; rfl
  | .sum t u v => by simp only [Sn.val, okV_tup, okVs_cons, tmv_ok, okV_int, okVs_nil, Bool.and_true]; rfl
  | .sign r t s => by simp only [Sn.val, okV_tup, okVs_cons, tmv_ok, okV_int, okVs_nil, Bool.and_true]; rfl
  | .neg f => by simp only [Sn.val, okV_tup, okVs_cons, snv_ok S f, okVs_nil, Bool.and_true]; rfl
  | .con w f g => by
    have : okV S (.str (cnS w)) = true := by
      match w with
      | 0 => rfl
      | 1 => rfl
      | w + 2 => rfl
    simp only [Sn.val, okV_tup, okVs_cons, snv_ok S f, snv_ok S g, okVs_nil, this, Bool.and_true]
  | .qu a c f => by
    have : okV S (.str (quS a)) = true := by cases a <;> rfl
    have h2 : okV S (nmV c) = true := tmv_ok S (.nm c)
    simp only [Sn.val, okV_tup, okVs_cons, snv_ok S f, okVs_nil, this, h2, Bool.and_true]
theorem inner_deep {f p : Sn} (h : p ∈ f.inner) : p.deep < f.deep := by
  cases f with
  | neg f => simp [Sn.inner] at h; subst h; simp [Sn.deep]
  | con w f g => simp [Sn.inner] at h; rcases h with rfl | rfl <;> simp only [Sn.deep] <;> omega
  | qu a c f => simp [Sn.inner] at h; subst h; simp [Sn.deep]
  | _ => simp [Sn.inner] at h
theorem inner_ok {rows : Nat} {f p : Sn} (o : f.Ok rows) (h : p ∈ f.inner) : p.Ok rows := by
  cases f with
  | neg f => simp [Sn.inner] at h; subst h; exact o
  | con w f g => simp [Sn.inner] at h; rcases h with rfl | rfl; exact o.2.1; exact o.2.2
  | qu a c f => simp [Sn.inner] at h; subst h; exact o.2
  | _ => simp [Sn.inner] at h
def ps_parts (d : Nat) : PSpec := fun vs S Q _ => match vs with
  | [.d v] => ∃ f : Sn, v = f.val ∧ f.deep ≤ d ∧ Q (.d (.int f.parts))
  | _ => False
theorem ints_mapT {α : Type} (f : α → Int) (as : List α) : Val.ints (as.map fun a => .int (f a)) = some (as.map f) := by
  induction as with
  | nil => rfl
  | cons a as ih => simp [Val.ints, ih]
theorem w_parts {g : PCfg} {d : Nat} (f19 : g.fn 19 = some ps_inner) (f21 : g.fn 21 = some (ps_parts d)) : Wp g (ps_parts (d + 1)) n_parts b_parts := by
  intro args S Q E h
  unfold ps_parts at h
  split at h <;> first | contradiction | skip
  obtain ⟨f, rfl, hd, h2⟩ := h
  unfold b_parts
  refine pstep fun K hK => ?_
  simp! only [n_parts, f19]
  refine inner_in ?_
  simp! only []
  refine pturns_mapT Sn.val (fun p => .int (p.parts : Int)) (fun p hp k hk => ?_) ?_
  · simp! only [f21, ps_parts]
    have := inner_deep hp
    refine ⟨p, rfl, by omega, ?_⟩
    simp! only []
    exact hk
  · simp! only [pBtL, ints_mapT, withO_s]
    have : (1 : Int) + (f.inner.map fun p => (p.parts : Int)).sum = (f.parts : Int) := by
      cases f <;> simp [Sn.inner, Sn.parts]
    rw [this]
    exact h2
def ps_terms_of : PSpec := fun vs S Q _ => match vs with
  | [.d v] => ∃ f : Sn, v = f.val ∧ f.inner = [] ∧ Q (.d (.tup (f.terms.map Tm.val)))
  | _ => False
theorem w_terms_of {g : PCfg} : Wp g ps_terms_of n_terms_of b_terms_of := by
  intro args S Q E h
  unfold ps_terms_of at h
  split at h <;> first | contradiction | skip
  obtain ⟨f, rfl, hi, h2⟩ := h
  unfold b_terms_of
  refine pstep fun K hK => pite_step fun A B hA hB => ?_
  simp! only [n_terms_of, sub_hd]
  cases f with
  | sign r t s =>
    refine ⟨fun _ => hA _ ?_, fun z => ?_⟩
    · simp! only [Sn.val, show (2 : Int) = ((2 : Nat) : Int) from rfl, atI_nat, List.getElem?_cons_succ, List.getElem?_cons_zero]
      exact h2
    · simp [Sn.hd] at z
  | less t u =>
    refine ⟨fun z => absurd (show ("less" : Str) = "sign" from of_decide_eq_true z) (by decide), fun z => hB _ ?_⟩
    simp! only []
    refine hK _ ?_
    simp! only [Sn.val, cut_1]
    exact h2
  | same t u =>
    refine ⟨fun z => absurd (show ("same" : Str) = "sign" from of_decide_eq_true z) (by decide), fun z => hB _ ?_⟩
    simp! only []
    refine hK _ ?_
    simp! only [Sn.val, cut_1]
    exact h2
  | sum t u v =>
    refine ⟨fun z => absurd (show ("sum" : Str) = "sign" from of_decide_eq_true z) (by decide), fun z => hB _ ?_⟩
    simp! only []
    refine hK _ ?_
    simp! only [Sn.val, cut_1]
    exact h2
  | _ => simp [Sn.inner] at hi
/-! ### dicts of names -/
def addN (l : List Nat) (c : Nat) : List Nat := if c ∈ l then l else l ++ [c]
def nmD (v : Val) (l : List Nat) : List (Val × Val) := l.map fun c => (nmV c, v)
theorem nmV_nk {c d : Nat} : (nmV c).nk = (nmV d).nk ↔ c = d := by
  unfold nmV
  simp only [Val.nk]
  constructor
  · intro h
    injection h with h
    exact nmS_inj.mp h
  · intro h
    rw [h]
theorem dput_nmD (v : Val) (c : Nat) : ∀ l : List Nat, dput (nmD v l) (nmV c) v = nmD v (addN l c)
  | [] => rfl
  | d :: l => by
    show dput ((nmV d, v) :: nmD v l) (nmV c) v = _
    rw [dput]
    by_cases q : d = c
    · subst q
      rw [if_pos rfl]
      have : addN (d :: l) d = d :: l := by unfold addN; rw [if_pos (by simp)]
      rw [this]
      rfl
    · rw [if_neg (fun z => q (nmV_nk.mp z)), dput_nmD v c l]
      unfold addN
      by_cases h : c ∈ l
      · rw [if_pos h, if_pos (by simp [h])]
        rfl
      · rw [if_neg h, if_neg (by simp [h, Ne.symm q])]
        rfl
theorem dputs_nmD (v : Val) : ∀ (cs l : List Nat), dputs (nmD v l) (cs.map fun c => (nmV c, v)) = nmD v (cs.foldl addN l)
  | [], l => rfl
  | c :: cs, l => by
    show dputs (dput (nmD v l) (nmV c) v) _ = _
    rw [dput_nmD, dputs_nmD v cs]
    rfl
theorem addN_mem {l : List Nat} {c x : Nat} : x ∈ addN l c ↔ x ∈ l ∨ x = c := by
  unfold addN
  split
  · rename_i h
    constructor
    · exact .inl
    · rintro (z | z)
      · exact z
      · rw [z]; exact h
  · simp
theorem addN_nodup {l : List Nat} {c : Nat} (h : l.Nodup) : (addN l c).Nodup := by
  unfold addN
  split
  · exact h
  · rename_i q
    rw [List.nodup_append]
    refine ⟨h, by simp, fun a ha b hb => ?_⟩
    simp at hb
    subst hb
    exact fun z => q (z ▸ ha)
theorem foldN_mem {x : Nat} : ∀ {cs l : List Nat}, x ∈ cs.foldl addN l ↔ x ∈ l ∨ x ∈ cs
  | [], l => by simp
  | c :: cs, l => by
    rw [List.foldl_cons, foldN_mem, addN_mem, List.mem_cons]
    constructor
    · rintro ((h | h) | h)
      · exact .inl h
      · exact .inr (.inl h)
      · exact .inr (.inr h)
    · rintro (h | h | h)
      · exact .inl (.inl h)
      · exact .inl (.inr h)
      · exact .inr h
theorem foldN_nodup : ∀ {cs l : List Nat}, l.Nodup → (cs.foldl addN l).Nodup
  | [], l, h => h
  | c :: cs, l, h => by rw [List.foldl_cons]; exact foldN_nodup (addN_nodup h)
theorem nmD_kind (v : Val) (l : List Nat) (c : Nat) : kindOk (nmD v l) (nmV c) = true := by
  cases l with
  | nil => rfl
  | cons d l => rfl
theorem nmD_keys (v : Val) (l : List Nat) : (nmD v l).map (·.1) = l.map nmV := by
  unfold nmD
  rw [List.map_map]
  rfl
theorem nmD_is (v : Val) (l : List Nat) : ∀ p ∈ nmD v l, isIS p.1 = true := fun p hp => by
  obtain ⟨c, _, rfl⟩ := List.mem_map.mp hp
  rfl
/-! ### sorted names -/
theorem rise_eq : ∀ {l m : List Nat}, l.Pairwise (· < ·) → m.Pairwise (· < ·) → (∀ x, x ∈ l ↔ x ∈ m) → l = m
  | [], [], _, _, _ => rfl
  | [], b :: m, _, _, h => by have := (h b).mpr (by simp); cases this
  | a :: l, [], _, _, h => by have := (h a).mp (by simp); cases this
  | a :: l, b :: m, h1, h2, h => by
    rw [List.pairwise_cons] at h1 h2
    have hab : a = b := by
      have q1 := (h a).mp (by simp)
      have q2 := (h b).mpr (by simp)
      rcases List.mem_cons.mp q1 with e | e
      · exact e
      · rcases List.mem_cons.mp q2 with e2 | e2
        · exact e2.symm
        · have := h1.1 b e2
          have := h2.1 a e
          omega
    subst hab
    rw [rise_eq h1.2 h2.2 fun x => ?_]
    have := h x
    simp only [List.mem_cons] at this
    constructor
    · intro hx
      rcases this.mp (.inr hx) with e | e
      · subst e
        have := h1.1 x hx
        omega
      · exact e
    · intro hx
      rcases this.mpr (.inr hx) with e | e
      · subst e
        have := h2.1 x hx
        omega
      · exact e
theorem sortedS_names : ∀ {l : List Nat}, PyProof.Rows.sortedS (l.map nmS) = true → l.Pairwise (· ≤ ·)
  | [], _ => .nil
  | [a], _ => List.pairwise_singleton _ _
  | a :: b :: l, h => by
    have h : PyProof.Rows.risingS (nmS a) (nmS b :: l.map nmS) = true := h
    rw [PyProof.Rows.risingS, Bool.and_eq_true] at h
    have h2 : PyProof.Rows.sortedS ((b :: l).map nmS) = true := h.2
    have ih := sortedS_names h2
    have hab : a ≤ b := by
      have := h.1
      simp only [nmS, Spec.ltCps] at this
      simp at this
      omega
    rw [List.pairwise_cons]
    refine ⟨fun x hx => ?_, ih⟩
    rcases List.mem_cons.mp hx with e | e
    · omega
    · have := (List.pairwise_cons.mp ih).1 x e
      omega
theorem names_sorted {l F : List Nat} {ms : List Str} (hp : ms.Perm (l.map nmS)) (hs : PyProof.Rows.sortedS ms = true) (hn : l.Nodup) (hF : F.Pairwise (· < ·)) (hm : ∀ x, x ∈ l ↔ x ∈ F) : ms = F.map nmS := by
  have e : ∀ z ∈ ms, ∃ c, z = nmS c := fun z hz => by
    obtain ⟨c, _, rfl⟩ := List.mem_map.mp (hp.mem_iff.mp hz)
    exact ⟨c, rfl⟩
  let dec : Str → Nat := fun z => z.cps.getD 0 0 - 97
  have dn : ∀ c, dec (nmS c) = c := fun c => by simp [dec, nmS]
  have e1 : ms = (ms.map dec).map nmS := by
    rw [List.map_map]
    conv => lhs; rw [← List.map_id ms]
    refine List.map_congr_left fun z hz => ?_
    obtain ⟨c, rfl⟩ := e z hz
    simp [dn]
  have p2 : (ms.map dec).Perm l := by
    have := hp.map dec
    rw [List.map_map] at this
    have e3 : l.map (dec ∘ nmS) = l := by
      conv => rhs; rw [← List.map_id l]
      exact List.map_congr_left fun c _ => dn c
    rwa [e3] at this
  have n2 : (ms.map dec).Nodup := p2.nodup_iff.mpr hn
  rw [e1] at hs
  have s2 := sortedS_names hs
  have s3 : (ms.map dec).Pairwise (· < ·) := (s2.and n2).imp fun ⟨h1, h2⟩ => by omega
  rw [e1, rise_eq s3 hF fun x => (p2.mem_iff).trans (hm x)]
theorem free_rise (f : Sn) : f.free.Pairwise (· < ·) := List.Pairwise.filter _ List.pairwise_lt_range
theorem free_mem {f : Sn} {c : Nat} : c ∈ f.free ↔ c < 26 ∧ f.occ c = true := by
  unfold Sn.free
  rw [List.mem_filter, List.mem_range]
theorem free_len (f : Sn) : f.free.length ≤ 26 := by
  have := List.length_filter_le f.occ (List.range 26)
  simpa [Sn.free] using this
end DL

set_option autoImplicit true
set_option Elab.async false
set_option autoImplicit false
set_option linter.all false
set_option maxRecDepth 100000
set_option maxHeartbeats 4000000
/-! Own layer, plain: free names, bound names (walks). -/
namespace DL
open PySem
local macro_rules
  | `(tactic| simp! only [$ls,*]) => `(tactic| try simp only [pSs, pS, pE, pEs, pO, pI, pIs, pC, pIf, pAsg, pAsgs, pSetI, pRet, pX, pMove, pUn, pBin, pLt_i, pLe_i, pGt_i, pGe_i, pLt_t, pEq_i, pNe_i, pEq_s, pNe_s, pEq_b, pNe_b, pIn_m, pNin_m, pSub_l, pSub_tup, pSub_lst, pSub_m, pSub_str, pSlice, pBt_len_l, pBt_tuple_l, pBt_list_l, pBt_len_m, pBt_len_tup, pBt_len_lst, pBt_len_str, pBt_list_tup, pBt_tuple_tup, pBt_int_int, pBt_int_bl, pBt_max2, pBt_min2, pBt_str_int, pIsi, pRecv, pMt, wBin, wSub, wSlice, wBt, wRng, startP_cons, startP_nil, List.replicate, getP_0, getP_s, withO_s, withB_b, withD_d, withPB_d, withPI_d, bor_d, bor_l, bor_m, isP_d, isP_l, isP_m, okA_d, okA_l, okA_m, lof_l, lof_m, lof_int, lof_bl, lof_str, lof_non, lof_tup, lof_lst, dof_l, dof_m, dof_int, dof_bl, dof_str, dof_non, dof_tup, dof_lst, dvl_int, dvl_bl, dvl_str, dvl_non, dvl_tup, dvl_lst, ds_nil, ds_cons, omap_some, pSee_d, iterP_l, iterP_tup, enP_l, enP_tup, pLend, see_int, see_bl, see_str, see_non, dep_int, dep_bl, dep_str, dep_non, Nat.zero_min, Nat.min_zero, Nat.zero_le, bindP_one, bindP_two, bindP_three, List.set_cons_zero, List.set_cons_succ, wipeP, Nat.zero_add, atI_0, atI_1, atI_2, atI_3, isV, frz, frz1, Bool.or_false, Bool.or_true, Bool.true_or, Bool.false_or, true_imp_iff, false_imp_iff, Bool.not_false, Bool.not_true, reduceCtorEq, and_true, true_and, List.length_cons, List.length_nil, List.map_cons, List.map_nil, List.length_map, tt_and, ff_and, $ls,*])
  | `(tactic| simp! only [$ls,*] $loc:location) => `(tactic| try simp only [pSs, pS, pE, pEs, pO, pI, pIs, pC, pIf, pAsg, pAsgs, pSetI, pRet, pX, pMove, pUn, pBin, pLt_i, pLe_i, pGt_i, pGe_i, pLt_t, pEq_i, pNe_i, pEq_s, pNe_s, pEq_b, pNe_b, pIn_m, pNin_m, pSub_l, pSub_tup, pSub_lst, pSub_m, pSub_str, pSlice, pBt_len_l, pBt_tuple_l, pBt_list_l, pBt_len_m, pBt_len_tup, pBt_len_lst, pBt_len_str, pBt_list_tup, pBt_tuple_tup, pBt_int_int, pBt_int_bl, pBt_max2, pBt_min2, pBt_str_int, pIsi, pRecv, pMt, wBin, wSub, wSlice, wBt, wRng, startP_cons, startP_nil, List.replicate, getP_0, getP_s, withO_s, withB_b, withD_d, withPB_d, withPI_d, bor_d, bor_l, bor_m, isP_d, isP_l, isP_m, okA_d, okA_l, okA_m, lof_l, lof_m, lof_int, lof_bl, lof_str, lof_non, lof_tup, lof_lst, dof_l, dof_m, dof_int, dof_bl, dof_str, dof_non, dof_tup, dof_lst, dvl_int, dvl_bl, dvl_str, dvl_non, dvl_tup, dvl_lst, ds_nil, ds_cons, omap_some, pSee_d, iterP_l, iterP_tup, enP_l, enP_tup, pLend, see_int, see_bl, see_str, see_non, dep_int, dep_bl, dep_str, dep_non, Nat.zero_min, Nat.min_zero, Nat.zero_le, bindP_one, bindP_two, bindP_three, List.set_cons_zero, List.set_cons_succ, wipeP, Nat.zero_add, atI_0, atI_1, atI_2, atI_3, isV, frz, frz1, Bool.or_false, Bool.or_true, Bool.true_or, Bool.false_or, true_imp_iff, false_imp_iff, Bool.not_false, Bool.not_true, reduceCtorEq, and_true, true_and, List.length_cons, List.length_nil, List.map_cons, List.map_nil, List.length_map, tt_and, ff_and, $ls,*] $loc:location)

def n_free_of : List Str := ["sentence", "term", "found", "part", "name"]
def b_free_of : Sms :=
  (.cons (.ite (.cmp .eq (.call 19 (.cons (.var 0) .nil)) (.tup .nil))
    (.cons (.ret (.blt .sorted (.cons (.blt .list (.cons (.bltc .dict (.mk (.one 1) [1] (.tup (.cons (.var 1) (.cons (.int 0) .nil))) (.val (.call 22 (.cons (.var 0) .nil))) (.some (.call 16 (.cons (.var 1) .nil))))) .nil)) .nil)))
      .nil)
    .nil)
  (.cons (.asg 2 .dict0)
  (.cons (.for (.one 3) (.val (.call 19 (.cons (.var 0) .nil)))
    (.cons (.for (.one 4) (.val (.call 23 (.cons (.var 3) .nil)))
        (.cons (.ite (.or (.cmp .notin (.sub (.var 0) (.int 0)) (.tup (.cons (.str "some") (.cons (.str "all") .nil)))) (.cmp .ne (.var 4) (.sub (.var 0) (.int 1))))
            (.cons (.setI (.var 2) (.var 4) (.bl true))
              .nil)
            .nil)
          .nil))
      .nil))
  (.cons (.ret (.blt .sorted (.cons (.blt .list (.cons (.var 2) .nil)) .nil)))
  .nil))))

def n_bound_of : List Str := ["sentence", "made", "part"]
def b_bound_of : Sms :=
  (.cons (.asg 1 (.lst .nil))
  (.cons (.ite (.cmp .isin (.sub (.var 0) (.int 0)) (.tup (.cons (.str "some") (.cons (.str "all") .nil))))
    (.cons (.expr (.meth (.var 1) .append (.cons (.sub (.var 0) (.int 1)) .nil)))
      .nil)
    .nil)
  (.cons (.for (.one 2) (.val (.call 19 (.cons (.var 0) .nil)))
    (.cons (.expr (.meth (.var 1) .extend (.cons (.call 24 (.cons (.var 2) .nil)) .nil)))
      .nil))
  (.cons (.ret (.var 1))
  .nil))))

def n_names_fit : List Str := ["sentence", "bound", "free_ones", "name"]
def b_names_fit : Sms :=
  (.cons (.asg 1 (.call 24 (.cons (.var 0) .nil)))
  (.cons (.asg 2 (.call 23 (.cons (.var 0) .nil)))
  (.cons (.ite (.cmp .gt (.bin .add (.blt .len (.cons (.var 1) .nil)) (.blt .len (.cons (.var 2) .nil))) (.glob "NAMES"))
    (.cons (.ret (.bl false))
      .nil)
    .nil)
  (.cons (.ret (.and (.bltc .all (.mk (.one 3) [3] (.and (.cmp .eq (.meth (.var 1) .count (.cons (.var 3) .nil)) (.int 1)) (.cmp .notin (.var 3) (.var 2))) (.val (.var 1)) .none)) (.call 26 (.cons (.var 0) (.cons (.var 2) .nil)))))
  .nil))))

def n_all_bound : List Str := ["sentence", "known", "term", "part"]
def b_all_bound : Sms :=
  (.cons (.ite (.cmp .isin (.sub (.var 0) (.int 0)) (.tup (.cons (.str "some") (.cons (.str "all") .nil))))
    (.cons (.asg 1 (.bin .add (.var 1) (.lst (.cons (.sub (.var 0) (.int 1)) .nil))))
      .nil)
    .nil)
  (.cons (.ite (.cmp .eq (.call 19 (.cons (.var 0) .nil)) (.tup .nil))
    (.cons (.ret (.bltc .all (.mk (.one 2) [2] (.or (.not (.call 16 (.cons (.var 2) .nil))) (.cmp .isin (.var 2) (.var 1))) (.val (.call 22 (.cons (.var 0) .nil))) .none)))
      .nil)
    .nil)
  (.cons (.ret (.bltc .all (.mk (.one 3) [3] (.call 26 (.cons (.var 3) (.cons (.var 1) .nil))) (.val (.call 19 (.cons (.var 0) .nil))) .none)))
  .nil)))

def ps_free_of (d : Nat) : PSpec := fun vs S Q _ => match vs with
  | [.d v] => ∃ (f : Sn) (rows : Nat), v = f.val ∧ f.deep ≤ d ∧ f.Ok rows ∧ Q (.l true (f.free.map nmV))
  | _ => False
theorem pEq_nil {x : Val} {S : Sto} {Q : PK} (hx : x.dat = true) : pCmp .eq (.d x) (.d (.tup [])) S Q = Q (.d (.bl (x.veq (.tup [])))) := by
  have : min x.dep (Val.tup []).dep ≤ 100 := by
    have : (Val.tup []).dep = 1 := rfl
    omega
  simp only [pCmp, pSee_d, see_dat hx, see_dat (show (Val.tup []).dat = true from rfl), withO_s, this, true_and]
theorem veq_nil (xs : List Val) : (Val.tup xs).veq (.tup []) = xs.isEmpty := by
  cases xs <;> simp [Val.veq, Val.py, Val.pys, PyData.eqv, PyData.eqvAll]
theorem okTm {rows : Nat} {f : Sn} (o : f.Ok rows) {t : Tm} (h : t ∈ f.terms) : t.Ok := by
  cases f with
  | less t u => simp [Sn.terms] at h; rcases h with rfl | rfl; exact o.1; exact o.2
  | same t u => simp [Sn.terms] at h; rcases h with rfl | rfl; exact o.1; exact o.2
  | sum t u v => simp [Sn.terms] at h; rcases h with rfl | rfl | rfl; exact o.1; exact o.2.1; exact o.2.2
  | sign r t s => simp [Sn.terms] at h; subst h; exact o.2.1
  | _ => simp [Sn.terms] at h
/-- the names of terms -/
def nmsOf (ts : List Tm) : List Nat := ts.filterMap fun t => match t with
  | .nm c => some c
  | .num _ => none
theorem nmsOf_mem {ts : List Tm} {c : Nat} : c ∈ nmsOf ts ↔ .nm c ∈ ts := by
  unfold nmsOf
  rw [List.mem_filterMap]
  constructor
  · rintro ⟨t, h1, h2⟩
    cases t with
    | nm d => simp at h2; subst h2; exact h1
    | num n => cases h2
  · intro h
    exact ⟨_, h, rfl⟩
theorem occ_plain {f : Sn} (h : f.inner = []) (c : Nat) : f.occ c = decide (.nm c ∈ f.terms) := by
  cases f with
  | neg f => simp [Sn.inner] at h
  | con w f g => simp [Sn.inner] at h
  | qu a d f => simp [Sn.inner] at h
  | _ => simp [Sn.occ]
theorem isNm_tm {t : Tm} (o : t.Ok) : isNmV t.val = (match t with | .nm _ => true | .num _ => false) := by
  cases t with
  | nm c =>
    have o : c < 26 := o
    simp [Tm.val, nmV, isNmV, nmOf_nmS o]
  | num n => rfl
theorem sorted_names {f : Sn} {l : List Nat} {S : Sto} {Q : PK} (hn : l.Nodup) (hl : l.length < 64) (hm : ∀ c, c ∈ l ↔ c ∈ f.free) (h : Q (.l true (f.free.map nmV))) : pBtL .sorted (l.map nmV) S Q := by
  refine .inr (.inl ⟨l.map nmS, ?_, by simpa using hl, fun ms hp hs => ?_⟩)
  · have : ∀ l : List Nat, Val.strs (l.map nmV) = some (l.map nmS) := by
      intro l
      induction l with
      | nil => rfl
      | cons c l ih =>
        show (Val.strs (l.map nmV)).map (nmS c :: ·) = _
        rw [ih]
        rfl
    exact this l
  · rw [names_sorted hp hs hn (free_rise f) hm, List.map_map]
    exact h
theorem small_names {l : List Nat} (hn : l.Nodup) (h : ∀ c ∈ l, c < 26) : l.length < 64 := by
  have := hn.length_le_of_subset (l₂ := List.range 26) fun c hc => List.mem_range.mpr (h c hc)
  simp at this
  omega
theorem w_free_of {g : PCfg} {d : Nat} (f16 : g.fn 16 = some ps_is_name) (f19 : g.fn 19 = some ps_inner) (f22 : g.fn 22 = some ps_terms_of) (f23 : g.fn 23 = some (ps_free_of d)) : Wp g (ps_free_of (d + 1)) n_free_of b_free_of := by
  intro args S Q E h
  unfold ps_free_of at h
  split at h <;> first | contradiction | skip
  obtain ⟨f, rows, rfl, hd, ok, h2⟩ := h
  unfold b_free_of
  refine pstep fun K hK => pite_step fun A B hA hB => ?_
  simp! only [n_free_of, f19]
  refine inner_in ?_
  have ed : (Val.tup (f.inner.map Sn.val)).dat = true := by
    simp only [Val.dat]
    exact dats_map _ snv_dat _
  simp! only []
  rw [pEq_nil ed, veq_nil, List.isEmpty_map]
  simp! only []
  refine ⟨fun z => hA _ ?_, fun z => hB _ ?_⟩
  · have hi : f.inner = [] := by simpa using z
    simp! only [f22, ps_terms_of]
    refine ⟨f, rfl, hi, ?_⟩
    simp! only []
    refine pturns_filT Tm.val (fun t => if isNmV t.val then some (.tup [t.val, .int 0]) else none) (fun t ht k hk => ?_) ?_
    · simp! only [f16, ps_is_name]
      refine ⟨tmv_ok S t, ?_⟩
      simp! only []
      refine ⟨fun q => ?_, fun q => ?_⟩
      · rw [if_pos q] at hk
        exact hk
      · rw [if_neg (by rw [q]; decide)] at hk
        exact hk
    · have e1 : (f.terms.filterMap fun t => if isNmV t.val then some (Val.tup [t.val, .int 0]) else none) = ((nmsOf f.terms).map fun c => (nmV c, Val.int 0)).map fun p => Val.tup [p.1, p.2] := by
        have key : ∀ ts : List Tm, (∀ t ∈ ts, t.Ok) → (ts.filterMap fun t => if isNmV t.val then some (Val.tup [t.val, .int 0]) else none) = ((nmsOf ts).map fun c => (nmV c, Val.int 0)).map fun p => Val.tup [p.1, p.2] := by
          intro ts
          induction ts with
          | nil => intro _; rfl
          | cons t ts ih =>
            intro ho
            have ih := ih fun u hu => ho u (by simp [hu])
            have e := isNm_tm (ho t (by simp))
            cases t with
            | nm c =>
              simp only at e
              rw [List.filterMap_cons, if_pos e]
              simp only [nmsOf] at ih ⊢
              rw [List.filterMap_cons]
              simp only [List.map_cons, ih]
              rfl
            | num n =>
              simp only at e
              rw [List.filterMap_cons, if_neg (by rw [e]; decide)]
              simp only [nmsOf] at ih ⊢
              rw [List.filterMap_cons]
              simp only [ih]
        exact key _ fun t ht => okTm ok ht
      have e2 : dputs [] ((nmsOf f.terms).map fun c => (nmV c, Val.int 0)) = nmD (.int 0) ((nmsOf f.terms).foldl addN []) := dputs_nmD (.int 0) _ []
      have nd : ((nmsOf f.terms).foldl addN []).Nodup := foldN_nodup .nil
      have hm : ∀ c, c ∈ (nmsOf f.terms).foldl addN [] ↔ c ∈ f.free := fun c => by
        rw [foldN_mem, free_mem, nmsOf_mem, occ_plain hi]
        simp only [List.not_mem_nil, false_or, decide_eq_true_eq]
        constructor
        · intro hc
          exact ⟨okTm ok hc, hc⟩
        · exact fun hc => hc.2
      refine ⟨(nmsOf f.terms).map fun c => (nmV c, .int 0), e1, fun p hp => ?_, ?_⟩
      · obtain ⟨c, _, rfl⟩ := List.mem_map.mp hp
        rfl
      rw [e2]
      simp only [pBt, lof_m, dof_m]
      refine .inr (.inl ⟨trivial, nmD_is _ _, ?_⟩)
      rw [nmD_keys]
      simp! only []
      exact sorted_names nd (small_names nd fun c hc => (free_mem.mp ((hm c).mp hc)).1) hm ⟨rfl, h2⟩
  · have hi : ¬ f.inner = [] := by simpa using z
    simp! only []
    refine hK _ (pstep fun K2 hK2 => ?_)
    simp! only []
    refine hK2 _ (pstep fun K3 hK3 => pfor_step fun B2 hB2 => ?_)
    simp! only [f19]
    refine inner_in ?_
    simp! only []
    -- the names that are kept
    let cond : Nat → Bool := fun c => match f with
      | .qu _ x _ => !decide (c = x)
      | _ => true
    refine pfor_invT Sn.val (fun rest e => ∃ (done : List Sn) (l : List Nat) (v1 v3 v4 : Option PV), done ++ rest = f.inner ∧ l.Nodup ∧ (∀ c, c ∈ l ↔ cond c = true ∧ ∃ p ∈ done, c ∈ p.free) ∧ e = [some (.d f.val), v1, some (.m true (nmD (.bl true) l)), v3, v4]) ?_ ?_ _ _
      ⟨[], [], none, none, none, rfl, .nil, by simp, rfl⟩
    · rintro p rest e ⟨done, l, v1, v3, v4, hd1, nd, hm, rfl⟩
      have hp : p ∈ f.inner := by rw [← hd1]; simp
      have hpd := inner_deep hp
      simp! only []
      intro k hk
      refine hB2 _ _ (pstep fun K4 hK4 => pfor_step fun B3 hB3 => ?_)
      simp! only [f23, ps_free_of]
      refine ⟨p, rows, rfl, by omega, inner_ok ok hp, ?_⟩
      simp! only []
      refine pfor_invT nmV (fun rest2 e => ∃ (dn l2 : List Nat) (v4 : Option PV), dn ++ rest2 = p.free ∧ l2.Nodup ∧ (∀ c, c ∈ l2 ↔ c ∈ l ∨ (cond c = true ∧ c ∈ dn)) ∧ e = [some (.d f.val), v1, some (.m true (nmD (.bl true) l2)), some (.d p.val), v4]) ?_ ?_ _ _
        ⟨[], l, v4, rfl, nd, by simp, rfl⟩
      · rintro c rest2 e ⟨dn, l2, w4, hd2, nd2, hm2, rfl⟩
        simp! only []
        intro k2 hk2
        have hl2 : l2.length < 64 := small_names nd2 fun x hx => by
          rcases (hm2 x).mp hx with q | ⟨_, q⟩
          · obtain ⟨_, r, _, hr⟩ := (hm x).mp q
            exact (free_mem.mp hr).1
          · exact (free_mem.mp (show x ∈ p.free by rw [← hd2]; simp [q])).1
        have keep : cond c = true → k2 [some (.d f.val), v1, some (.m true (nmD (.bl true) (addN l2 c))), some (.d p.val), some (.d (nmV c))] := fun hc => by
          refine hk2 _ ⟨dn ++ [c], addN l2 c, _, by simpa using hd2, addN_nodup nd2, fun x => ?_, rfl⟩
          rw [addN_mem, hm2]
          simp only [List.mem_append, List.mem_singleton]
          constructor
          · rintro ((q | q) | q)
            · exact .inl q
            · exact .inr ⟨q.1, .inl q.2⟩
            · exact .inr ⟨q ▸ hc, .inr q⟩
          · rintro (q | ⟨q1, q2 | q2⟩)
            · exact .inl (.inl q)
            · exact .inl (.inr ⟨q1, q2⟩)
            · exact .inr q2
        have skip : cond c = false → k2 [some (.d f.val), v1, some (.m true (nmD (.bl true) l2)), some (.d p.val), some (.d (nmV c))] := fun hc => by
          refine hk2 _ ⟨dn ++ [c], l2, _, by simpa using hd2, nd2, fun x => ?_, rfl⟩
          rw [hm2]
          simp only [List.mem_append, List.mem_singleton]
          constructor
          · rintro (q | q)
            · exact .inl q
            · exact .inr ⟨q.1, .inl q.2⟩
          · rintro (q | ⟨q1, q2 | q2⟩)
            · exact .inl q
            · exact .inr ⟨q1, q2⟩
            · rw [q2, hc] at q1
              cases q1
        refine hB3 _ _ (pstep fun K5 hK5 => pite_step fun A4 B4 hA4 hB4 => ?_)
        simp! only [sub_hd, pNin_t]
        refine ⟨rfl, ?_⟩
        rw [j_qu, qu_hd]
        have put : cond c = true → A4 [some (.d f.val), v1, some (.m true (nmD (.bl true) l2)), some (.d p.val), some (.d (nmV c))] := fun hc => hA4 _ (by
          refine pstep fun K6 hK6 => ?_
          simp! only []
          refine ⟨nmD_kind _ _ _, by unfold nmD; rw [List.length_map]; unfold line; omega, hK6 _ ?_⟩
          simp! only [dput_nmD]
          refine hK5 _ ?_
          simp! only []
          exact keep hc)
        cases f with
        | qu a x f' =>
          simp! only [Sn.isQu, sub_qu]
          have hne : pCmp .ne (.d (nmV c)) (.d (nmV x)) S = fun Q => Q (.d (.bl (!decide (c = x)))) := by
            funext Q
            have : decide (nmS c = nmS x) = decide (c = x) := by rw [decide_eq_decide]; exact nmS_inj
            unfold nmV
            rw [pNe_s, this]
          rw [hne]
          simp! only []
          refine ⟨fun q => put (by simpa [cond] using q), fun q => hB4 _ ?_⟩
          simp! only []
          refine hK5 _ ?_
          simp! only []
          exact skip (by simpa [cond] using q)
        | neg f' =>
          simp! only [Sn.isQu]
          exact put rfl
        | con w f' g' =>
          simp! only [Sn.isQu]
          exact put rfl
        | _ => exact absurd rfl hi
      · rintro e ⟨dn, l2, w4, hd2, nd2, hm2, rfl⟩
        rw [List.append_nil] at hd2
        subst hd2
        refine hK4 _ ?_
        simp! only []
        refine hk _ ⟨done ++ [p], l2, v1, _, w4, by simpa using hd1, nd2, fun c => ?_, rfl⟩
        rw [hm2, hm]
        constructor
        · rintro (⟨h1, r, h2, h3⟩ | ⟨h1, h2⟩)
          · exact ⟨h1, r, by simp [h2], h3⟩
          · exact ⟨h1, p, by simp, h2⟩
        · rintro ⟨h1, r, h2, h3⟩
          rcases List.mem_append.mp h2 with q | q
          · exact .inl ⟨h1, r, q, h3⟩
          · simp at q
            subst q
            exact .inr ⟨h1, h3⟩
    · rintro e ⟨done, l, v1, v3, v4, hd1, nd, hm, rfl⟩
      rw [List.append_nil] at hd1
      subst hd1
      refine hK3 _ ?_
      have hF : ∀ c, c ∈ l ↔ c ∈ f.free := fun c => by
        rw [hm, free_mem]
        cases f with
        | qu a x f' =>
          simp only [cond, Sn.inner, List.mem_singleton, exists_eq_left, free_mem, Sn.occ, Bool.and_eq_true]
          constructor
          · rintro ⟨h1, h2, h3⟩; exact ⟨h2, h3, h1⟩
          · rintro ⟨h1, h2, h3⟩; exact ⟨h3, h1, h2⟩
        | neg f' => simp only [cond, Sn.inner, List.mem_singleton, exists_eq_left, free_mem, Sn.occ, true_and]
        | con w f' g' =>
          simp only [cond, Sn.inner, List.mem_cons, List.not_mem_nil, or_false, exists_eq_or_imp, exists_eq_left, free_mem, Sn.occ, Bool.or_eq_true, true_and]
          constructor
          · rintro (h | h)
            · exact ⟨h.1, .inl h.2⟩
            · exact ⟨h.1, .inr h.2⟩
          · rintro ⟨h1, h | h⟩
            · exact .inl ⟨h1, h⟩
            · exact .inr ⟨h1, h⟩
        | _ => exact absurd rfl hi
      simp! only [pBt]
      refine .inr (.inl ⟨nmD_is _ _, ?_⟩)
      have e9 := nmD_keys (.bl true) l
      rw [e9]
      exact sorted_names nd (small_names nd fun c hc => (free_mem.mp ((hF c).mp hc)).1) hF ⟨rfl, h2⟩
theorem stepE_app {α : Type} (xs : List α) : xs ++ [] = xs := List.append_nil xs
def ps_bound_of (d : Nat) : PSpec := fun vs S Q _ => match vs with
  | [.d v] => ∃ f : Sn, v = f.val ∧ f.deep ≤ d ∧ f.parts ≤ 1000 ∧ Q (.l true (f.bound.map nmV))
  | _ => False
theorem bound_len : ∀ f : Sn, f.bound.length ≤ f.parts
  | .less _ _ => by simp [Sn.bound]
  | .same _ _ => by simp [Sn.bound]
  | .sum _ _ _ => by simp [Sn.bound]
  | .sign _ _ _ => by simp [Sn.bound]
  | .neg f => by have := bound_len f; simp only [Sn.bound, Sn.parts]; omega
  | .con _ f g => by have := bound_len f; have := bound_len g; simp only [Sn.bound, Sn.parts, List.length_append]; omega
  | .qu _ _ f => by have := bound_len f; simp only [Sn.bound, Sn.parts, List.length_cons]; omega
theorem inner_parts {f p : Sn} (h : p ∈ f.inner) : p.parts < f.parts := by
  cases f with
  | neg f => simp [Sn.inner] at h; subst h; simp [Sn.parts]
  | con w f g => simp [Sn.inner] at h; have := f.parts_pos; have := g.parts_pos; rcases h with rfl | rfl <;> simp only [Sn.parts] <;> omega
  | qu a c f => simp [Sn.inner] at h; subst h; simp [Sn.parts]
  | _ => simp [Sn.inner] at h
/-- its own bound name, and those within -/
def Sn.own : Sn → List Nat
  | .qu _ c _ => [c]
  | _ => []
theorem bound_eq (f : Sn) : f.bound = f.own ++ (f.inner.map Sn.bound).flatten := by
  cases f <;> simp [Sn.bound, Sn.own, Sn.inner]
theorem w_bound_of {g : PCfg} {d : Nat} (f19 : g.fn 19 = some ps_inner) (f24 : g.fn 24 = some (ps_bound_of d)) : Wp g (ps_bound_of (d + 1)) n_bound_of b_bound_of := by
  intro args S Q E h
  unfold ps_bound_of at h
  split at h <;> first | contradiction | skip
  obtain ⟨f, rfl, hd, hp, h2⟩ := h
  unfold b_bound_of
  refine pstep fun K hK => ?_
  simp! only [n_bound_of]
  refine hK _ (pstep fun K2 hK2 => pite_step fun A B hA hB => ?_)
  have go : K2 [some (.d f.val), some (.l true (f.own.map nmV)), none] := hK2 _ (by
    refine pstep fun K3 hK3 => pfor_step fun B2 hB2 => ?_
    simp! only [f19]
    refine inner_in ?_
    simp! only []
    refine pfor_invT Sn.val (fun rest e => ∃ (done : List Sn) (v2 : Option PV), done ++ rest = f.inner ∧ e = [some (.d f.val), some (.l true ((f.own ++ (done.map Sn.bound).flatten).map nmV)), v2]) ?_ ?_ _ _ ⟨[], none, rfl, by simp⟩
    · rintro p rest e ⟨done, v2, hd1, rfl⟩
      have hpm : p ∈ f.inner := by rw [← hd1]; simp
      have := inner_deep hpm
      have hpp := inner_parts hpm
      have hb := bound_len p
      have hl : (f.own ++ (done.map Sn.bound).flatten).length ≤ f.parts := by
        have e := bound_eq f
        rw [← hd1] at e
        have e2 := congrArg List.length e
        simp only [List.map_append, List.flatten_append, List.length_append] at e2 ⊢
        have := bound_len f
        omega
      simp! only []
      intro k hk
      refine hB2 _ _ (pstep fun K4 hK4 => ?_)
      simp! only [f24, ps_bound_of]
      refine ⟨p, rfl, by omega, by omega, ?_⟩
      simp! only [extP, if_true]
      refine ⟨by unfold line; omega, hK4 _ ?_⟩
      simp! only []
      exact hk _ ⟨done ++ [p], some (.d p.val), by simpa using hd1, by simp⟩
    · rintro e ⟨done, v2, hd1, rfl⟩
      rw [List.append_nil] at hd1
      subst hd1
      refine hK3 _ ?_
      rw [← bound_eq]
      simp! only []
      exact h2)
  simp! only [sub_hd, pIn_t]
  refine ⟨rfl, ?_⟩
  rw [j_qu, qu_hd]
  cases f with
  | qu a c f' =>
    simp! only [Sn.isQu]
    refine hA _ (pstep fun K3 hK3 => ?_)
    simp! only [sub_qu]
    refine ⟨by decide, hK3 _ ?_⟩
    simp! only []
    exact go
  | _ =>
    simp! only [Sn.isQu]
    refine hB _ ?_
    simp! only []
    exact go
def ps_all_bound (d : Nat) : PSpec := fun vs S Q _ => match vs with
  | [.d v, .l _ ks] => ∃ (f : Sn) (l : List Nat) (rows : Nat), v = f.val ∧ ks = l.map nmV ∧ f.deep ≤ d ∧ l.length + d ≤ 1000 ∧ f.Ok rows ∧ (∀ c, f.occ c = true → c ∈ l) ∧ Q (.d (.bl true))
  | _ => False
theorem names_dats (l : List Nat) : Val.dats (l.map nmV) = true := dats_map nmV (fun _ => rfl) l
theorem any_names (c : Nat) : ∀ l : List Nat, veqAny (nmV c) (l.map nmV) = decide (c ∈ l)
  | [] => rfl
  | d :: l => by
    rw [List.map_cons, veqAny_cons, any_names c l]
    have : (nmV d).veq (nmV c) = decide (d = c) := by
      unfold nmV
      rw [veq_str, decide_eq_decide]
      exact nmS_inj
    rw [this, ← Bool.decide_or, decide_eq_decide, List.mem_cons]
    constructor
    · rintro (h | h)
      · exact .inl h.symm
      · exact .inr h
    · rintro (h | h)
      · exact .inl h.symm
      · exact .inr h
theorem pIn_names {c : Nat} {l : List Nat} {o : Bool} {S : Sto} {Q : PK} : pCmp .isin (.d (nmV c)) (.l o (l.map nmV)) S Q = Q (.d (.bl (decide (c ∈ l)))) := by
  have e1 : (nmV c).dat = true := rfl
  have e2 : (nmV c).dep ≤ 100 := by show 0 ≤ 100; omega
  simp only [pCmp, withD_d, lof_l, e1, e2, sees_dats (names_dats l), withO_s, any_names, true_and]
theorem pNin_names {c : Nat} {l : List Nat} {o : Bool} {S : Sto} {Q : PK} : pCmp .notin (.d (nmV c)) (.l o (l.map nmV)) S Q = Q (.d (.bl (!decide (c ∈ l)))) := by
  have e1 : (nmV c).dat = true := rfl
  have e2 : (nmV c).dep ≤ 100 := by show 0 ≤ 100; omega
  simp only [pCmp, withD_d, lof_l, e1, e2, sees_dats (names_dats l), withO_s, any_names, true_and]
theorem w_all_bound {g : PCfg} {d : Nat} (f16 : g.fn 16 = some ps_is_name) (f19 : g.fn 19 = some ps_inner) (f22 : g.fn 22 = some ps_terms_of) (f26 : g.fn 26 = some (ps_all_bound d)) : Wp g (ps_all_bound (d + 1)) n_all_bound b_all_bound := by
  intro args S Q E h
  unfold ps_all_bound at h
  split at h <;> first | contradiction | skip
  rename_i v o ks
  obtain ⟨f, l, rows, rfl, rfl, hd, hl, ok, hall, h2⟩ := h
  unfold b_all_bound
  refine pstep fun K hK => pite_step fun A B hA hB => ?_
  -- behind the own name
  have go : ∀ (l2 : List Nat) (o : Bool), l2.length + d ≤ 1000 → (∀ p ∈ f.inner, ∀ c, p.occ c = true → c ∈ l2) → (f.inner = [] → l2 = l) → K [some (.d f.val), some (.l o (l2.map nmV)), none, none] := fun l2 o hl2 hin hpl => hK _ (by
    refine pstep fun K2 hK2 => pite_step fun A2 B2 hA2 hB2 => ?_
    simp! only [f19]
    refine inner_in ?_
    have ed : (Val.tup (f.inner.map Sn.val)).dat = true := by
      simp only [Val.dat]
      exact dats_map _ snv_dat _
    simp! only []
    rw [pEq_nil ed, veq_nil, List.isEmpty_map]
    simp! only []
    refine ⟨fun z => hA2 _ ?_, fun z => hB2 _ ?_⟩
    · have hi : f.inner = [] := by simpa using z
      have el := hpl hi
      subst el
      simp! only [f22, ps_terms_of]
      refine ⟨f, rfl, hi, ?_⟩
      simp! only []
      refine pturns_allT Tm.val (fun _ => true) (fun t ht k hk => ?_) ?_
      · simp! only [f16, ps_is_name]
        refine ⟨tmv_ok S t, ?_⟩
        rw [isNm_tm (okTm ok ht)]
        cases t with
        | nm c =>
          have hc : c ∈ l2 := hall c (by rw [occ_plain hi]; simpa using ht)
          simp! only [Tm.val, pIn_names, hc, decide_true]
          exact hk
        | num n =>
          simp! only []
          exact hk
      · have : (f.terms.all fun _ => true) = true := by simp
        rw [this]
        simp! only []
        exact h2
    · simp! only []
      refine hK2 _ ?_
      simp! only [f19]
      refine inner_in ?_
      simp! only []
      refine pturns_allT Sn.val (fun _ => true) (fun p hp k hk => ?_) ?_
      · simp! only [f26, ps_all_bound]
        have := inner_deep hp
        refine ⟨p, l2, rows, rfl, rfl, by omega, by omega, inner_ok ok hp, hin p hp, ?_⟩
        simp! only []
        exact hk
      · have : (f.inner.all fun _ => true) = true := by simp
        rw [this]
        simp! only []
        exact h2)
  simp! only [n_all_bound, sub_hd, pIn_t]
  refine ⟨rfl, ?_⟩
  rw [j_qu, qu_hd]
  cases f with
  | qu a x f' =>
    simp! only [Sn.isQu]
    refine hA _ (pstep fun K3 hK3 => ?_)
    simp! only [sub_qu]
    refine ⟨by unfold line; omega, hK3 _ ?_⟩
    simp! only []
    have e : l.map nmV ++ [nmV x] = (l ++ [x]).map nmV := by simp
    rw [e]
    refine go (l ++ [x]) true (by simp; omega) (fun p hp c hc => ?_) (fun z => by simp [Sn.inner] at z)
    simp [Sn.inner] at hp
    subst hp
    by_cases q : c = x
    · simp [q]
    · have := hall c (by simp [Sn.occ, hc, q])
      simp [this]
  | neg f' =>
    simp! only [Sn.isQu]
    refine hB _ ?_
    simp! only []
    exact go l _ (by omega) (fun p hp c hc => by simp [Sn.inner] at hp; subst hp; exact hall c hc) (fun _ => rfl)
  | con w f' g' =>
    simp! only [Sn.isQu]
    refine hB _ ?_
    simp! only []
    exact go l _ (by omega) (fun p hp c hc => by simp [Sn.inner] at hp; rcases hp with rfl | rfl <;> exact hall c (by simp [Sn.occ, hc])) (fun _ => rfl)
  | _ =>
    simp! only [Sn.isQu]
    refine hB _ ?_
    simp! only []
    exact go l _ (by omega) (fun p hp => by simp [Sn.inner] at hp) (fun _ => rfl)
def ps_names_fit : PSpec := fun vs S Q _ => match vs with
  | [.d v] => ∃ (f : Sn) (rows : Nat), v = f.val ∧ f.deep ≤ 20 ∧ f.parts ≤ 20 ∧ f.Ok rows ∧ Q (.d (.bl f.fitB))
  | _ => False
theorem count_names (c : Nat) : ∀ l : List Nat, countV (nmV c) (l.map nmV) = l.count c
  | [] => rfl
  | d :: l => by
    rw [List.map_cons, countV, count_names c l, List.count_cons]
    have : (nmV d).veq (nmV c) = decide (d = c) := by
      unfold nmV
      rw [veq_str, decide_eq_decide]
      exact nmS_inj
    rw [this]
    by_cases q : d = c
    · simp [q]
      omega
    · simp [q]
theorem bound_lt {rows : Nat} : ∀ {f : Sn}, f.Ok rows → ∀ c ∈ f.bound, c < 26
  | .less _ _, _, c, h => by simp [Sn.bound] at h
  | .same _ _, _, c, h => by simp [Sn.bound] at h
  | .sum _ _ _, _, c, h => by simp [Sn.bound] at h
  | .sign _ _ _, _, c, h => by simp [Sn.bound] at h
  | .neg f, o, c, h => bound_lt (f := f) o c h
  | .con _ f g, o, c, h => by
    rcases List.mem_append.mp h with q | q
    · exact bound_lt (f := f) o.2.1 c q
    · exact bound_lt (f := g) o.2.2 c q
  | .qu _ d f, o, c, h => by
    rcases List.mem_cons.mp h with q | q
    · rw [q]; exact o.1
    · exact bound_lt (f := f) o.2 c q
theorem occ_lt {rows : Nat} : ∀ {f : Sn}, f.Ok rows → ∀ c, f.occ c = true → c < 26
  | .less t u, o, c, h => by
    have : Tm.nm c ∈ (Sn.less t u).terms := by simpa [Sn.occ] using h
    exact okTm (rows := rows) o this
  | .same t u, o, c, h => by
    have : Tm.nm c ∈ (Sn.same t u).terms := by simpa [Sn.occ] using h
    exact okTm (rows := rows) o this
  | .sum t u v, o, c, h => by
    have : Tm.nm c ∈ (Sn.sum t u v).terms := by simpa [Sn.occ] using h
    exact okTm (rows := rows) o this
  | .sign r t s, o, c, h => by
    have : Tm.nm c ∈ (Sn.sign r t s).terms := by simpa [Sn.occ] using h
    exact okTm (rows := rows) o this
  | .neg f, o, c, h => occ_lt (f := f) o c h
  | .con _ f g, o, c, h => by
    simp only [Sn.occ, Bool.or_eq_true] at h
    rcases h with q | q
    · exact occ_lt (f := f) o.2.1 c q
    · exact occ_lt (f := g) o.2.2 c q
  | .qu _ d f, o, c, h => by
    simp only [Sn.occ, Bool.and_eq_true] at h
    exact occ_lt (f := f) o.2 c h.1
theorem w_names_fit {g : PCfg} (f23 : g.fn 23 = some (ps_free_of 20)) (f24 : g.fn 24 = some (ps_bound_of 20)) (f26 : g.fn 26 = some (ps_all_bound 20)) (hn : g.G.cv "NAMES" = some (.int 4)) : Wp g ps_names_fit n_names_fit b_names_fit := by
  intro args S Q E h
  unfold ps_names_fit at h
  split at h <;> first | contradiction | skip
  obtain ⟨f, rows, rfl, hd, hp, ok, h2⟩ := h
  have hbl := bound_len f
  have hfl := free_len f
  unfold b_names_fit
  refine pstep fun K hK => ?_
  simp! only [n_names_fit, f24, ps_bound_of]
  refine ⟨f, rfl, hd, by omega, ?_⟩
  simp! only []
  refine hK _ (pstep fun K2 hK2 => ?_)
  simp! only [f23, ps_free_of]
  refine ⟨f, rows, rfl, hd, ok, ?_⟩
  simp! only []
  refine hK2 _ (pstep fun K3 hK3 => pite_step fun A B hA hB => ?_)
  simp! only [hn]
  refine ⟨fun z => hA _ ?_, fun z => hB _ ?_⟩
  · simp! only []
    have z := of_decide_eq_true z
    have : f.fitB = false := by
      unfold Sn.fitB
      rw [decide_eq_false (by omega), Bool.false_and]
    rw [this] at h2
    exact h2
  · have z := of_decide_eq_false z
    simp! only []
    refine hK3 _ ?_
    simp! only []
    have e : f.fitB = f.bound.all fun c => decide (f.bound.count c = 1) && !f.occ c := by
      unfold Sn.fitB
      rw [decide_eq_true (by omega), Bool.true_and]
    refine pturns_allT nmV (fun c => decide (f.bound.count c = 1) && !f.occ c) (fun c hc k hk => ?_) ?_
    · have hcl := bound_lt ok c hc
      have e0 : (nmV c).dat = true := rfl
      have e1 : (nmV c).dep ≤ 60 := by show 0 ≤ 60; omega
      have e2 : decide (((f.bound.count c : Nat) : Int) = 1) = decide (f.bound.count c = 1) := by rw [decide_eq_decide]; omega
      have e3 : decide (c ∈ f.free) = f.occ c := by
        rw [Bool.eq_iff_iff]
        simp [free_mem, hcl]
      simp! only [pMt, pRecv, Option.isSome_some, e0, e1, names_dats, count_names, e2, decide_true, Bool.and_self, pNin_names, e3]
      refine ⟨fun q => ?_, fun q => ?_⟩
      · rw [q] at hk
        exact hk
      · rw [q] at hk
        exact hk
    · simp! only []
      rw [← e]
      refine ⟨fun q => ?_, fun q => ?_⟩
      · simp! only [f26, ps_all_bound]
        refine ⟨f, f.free, rows, rfl, rfl, hd, by omega, ok, fun c hc => free_mem.mpr ⟨occ_lt ok c hc, hc⟩, ?_⟩
        simp! only []
        rw [q] at h2
        exact h2
      · rw [q] at h2
        exact h2
end DL

set_option autoImplicit true
set_option Elab.async false
set_option autoImplicit false
set_option linter.all false
set_option maxRecDepth 100000
set_option maxHeartbeats 4000000
/-! Own layer, plain: a sentence is asked for (walks). -/
namespace DL
open PySem
local macro_rules
  | `(tactic| simp! only [$ls,*]) => `(tactic| try simp only [pSs, pS, pE, pEs, pO, pI, pIs, pC, pIf, pAsg, pAsgs, pSetI, pRet, pX, pMove, pUn, pBin, pLt_i, pLe_i, pGt_i, pGe_i, pLt_t, pEq_i, pNe_i, pEq_s, pNe_s, pEq_b, pNe_b, pIn_m, pNin_m, pSub_l, pSub_tup, pSub_lst, pSub_m, pSub_str, pSlice, pBt_len_l, pBt_tuple_l, pBt_list_l, pBt_len_m, pBt_len_tup, pBt_len_lst, pBt_len_str, pBt_list_tup, pBt_tuple_tup, pBt_int_int, pBt_int_bl, pBt_max2, pBt_min2, pBt_str_int, pIsi, pRecv, pMt, wBin, wSub, wSlice, wBt, wRng, startP_cons, startP_nil, List.replicate, getP_0, getP_s, withO_s, withB_b, withD_d, withPB_d, withPI_d, bor_d, bor_l, bor_m, isP_d, isP_l, isP_m, okA_d, okA_l, okA_m, lof_l, lof_m, lof_int, lof_bl, lof_str, lof_non, lof_tup, lof_lst, dof_l, dof_m, dof_int, dof_bl, dof_str, dof_non, dof_tup, dof_lst, dvl_int, dvl_bl, dvl_str, dvl_non, dvl_tup, dvl_lst, ds_nil, ds_cons, omap_some, pSee_d, iterP_l, iterP_tup, enP_l, enP_tup, pLend, see_int, see_bl, see_str, see_non, dep_int, dep_bl, dep_str, dep_non, Nat.zero_min, Nat.min_zero, Nat.zero_le, bindP_one, bindP_two, bindP_three, List.set_cons_zero, List.set_cons_succ, wipeP, Nat.zero_add, atI_0, atI_1, atI_2, atI_3, isV, frz, frz1, Bool.or_false, Bool.or_true, Bool.true_or, Bool.false_or, true_imp_iff, false_imp_iff, Bool.not_false, Bool.not_true, reduceCtorEq, and_true, true_and, List.length_cons, List.length_nil, List.map_cons, List.map_nil, List.length_map, tt_and, ff_and, $ls,*])
  | `(tactic| simp! only [$ls,*] $loc:location) => `(tactic| try simp only [pSs, pS, pE, pEs, pO, pI, pIs, pC, pIf, pAsg, pAsgs, pSetI, pRet, pX, pMove, pUn, pBin, pLt_i, pLe_i, pGt_i, pGe_i, pLt_t, pEq_i, pNe_i, pEq_s, pNe_s, pEq_b, pNe_b, pIn_m, pNin_m, pSub_l, pSub_tup, pSub_lst, pSub_m, pSub_str, pSlice, pBt_len_l, pBt_tuple_l, pBt_list_l, pBt_len_m, pBt_len_tup, pBt_len_lst, pBt_len_str, pBt_list_tup, pBt_tuple_tup, pBt_int_int, pBt_int_bl, pBt_max2, pBt_min2, pBt_str_int, pIsi, pRecv, pMt, wBin, wSub, wSlice, wBt, wRng, startP_cons, startP_nil, List.replicate, getP_0, getP_s, withO_s, withB_b, withD_d, withPB_d, withPI_d, bor_d, bor_l, bor_m, isP_d, isP_l, isP_m, okA_d, okA_l, okA_m, lof_l, lof_m, lof_int, lof_bl, lof_str, lof_non, lof_tup, lof_lst, dof_l, dof_m, dof_int, dof_bl, dof_str, dof_non, dof_tup, dof_lst, dvl_int, dvl_bl, dvl_str, dvl_non, dvl_tup, dvl_lst, ds_nil, ds_cons, omap_some, pSee_d, iterP_l, iterP_tup, enP_l, enP_tup, pLend, see_int, see_bl, see_str, see_non, dep_int, dep_bl, dep_str, dep_non, Nat.zero_min, Nat.min_zero, Nat.zero_le, bindP_one, bindP_two, bindP_three, List.set_cons_zero, List.set_cons_succ, wipeP, Nat.zero_add, atI_0, atI_1, atI_2, atI_3, isV, frz, frz1, Bool.or_false, Bool.or_true, Bool.true_or, Bool.false_or, true_imp_iff, false_imp_iff, Bool.not_false, Bool.not_true, reduceCtorEq, and_true, true_and, List.length_cons, List.length_nil, List.map_cons, List.map_nil, List.length_map, tt_and, ff_and, $ls,*] $loc:location)

def n_need_sentence : List Str := ["hall", "sentence"]
def b_need_sentence : Sms :=
  (.cons (.expr (.call 5 (.cons (.var 0) .nil)))
  (.cons (.ite (.or (.not (.call 20 (.cons (.var 0) (.cons (.var 1) (.cons (.glob "PARTS") .nil))))) (.or (.cmp .gt (.call 21 (.cons (.var 1) .nil)) (.glob "PARTS")) (.not (.call 25 (.cons (.var 1) .nil)))))
    (.cons (.raise 3 "NoSentence")
      .nil)
    .nil)
  .nil))

def n_checked_sentence : List Str := ["hall", "sentence"]
def b_checked_sentence : Sms :=
  (.cons (.expr (.call 27 (.cons (.var 0) (.cons (.var 1) .nil))))
  (.cons (.ret (.var 1))
  .nil))

def n_free : List Str := ["hall", "sentence"]
def b_free : Sms :=
  (.cons (.expr (.call 27 (.cons (.var 0) (.cons (.var 1) .nil))))
  (.cons (.ret (.call 23 (.cons (.var 1) .nil)))
  .nil))

def ps_checked : PSpec := fun vs S Q E => match vs with
  | [.d v] => kn S v = true ∧ (isHall v = true → Q (.d v)) ∧ (isHall v = false → E 1)
  | _ => False
theorem up_checked (vs : List Val) (S : Sto) (Q : KV) (E : Nat → Sto → Prop) (h : up1 ps_checked vs S Q E) : sp_checked vs S Q E := by
  obtain ⟨pvs, S0, Qp, Ep, le, ar, hp, hr, hx⟩ := h
  unfold ps_checked at hp
  split at hp
  · rename_i v
    match vs, ar with
    | [v'], ar =>
      have e1 : v' = v := ar.1
      subst e1
      exact ⟨kn_le le _ hp.1, fun z => hr _ (hp.2.1 z), fun z => hx _ (hp.2.2 z)⟩
    | [], ar => exact ar.elim
    | _ :: _ :: _, ar => exact ar.2.elim
  · exact hp.elim
def HallOk (b : Nat) (Rs : List Row) : Prop := (2 ≤ b ∧ b ≤ 3) ∧ Rs.length ≤ 3 ∧ ∀ R ∈ Rs, R.Ok b
/-- a hall and a sentence, as they are asked for -/
def AskS (S : Sto) (h v : Val) (yes : Prop) (noH noS : Prop) : Prop :=
  (∃ (b : Nat) (Rs : List Row), h = hallV b Rs ∧ HallOk b Rs ∧ okV S v = true ∧ (goodV Rs.length v = true → yes) ∧ (goodV Rs.length v = false → noS)) ∨ (kn S h = true ∧ isHall h = false ∧ noH)
def ps_need_sentence : PSpec := fun vs S Q E => match vs with
  | [.d h, .d v] => AskS S h v (Q (.d .non)) (E 1) (E 3)
  | _ => False
def ps_checked_sentence : PSpec := fun vs S Q E => match vs with
  | [.d h, .d v] => AskS S h v (Q (.d v)) (E 1) (E 3)
  | _ => False
def ps_free : PSpec := fun vs S Q E => match vs with
  | [.d h, .d v] => AskS S h v (∀ (f : Sn) (rows : Nat), v = f.val → f.Ok rows → Q (.l true (f.free.map nmV))) (E 1) (E 3)
  | _ => False
structure SentG (g : PCfg) : Prop where
  f5 : g.fn 5 = some ps_checked
  f20 : g.fn 20 = some (ps_is_built 21)
  f21 : g.fn 21 = some (ps_parts 20)
  f25 : g.fn 25 = some ps_names_fit
  cp : g.G.cv "PARTS" = some (.int 20)
theorem w_need_sentence {g : PCfg} (G : SentG g) : Wp g ps_need_sentence n_need_sentence b_need_sentence := by
  intro args S Q E h
  unfold ps_need_sentence at h
  split at h <;> first | contradiction | skip
  rename_i hv v
  unfold b_need_sentence
  refine pstep fun K hK => ?_
  simp! only [n_need_sentence, G.f5, ps_checked]
  rcases h with ⟨b, Rs, rfl, hh, hok, yes, no⟩ | ⟨h1, h2, h3⟩
  · refine ⟨hall_kn S b Rs, fun _ => ?_, fun z => ?_⟩
    · simp! only []
      refine hK _ (pstep fun K2 hK2 => pite_step fun A B hA hB => ?_)
      have bad : goodV Rs.length v = false → A [some (.d (hallV b Rs)), some (.d v)] := fun z => hA _ (by
        refine pstep fun K3 hK3 => ?_
        simp! only []
        exact no z)
      simp! only [G.f20, ps_is_built, G.cp]
      have hl := hh.2.1
      refine ⟨20, .int b, Rs.map Row.val, rfl, by omega, rfl, by rw [List.length_map]; omega, hok, ?_⟩
      rw [List.length_map]
      simp! only []
      refine ⟨fun z => bad ?_, fun z => ?_⟩
      · have z : snOf Rs.length 20 v = none := by simpa using z
        unfold goodV
        rw [z]
      · have z : (snOf Rs.length 20 v).isSome = true := by simpa using z
        obtain ⟨f, e⟩ := Option.isSome_iff_exists.mp z
        obtain ⟨rfl, o, hd⟩ := snOf_some _ _ _ e
        have eg : goodV Rs.length f.val = (decide (f.parts ≤ 20) && f.fitB) := by
          unfold goodV
          rw [e]
        simp only [G.f21, ps_parts]
        refine ⟨f, rfl, by omega, ?_⟩
        simp! only []
        refine ⟨fun z => bad ?_, fun z => ?_⟩
        · have z := of_decide_eq_true z
          rw [eg, decide_eq_false (by omega), Bool.false_and]
        · have z := of_decide_eq_false z
          simp only [G.f25, ps_names_fit]
          refine ⟨f, Rs.length, rfl, hd, by omega, o, ?_⟩
          rw [decide_eq_true (by omega), Bool.true_and] at eg
          simp! only []
          refine ⟨fun z => bad ?_, fun z => hB _ ?_⟩
          · rw [eg]
            simpa using z
          · simp! only []
            refine hK2 _ ?_
            simp! only []
            exact yes (by rw [eg]; simpa using z)
    · rw [isHall_val hh.1 hh.2.1 hh.2.2] at z
      cases z
  · exact ⟨h1, fun z => (by rw [h2] at z; cases z), fun _ => h3⟩
theorem AskS.imp {S : Sto} {h v : Val} {y1 y2 a1 a2 b1 b2 : Prop} (q : AskS S h v y1 a1 b1) (hy : ∀ rows, goodV rows v = true → y1 → y2) (ha : a1 → a2) (hb : b1 → b2) : AskS S h v y2 a2 b2 := by
  rcases q with ⟨b, Rs, rfl, hh, hok, yes, no⟩ | ⟨h1, h2, h3⟩
  · exact .inl ⟨b, Rs, rfl, hh, hok, fun z => hy _ z (yes z), fun z => hb (no z)⟩
  · exact .inr ⟨h1, h2, ha h3⟩
theorem w_checked_sentence {g : PCfg} (f27 : g.fn 27 = some ps_need_sentence) : Wp g ps_checked_sentence n_checked_sentence b_checked_sentence := by
  intro args S Q E h
  unfold ps_checked_sentence at h
  split at h <;> first | contradiction | skip
  unfold b_checked_sentence
  refine pstep fun K hK => ?_
  simp! only [n_checked_sentence, f27, ps_need_sentence]
  refine h.imp (fun rows z q => ?_) id id
  simp! only []
  refine hK _ ?_
  simp! only []
  exact q
theorem w_free {g : PCfg} (f27 : g.fn 27 = some ps_need_sentence) (f23 : g.fn 23 = some (ps_free_of 20)) : Wp g ps_free n_free b_free := by
  intro args S Q E h
  unfold ps_free at h
  split at h <;> first | contradiction | skip
  unfold b_free
  refine pstep fun K hK => ?_
  simp! only [n_free, f27, ps_need_sentence]
  refine h.imp (fun rows z q => ?_) id id
  simp! only []
  obtain ⟨f, rfl, o, h2, h3⟩ := goodV_some z
  refine hK _ ?_
  simp! only [f23, ps_free_of]
  have := f.deep_parts
  refine ⟨f, rows, rfl, by omega, o, ?_⟩
  simp! only []
  exact q f rows rfl o
theorem Sn.Ok.mono {r1 r2 : Nat} (h : r1 ≤ r2) : ∀ {f : Sn}, f.Ok r1 → f.Ok r2
  | .less _ _, o => o
  | .same _ _, o => o
  | .sum _ _ _, o => o
  | .sign _ _ _, o => ⟨Nat.lt_of_lt_of_le o.1 h, o.2⟩
  | .neg f, o => Sn.Ok.mono h (f := f) o
  | .con _ f g, o => ⟨o.1, Sn.Ok.mono h (f := f) o.2.1, Sn.Ok.mono h (f := g) o.2.2⟩
  | .qu _ _ f, o => ⟨o.1, Sn.Ok.mono h (f := f) o.2⟩
theorem val_inj {f g : Sn} {r1 r2 : Nat} (h1 : f.Ok r1) (h2 : g.Ok r2) (e : f.val = g.val) : f = g := by
  have a := snOf_val (rows := max r1 r2) f (max f.deep g.deep) (h1.mono (Nat.le_max_left _ _)) (Nat.le_max_left _ _)
  have b := snOf_val (rows := max r1 r2) g (max f.deep g.deep) (h2.mono (Nat.le_max_right _ _)) (Nat.le_max_right _ _)
  rw [e, b] at a
  exact (Option.some.inj a).symm
end DL

set_option autoImplicit true
set_option Elab.async false
set_option autoImplicit false
set_option linter.all false
set_option maxRecDepth 100000
set_option maxHeartbeats 8000000
/-! Own layer, plain: sentences are drawn. -/
namespace DL
open PySem
def n__law_term : List Str := ["_law_script", "_law_m", "_law_names"]
def b__law_term : Sms :=
  (.cons (.ite (.drop (.or (.cmp .eq (.var 2) (.lst .nil)) (.cmp .eq (.call 102 (.cons (.var 0) (.cons (.var 1) (.cons (.int 5) .nil)))) (.int 0))))
    (.cons (.ret (.call 102 (.cons (.var 0) (.cons (.var 1) (.cons (.sub (.lst (.cons (.int 3) (.cons (.int 7) (.cons (.int 21) .nil)))) (.call 102 (.cons (.var 0) (.cons (.var 1) (.cons (.int 3) .nil))))) .nil)))))
      .nil)
    .nil)
  (.cons (.ret (.sub (.var 2) (.call 102 (.cons (.var 0) (.cons (.var 1) (.cons (.blt .len (.cons (.var 2) .nil)) .nil))))))
  .nil))

def n__law_plain : List Str := ["_law_script", "_law_m", "_law_hall_here", "_law_names", "_law_way", "_law_one", "_law_other"]
def b__law_plain : Sms :=
  (.cons (.asg 4 (.call 102 (.cons (.var 0) (.cons (.var 1) (.cons (.int 8) .nil)))))
  (.cons (.asg 5 (.call 105 (.cons (.var 0) (.cons (.var 1) (.cons (.var 3) .nil)))))
  (.cons (.ite (.and (.cmp .lt (.var 4) (.int 3)) (.cmp .ne (.sub (.var 2) (.int 1)) (.tup .nil)))
    (.cons (.ret (.tup (.cons (.str "sign") (.cons (.call 102 (.cons (.var 0) (.cons (.var 1) (.cons (.blt .len (.cons (.sub (.var 2) (.int 1)) .nil)) .nil)))) (.cons (.var 5) (.cons (.call 102 (.cons (.var 0) (.cons (.var 1) (.cons (.int 3) .nil)))) .nil))))))
      .nil)
    .nil)
  (.cons (.asg 6 (.call 105 (.cons (.var 0) (.cons (.var 1) (.cons (.var 3) .nil)))))
  (.cons (.ite (.cmp .lt (.var 4) (.int 5))
    (.cons (.ret (.tup (.cons (.str "less") (.cons (.var 5) (.cons (.var 6) .nil)))))
      .nil)
    .nil)
  (.cons (.ite (.cmp .eq (.var 4) (.int 5))
    (.cons (.ret (.tup (.cons (.str "same") (.cons (.var 5) (.cons (.var 6) .nil)))))
      .nil)
    .nil)
  (.cons (.ret (.tup (.cons (.str "sum") (.cons (.var 5) (.cons (.var 6) (.cons (.call 105 (.cons (.var 0) (.cons (.var 1) (.cons (.var 3) .nil)))) .nil))))))
  .nil)))))))

def n__law_free : List Str := ["_law_script", "_law_m", "_law_hall_here", "_law_names", "_law_deep", "_law_way", "_law_one"]
def b__law_free : Sms :=
  (.cons (.asg 5 (.call 102 (.cons (.var 0) (.cons (.var 1) (.cons (.int 7) .nil)))))
  (.cons (.ite (.or (.cmp .eq (.var 4) (.int 0)) (.cmp .lt (.var 5) (.int 2)))
    (.cons (.ret (.call 106 (.cons (.var 0) (.cons (.var 1) (.cons (.var 2) (.cons (.var 3) .nil))))))
      .nil)
    .nil)
  (.cons (.asg 6 (.call 107 (.cons (.var 0) (.cons (.var 1) (.cons (.var 2) (.cons (.var 3) (.cons (.bin .sub (.var 4) (.int 1)) .nil)))))))
  (.cons (.ite (.cmp .eq (.var 5) (.int 2))
    (.cons (.ret (.tup (.cons (.str "not") (.cons (.var 6) .nil))))
      .nil)
    .nil)
  (.cons (.ret (.tup (.cons (.sub (.lst (.cons (.str "and") (.cons (.str "or") (.cons (.str "then") (.cons (.str "and") .nil))))) (.bin .sub (.var 5) (.int 3))) (.cons (.var 6) (.cons (.call 107 (.cons (.var 0) (.cons (.var 1) (.cons (.var 2) (.cons (.var 3) (.cons (.bin .sub (.var 4) (.int 1)) .nil)))))) .nil)))))
  .nil)))))

def sp_lterm : Spec := fun vs S Q _ => match vs with
  | [.lst sc, .ref b, .ref n] => ∃ (ns : List Int) (m : Nat) (l : List Nat), sc = ns.map .int ∧ S b = some (.lst [.int m]) ∧ S n = some (.lst (l.map nmV)) ∧ l ≠ [] ∧ (∀ c ∈ l, c < 26) ∧ l.length ≤ 26 ∧
      ∀ (t : Tm) (j : Nat), t.Ok → (∀ c, t = .nm c → c ∈ l) → Q t.val (up S b (.lst [.int j]))
  | _ => False
def sp_lplain : Spec := fun vs S Q _ => match vs with
  | [.lst sc, .ref b, hv, .ref n] => ∃ (ns : List Int) (m : Nat) (l : List Nat) (bs : Nat) (Rs : List Row), sc = ns.map .int ∧ S b = some (.lst [.int m]) ∧ hv = hallV bs Rs ∧ Rs ≠ [] ∧ Rs.length ≤ 3 ∧ S n = some (.lst (l.map nmV)) ∧ l ≠ [] ∧ (∀ c ∈ l, c < 26) ∧ l.length ≤ 26 ∧
      ∀ (f : Sn) (j : Nat), f.inner = [] → f.Ok Rs.length → (∀ c, f.occ c = true → c ∈ l) → Q f.val (up S b (.lst [.int j]))
  | _ => False
/-- without some and all -/
def Sn.qf : Sn → Bool
  | .neg f => f.qf
  | .con _ f g => f.qf && g.qf
  | .qu _ _ _ => false
  | _ => true
def sp_lfree (d : Nat) : Spec := fun vs S Q _ => match vs with
  | [.lst sc, .ref b, hv, .ref n, .int dp] => ∃ (ns : List Int) (m : Nat) (l : List Nat) (bs : Nat) (Rs : List Row) (k : Nat), sc = ns.map .int ∧ S b = some (.lst [.int m]) ∧ hv = hallV bs Rs ∧ Rs ≠ [] ∧ Rs.length ≤ 3 ∧ S n = some (.lst (l.map nmV)) ∧ l ≠ [] ∧ (∀ c ∈ l, c < 26) ∧ l.length ≤ 26 ∧ dp = k ∧ k < d ∧
      ∀ (f : Sn) (j : Nat), f.qf = true → f.deep ≤ k + 1 → f.Ok Rs.length → (∀ c, f.occ c = true → c ∈ l) → Q f.val (up S b (.lst [.int j]))
  | _ => False
theorem see_names {S : Sto} {n : Addr} {l : List Nat} (h : S n = some (.lst (l.map nmV))) : S.see 3 (.ref n) = some (.lst (l.map nmV)) := by
  rw [Sto.see]
  rw [if_neg (show ¬ (Val.ref n).dat = true from fun z => by cases z)]
  simp only [h, sees_dats (names_dats l)]
  rfl
theorem see_nil {S : Sto} {n : Addr} (h : S n = some (.lst [])) : S.see 3 (.ref n) = some (.lst []) := see_names (l := []) h
theorem veq_lnil (xs : List Val) : (Val.lst xs).veq (.lst []) = xs.isEmpty := by
  cases xs <;> simp [Val.veq, Val.py, Val.pys, PyData.eqv, PyData.eqvAll]
theorem names_dep (l : List Nat) : Val.deps (l.map nmV) ≤ 0 := deps_map nmV 0 (fun _ => Nat.le_refl _) l
theorem le_kept {S S' : Sto} {b : Addr} {o o2 : Ob} {v : Val} (h : Sto.le (up S b o) S') (hb : S b = some o2) : Sto.le (up S b o) (keep S S' v) := fun a ob q => by
  have e := h a ob q
  have hs : (S a).isSome = true := by
    by_cases z : a = b
    · subst z; rw [hb]; rfl
    · rw [up_get z] at q; rw [q]; rfl
  unfold keep
  rw [hs, Bool.true_or, if_pos rfl]
  exact e
theorem le_bump2 {S S1 : Sto} {b : Addr} {i j : Nat} (h : Sto.le (up S b (.lst [.int i])) S1) : Sto.le (up S b (.lst [.int (j : Nat)])) (up S1 b (.lst [.int (j : Nat)])) := le_bump h
theorem w_lterm {G : Cfg} (g : DrawG G) : Wk G sp_lterm n__law_term b__law_term := by
  intro args S Q E h
  unfold sp_lterm at h
  split at h <;> first | contradiction | skip
  rename_i sc b n
  obtain ⟨ns, m, l, rfl, hb, hn, hne, hl26, hll, h2⟩ := h
  have hbn : n ≠ b := fun z => by
    subst z
    rw [hb] at hn
    cases l with
    | nil => exact hne rfl
    | cons c l => simp [nmV] at hn
  unfold b__law_term
  refine step fun K hK => ite_step fun A B hA hB => ?_
  simp only [n__law_term, wSs, wS, wE, wEs, wO, wI, wC, wIf, wBin, wSub, startE_cons, startE_nil, List.replicate, getV_0, getV_s, withO_s, withB_b, bind_one, bind_two, List.set_cons_zero, List.set_cons_succ, wipeE, Nat.zero_add, atI_0, atI_1, atI_2, atI_3, see_int, see_bl, see_str, see_non, dep_int, dep_bl, dep_str, dep_non, Nat.zero_min, Nat.min_zero, Nat.zero_le, true_imp_iff, false_imp_iff, Bool.not_false, Bool.not_true, reduceCtorEq, and_true, true_and, List.length_cons, List.length_nil]
  intro p hp
  have hpn : n ≠ p := ne_new hn hp
  have hpb : b ≠ p := ne_new hb hp
  have e1 : (up S p (.lst [])).see 3 (.ref n) = some (.lst (l.map nmV)) := see_names (by rw [up_get hpn]; exact hn)
  have e2 : (up S p (.lst [])).see 3 (.ref p) = some (.lst []) := see_nil DL.up_same
  have e3 : (Val.lst (l.map nmV)).veq (.lst []) = false := by
    rw [veq_lnil]
    cases l with
    | nil => exact absurd rfl hne
    | cons c l => rfl
  have e4 : min (Val.lst (l.map nmV)).dep (Val.lst []).dep ≤ 100 := by
    have : (Val.lst (l.map nmV)).dep = Val.deps (l.map nmV) + 1 := rfl
    have := names_dep l
    omega
  simp only [wCmp, e1, e2, wSs, wS, wE, wEs, wO, wI, wC, wIf, wBin, wSub, startE_cons, startE_nil, List.replicate, getV_0, getV_s, withO_s, withB_b, bind_one, bind_two, List.set_cons_zero, List.set_cons_succ, wipeE, Nat.zero_add, atI_0, atI_1, atI_2, atI_3, see_int, see_bl, see_str, see_non, dep_int, dep_bl, dep_str, dep_non, Nat.zero_min, Nat.min_zero, Nat.zero_le, true_imp_iff, false_imp_iff, Bool.not_false, Bool.not_true, reduceCtorEq, and_true, true_and, List.length_cons, List.length_nil, e3, e4, g.f102, sp_next]
  refine ⟨ns, m, rfl, by rw [up_get hpb]; exact hb, by decide, fun r r0 r1 => ?_⟩
  simp only [wSs, wS, wE, wEs, wO, wI, wC, wIf, wBin, wSub, startE_cons, startE_nil, List.replicate, getV_0, getV_s, withO_s, withB_b, bind_one, bind_two, List.set_cons_zero, List.set_cons_succ, wipeE, Nat.zero_add, atI_0, atI_1, atI_2, atI_3, see_int, see_bl, see_str, see_non, dep_int, dep_bl, dep_str, dep_non, Nat.zero_min, Nat.min_zero, Nat.zero_le, true_imp_iff, false_imp_iff, Bool.not_false, Bool.not_true, reduceCtorEq, and_true, true_and, List.length_cons, List.length_nil, wCmp, int_eq]
  have le1 : Sto.le (up S b (.lst [.int (m + 1 : Nat)])) (keep S (up (up S p (.lst [])) b (.lst [.int (m + 1 : Nat)])) (.bl (decide (r = 0)))) := le_kept (le_bump2 (i := m) (by rw [up_self hb]; exact le_new (.refl _) hp)) hb
  generalize keep S (up (up S p (.lst [])) b (.lst [.int (m + 1 : Nat)])) (.bl (decide (r = 0))) = S1 at le1
  have hb1 : S1 b = some (.lst [.int (m + 1 : Nat)]) := le1 _ _ DL.up_same
  have hn1 : S1 n = some (.lst (l.map nmV)) := le1 _ _ (by rw [up_get hbn]; exact hn)
  refine ⟨fun z => hA _ _ ?_, fun z => hB _ _ ?_⟩
  · simp only [wSs, wS, wE, wEs, wO, wI, wC, wIf, wBin, wSub, startE_cons, startE_nil, List.replicate, getV_0, getV_s, withO_s, withB_b, bind_one, bind_two, List.set_cons_zero, List.set_cons_succ, wipeE, Nat.zero_add, atI_0, atI_1, atI_2, atI_3, see_int, see_bl, see_str, see_non, dep_int, dep_bl, dep_str, dep_non, Nat.zero_min, Nat.min_zero, Nat.zero_le, true_imp_iff, false_imp_iff, Bool.not_false, Bool.not_true, reduceCtorEq, and_true, true_and, List.length_cons, List.length_nil]
    intro p2 hp2
    have hpb2 : b ≠ p2 := ne_new hb1 hp2
    simp only [g.f102, sp_next]
    refine ⟨ns, m + 1, rfl, by rw [up_get hpb2]; exact hb1, by decide, fun r2 z0 z1 => ?_⟩
    have hp2b : p2 ≠ b := Ne.symm hpb2
    obtain ⟨r2, rfl⟩ := Int.eq_ofNat_of_zero_le z0
    have hr2 : r2 < 3 := by omega
    simp only [wSs, wS, wE, wEs, wO, wI, wC, wIf, wBin, wSub, startE_cons, startE_nil, List.replicate, getV_0, getV_s, withO_s, withB_b, bind_one, bind_two, List.set_cons_zero, List.set_cons_succ, wipeE, Nat.zero_add, atI_0, atI_1, atI_2, atI_3, see_int, see_bl, see_str, see_non, dep_int, dep_bl, dep_str, dep_non, Nat.zero_min, Nat.min_zero, Nat.zero_le, true_imp_iff, false_imp_iff, Bool.not_false, Bool.not_true, reduceCtorEq, and_true, true_and, List.length_cons, List.length_nil, up_get hp2b, DL.up_same, atI_nat]
    have e5 : ∃ q : Nat, [Val.int 3, Val.int 7, Val.int 21][r2]? = some (.int q) ∧ 0 < q ∧ q ≤ 21 := by
      match r2, hr2 with
      | 0, _ => exact ⟨3, rfl, by omega, by omega⟩
      | 1, _ => exact ⟨7, rfl, by omega, by omega⟩
      | 2, _ => exact ⟨21, rfl, by omega, by omega⟩
    obtain ⟨q, e5, q0, q1⟩ := e5
    rw [e5]
    simp only [wSs, wS, wE, wEs, wO, wI, wC, wIf, wBin, wSub, startE_cons, startE_nil, List.replicate, getV_0, getV_s, withO_s, withB_b, bind_one, bind_two, List.set_cons_zero, List.set_cons_succ, wipeE, Nat.zero_add, atI_0, atI_1, atI_2, atI_3, see_int, see_bl, see_str, see_non, dep_int, dep_bl, dep_str, dep_non, Nat.zero_min, Nat.min_zero, Nat.zero_le, true_imp_iff, false_imp_iff, Bool.not_false, Bool.not_true, reduceCtorEq, and_true, true_and, List.length_cons, List.length_nil]
    refine ⟨ns, m + 1 + 1, rfl, DL.up_same, by omega, fun r3 y0 y1 => ?_⟩
    obtain ⟨r3, rfl⟩ := Int.eq_ofNat_of_zero_le y0
    rw [up_up]
    refine ⟨_, le_bump2 (i := m + 1) (le_new le1 hp2), h2 (.num r3) (m + 1 + 1 + 1) (by show r3 ≤ 20; omega) (fun c z => by cases z)⟩
  · simp only [wSs, wS, wE, wEs, wO, wI, wC, wIf, wBin, wSub, startE_cons, startE_nil, List.replicate, getV_0, getV_s, withO_s, withB_b, bind_one, bind_two, List.set_cons_zero, List.set_cons_succ, wipeE, Nat.zero_add, atI_0, atI_1, atI_2, atI_3, see_int, see_bl, see_str, see_non, dep_int, dep_bl, dep_str, dep_non, Nat.zero_min, Nat.min_zero, Nat.zero_le, true_imp_iff, false_imp_iff, Bool.not_false, Bool.not_true, reduceCtorEq, and_true, true_and, List.length_cons, List.length_nil]
    refine hK _ _ ?_
    simp only [wSs, wS, wE, wEs, wO, wI, wC, wIf, wBin, wSub, startE_cons, startE_nil, List.replicate, getV_0, getV_s, withO_s, withB_b, bind_one, bind_two, List.set_cons_zero, List.set_cons_succ, wipeE, Nat.zero_add, atI_0, atI_1, atI_2, atI_3, see_int, see_bl, see_str, see_non, dep_int, dep_bl, dep_str, dep_non, Nat.zero_min, Nat.min_zero, Nat.zero_le, true_imp_iff, false_imp_iff, Bool.not_false, Bool.not_true, reduceCtorEq, and_true, true_and, List.length_cons, List.length_nil, wBt, hn1, List.length_map, g.f102, sp_next]
    refine ⟨ns, m + 1, rfl, hb1, by have := List.length_pos_iff.mpr hne; omega, fun r2 z0 z1 => ?_⟩
    obtain ⟨r2, rfl⟩ := Int.eq_ofNat_of_zero_le z0
    have hr2 : r2 < l.length := by omega
    have e5 : (l.map nmV)[r2]? = some (nmV l[r2]) := by rw [List.getElem?_map, List.getElem?_eq_getElem hr2]; rfl
    simp only [wSs, wS, wE, wEs, wO, wI, wC, wIf, wBin, wSub, startE_cons, startE_nil, List.replicate, getV_0, getV_s, withO_s, withB_b, bind_one, bind_two, List.set_cons_zero, List.set_cons_succ, wipeE, Nat.zero_add, atI_0, atI_1, atI_2, atI_3, see_int, see_bl, see_str, see_non, dep_int, dep_bl, dep_str, dep_non, Nat.zero_min, Nat.min_zero, Nat.zero_le, true_imp_iff, false_imp_iff, Bool.not_false, Bool.not_true, reduceCtorEq, and_true, true_and, List.length_cons, List.length_nil, up_get hbn, hn1, atI_nat, e5]
    exact ⟨_, le_bump2 (i := m + 1) le1, h2 (.nm l[r2]) (m + 1 + 1) (hl26 _ (List.getElem_mem hr2)) (fun c z => by cases z; exact List.getElem_mem hr2)⟩
theorem w_lplain {G : Cfg} (g : DrawG G) (f105 : G.fn 105 = some sp_lterm) : Wk G sp_lplain n__law_plain b__law_plain := by
  intro args S Q E h
  unfold sp_lplain at h
  split at h <;> first | contradiction | skip
  rename_i sc b hv n
  obtain ⟨ns, m, l, bs, Rs, rfl, hb, rfl, hRne, hRl, hn, hne, hl26, hll, h2⟩ := h
  have hbn : n ≠ b := fun z => by
    subst z
    rw [hb] at hn
    cases l with
    | nil => exact hne rfl
    | cons c l => simp [nmV] at hn
  have fin : ∀ (f : Sn) (j : Nat) (S' : Sto), Sto.le (up S b (.lst [.int j])) S' → f.inner = [] → f.Ok Rs.length → (∀ c, f.occ c = true → c ∈ l) → rtOf Q f.val S' := fun f j S' le h3 h4 h5 => ⟨_, le, h2 f j h3 h4 h5⟩
  have hn' : ∀ j : Nat, up S b (.lst [.int j]) n = some (.lst (l.map nmV)) := fun j => by rw [up_get hbn]; exact hn
  have hRp : 0 < Rs.length := List.length_pos_iff.mpr hRne
  unfold b__law_plain
  refine step fun K hK => ?_
  simp only [n__law_plain, wSs, wS, wE, wEs, wO, wI, wC, wIf, wBin, wSub, startE_cons, startE_nil, List.replicate, getV_0, getV_s, withO_s, withB_b, bind_one, bind_two, List.set_cons_zero, List.set_cons_succ, wipeE, Nat.zero_add, atI_0, atI_1, atI_2, atI_3, see_int, see_bl, see_str, see_non, dep_int, dep_bl, dep_str, dep_non, Nat.zero_min, Nat.min_zero, Nat.zero_le, true_imp_iff, false_imp_iff, Bool.not_false, Bool.not_true, reduceCtorEq, and_true, true_and, List.length_cons, List.length_nil, g.f102, sp_next]
  refine ⟨ns, m, rfl, hb, by decide, fun way w0 w1 => hK _ _ (step fun K2 hK2 => ?_)⟩
  simp only [wSs, wS, wE, wEs, wO, wI, wC, wIf, wBin, wSub, startE_cons, startE_nil, List.replicate, getV_0, getV_s, withO_s, withB_b, bind_one, bind_two, List.set_cons_zero, List.set_cons_succ, wipeE, Nat.zero_add, atI_0, atI_1, atI_2, atI_3, see_int, see_bl, see_str, see_non, dep_int, dep_bl, dep_str, dep_non, Nat.zero_min, Nat.min_zero, Nat.zero_le, true_imp_iff, false_imp_iff, Bool.not_false, Bool.not_true, reduceCtorEq, and_true, true_and, List.length_cons, List.length_nil, f105, sp_lterm]
  refine ⟨ns, m + 1, l, rfl, DL.up_same, hn' _, hne, hl26, hll, fun t1 j1 ho1 ht1 => ?_⟩
  rw [up_up]
  refine hK2 _ _ (step fun K3 hK3 => ite_step fun A B hA hB => ?_)
  have go : K3 [some (.lst (ns.map .int)), some (.ref b), some (hallV bs Rs), some (.ref n), some (.int way), some t1.val, none] (up S b (.lst [.int j1])) := hK3 _ _ (by
    refine step fun K4 hK4 => ?_
    simp only [wSs, wS, wE, wEs, wO, wI, wC, wIf, wBin, wSub, startE_cons, startE_nil, List.replicate, getV_0, getV_s, withO_s, withB_b, bind_one, bind_two, List.set_cons_zero, List.set_cons_succ, wipeE, Nat.zero_add, atI_0, atI_1, atI_2, atI_3, see_int, see_bl, see_str, see_non, dep_int, dep_bl, dep_str, dep_non, Nat.zero_min, Nat.min_zero, Nat.zero_le, true_imp_iff, false_imp_iff, Bool.not_false, Bool.not_true, reduceCtorEq, and_true, true_and, List.length_cons, List.length_nil, f105, sp_lterm]
    refine ⟨ns, j1, l, rfl, DL.up_same, hn' _, hne, hl26, hll, fun t2 j2 ho2 ht2 => ?_⟩
    rw [up_up]
    refine hK4 _ _ (step fun K5 hK5 => ite_step fun A2 B2 hA2 hB2 => ?_)
    simp only [wSs, wS, wE, wEs, wO, wI, wC, wIf, wBin, wSub, startE_cons, startE_nil, List.replicate, getV_0, getV_s, withO_s, withB_b, bind_one, bind_two, List.set_cons_zero, List.set_cons_succ, wipeE, Nat.zero_add, atI_0, atI_1, atI_2, atI_3, see_int, see_bl, see_str, see_non, dep_int, dep_bl, dep_str, dep_non, Nat.zero_min, Nat.min_zero, Nat.zero_le, true_imp_iff, false_imp_iff, Bool.not_false, Bool.not_true, reduceCtorEq, and_true, true_and, List.length_cons, List.length_nil, wCmp]
    refine ⟨fun _ => hA2 _ _ ?_, fun _ => hB2 _ _ ?_⟩
    · simp only [wSs, wS, wE, wEs, wO, wI, wC, wIf, wBin, wSub, startE_cons, startE_nil, List.replicate, getV_0, getV_s, withO_s, withB_b, bind_one, bind_two, List.set_cons_zero, List.set_cons_succ, wipeE, Nat.zero_add, atI_0, atI_1, atI_2, atI_3, see_int, see_bl, see_str, see_non, dep_int, dep_bl, dep_str, dep_non, Nat.zero_min, Nat.min_zero, Nat.zero_le, true_imp_iff, false_imp_iff, Bool.not_false, Bool.not_true, reduceCtorEq, and_true, true_and, List.length_cons, List.length_nil]
      exact fin (.less t1 t2) j2 _ (.refl _) rfl ⟨ho1, ho2⟩ fun c hc => by
        simp [Sn.occ, Sn.terms] at hc
        rcases hc with z | z
        · exact ht1 c z.symm
        · exact ht2 c z.symm
    · simp only [wSs, wS, wE, wEs, wO, wI, wC, wIf, wBin, wSub, startE_cons, startE_nil, List.replicate, getV_0, getV_s, withO_s, withB_b, bind_one, bind_two, List.set_cons_zero, List.set_cons_succ, wipeE, Nat.zero_add, atI_0, atI_1, atI_2, atI_3, see_int, see_bl, see_str, see_non, dep_int, dep_bl, dep_str, dep_non, Nat.zero_min, Nat.min_zero, Nat.zero_le, true_imp_iff, false_imp_iff, Bool.not_false, Bool.not_true, reduceCtorEq, and_true, true_and, List.length_cons, List.length_nil]
      refine hK5 _ _ (step fun K6 hK6 => ite_step fun A3 B3 hA3 hB3 => ?_)
      simp only [wSs, wS, wE, wEs, wO, wI, wC, wIf, wBin, wSub, startE_cons, startE_nil, List.replicate, getV_0, getV_s, withO_s, withB_b, bind_one, bind_two, List.set_cons_zero, List.set_cons_succ, wipeE, Nat.zero_add, atI_0, atI_1, atI_2, atI_3, see_int, see_bl, see_str, see_non, dep_int, dep_bl, dep_str, dep_non, Nat.zero_min, Nat.min_zero, Nat.zero_le, true_imp_iff, false_imp_iff, Bool.not_false, Bool.not_true, reduceCtorEq, and_true, true_and, List.length_cons, List.length_nil, wCmp, int_eq]
      refine ⟨fun _ => hA3 _ _ ?_, fun _ => hB3 _ _ ?_⟩
      · simp only [wSs, wS, wE, wEs, wO, wI, wC, wIf, wBin, wSub, startE_cons, startE_nil, List.replicate, getV_0, getV_s, withO_s, withB_b, bind_one, bind_two, List.set_cons_zero, List.set_cons_succ, wipeE, Nat.zero_add, atI_0, atI_1, atI_2, atI_3, see_int, see_bl, see_str, see_non, dep_int, dep_bl, dep_str, dep_non, Nat.zero_min, Nat.min_zero, Nat.zero_le, true_imp_iff, false_imp_iff, Bool.not_false, Bool.not_true, reduceCtorEq, and_true, true_and, List.length_cons, List.length_nil]
        exact fin (.same t1 t2) j2 _ (.refl _) rfl ⟨ho1, ho2⟩ fun c hc => by
          simp [Sn.occ, Sn.terms] at hc
          rcases hc with z | z
          · exact ht1 c z.symm
          · exact ht2 c z.symm
      · simp only [wSs, wS, wE, wEs, wO, wI, wC, wIf, wBin, wSub, startE_cons, startE_nil, List.replicate, getV_0, getV_s, withO_s, withB_b, bind_one, bind_two, List.set_cons_zero, List.set_cons_succ, wipeE, Nat.zero_add, atI_0, atI_1, atI_2, atI_3, see_int, see_bl, see_str, see_non, dep_int, dep_bl, dep_str, dep_non, Nat.zero_min, Nat.min_zero, Nat.zero_le, true_imp_iff, false_imp_iff, Bool.not_false, Bool.not_true, reduceCtorEq, and_true, true_and, List.length_cons, List.length_nil]
        refine hK6 _ _ ?_
        simp only [wSs, wS, wE, wEs, wO, wI, wC, wIf, wBin, wSub, startE_cons, startE_nil, List.replicate, getV_0, getV_s, withO_s, withB_b, bind_one, bind_two, List.set_cons_zero, List.set_cons_succ, wipeE, Nat.zero_add, atI_0, atI_1, atI_2, atI_3, see_int, see_bl, see_str, see_non, dep_int, dep_bl, dep_str, dep_non, Nat.zero_min, Nat.min_zero, Nat.zero_le, true_imp_iff, false_imp_iff, Bool.not_false, Bool.not_true, reduceCtorEq, and_true, true_and, List.length_cons, List.length_nil, f105, sp_lterm]
        refine ⟨ns, j2, l, rfl, DL.up_same, hn' _, hne, hl26, hll, fun t3 j3 ho3 ht3 => ?_⟩
        rw [up_up]
        exact fin (.sum t1 t2 t3) j3 _ (.refl _) rfl ⟨ho1, ho2, ho3⟩ fun c hc => by
          simp [Sn.occ, Sn.terms] at hc
          rcases hc with z | z | z
          · exact ht1 c z.symm
          · exact ht2 c z.symm
          · exact ht3 c z.symm)
  simp only [wSs, wS, wE, wEs, wO, wI, wC, wIf, wBin, wSub, startE_cons, startE_nil, List.replicate, getV_0, getV_s, withO_s, withB_b, bind_one, bind_two, List.set_cons_zero, List.set_cons_succ, wipeE, Nat.zero_add, atI_0, atI_1, atI_2, atI_3, see_int, see_bl, see_str, see_non, dep_int, dep_bl, dep_str, dep_non, Nat.zero_min, Nat.min_zero, Nat.zero_le, true_imp_iff, false_imp_iff, Bool.not_false, Bool.not_true, reduceCtorEq, and_true, true_and, List.length_cons, List.length_nil, wCmp]
  refine ⟨fun z => ?_, fun z => hB _ _ ?_⟩
  · have ed : (Val.tup (Rs.map Row.val)).dat = true := by
      simp only [Val.dat]
      exact dats_map _ row_dat _
    have e4 : min (Val.tup (Rs.map Row.val)).dep (Val.tup []).dep ≤ 100 := by
      have : (Val.tup []).dep = 1 := rfl
      omega
    have e3 : (Val.tup (Rs.map Row.val)).veq (.tup []) = false := by
      rw [veq_nil]
      cases Rs with
      | nil => exact absurd rfl hRne
      | cons R Rs => rfl
    simp only [wSs, wS, wE, wEs, wO, wI, wC, wIf, wBin, wSub, startE_cons, startE_nil, List.replicate, getV_0, getV_s, withO_s, withB_b, bind_one, bind_two, List.set_cons_zero, List.set_cons_succ, wipeE, Nat.zero_add, atI_0, atI_1, atI_2, atI_3, see_int, see_bl, see_str, see_non, dep_int, dep_bl, dep_str, dep_non, Nat.zero_min, Nat.min_zero, Nat.zero_le, true_imp_iff, false_imp_iff, Bool.not_false, Bool.not_true, reduceCtorEq, and_true, true_and, List.length_cons, List.length_nil, hallV, atI_1, see_dat ed, see_dat (show (Val.tup []).dat = true from rfl), e3, e4]
    refine hA _ _ ?_
    simp only [wSs, wS, wE, wEs, wO, wI, wC, wIf, wBin, wSub, startE_cons, startE_nil, List.replicate, getV_0, getV_s, withO_s, withB_b, bind_one, bind_two, List.set_cons_zero, List.set_cons_succ, wipeE, Nat.zero_add, atI_0, atI_1, atI_2, atI_3, see_int, see_bl, see_str, see_non, dep_int, dep_bl, dep_str, dep_non, Nat.zero_min, Nat.min_zero, Nat.zero_le, true_imp_iff, false_imp_iff, Bool.not_false, Bool.not_true, reduceCtorEq, and_true, true_and, List.length_cons, List.length_nil, hallV, atI_1, wBt, List.length_map, g.f102, sp_next]
    refine ⟨ns, j1, rfl, DL.up_same, by omega, fun r r0 r1 => ?_⟩
    obtain ⟨r, rfl⟩ := Int.eq_ofNat_of_zero_le r0
    rw [up_up]
    refine ⟨ns, j1 + 1, rfl, DL.up_same, by decide, fun s s0 s1 => ?_⟩
    obtain ⟨s, rfl⟩ := Int.eq_ofNat_of_zero_le s0
    rw [up_up]
    exact fin (.sign r t1 s) (j1 + 1 + 1) _ (.refl _) rfl ⟨by omega, ho1, by omega⟩ fun c hc => by
      simp [Sn.occ, Sn.terms] at hc
      exact ht1 c hc.symm
  · simp only [wSs, wS, wE, wEs, wO, wI, wC, wIf, wBin, wSub, startE_cons, startE_nil, List.replicate, getV_0, getV_s, withO_s, withB_b, bind_one, bind_two, List.set_cons_zero, List.set_cons_succ, wipeE, Nat.zero_add, atI_0, atI_1, atI_2, atI_3, see_int, see_bl, see_str, see_non, dep_int, dep_bl, dep_str, dep_non, Nat.zero_min, Nat.min_zero, Nat.zero_le, true_imp_iff, false_imp_iff, Bool.not_false, Bool.not_true, reduceCtorEq, and_true, true_and, List.length_cons, List.length_nil]
    exact go
theorem plain_qf {f : Sn} (h : f.inner = []) : f.qf = true ∧ f.deep = 1 := by
  cases f with
  | neg f => simp [Sn.inner] at h
  | con w f g => simp [Sn.inner] at h
  | qu a c f => simp [Sn.inner] at h
  | _ => exact ⟨rfl, rfl⟩
theorem w_lfree {G : Cfg} {d : Nat} (g : DrawG G) (f106 : G.fn 106 = some sp_lplain) (f107 : G.fn 107 = some (sp_lfree d)) : Wk G (sp_lfree (d + 1)) n__law_free b__law_free := by
  intro args S Q E h
  unfold sp_lfree at h
  split at h <;> first | contradiction | skip
  rename_i sc b hv n dp
  obtain ⟨ns, m, l, bs, Rs, k, rfl, hb, rfl, hRne, hRl, hn, hne, hl26, hll, rfl, hk, h2⟩ := h
  have hbn : n ≠ b := fun z => by
    subst z
    rw [hb] at hn
    cases l with
    | nil => exact hne rfl
    | cons c l => simp [nmV] at hn
  have hn' : ∀ j : Nat, up S b (.lst [.int j]) n = some (.lst (l.map nmV)) := fun j => by rw [up_get hbn]; exact hn
  unfold b__law_free
  refine step fun K hK => ?_
  simp only [n__law_free, wSs, wS, wE, wEs, wO, wI, wC, wIf, wBin, wSub, startE_cons, startE_nil, List.replicate, getV_0, getV_s, withO_s, withB_b, bind_one, bind_two, List.set_cons_zero, List.set_cons_succ, wipeE, Nat.zero_add, atI_0, atI_1, atI_2, atI_3, see_int, see_bl, see_str, see_non, dep_int, dep_bl, dep_str, dep_non, Nat.zero_min, Nat.min_zero, Nat.zero_le, true_imp_iff, false_imp_iff, Bool.not_false, Bool.not_true, reduceCtorEq, and_true, true_and, List.length_cons, List.length_nil, g.f102, sp_next]
  refine ⟨ns, m, rfl, hb, by decide, fun way w0 w1 => hK _ _ (step fun K2 hK2 => ite_step fun A B hA hB => ?_)⟩
  have pl : A [some (.lst (ns.map .int)), some (.ref b), some (hallV bs Rs), some (.ref n), some (.int k), some (.int way), none] (up S b (.lst [.int (m + 1 : Nat)])) := hA _ _ (by
    simp only [wSs, wS, wE, wEs, wO, wI, wC, wIf, wBin, wSub, startE_cons, startE_nil, List.replicate, getV_0, getV_s, withO_s, withB_b, bind_one, bind_two, List.set_cons_zero, List.set_cons_succ, wipeE, Nat.zero_add, atI_0, atI_1, atI_2, atI_3, see_int, see_bl, see_str, see_non, dep_int, dep_bl, dep_str, dep_non, Nat.zero_min, Nat.min_zero, Nat.zero_le, true_imp_iff, false_imp_iff, Bool.not_false, Bool.not_true, reduceCtorEq, and_true, true_and, List.length_cons, List.length_nil, f106, sp_lplain]
    refine ⟨ns, m + 1, l, bs, Rs, rfl, DL.up_same, rfl, hRne, hRl, hn' _, hne, hl26, hll, fun f j h3 h4 h5 => ?_⟩
    rw [up_up]
    have := plain_qf h3
    exact rt_here (h2 f j this.1 (by omega) h4 h5))
  simp only [wSs, wS, wE, wEs, wO, wI, wC, wIf, wBin, wSub, startE_cons, startE_nil, List.replicate, getV_0, getV_s, withO_s, withB_b, bind_one, bind_two, List.set_cons_zero, List.set_cons_succ, wipeE, Nat.zero_add, atI_0, atI_1, atI_2, atI_3, see_int, see_bl, see_str, see_non, dep_int, dep_bl, dep_str, dep_non, Nat.zero_min, Nat.min_zero, Nat.zero_le, true_imp_iff, false_imp_iff, Bool.not_false, Bool.not_true, reduceCtorEq, and_true, true_and, List.length_cons, List.length_nil, wCmp, int_eq]
  refine ⟨fun _ => pl, fun z => ⟨fun _ => pl, fun z2 => hB _ _ ?_⟩⟩
  have hk0 : ¬ k = 0 := by
    have z := of_decide_eq_false z
    omega
  have hw2 : ¬ way < 2 := of_decide_eq_false z2
  obtain ⟨k, rfl⟩ : ∃ q, k = q + 1 := ⟨k - 1, by omega⟩
  have ek : ((k + 1 : Nat) : Int) - 1 = (k : Int) := by omega
  simp only [wSs, wS, wE, wEs, wO, wI, wC, wIf, wBin, wSub, startE_cons, startE_nil, List.replicate, getV_0, getV_s, withO_s, withB_b, bind_one, bind_two, List.set_cons_zero, List.set_cons_succ, wipeE, Nat.zero_add, atI_0, atI_1, atI_2, atI_3, see_int, see_bl, see_str, see_non, dep_int, dep_bl, dep_str, dep_non, Nat.zero_min, Nat.min_zero, Nat.zero_le, true_imp_iff, false_imp_iff, Bool.not_false, Bool.not_true, reduceCtorEq, and_true, true_and, List.length_cons, List.length_nil]
  refine hK2 _ _ (step fun K3 hK3 => ?_)
  simp only [wSs, wS, wE, wEs, wO, wI, wC, wIf, wBin, wSub, startE_cons, startE_nil, List.replicate, getV_0, getV_s, withO_s, withB_b, bind_one, bind_two, List.set_cons_zero, List.set_cons_succ, wipeE, Nat.zero_add, atI_0, atI_1, atI_2, atI_3, see_int, see_bl, see_str, see_non, dep_int, dep_bl, dep_str, dep_non, Nat.zero_min, Nat.min_zero, Nat.zero_le, true_imp_iff, false_imp_iff, Bool.not_false, Bool.not_true, reduceCtorEq, and_true, true_and, List.length_cons, List.length_nil, f107, sp_lfree, ek]
  refine ⟨ns, m + 1, l, bs, Rs, k, rfl, DL.up_same, rfl, hRne, hRl, hn' _, hne, hl26, hll, rfl, by omega, fun f1 j1 q1 d1 o1 c1 => ?_⟩
  rw [up_up]
  refine hK3 _ _ (step fun K4 hK4 => ite_step fun A2 B2 hA2 hB2 => ?_)
  simp only [wSs, wS, wE, wEs, wO, wI, wC, wIf, wBin, wSub, startE_cons, startE_nil, List.replicate, getV_0, getV_s, withO_s, withB_b, bind_one, bind_two, List.set_cons_zero, List.set_cons_succ, wipeE, Nat.zero_add, atI_0, atI_1, atI_2, atI_3, see_int, see_bl, see_str, see_non, dep_int, dep_bl, dep_str, dep_non, Nat.zero_min, Nat.min_zero, Nat.zero_le, true_imp_iff, false_imp_iff, Bool.not_false, Bool.not_true, reduceCtorEq, and_true, true_and, List.length_cons, List.length_nil, wCmp, int_eq]
  refine ⟨fun _ => hA2 _ _ ?_, fun z3 => hB2 _ _ ?_⟩
  · simp only [wSs, wS, wE, wEs, wO, wI, wC, wIf, wBin, wSub, startE_cons, startE_nil, List.replicate, getV_0, getV_s, withO_s, withB_b, bind_one, bind_two, List.set_cons_zero, List.set_cons_succ, wipeE, Nat.zero_add, atI_0, atI_1, atI_2, atI_3, see_int, see_bl, see_str, see_non, dep_int, dep_bl, dep_str, dep_non, Nat.zero_min, Nat.min_zero, Nat.zero_le, true_imp_iff, false_imp_iff, Bool.not_false, Bool.not_true, reduceCtorEq, and_true, true_and, List.length_cons, List.length_nil]
    exact rt_here (h2 (.neg f1) j1 q1 (by simp only [Sn.deep]; omega) o1 c1)
  · have hw3 : ¬ way = 2 := of_decide_eq_false z3
    simp only [wSs, wS, wE, wEs, wO, wI, wC, wIf, wBin, wSub, startE_cons, startE_nil, List.replicate, getV_0, getV_s, withO_s, withB_b, bind_one, bind_two, List.set_cons_zero, List.set_cons_succ, wipeE, Nat.zero_add, atI_0, atI_1, atI_2, atI_3, see_int, see_bl, see_str, see_non, dep_int, dep_bl, dep_str, dep_non, Nat.zero_min, Nat.min_zero, Nat.zero_le, true_imp_iff, false_imp_iff, Bool.not_false, Bool.not_true, reduceCtorEq, and_true, true_and, List.length_cons, List.length_nil]
    refine hK4 _ _ ?_
    simp only [wSs, wS, wE, wEs, wO, wI, wC, wIf, wBin, wSub, startE_cons, startE_nil, List.replicate, getV_0, getV_s, withO_s, withB_b, bind_one, bind_two, List.set_cons_zero, List.set_cons_succ, wipeE, Nat.zero_add, atI_0, atI_1, atI_2, atI_3, see_int, see_bl, see_str, see_non, dep_int, dep_bl, dep_str, dep_non, Nat.zero_min, Nat.min_zero, Nat.zero_le, true_imp_iff, false_imp_iff, Bool.not_false, Bool.not_true, reduceCtorEq, and_true, true_and, List.length_cons, List.length_nil]
    intro p hp
    obtain ⟨wy, hwy⟩ := Int.eq_ofNat_of_zero_le (show 0 ≤ way - 3 by omega)
    have hwl : wy < 4 := by omega
    have hb1 : up S b (.lst [.int j1]) b = some (.lst [.int j1]) := DL.up_same
    have hpb : b ≠ p := ne_new hb1 hp
    have hpn : n ≠ p := ne_new (hn' j1) hp
    have e5 : ∃ q : Nat, [Val.str "and", Val.str "or", Val.str "then", Val.str "and"][wy]? = some (.str (cnS q)) ∧ q < 3 := by
      match wy, hwl with
      | 0, _ => exact ⟨0, rfl, by omega⟩
      | 1, _ => exact ⟨1, rfl, by omega⟩
      | 2, _ => exact ⟨2, rfl, by omega⟩
      | 3, _ => exact ⟨0, rfl, by omega⟩
    obtain ⟨q, e5, hq⟩ := e5
    simp only [DL.up_same, hwy, atI_nat, e5, wSs, wS, wE, wEs, wO, wI, wC, wIf, wBin, wSub, startE_cons, startE_nil, List.replicate, getV_0, getV_s, withO_s, withB_b, bind_one, bind_two, List.set_cons_zero, List.set_cons_succ, wipeE, Nat.zero_add, atI_0, atI_1, atI_2, atI_3, see_int, see_bl, see_str, see_non, dep_int, dep_bl, dep_str, dep_non, Nat.zero_min, Nat.min_zero, Nat.zero_le, true_imp_iff, false_imp_iff, Bool.not_false, Bool.not_true, reduceCtorEq, and_true, true_and, List.length_cons, List.length_nil, f107, sp_lfree, ek]
    refine ⟨ns, j1, l, bs, Rs, k, rfl, by rw [up_get hpb]; exact hb1, rfl, hRne, hRl, by rw [up_get hpn]; exact hn' _, hne, hl26, hll, rfl, by omega, fun f2 j2 q2 d2 o2 c2 => ?_⟩
    refine ⟨_, le_bump2 (i := j1) (le_new (.refl _) hp), h2 (.con q f1 f2) j2 (by simp [Sn.qf, q1, q2]) (by simp only [Sn.deep]; omega) ⟨hq, o1, o2⟩ fun c hc => ?_⟩
    simp only [Sn.occ, Bool.or_eq_true] at hc
    rcases hc with z | z
    · exact c1 c z
    · exact c2 c z
end DL

set_option autoImplicit true
set_option Elab.async false
set_option autoImplicit false
set_option linter.all false
set_option maxRecDepth 100000
set_option maxHeartbeats 8000000
/-! Own layer, plain: drawn sentences at the pure level; names within. -/
namespace DL
open PySem
local macro_rules
  | `(tactic| simp! only [$ls,*]) => `(tactic| try simp only [pSs, pS, pE, pEs, pO, pI, pIs, pC, pIf, pAsg, pAsgs, pSetI, pRet, pX, pMove, pUn, pBin, pLt_i, pLe_i, pGt_i, pGe_i, pLt_t, pEq_i, pNe_i, pEq_s, pNe_s, pEq_b, pNe_b, pIn_m, pNin_m, pSub_l, pSub_tup, pSub_lst, pSub_m, pSub_str, pSlice, pBt_len_l, pBt_tuple_l, pBt_list_l, pBt_len_m, pBt_len_tup, pBt_len_lst, pBt_len_str, pBt_list_tup, pBt_tuple_tup, pBt_int_int, pBt_int_bl, pBt_max2, pBt_min2, pBt_str_int, pIsi, pRecv, pMt, wBin, wSub, wSlice, wBt, wRng, startP_cons, startP_nil, List.replicate, getP_0, getP_s, withO_s, withB_b, withD_d, withPB_d, withPI_d, bor_d, bor_l, bor_m, isP_d, isP_l, isP_m, okA_d, okA_l, okA_m, lof_l, lof_m, lof_int, lof_bl, lof_str, lof_non, lof_tup, lof_lst, dof_l, dof_m, dof_int, dof_bl, dof_str, dof_non, dof_tup, dof_lst, dvl_int, dvl_bl, dvl_str, dvl_non, dvl_tup, dvl_lst, ds_nil, ds_cons, omap_some, pSee_d, iterP_l, iterP_tup, enP_l, enP_tup, pLend, see_int, see_bl, see_str, see_non, dep_int, dep_bl, dep_str, dep_non, Nat.zero_min, Nat.min_zero, Nat.zero_le, bindP_one, bindP_two, bindP_three, List.set_cons_zero, List.set_cons_succ, wipeP, Nat.zero_add, atI_0, atI_1, atI_2, atI_3, isV, frz, frz1, Bool.or_false, Bool.or_true, Bool.true_or, Bool.false_or, true_imp_iff, false_imp_iff, Bool.not_false, Bool.not_true, reduceCtorEq, and_true, true_and, List.length_cons, List.length_nil, List.map_cons, List.map_nil, List.length_map, tt_and, ff_and, $ls,*])
  | `(tactic| simp! only [$ls,*] $loc:location) => `(tactic| try simp only [pSs, pS, pE, pEs, pO, pI, pIs, pC, pIf, pAsg, pAsgs, pSetI, pRet, pX, pMove, pUn, pBin, pLt_i, pLe_i, pGt_i, pGe_i, pLt_t, pEq_i, pNe_i, pEq_s, pNe_s, pEq_b, pNe_b, pIn_m, pNin_m, pSub_l, pSub_tup, pSub_lst, pSub_m, pSub_str, pSlice, pBt_len_l, pBt_tuple_l, pBt_list_l, pBt_len_m, pBt_len_tup, pBt_len_lst, pBt_len_str, pBt_list_tup, pBt_tuple_tup, pBt_int_int, pBt_int_bl, pBt_max2, pBt_min2, pBt_str_int, pIsi, pRecv, pMt, wBin, wSub, wSlice, wBt, wRng, startP_cons, startP_nil, List.replicate, getP_0, getP_s, withO_s, withB_b, withD_d, withPB_d, withPI_d, bor_d, bor_l, bor_m, isP_d, isP_l, isP_m, okA_d, okA_l, okA_m, lof_l, lof_m, lof_int, lof_bl, lof_str, lof_non, lof_tup, lof_lst, dof_l, dof_m, dof_int, dof_bl, dof_str, dof_non, dof_tup, dof_lst, dvl_int, dvl_bl, dvl_str, dvl_non, dvl_tup, dvl_lst, ds_nil, ds_cons, omap_some, pSee_d, iterP_l, iterP_tup, enP_l, enP_tup, pLend, see_int, see_bl, see_str, see_non, dep_int, dep_bl, dep_str, dep_non, Nat.zero_min, Nat.min_zero, Nat.zero_le, bindP_one, bindP_two, bindP_three, List.set_cons_zero, List.set_cons_succ, wipeP, Nat.zero_add, atI_0, atI_1, atI_2, atI_3, isV, frz, frz1, Bool.or_false, Bool.or_true, Bool.true_or, Bool.false_or, true_imp_iff, false_imp_iff, Bool.not_false, Bool.not_true, reduceCtorEq, and_true, true_and, List.length_cons, List.length_nil, List.map_cons, List.map_nil, List.length_map, tt_and, ff_and, $ls,*] $loc:location)

def n__law_names_in : List Str := ["_law_sentence", "_law_found", "_law_part", "_law_name"]
def b__law_names_in : Sms :=
  (.cons (.asg 1 (.lst .nil))
  (.cons (.for (.one 2) (.val (.slice (.var 0) (.some (.int 1)) .none))
    (.cons (.ite (.isi (.var 2) .tuple)
        (.cons (.expr (.meth (.var 1) .extend (.cons (.call 114 (.cons (.var 2) .nil)) .nil)))
          .nil)
        (.cons (.ite (.isi (.var 2) .str)
            (.cons (.expr (.meth (.var 1) .append (.cons (.var 2) .nil)))
              .nil)
            .nil)
          .nil))
      .nil))
  (.cons (.ret (.blt .sorted (.cons (.blt .list (.cons (.bltc .dict (.mk (.one 3) [3] (.tup (.cons (.var 3) (.cons (.int 0) .nil))) (.val (.var 1)) .none)) .nil)) .nil)))
  .nil)))

def ls_lfree : LSpec := fun vs S Q => match vs with
  | [.d (.lst sc), .l _ ms, .d hv, .l _ nl, .d (.int dp)] => ∃ (ns : List Int) (m : Nat) (l : List Nat) (bs : Nat) (Rs : List Row) (k : Nat), sc = ns.map .int ∧ ms = [.int m] ∧ hv = hallV bs Rs ∧ Rs ≠ [] ∧ Rs.length ≤ 3 ∧ nl = l.map nmV ∧ l ≠ [] ∧ (∀ c ∈ l, c < 26) ∧ l.length ≤ 26 ∧ dp = k ∧ k < 3 ∧
      ∀ (f : Sn) (j : Nat), f.qf = true → f.deep ≤ k + 1 → f.Ok Rs.length → (∀ c, f.occ c = true → c ∈ l) → Q f.val [.int j]
  | _ => False
theorem up_lfree (vs : List Val) (S : Sto) (Q : KV) (E : Nat → Sto → Prop) (h : upL ls_lfree vs S Q E) : sp_lfree 3 vs S Q E := by
  obtain ⟨v0, b, vr, r0, xs, prs, S0, Qp, rfl, le, hb, a0, ar, hl, hq⟩ := lend3 h
  unfold ls_lfree at hl
  split at hl
  · rename_i sc o ms hv o2 nl dp heq
    simp only [List.cons.injEq, PV.l.injEq] at heq
    obtain ⟨rfl, ⟨_, rfl⟩, rfl⟩ := heq
    obtain ⟨ns, m, l, bs, Rs, k, rfl, rfl, rfl, hRne, hRl, rfl, hne, hl26, hll, rfl, hk, hh⟩ := hl
    have e0 : v0 = .lst (ns.map .int) := a0
    subst e0
    match vr, ar with
    | [w1, w2, w3], ar =>
      have e1 : w1 = hallV bs Rs := ar.1
      obtain ⟨_, n, e2, hn⟩ := ar.2.1
      have e3 : w3 = .int k := ar.2.2.1
      subst e1 e2 e3
      exact ⟨ns, m, l, bs, Rs, k, rfl, hb, rfl, hRne, hRl, hn, hne, hl26, hll, rfl, hk, fun f j h1 h2 h3 h4 => hq _ _ (hh f j h1 h2 h3 h4)⟩
    | [], ar => exact ar.elim
    | [_], ar => exact ar.2.elim
    | [_, _], ar => exact ar.2.2.elim
    | _ :: _ :: _ :: _ :: _, ar => exact ar.2.2.2.elim
  · exact hl.elim
def ls_lplain : LSpec := fun vs S Q => match vs with
  | [.d (.lst sc), .l _ ms, .d hv, .l _ nl] => ∃ (ns : List Int) (m : Nat) (l : List Nat) (bs : Nat) (Rs : List Row), sc = ns.map .int ∧ ms = [.int m] ∧ hv = hallV bs Rs ∧ Rs ≠ [] ∧ Rs.length ≤ 3 ∧ nl = l.map nmV ∧ l ≠ [] ∧ (∀ c ∈ l, c < 26) ∧ l.length ≤ 26 ∧
      ∀ (f : Sn) (j : Nat), f.inner = [] → f.Ok Rs.length → (∀ c, f.occ c = true → c ∈ l) → Q f.val [.int j]
  | _ => False
theorem up_lplain (vs : List Val) (S : Sto) (Q : KV) (E : Nat → Sto → Prop) (h : upL ls_lplain vs S Q E) : sp_lplain vs S Q E := by
  obtain ⟨v0, b, vr, r0, xs, prs, S0, Qp, rfl, le, hb, a0, ar, hl, hq⟩ := lend3 h
  unfold ls_lplain at hl
  split at hl
  · rename_i sc o ms hv o2 nl heq
    simp only [List.cons.injEq, PV.l.injEq] at heq
    obtain ⟨rfl, ⟨_, rfl⟩, rfl⟩ := heq
    obtain ⟨ns, m, l, bs, Rs, rfl, rfl, rfl, hRne, hRl, rfl, hne, hl26, hll, hh⟩ := hl
    have e0 : v0 = .lst (ns.map .int) := a0
    subst e0
    match vr, ar with
    | [w1, w2], ar =>
      have e1 : w1 = hallV bs Rs := ar.1
      obtain ⟨_, n, e2, hn⟩ := ar.2.1
      subst e1 e2
      exact ⟨ns, m, l, bs, Rs, rfl, hb, rfl, hRne, hRl, hn, hne, hl26, hll, fun f j h1 h3 h4 => hq _ _ (hh f j h1 h3 h4)⟩
    | [], ar => exact ar.elim
    | [_], ar => exact ar.2.elim
    | _ :: _ :: _ :: _, ar => exact ar.2.2.elim
  · exact hl.elim
/-- what stands behind the first word -/
inductive Arg where
  | tm (u : Tm) | sn (f : Sn) | ix (n : Nat)
def Arg.val : Arg → Val
  | .tm t => t.val
  | .sn f => f.val
  | .ix n => .int n
def Sn.args : Sn → List Arg
  | .less t u => [.tm t, .tm u]
  | .same t u => [.tm t, .tm u]
  | .sum t u v => [.tm t, .tm u, .tm v]
  | .sign r t s => [.ix r, .tm t, .ix s]
  | .neg f => [.sn f]
  | .con _ f g => [.sn f, .sn g]
  | .qu _ c f => [.tm (.nm c), .sn f]
theorem val_args (f : Sn) : f.val = .tup (.str f.hd :: f.args.map Arg.val) := by cases f <;> rfl
def Arg.nms : Arg → List Nat
  | .tm (.nm c) => [c]
  | .tm (.num _) => []
  | .sn f => f.free
  | .ix _ => []
theorem args_deep {f g : Sn} (h : .sn g ∈ f.args) : g.deep < f.deep := by
  cases f with
  | neg f => simp [Sn.args] at h; subst h; simp [Sn.deep]
  | con w f g => simp [Sn.args] at h; rcases h with rfl | rfl <;> simp only [Sn.deep] <;> omega
  | qu a c f => simp [Sn.args] at h; subst h; simp [Sn.deep]
  | _ => simp [Sn.args] at h
theorem args_qf {f g : Sn} (q : f.qf = true) (h : .sn g ∈ f.args) : g.qf = true := by
  cases f with
  | neg f => simp [Sn.args] at h; subst h; exact q
  | con w f g => simp [Sn.args] at h; simp [Sn.qf] at q; rcases h with rfl | rfl; exact q.1; exact q.2
  | qu a c f => cases q
  | _ => simp [Sn.args] at h
theorem args_ok {rows : Nat} {f g : Sn} (o : f.Ok rows) (h : .sn g ∈ f.args) : g.Ok rows := by
  cases f with
  | neg f => simp [Sn.args] at h; subst h; exact o
  | con w f g => simp [Sn.args] at h; rcases h with rfl | rfl; exact o.2.1; exact o.2.2
  | qu a c f => simp [Sn.args] at h; subst h; exact o.2
  | _ => simp [Sn.args] at h
theorem args_nms {rows : Nat} {f : Sn} (q : f.qf = true) (o : f.Ok rows) (c : Nat) : c ∈ (f.args.map Arg.nms).flatten ↔ c ∈ f.free := by
  have tm : ∀ t : Tm, c ∈ (Arg.tm t).nms ↔ t = .nm c := fun t => by
    cases t with
    | nm d => simp only [Arg.nms, List.mem_singleton, Tm.nm.injEq]; exact eq_comm
    | num n => simp [Arg.nms]
  rw [free_mem]
  have hlt : f.occ c = true → c < 26 := occ_lt o c
  have key : c ∈ (f.args.map Arg.nms).flatten ↔ f.occ c = true := by
    cases f with
    | less t u => simp [Sn.args, Sn.occ, Sn.terms, tm]; grind
    | same t u => simp [Sn.args, Sn.occ, Sn.terms, tm]; grind
    | sum t u v => simp [Sn.args, Sn.occ, Sn.terms, tm]; grind
    | sign r t s => simp [Sn.args, Sn.occ, Sn.terms, tm, Arg.nms]; grind
    | neg f =>
      simp only [Sn.args, List.map_cons, List.map_nil, List.flatten_cons, List.flatten_nil, List.append_nil, Arg.nms, free_mem, Sn.occ]
      exact ⟨fun h => h.2, fun h => ⟨hlt h, h⟩⟩
    | con w f g =>
      simp only [Sn.args, List.map_cons, List.map_nil, List.flatten_cons, List.flatten_nil, List.append_nil, Arg.nms, List.mem_append, free_mem, Sn.occ, Bool.or_eq_true]
      constructor
      · rintro (h | h)
        · exact .inl h.2
        · exact .inr h.2
      · rintro (h | h)
        · exact .inl ⟨occ_lt (f := f) o.2.1 c h, h⟩
        · exact .inr ⟨occ_lt (f := g) o.2.2 c h, h⟩
    | qu a d f => cases q
  rw [key]
  exact ⟨fun h => ⟨hlt h, h⟩, fun h => h.2⟩
theorem nms_few {f : Sn} {done : List Arg} {rest : List Arg} (h : done ++ rest = f.args) : (done.map Arg.nms).flatten.length ≤ 100 := by
  have one : ∀ a : Arg, a.nms.length ≤ 26 := fun a => by
    cases a with
    | tm t => cases t <;> simp [Arg.nms]
    | sn f => exact free_len f
    | ix n => simp [Arg.nms]
  have h3 : done.length ≤ 3 := by
    have e : f.args.length ≤ 3 := by cases f <;> simp [Sn.args]
    rw [← h] at e
    simp at e
    omega
  have : ∀ d : List Arg, (d.map Arg.nms).flatten.length ≤ 26 * d.length := by
    intro d
    induction d with
    | nil => simp
    | cons a d ih =>
      have := one a
      simp only [List.map_cons, List.flatten_cons, List.length_append, List.length_cons]
      omega
  have := this done
  omega
def ps_names_in (d : Nat) : PSpec := fun vs S Q _ => match vs with
  | [.d v] => ∃ (f : Sn) (rows : Nat), v = f.val ∧ f.qf = true ∧ f.deep ≤ d ∧ f.Ok rows ∧ Q (.l true (f.free.map nmV))
  | _ => False
theorem w_names_in {g : PCfg} {d : Nat} (f114 : g.fn 114 = some (ps_names_in d)) : Wp g (ps_names_in (d + 1)) n__law_names_in b__law_names_in := by
  intro args S Q E h
  unfold ps_names_in at h
  split at h <;> first | contradiction | skip
  obtain ⟨f, rows, rfl, hq, hd, ok, h2⟩ := h
  unfold b__law_names_in
  refine pstep fun K hK => ?_
  simp! only [n__law_names_in]
  refine hK _ (pstep fun K2 hK2 => pfor_step fun B2 hB2 => ?_)
  simp! only [val_args, cut_1]
  refine pfor_invT Arg.val (fun rest e => ∃ (done : List Arg) (v2 : Option PV), done ++ rest = f.args ∧ e = [some (.d f.val), some (.l true ((done.map Arg.nms).flatten.map nmV)), v2, none]) ?_ ?_ _ _ ⟨[], none, rfl, by simp [val_args]⟩
  · rintro a rest e ⟨done, v2, hd1, rfl⟩
    have ha : a ∈ f.args := by rw [← hd1]; simp
    have hl := nms_few hd1
    simp! only []
    intro k hk
    refine hB2 _ _ (pstep fun K3 hK3 => pite_step fun A B hA hB => ?_)
    have next : ∀ ns : List Nat, a.nms = ns → K3 [some (.d f.val), some (.l true (((done.map Arg.nms).flatten ++ ns).map nmV)), some (.d a.val), none] := fun ns e => hK3 _ (by
      simp! only []
      exact hk _ ⟨done ++ [a], some (.d a.val), by simpa using hd1, by simp [e]⟩)
    simp! only []
    cases a with
    | sn g =>
      have e0 : g.val = .tup (.str g.hd :: g.args.map Arg.val) := val_args g
      have e1 : tyKnown (Arg.sn g).val S = true := by show tyKnown g.val S = true; rw [e0]; rfl
      have e2 : tyOf .tuple (Arg.sn g).val S = true := by show tyOf .tuple g.val S = true; rw [e0]; rfl
      refine ⟨e1, ?_⟩
      rw [e2]
      simp! only []
      refine hA _ (pstep fun K4 hK4 => ?_)
      simp! only [f114, ps_names_in]
      have := args_deep ha
      refine ⟨g, rows, rfl, args_qf hq ha, by omega, args_ok ok ha, ?_⟩
      have hfl := free_len g
      simp! only [extP, if_true]
      refine ⟨by unfold line; omega, hK4 _ ?_⟩
      simp! only []
      have := next g.free rfl
      rw [List.map_append] at this
      exact this
    | tm t =>
      cases t with
      | nm c =>
        refine ⟨rfl, fun z => (by cases z), fun _ => hB _ (pstep fun K4 hK4 => pite_step fun A2 B3 hA2 hB3 => ?_)⟩
        simp! only []
        refine ⟨rfl, fun _ => hA2 _ (pstep fun K5 hK5 => ?_), fun z => (by cases z)⟩
        simp! only []
        refine ⟨by unfold line; omega, hK5 _ ?_⟩
        simp! only []
        refine hK4 _ ?_
        simp! only []
        have := next [c] rfl
        rw [List.map_append] at this
        exact this
      | num n =>
        refine ⟨rfl, fun z => (by cases z), fun _ => hB _ (pstep fun K4 hK4 => pite_step fun A2 B3 hA2 hB3 => ?_)⟩
        simp! only []
        refine ⟨rfl, fun z => (by cases z), fun _ => hB3 _ ?_⟩
        simp! only []
        refine hK4 _ ?_
        simp! only []
        have := next [] rfl
        rw [List.append_nil] at this
        exact this
    | ix n =>
      refine ⟨rfl, fun z => (by cases z), fun _ => hB _ (pstep fun K4 hK4 => pite_step fun A2 B3 hA2 hB3 => ?_)⟩
      simp! only []
      refine ⟨rfl, fun z => (by cases z), fun _ => hB3 _ ?_⟩
      simp! only []
      refine hK4 _ ?_
      simp! only []
      have := next [] rfl
      rw [List.append_nil] at this
      exact this
  · rintro e ⟨done, v2, hd1, rfl⟩
    rw [List.append_nil] at hd1
    subst hd1
    refine hK2 _ ?_
    simp! only []
    refine pturns_mapT nmV (fun c => .tup [nmV c, .int 0]) (fun c hc k hk => ?_) ?_
    · simp! only []
      exact hk
    · have e1 : ((f.args.map Arg.nms).flatten.map fun c => Val.tup [nmV c, .int 0]) = ((f.args.map Arg.nms).flatten.map fun c => (nmV c, Val.int 0)).map fun p => Val.tup [p.1, p.2] := by
        rw [List.map_map]
        rfl
      have e2 := dputs_nmD (.int 0) (f.args.map Arg.nms).flatten []
      have nd : ((f.args.map Arg.nms).flatten.foldl addN []).Nodup := foldN_nodup .nil
      have hm : ∀ c, c ∈ (f.args.map Arg.nms).flatten.foldl addN [] ↔ c ∈ f.free := fun c => by
        rw [foldN_mem, ← args_nms hq ok]
        simp
      refine ⟨_, e1, fun p hp => ?_, ?_⟩
      · obtain ⟨c, _, rfl⟩ := List.mem_map.mp hp
        rfl
      have e2 : dputs [] ((f.args.map Arg.nms).flatten.map fun c => (nmV c, Val.int 0)) = nmD (.int 0) ((f.args.map Arg.nms).flatten.foldl addN []) := e2
      rw [e2]
      simp only [pBt, lof_m, dof_m]
      refine .inr (.inl ⟨trivial, nmD_is _ _, ?_⟩)
      rw [nmD_keys]
      simp! only []
      exact sorted_names nd (small_names nd fun c hc => (free_mem.mp ((hm c).mp hc)).1) hm ⟨rfl, h2⟩
end DL

set_option autoImplicit true
set_option Elab.async false
set_option autoImplicit false
set_option linter.all false
set_option maxRecDepth 100000
set_option maxHeartbeats 8000000
/-! Own layer, plain: law k05. -/
namespace DL
open PySem
local macro_rules
  | `(tactic| simp! only [$ls,*]) => `(tactic| try simp only [pSs, pS, pE, pEs, pO, pI, pIs, pC, pIf, pAsg, pAsgs, pSetI, pRet, pX, pMove, pUn, pBin, pLt_i, pLe_i, pGt_i, pGe_i, pLt_t, pEq_i, pNe_i, pEq_s, pNe_s, pEq_b, pNe_b, pIn_m, pNin_m, pSub_l, pSub_tup, pSub_lst, pSub_m, pSub_str, pSlice, pBt_len_l, pBt_tuple_l, pBt_list_l, pBt_len_m, pBt_len_tup, pBt_len_lst, pBt_len_str, pBt_list_tup, pBt_tuple_tup, pBt_int_int, pBt_int_bl, pBt_max2, pBt_min2, pBt_str_int, pIsi, pRecv, pMt, wBin, wSub, wSlice, wBt, wRng, startP_cons, startP_nil, List.replicate, getP_0, getP_s, withO_s, withB_b, withD_d, withPB_d, withPI_d, bor_d, bor_l, bor_m, isP_d, isP_l, isP_m, okA_d, okA_l, okA_m, lof_l, lof_m, lof_int, lof_bl, lof_str, lof_non, lof_tup, lof_lst, dof_l, dof_m, dof_int, dof_bl, dof_str, dof_non, dof_tup, dof_lst, dvl_int, dvl_bl, dvl_str, dvl_non, dvl_tup, dvl_lst, ds_nil, ds_cons, omap_some, pSee_d, iterP_l, iterP_tup, enP_l, enP_tup, pLend, see_int, see_bl, see_str, see_non, dep_int, dep_bl, dep_str, dep_non, Nat.zero_min, Nat.min_zero, Nat.zero_le, bindP_one, bindP_two, bindP_three, List.set_cons_zero, List.set_cons_succ, wipeP, Nat.zero_add, atI_0, atI_1, atI_2, atI_3, isV, frz, frz1, Bool.or_false, Bool.or_true, Bool.true_or, Bool.false_or, true_imp_iff, false_imp_iff, Bool.not_false, Bool.not_true, reduceCtorEq, and_true, true_and, List.length_cons, List.length_nil, List.map_cons, List.map_nil, List.length_map, tt_and, ff_and, $ls,*])
  | `(tactic| simp! only [$ls,*] $loc:location) => `(tactic| try simp only [pSs, pS, pE, pEs, pO, pI, pIs, pC, pIf, pAsg, pAsgs, pSetI, pRet, pX, pMove, pUn, pBin, pLt_i, pLe_i, pGt_i, pGe_i, pLt_t, pEq_i, pNe_i, pEq_s, pNe_s, pEq_b, pNe_b, pIn_m, pNin_m, pSub_l, pSub_tup, pSub_lst, pSub_m, pSub_str, pSlice, pBt_len_l, pBt_tuple_l, pBt_list_l, pBt_len_m, pBt_len_tup, pBt_len_lst, pBt_len_str, pBt_list_tup, pBt_tuple_tup, pBt_int_int, pBt_int_bl, pBt_max2, pBt_min2, pBt_str_int, pIsi, pRecv, pMt, wBin, wSub, wSlice, wBt, wRng, startP_cons, startP_nil, List.replicate, getP_0, getP_s, withO_s, withB_b, withD_d, withPB_d, withPI_d, bor_d, bor_l, bor_m, isP_d, isP_l, isP_m, okA_d, okA_l, okA_m, lof_l, lof_m, lof_int, lof_bl, lof_str, lof_non, lof_tup, lof_lst, dof_l, dof_m, dof_int, dof_bl, dof_str, dof_non, dof_tup, dof_lst, dvl_int, dvl_bl, dvl_str, dvl_non, dvl_tup, dvl_lst, ds_nil, ds_cons, omap_some, pSee_d, iterP_l, iterP_tup, enP_l, enP_tup, pLend, see_int, see_bl, see_str, see_non, dep_int, dep_bl, dep_str, dep_non, Nat.zero_min, Nat.min_zero, Nat.zero_le, bindP_one, bindP_two, bindP_three, List.set_cons_zero, List.set_cons_succ, wipeP, Nat.zero_add, atI_0, atI_1, atI_2, atI_3, isV, frz, frz1, Bool.or_false, Bool.or_true, Bool.true_or, Bool.false_or, true_imp_iff, false_imp_iff, Bool.not_false, Bool.not_true, reduceCtorEq, and_true, true_and, List.length_cons, List.length_nil, List.map_cons, List.map_nil, List.length_map, tt_and, ff_and, $ls,*] $loc:location)

def n__law_odd : List Str := ["_law_hall_here", "_law_sentence", "_law_cell", "_law_plain_here", "_law_long", "_law_k", "_law_five", "_law_some"]
def b__law_odd : Sms :=
  (.cons (.asg 3 (.tup (.cons (.str "less") (.cons (.str "x") (.cons (.int 1) .nil)))))
  (.cons (.asg 4 (.var 3))
  (.cons (.for (.one 5) (.rng (.cons (.int 20) .nil))
    (.cons (.asg 4 (.tup (.cons (.str "not") (.cons (.var 4) .nil))))
      .nil))
  (.cons (.asg 6 (.tup (.cons (.str "and") (.cons (.tup (.cons (.str "sum") (.cons (.str "a") (.cons (.str "b") (.cons (.str "c") .nil))))) (.cons (.tup (.cons (.str "sum") (.cons (.str "d") (.cons (.str "e") (.cons (.str "a") .nil))))) .nil)))))
  (.cons (.asg 7 (.lst (.cons (.blt .list (.cons (.var 1) .nil)) (.cons (.tup (.cons (.str "nor") (.cons (.var 3) (.cons (.var 3) .nil)))) (.cons (.tup (.cons (.str "not") .nil)) (.cons (.tup (.cons (.str "not") (.cons (.var 3) (.cons (.var 3) .nil)))) .nil))))))
  (.cons (.expr (.meth (.var 7) .extend (.cons (.lst (.cons (.tup (.cons (.str "and") (.cons (.var 3) .nil))) (.cons (.tup (.cons (.str "less") (.cons (.str "x") .nil))) (.cons .non .nil)))) .nil)))
  (.cons (.expr (.meth (.var 7) .extend (.cons (.lst (.cons (.tup (.cons (.str "less") (.cons (.str "xy") (.cons (.int 1) .nil)))) (.cons (.tup (.cons (.str "less") (.cons (.str "x") (.cons (.neg (.int 1)) .nil)))) (.cons (.tup (.cons (.str "less") (.cons (.str "x") (.cons (.int 21) .nil)))) (.cons (.tup (.cons (.str "less") (.cons (.str "x") (.cons (.bl true) .nil)))) .nil))))) .nil)))
  (.cons (.expr (.meth (.var 7) .extend (.cons (.lst (.cons (.tup (.cons (.str "less") (.cons (.str "X") (.cons (.int 1) .nil)))) (.cons (.tup (.cons (.str "same") (.cons (.int 1) .nil))) .nil))) .nil)))
  (.cons (.expr (.meth (.var 7) .extend (.cons (.lst (.cons (.tup (.cons (.str "sum") (.cons (.int 1) (.cons (.int 2) .nil)))) (.cons (.tup (.cons (.str "sum") (.cons (.int 1) (.cons (.int 2) (.cons .non .nil))))) (.cons (.tup (.cons (.str "sign") (.cons (.blt .len (.cons (.sub (.var 0) (.int 1)) .nil)) (.cons (.str "x") (.cons (.int 0) .nil))))) .nil)))) .nil)))
  (.cons (.expr (.meth (.var 7) .extend (.cons (.lst (.cons (.tup (.cons (.str "sign") (.cons (.int 0) (.cons (.str "x") (.cons (.int 3) .nil))))) (.cons (.tup (.cons (.str "sign") (.cons (.int 0) (.cons (.str "x") .nil)))) .nil))) .nil)))
  (.cons (.expr (.meth (.var 7) .extend (.cons (.lst (.cons (.tup (.cons (.str "sign") (.cons (.bl true) (.cons (.str "x") (.cons (.int 0) .nil))))) (.cons (.tup (.cons (.str "sign") (.cons (.int 0) (.cons (.str "x") (.cons (.bl true) .nil))))) (.cons (.tup (.cons (.str "some") (.cons (.str "x") .nil))) (.cons (.tup (.cons (.str "some") (.cons (.str "xy") (.cons (.var 3) .nil)))) .nil))))) .nil)))
  (.cons (.expr (.meth (.var 7) .extend (.cons (.lst (.cons (.tup (.cons (.str "all") (.cons (.int 1) (.cons (.var 3) .nil)))) (.cons (.var 4) .nil))) .nil)))
  (.cons (.expr (.meth (.var 7) .extend (.cons (.lst (.cons (.tup (.cons (.str "some") (.cons (.str "x") (.cons (.tup (.cons (.str "some") (.cons (.str "x") (.cons (.var 3) .nil)))) .nil)))) (.cons (.tup (.cons (.str "and") (.cons (.tup (.cons (.str "some") (.cons (.str "x") (.cons (.var 3) .nil)))) (.cons (.var 3) .nil)))) (.cons (.var 6) (.cons (.tup .nil) .nil))))) .nil)))
  (.cons (.expr (.meth (.var 7) .extend (.cons (.lst (.cons (.tup (.cons (.str "less") (.cons (.lst (.cons (.str "x") .nil)) (.cons (.int 1) .nil)))) (.cons (.int 5) .nil))) .nil)))
  (.cons (.expr (.meth (.var 7) .extend (.cons (.lst (.cons (.tup (.cons (.str "and") (.cons (.tup (.cons (.str "some") (.cons (.str "x") (.cons (.var 3) .nil)))) (.cons (.tup (.cons (.str "all") (.cons (.str "x") (.cons (.var 3) .nil)))) .nil)))) (.cons (.tup (.cons (.str "not") (.cons (.blt .list (.cons (.var 3) .nil)) .nil))) (.cons (.tup (.cons (.tup (.cons (.str "less") .nil)) (.cons (.str "x") (.cons (.int 1) .nil)))) .nil)))) .nil)))
  (.cons (.ret (.sub (.var 7) (.bin .mod (.var 2) (.int 33))))
  .nil))))))))))))))))

def n__law_refused : List Str := ["_law_hall_here", "_law_thing", "e"]
def b__law_refused : Sms :=
  (.cons (.try1
    (.cons (.expr (.call 28 (.cons (.var 0) (.cons (.var 1) .nil))))
      .nil)
    3 (some 2) (.conj [(0, true), (99, true), (1, false)]))
  (.cons (.ret (.bl false))
  .nil))

def plHere : Val := .tup [.str "less", .str "x", .int 1]
def longV : Nat → Val
  | 0 => plHere
  | n + 1 => .tup [.str "not", longV n]
def sx (q : String) (v : Val) : Val := .tup [.str (Str.ofString q), .str "x", v]
def oddItems (rows : Nat) (a1 a2 a3 : Addr) : List Val :=
  [.ref a1, .tup [.str "nor", plHere, plHere], .tup [.str "not"], .tup [.str "not", plHere, plHere],
   .tup [.str "and", plHere], .tup [.str "less", .str "x"], .non,
   .tup [.str "less", .str "xy", .int 1], .tup [.str "less", .str "x", .int (-1)], .tup [.str "less", .str "x", .int 21], .tup [.str "less", .str "x", .bl true],
   .tup [.str "less", .str "X", .int 1], .tup [.str "same", .int 1],
   .tup [.str "sum", .int 1, .int 2], .tup [.str "sum", .int 1, .int 2, .non], .tup [.str "sign", .int rows, .str "x", .int 0],
   .tup [.str "sign", .int 0, .str "x", .int 3], .tup [.str "sign", .int 0, .str "x"],
   .tup [.str "sign", .bl true, .str "x", .int 0], .tup [.str "sign", .int 0, .str "x", .bl true], .tup [.str "some", .str "x"], .tup [.str "some", .str "xy", plHere],
   .tup [.str "all", .int 1, plHere], longV 20,
   .tup [.str "some", .str "x", .tup [.str "some", .str "x", plHere]], .tup [.str "and", .tup [.str "some", .str "x", plHere], plHere],
   .tup [.str "and", .tup [.str "sum", .str "a", .str "b", .str "c"], .tup [.str "sum", .str "d", .str "e", .str "a"]], .tup [],
   .tup [.str "less", .ref a2, .int 1], .int 5,
   .tup [.str "and", .tup [.str "some", .str "x", plHere], .tup [.str "all", .str "x", plHere]], .tup [.str "not", .ref a3], .tup [.tup [.str "less"], .str "x", .int 1]]
def andSame (v : Val) : Val := .tup [.str "and", .tup [.str "same", .int 1, .int 1], v]
def badV (rows : Nat) (x : Val) : Bool := !goodV rows x && !goodV rows (andSame x)
theorem odd_bad : ∀ (rows : Nat) (a1 a2 a3 : Addr), rows ≤ 3 → (oddItems rows a1 a2 a3).all (badV rows) = true
  | 0, a1, a2, a3, _ => rfl
  | 1, a1, a2, a3, _ => rfl
  | 2, a1, a2, a3, _ => rfl
  | 3, a1, a2, a3, _ => rfl
def isL (S : Sto) (a : Addr) : Prop := ∃ xs, S a = some (.lst xs)
theorem isL_up {S : Sto} {a p : Addr} {xs : List Val} (h : isL S a) : isL (up S p (.lst xs)) a := by
  by_cases z : a = p
  · subst z; exact ⟨xs, DL.up_same⟩
  · obtain ⟨ys, e⟩ := h
    exact ⟨ys, by rw [up_get z]; exact e⟩
/-- a list that grows, and lists that stand -/
structure Grow (S0 S : Sto) (p : Addr) (xs : List Val) (L : List Addr) : Prop where
  le : Sto.le S0 S
  here : S p = some (.lst xs)
  n0 : S0 p = none
  ls : ∀ a ∈ L, isL S a
theorem Grow.new {S0 S : Sto} {p q : Addr} {xs ys : List Val} {L : List Addr} (h : Grow S0 S p xs L) (hq : S q = none) : Grow S0 (up S q (.lst ys)) p xs (q :: L) :=
  ⟨le_new h.le hq, by rw [up_get (ne_new h.here hq)]; exact h.here, h.n0, fun a ha => by
    rcases List.mem_cons.mp ha with z | z
    · subst z; exact ⟨ys, DL.up_same⟩
    · exact isL_up (h.ls a z)⟩
theorem Grow.ext {S0 S : Sto} {p q : Addr} {xs ys : List Val} {L : List Addr} (h : Grow S0 S p xs L) (hq : S q = none) : Grow S0 (up (up S q (.lst ys)) p (.lst (xs ++ ys))) p (xs ++ ys) L :=
  ⟨le_write (h.new hq (ys := ys)).le h.n0, DL.up_same, h.n0, fun a ha => isL_up (isL_up (h.ls a ha))⟩
theorem ext_st {G : Cfg} {E : Nat → Sto → Prop} {rt : KV} {r : Sms} {nx : Env → Sto → Prop} {e : Env} {S0 S : Sto} {i : Nat} {p : Addr} {xs : List Val} {L : List Addr} {es : Exs} (hv : getV e i = some (.ref p)) (T : Grow S0 S p xs L)
    (h : ∀ K : List Val → Sto → Prop, (∀ ys S1 L1, Grow S0 S1 p xs L1 → xs.length + ys.length ≤ line → (∀ S2, Grow S0 S2 p (xs ++ ys) L1 → wSs G E rt r nx e S2) → K ys S1) → wEs G E es e S K) : wSs G E rt (.cons (.expr (.meth (.var i) .extend (.cons (.lst es) .nil))) r) nx e S := by
  refine step fun K hK => ?_
  have rc : recv .extend (.ref p) S = true := by simp only [recv, T.here]
  simp only [wS, wE, wEs, hv, withO_s]
  refine ⟨rc, ?_⟩
  refine h _ fun ys S1 L1 T1 hl go => ?_
  intro q hq
  have hpq : p ≠ q := ne_new T1.here hq
  simp only [wMt, up_get hpq, T1.here, DL.up_same]
  exact ⟨hpq, hl, hK _ _ (go _ (T1.ext hq))⟩
def sp_odd5 : Spec := fun vs S Q _ => match vs with
  | [hv, v, .int ci] => ∃ (b : Nat) (Rs : List Row) (f : Sn) (c : Nat), hv = hallV b Rs ∧ Rs.length ≤ 3 ∧ v = f.val ∧ ci = c ∧ ∀ x S', Sto.le S S' → okV S' x = true → badV Rs.length x = true → Q x S'
  | _ => False
theorem okV_ref {S : Sto} {a : Addr} (h : isL S a) : okV S (.ref a) = true := by
  obtain ⟨xs, e⟩ := h
  simp [okV, kn, e, shr]
theorem odd_ok {S : Sto} {rows : Nat} {a1 a2 a3 : Addr} (h1 : isL S a1) (h2 : isL S a2) (h3 : isL S a3) : (oddItems rows a1 a2 a3).all (okV S) = true := by
  have e1 := okV_ref h1
  have e2 := okV_ref h2
  have e3 := okV_ref h3
  have e4 : ∀ n, okV S (longV n) = true := by
    intro n
    induction n with
    | zero => rfl
    | succ n ih => simp only [longV, okV_tup, okVs_cons, ih, okVs_nil, Bool.and_true]; rfl
  have es : ∀ z : Str, okV S (.str z) = decide (z.length ≤ 1000) := fun z => by simp [okV, kn, shr]
  have eb : ∀ z : Bool, okV S (.bl z) = true := fun z => rfl
  have en : okV S .non = true := rfl
  simp only [oddItems, List.all_cons, List.all_nil, plHere, okV_tup, okVs_cons, okVs_nil, e1, e2, e3, e4, es, eb, en, okV_int, Bool.and_true, Bool.true_and]
  decide
theorem withO_at {xs : List Val} {i : Nat} {P : Val → Prop} (h : i < xs.length) (hp : ∀ x ∈ xs, P x) : withO xs[i]? P := by
  rw [List.getElem?_eq_getElem h]
  exact hp _ (List.getElem_mem h)
theorem w_odd5 {G : Cfg} : Wk G sp_odd5 n__law_odd b__law_odd := by
  intro args S Q E h
  unfold sp_odd5 at h
  split at h <;> first | contradiction | skip
  rename_i hv v ci
  obtain ⟨b, Rs, f, c, rfl, hRl, rfl, rfl, h2⟩ := h
  unfold b__law_odd
  refine step fun K hK => ?_
  simp only [n__law_odd, wSs, wS, wE, wEs, wO, wI, wC, wIf, wBin, wSub, startE_cons, startE_nil, List.replicate, getV_0, getV_s, withO_s, withB_b, bind_one, bind_two, List.set_cons_zero, List.set_cons_succ, wipeE, Nat.zero_add, atI_0, atI_1, atI_2, atI_3, see_int, see_bl, see_str, see_non, dep_int, dep_bl, dep_str, dep_non, Nat.zero_min, Nat.min_zero, Nat.zero_le, true_imp_iff, false_imp_iff, Bool.not_false, Bool.not_true, reduceCtorEq, and_true, true_and, List.length_cons, List.length_nil]
  refine hK _ _ (step fun K2 hK2 => ?_)
  simp only [wSs, wS, wE, wEs, wO, wI, wC, wIf, wBin, wSub, startE_cons, startE_nil, List.replicate, getV_0, getV_s, withO_s, withB_b, bind_one, bind_two, List.set_cons_zero, List.set_cons_succ, wipeE, Nat.zero_add, atI_0, atI_1, atI_2, atI_3, see_int, see_bl, see_str, see_non, dep_int, dep_bl, dep_str, dep_non, Nat.zero_min, Nat.min_zero, Nat.zero_le, true_imp_iff, false_imp_iff, Bool.not_false, Bool.not_true, reduceCtorEq, and_true, true_and, List.length_cons, List.length_nil]
  refine hK2 _ _ (step fun K3 hK3 => for_step fun B hB => ?_)
  simp only [wSs, wS, wE, wEs, wO, wI, wC, wIf, wBin, wSub, startE_cons, startE_nil, List.replicate, getV_0, getV_s, withO_s, withB_b, bind_one, bind_two, List.set_cons_zero, List.set_cons_succ, wipeE, Nat.zero_add, atI_0, atI_1, atI_2, atI_3, see_int, see_bl, see_str, see_non, dep_int, dep_bl, dep_str, dep_non, Nat.zero_min, Nat.min_zero, Nat.zero_le, true_imp_iff, false_imp_iff, Bool.not_false, Bool.not_true, reduceCtorEq, and_true, true_and, List.length_cons, List.length_nil, wRng]
  refine ⟨by decide, by decide, ?_⟩
  rw [show Int.toNat 20 = 20 from rfl, rangeL_nat]
  refine for_inv (fun rest e S' => ∃ (k : Nat) (v5 : Option Val), k + rest.length = 20 ∧ S' = S ∧ e = [some (hallV b Rs), some f.val, some (.int c), some plHere, some (longV k), v5, none, none]) ?_ ?_ _ _ _ ⟨0, none, by simp, rfl, rfl⟩
  · rintro x rest e S' ⟨k, v5, hk, rfl, rfl⟩
    refine ⟨trivial, ?_⟩
    simp only [bind_one, bind_two, withO_s, List.set_cons_zero, List.set_cons_succ]
    intro kk hkk
    refine hB _ _ _ (step fun K4 hK4 => ?_)
    simp only [wSs, wS, wE, wEs, wO, wI, wC, wIf, wBin, wSub, startE_cons, startE_nil, List.replicate, getV_0, getV_s, withO_s, withB_b, bind_one, bind_two, List.set_cons_zero, List.set_cons_succ, wipeE, Nat.zero_add, atI_0, atI_1, atI_2, atI_3, see_int, see_bl, see_str, see_non, dep_int, dep_bl, dep_str, dep_non, Nat.zero_min, Nat.min_zero, Nat.zero_le, true_imp_iff, false_imp_iff, Bool.not_false, Bool.not_true, reduceCtorEq, and_true, true_and, List.length_cons, List.length_nil]
    refine hK4 _ _ ?_
    simp only [wSs, wS, wE, wEs, wO, wI, wC, wIf, wBin, wSub, startE_cons, startE_nil, List.replicate, getV_0, getV_s, withO_s, withB_b, bind_one, bind_two, List.set_cons_zero, List.set_cons_succ, wipeE, Nat.zero_add, atI_0, atI_1, atI_2, atI_3, see_int, see_bl, see_str, see_non, dep_int, dep_bl, dep_str, dep_non, Nat.zero_min, Nat.min_zero, Nat.zero_le, true_imp_iff, false_imp_iff, Bool.not_false, Bool.not_true, reduceCtorEq, and_true, true_and, List.length_cons, List.length_nil]
    exact hkk _ _ ⟨k + 1, some x, by simp at hk; omega, rfl, rfl⟩
  rintro e S' ⟨k, v5, hk, rfl, rfl⟩
  have hk : k = 20 := by simpa using hk
  subst hk
  refine ⟨trivial, hK3 _ _ (step fun K4 hK4 => ?_)⟩
  simp only [wSs, wS, wE, wEs, wO, wI, wC, wIf, wBin, wSub, startE_cons, startE_nil, List.replicate, getV_0, getV_s, withO_s, withB_b, bind_one, bind_two, List.set_cons_zero, List.set_cons_succ, wipeE, Nat.zero_add, atI_0, atI_1, atI_2, atI_3, see_int, see_bl, see_str, see_non, dep_int, dep_bl, dep_str, dep_non, Nat.zero_min, Nat.min_zero, Nat.zero_le, true_imp_iff, false_imp_iff, Bool.not_false, Bool.not_true, reduceCtorEq, and_true, true_and, List.length_cons, List.length_nil]
  refine hK4 _ _ (step fun K5 hK5 => ?_)
  simp only [wSs, wS, wE, wEs, wO, wI, wC, wIf, wBin, wSub, startE_cons, startE_nil, List.replicate, getV_0, getV_s, withO_s, withB_b, bind_one, bind_two, List.set_cons_zero, List.set_cons_succ, wipeE, Nat.zero_add, atI_0, atI_1, atI_2, atI_3, see_int, see_bl, see_str, see_non, dep_int, dep_bl, dep_str, dep_non, Nat.zero_min, Nat.min_zero, Nat.zero_le, true_imp_iff, false_imp_iff, Bool.not_false, Bool.not_true, reduceCtorEq, and_true, true_and, List.length_cons, List.length_nil, val_args, wBt]
  intro a1 ha1 p hp
  have T : Grow S' (up (up S' a1 (.lst (.str f.hd :: f.args.map Arg.val))) p (.lst [.ref a1, .tup [.str "nor", plHere, plHere], .tup [.str "not"], .tup [.str "not", plHere, plHere]])) p
      [.ref a1, .tup [.str "nor", plHere, plHere], .tup [.str "not"], .tup [.str "not", plHere, plHere]] [a1] :=
    ⟨le_new (le_new (.refl _) ha1) hp, DL.up_same, le_off (le_new (.refl _) ha1) hp, fun a ha => by
      simp at ha
      subst ha
      exact isL_up ⟨_, DL.up_same⟩⟩
  generalize up (up S' a1 (.lst (.str f.hd :: f.args.map Arg.val))) p (.lst [.ref a1, .tup [.str "nor", plHere, plHere], .tup [.str "not"], .tup [.str "not", plHere, plHere]]) = S1 at T
  refine hK5 _ _ ?_
  refine ext_st (i := 7) rfl T fun K hK => ?_
  simp only [wSs, wS, wE, wEs, wO, wI, wC, wIf, wBin, wSub, startE_cons, startE_nil, List.replicate, getV_0, getV_s, withO_s, withB_b, bind_one, bind_two, List.set_cons_zero, List.set_cons_succ, wipeE, Nat.zero_add, atI_0, atI_1, atI_2, atI_3, see_int, see_bl, see_str, see_non, dep_int, dep_bl, dep_str, dep_non, Nat.zero_min, Nat.min_zero, Nat.zero_le, true_imp_iff, false_imp_iff, Bool.not_false, Bool.not_true, reduceCtorEq, and_true, true_and, List.length_cons, List.length_nil]
  refine hK _ _ _ T (Nat.le_of_ble_eq_true rfl) fun S2 T => ext_st (i := 7) rfl T fun K hK => ?_
  simp only [wSs, wS, wE, wEs, wO, wI, wC, wIf, wBin, wSub, startE_cons, startE_nil, List.replicate, getV_0, getV_s, withO_s, withB_b, bind_one, bind_two, List.set_cons_zero, List.set_cons_succ, wipeE, Nat.zero_add, atI_0, atI_1, atI_2, atI_3, see_int, see_bl, see_str, see_non, dep_int, dep_bl, dep_str, dep_non, Nat.zero_min, Nat.min_zero, Nat.zero_le, true_imp_iff, false_imp_iff, Bool.not_false, Bool.not_true, reduceCtorEq, and_true, true_and, List.length_cons, List.length_nil]
  refine hK _ _ _ T (Nat.le_of_ble_eq_true rfl) fun S2 T => ext_st (i := 7) rfl T fun K hK => ?_
  simp only [wSs, wS, wE, wEs, wO, wI, wC, wIf, wBin, wSub, startE_cons, startE_nil, List.replicate, getV_0, getV_s, withO_s, withB_b, bind_one, bind_two, List.set_cons_zero, List.set_cons_succ, wipeE, Nat.zero_add, atI_0, atI_1, atI_2, atI_3, see_int, see_bl, see_str, see_non, dep_int, dep_bl, dep_str, dep_non, Nat.zero_min, Nat.min_zero, Nat.zero_le, true_imp_iff, false_imp_iff, Bool.not_false, Bool.not_true, reduceCtorEq, and_true, true_and, List.length_cons, List.length_nil]
  refine hK _ _ _ T (Nat.le_of_ble_eq_true rfl) fun S2 T => ext_st (i := 7) rfl T fun K hK => ?_
  simp only [wSs, wS, wE, wEs, wO, wI, wC, wIf, wBin, wSub, startE_cons, startE_nil, List.replicate, getV_0, getV_s, withO_s, withB_b, bind_one, bind_two, List.set_cons_zero, List.set_cons_succ, wipeE, Nat.zero_add, atI_0, atI_1, atI_2, atI_3, see_int, see_bl, see_str, see_non, dep_int, dep_bl, dep_str, dep_non, Nat.zero_min, Nat.min_zero, Nat.zero_le, true_imp_iff, false_imp_iff, Bool.not_false, Bool.not_true, reduceCtorEq, and_true, true_and, List.length_cons, List.length_nil, hallV, atI_1, wBt]
  refine hK _ _ _ T (Nat.le_of_ble_eq_true rfl) fun S2 T => ext_st (i := 7) rfl T fun K hK => ?_
  simp only [wSs, wS, wE, wEs, wO, wI, wC, wIf, wBin, wSub, startE_cons, startE_nil, List.replicate, getV_0, getV_s, withO_s, withB_b, bind_one, bind_two, List.set_cons_zero, List.set_cons_succ, wipeE, Nat.zero_add, atI_0, atI_1, atI_2, atI_3, see_int, see_bl, see_str, see_non, dep_int, dep_bl, dep_str, dep_non, Nat.zero_min, Nat.min_zero, Nat.zero_le, true_imp_iff, false_imp_iff, Bool.not_false, Bool.not_true, reduceCtorEq, and_true, true_and, List.length_cons, List.length_nil]
  refine hK _ _ _ T (Nat.le_of_ble_eq_true rfl) fun S2 T => ext_st (i := 7) rfl T fun K hK => ?_
  simp only [wSs, wS, wE, wEs, wO, wI, wC, wIf, wBin, wSub, startE_cons, startE_nil, List.replicate, getV_0, getV_s, withO_s, withB_b, bind_one, bind_two, List.set_cons_zero, List.set_cons_succ, wipeE, Nat.zero_add, atI_0, atI_1, atI_2, atI_3, see_int, see_bl, see_str, see_non, dep_int, dep_bl, dep_str, dep_non, Nat.zero_min, Nat.min_zero, Nat.zero_le, true_imp_iff, false_imp_iff, Bool.not_false, Bool.not_true, reduceCtorEq, and_true, true_and, List.length_cons, List.length_nil]
  refine hK _ _ _ T (Nat.le_of_ble_eq_true rfl) fun S2 T => ext_st (i := 7) rfl T fun K hK => ?_
  simp only [wSs, wS, wE, wEs, wO, wI, wC, wIf, wBin, wSub, startE_cons, startE_nil, List.replicate, getV_0, getV_s, withO_s, withB_b, bind_one, bind_two, List.set_cons_zero, List.set_cons_succ, wipeE, Nat.zero_add, atI_0, atI_1, atI_2, atI_3, see_int, see_bl, see_str, see_non, dep_int, dep_bl, dep_str, dep_non, Nat.zero_min, Nat.min_zero, Nat.zero_le, true_imp_iff, false_imp_iff, Bool.not_false, Bool.not_true, reduceCtorEq, and_true, true_and, List.length_cons, List.length_nil]
  refine hK _ _ _ T (Nat.le_of_ble_eq_true rfl) fun S2 T => ext_st (i := 7) rfl T fun K hK => ?_
  simp only [wSs, wS, wE, wEs, wO, wI, wC, wIf, wBin, wSub, startE_cons, startE_nil, List.replicate, getV_0, getV_s, withO_s, withB_b, bind_one, bind_two, List.set_cons_zero, List.set_cons_succ, wipeE, Nat.zero_add, atI_0, atI_1, atI_2, atI_3, see_int, see_bl, see_str, see_non, dep_int, dep_bl, dep_str, dep_non, Nat.zero_min, Nat.min_zero, Nat.zero_le, true_imp_iff, false_imp_iff, Bool.not_false, Bool.not_true, reduceCtorEq, and_true, true_and, List.length_cons, List.length_nil]
  refine hK _ _ _ T (Nat.le_of_ble_eq_true rfl) fun S2 T => ext_st (i := 7) rfl T fun K hK => ?_
  simp only [wSs, wS, wE, wEs, wO, wI, wC, wIf, wBin, wSub, startE_cons, startE_nil, List.replicate, getV_0, getV_s, withO_s, withB_b, bind_one, bind_two, List.set_cons_zero, List.set_cons_succ, wipeE, Nat.zero_add, atI_0, atI_1, atI_2, atI_3, see_int, see_bl, see_str, see_non, dep_int, dep_bl, dep_str, dep_non, Nat.zero_min, Nat.min_zero, Nat.zero_le, true_imp_iff, false_imp_iff, Bool.not_false, Bool.not_true, reduceCtorEq, and_true, true_and, List.length_cons, List.length_nil]
  intro a2 ha2
  refine hK _ _ _ (T.new ha2) (Nat.le_of_ble_eq_true rfl) fun S2 T => ext_st (i := 7) rfl T fun K hK => ?_
  simp only [plHere, wSs, wS, wE, wEs, wO, wI, wC, wIf, wBin, wSub, startE_cons, startE_nil, List.replicate, getV_0, getV_s, withO_s, withB_b, bind_one, bind_two, List.set_cons_zero, List.set_cons_succ, wipeE, Nat.zero_add, atI_0, atI_1, atI_2, atI_3, see_int, see_bl, see_str, see_non, dep_int, dep_bl, dep_str, dep_non, Nat.zero_min, Nat.min_zero, Nat.zero_le, true_imp_iff, false_imp_iff, Bool.not_false, Bool.not_true, reduceCtorEq, and_true, true_and, List.length_cons, List.length_nil, wBt]
  intro a3 ha3
  refine hK _ _ _ (T.new ha3) (Nat.le_of_ble_eq_true rfl) fun S2 T => ?_
  simp only [wSs, wS, wE, wEs, wO, wI, wC, wIf, wBin, wSub, startE_cons, startE_nil, List.replicate, getV_0, getV_s, withO_s, withB_b, bind_one, bind_two, List.set_cons_zero, List.set_cons_succ, wipeE, Nat.zero_add, atI_0, atI_1, atI_2, atI_3, see_int, see_bl, see_str, see_non, dep_int, dep_bl, dep_str, dep_non, Nat.zero_min, Nat.min_zero, Nat.zero_le, true_imp_iff, false_imp_iff, Bool.not_false, Bool.not_true, reduceCtorEq, and_true, true_and, List.length_cons, List.length_nil]
  refine ⟨by decide, ?_⟩
  have em : (c : Int) % 33 = ((c % 33 : Nat) : Int) := by omega
  simp only [T.here, em, atI_nat]
  have hlt : c % 33 < 33 := Nat.mod_lt _ (by decide)
  refine withO_at hlt fun x hx => ?_
  have hx : x ∈ oddItems Rs.length a1 a2 a3 := by
    simpa [oddItems, plHere] using hx
  have hb := List.all_eq_true.mp (odd_bad Rs.length a1 a2 a3 hRl) x hx
  have ho := List.all_eq_true.mp (odd_ok (rows := Rs.length) (T.ls a1 (by simp)) (T.ls a2 (by simp)) (T.ls a3 (by simp))) x hx
  exact rt_here (h2 x S2 T.le ho hb)
def ps_refused5 : PSpec := fun vs S Q E => match vs with
  | [.d h, .d v] => ∃ (b : Nat) (Rs : List Row), h = hallV b Rs ∧ HallOk b Rs ∧ okV S v = true ∧ goodV Rs.length v = false ∧ Q (.d (.bl true))
  | _ => False
theorem w_refused5 {g : PCfg} (f28 : g.fn 28 = some ps_checked_sentence) (ek : g.G.ek 3 = true) (s33 : g.G.sub 3 3 = true) (s30 : g.G.sub 3 0 = true) (s39 : g.G.sub 3 99 = true) (s31 : g.G.sub 3 1 = false) : Wp g ps_refused5 n__law_refused b__law_refused := by
  intro args S Q E h
  unfold ps_refused5 at h
  split at h <;> first | contradiction | skip
  obtain ⟨b, Rs, rfl, hh, hok, hb, h2⟩ := h
  unfold b__law_refused
  refine pstep fun K hK => ?_
  simp! only [n__law_refused, f28, ps_checked_sentence]
  refine .inl ⟨b, Rs, rfl, hh, hok, fun z => (by rw [hb] at z; cases z), fun _ => ⟨ek, fun _ => ?_, fun q => (by rw [s33] at q; cases q)⟩⟩
  simpa [pH, s30, s39, s31] using h2
/-- names bound around, one by one -/
def bindN (a : Bool) (l : List Nat) (f : Sn) : Sn := l.foldl (fun g c => .qu a c g) f
theorem bindN_app (a : Bool) (l : List Nat) (c : Nat) (f : Sn) : bindN a (l ++ [c]) f = .qu a c (bindN a l f) := by simp [bindN]
theorem bindN_occ (a : Bool) (c : Nat) : ∀ (l : List Nat) (f : Sn), (bindN a l f).occ c = (f.occ c && !decide (c ∈ l))
  | [], f => by simp [bindN]
  | d :: l, f => by
    show (bindN a l (.qu a d f)).occ c = _
    rw [bindN_occ a c l, Sn.occ]
    by_cases h : c = d <;> simp [h]
theorem bindN_bound (a : Bool) : ∀ (l : List Nat) (f : Sn), (bindN a l f).bound = l.reverse ++ f.bound
  | [], f => by simp [bindN]
  | d :: l, f => by
    show (bindN a l (.qu a d f)).bound = _
    rw [bindN_bound a l, Sn.bound]
    simp
theorem bindN_ok (a : Bool) (rows : Nat) : ∀ (l : List Nat) (f : Sn), (∀ c ∈ l, c < 26) → f.Ok rows → (bindN a l f).Ok rows
  | [], f, _, o => o
  | d :: l, f, h, o => bindN_ok a rows l (.qu a d f) (fun c hc => h c (by simp [hc])) ⟨h d (by simp), o⟩
theorem bindN_parts (a : Bool) : ∀ (l : List Nat) (f : Sn), (bindN a l f).parts = f.parts + l.length
  | [], f => by simp [bindN]
  | d :: l, f => by
    show (bindN a l (.qu a d f)).parts = _
    rw [bindN_parts a l, Sn.parts, List.length_cons]
    omega
theorem qf_bound : ∀ {f : Sn}, f.qf = true → f.bound = []
  | .less _ _, _ => rfl
  | .same _ _, _ => rfl
  | .sum _ _ _, _ => rfl
  | .sign _ _ _, _ => rfl
  | .neg f, h => qf_bound (f := f) h
  | .con _ f g, h => by
    simp only [Sn.qf, Bool.and_eq_true] at h
    simp [Sn.bound, qf_bound h.1, qf_bound h.2]
  | .qu _ _ _, h => by cases h
theorem qf_parts : ∀ {f : Sn} (d : Nat), f.deep ≤ d + 1 → f.qf = true → f.parts + 1 ≤ 2 ^ (d + 1)
  | .less _ _, d, _, _ => by have := Nat.one_le_two_pow (n := d); simp only [Sn.parts, Nat.pow_succ]; omega
  | .same _ _, d, _, _ => by have := Nat.one_le_two_pow (n := d); simp only [Sn.parts, Nat.pow_succ]; omega
  | .sum _ _ _, d, _, _ => by have := Nat.one_le_two_pow (n := d); simp only [Sn.parts, Nat.pow_succ]; omega
  | .sign _ _ _, d, _, _ => by have := Nat.one_le_two_pow (n := d); simp only [Sn.parts, Nat.pow_succ]; omega
  | .neg f, 0, h, _ => by have := f.deep_pos; simp only [Sn.deep] at h; omega
  | .neg f, d + 1, h, q => by
    have := qf_parts (f := f) d (by simp only [Sn.deep] at h; omega) q
    simp only [Sn.parts, Nat.pow_succ] at this ⊢
    omega
  | .con _ f g, 0, h, _ => by have := f.deep_pos; simp only [Sn.deep] at h; omega
  | .con _ f g, d + 1, h, q => by
    simp only [Sn.qf, Bool.and_eq_true] at q
    simp only [Sn.deep] at h
    have h1 := qf_parts (f := f) d (by omega) q.1
    have h2 := qf_parts (f := g) d (by omega) q.2
    simp only [Sn.parts, Nat.pow_succ] at h1 h2 ⊢
    omega
  | .qu _ _ _, _, _, q => by cases q
theorem few_free {f : Sn} {l : List Nat} (h : ∀ c, f.occ c = true → c ∈ l) : f.free.length ≤ l.length := by
  have nd : f.free.Nodup := (free_rise f).imp fun h z => by omega
  exact nd.length_le_of_subset fun c hc => h c (free_mem.mp hc).2
theorem bindN_good {rows : Nat} {a : Bool} {l : List Nat} {f : Sn} (q : f.qf = true) (hd : f.deep ≤ 3) (ok : f.Ok rows) (hx : ∀ c, f.occ c = true → c ∈ [23, 24, 25]) (hl : l ∈ [[], [23], [23, 24], [25]]) : (bindN a l f).Good rows := by
  have h26 : ∀ c ∈ l, c < 26 := by
    simp at hl
    rcases hl with rfl | rfl | rfl | rfl <;> simp
  have hp := qf_parts 2 hd q
  refine ⟨bindN_ok a rows l f h26 ok, ?_, ?_⟩
  · rw [bindN_parts]
    have : l.length ≤ 2 := by
      simp at hl
      rcases hl with rfl | rfl | rfl | rfl <;> simp
    omega
  · have eb : (bindN a l f).bound = l.reverse := by rw [bindN_bound, qf_bound q, List.append_nil]
    unfold Sn.fitB
    rw [eb, Bool.and_eq_true, decide_eq_true_eq, List.all_eq_true]
    refine ⟨?_, fun c hc => ?_⟩
    · have : ∀ L : List Nat, (∀ c, (bindN a l f).occ c = true → c ∈ L) → (bindN a l f).free.length ≤ L.length := fun L h => few_free h
      have key : ∀ L : List Nat, (∀ c ∈ [23, 24, 25], c ∉ l → c ∈ L) → L.length + l.length ≤ 4 → l.reverse.length + (bindN a l f).free.length ≤ 4 := fun L h1 h2 => by
        have := this L fun c hc => by
          rw [bindN_occ, Bool.and_eq_true] at hc
          exact h1 c (hx c hc.1) (by simpa using hc.2)
        rw [List.length_reverse]
        omega
      simp at hl
      rcases hl with rfl | rfl | rfl | rfl
      · exact key [23, 24, 25] (by simp) (by simp)
      · exact key [24, 25] (by simp) (by simp)
      · exact key [25] (by simp) (by simp)
      · exact key [23, 24] (by simp) (by simp)
    · have hc : c ∈ l := List.mem_reverse.mp hc
      rw [Bool.and_eq_true, decide_eq_true_eq]
      refine ⟨?_, ?_⟩
      · rw [List.count_reverse]
        simp at hl
        rcases hl with rfl | rfl | rfl | rfl
        · cases hc
        · simp at hc; subst hc; decide
        · simp at hc; rcases hc with rfl | rfl <;> decide
        · simp at hc; subst hc; decide
      · rw [bindN_occ]
        simp [hc]
theorem bindN_free {a : Bool} {l : List Nat} {f : Sn} : (bindN a l f).free = f.free.filter fun c => !decide (c ∈ l) := by
  unfold Sn.free
  rw [List.filter_filter]
  refine List.filter_congr fun c _ => ?_
  rw [bindN_occ, Bool.and_comm]
theorem z_is_built : ∀ vs S Q E, ps_is_built 0 vs S Q E → False := fun vs S Q E h => by
  unfold ps_is_built at h
  split at h
  · obtain ⟨m, _, _, _, hm, _⟩ := h
    omega
  · exact h
theorem z_parts : ∀ vs S Q E, ps_parts 0 vs S Q E → False := fun vs S Q E h => by
  unfold ps_parts at h
  split at h
  · obtain ⟨f, _, hd, _⟩ := h
    have := f.deep_pos
    omega
  · exact h
theorem z_free_of : ∀ vs S Q E, ps_free_of 0 vs S Q E → False := fun vs S Q E h => by
  unfold ps_free_of at h
  split at h
  · obtain ⟨f, _, _, hd, _⟩ := h
    have := f.deep_pos
    omega
  · exact h
theorem z_bound_of : ∀ vs S Q E, ps_bound_of 0 vs S Q E → False := fun vs S Q E h => by
  unfold ps_bound_of at h
  split at h
  · obtain ⟨f, _, hd, _⟩ := h
    have := f.deep_pos
    omega
  · exact h
theorem z_all_bound : ∀ vs S Q E, ps_all_bound 0 vs S Q E → False := fun vs S Q E h => by
  unfold ps_all_bound at h
  split at h
  · obtain ⟨f, _, _, _, _, hd, _⟩ := h
    have := f.deep_pos
    omega
  · exact h
theorem z_lfree : ∀ vs S Q E, sp_lfree 0 vs S Q E → False := fun vs S Q E h => by
  unfold sp_lfree at h
  split at h
  · obtain ⟨_, _, _, _, _, k, _, _, _, _, _, _, _, _, _, _, hk, _⟩ := h
    omega
  · exact h
theorem z_names_in : ∀ vs S Q E, ps_names_in 0 vs S Q E → False := fun vs S Q E h => by
  unfold ps_names_in at h
  split at h
  · obtain ⟨f, _, _, _, hd, _⟩ := h
    have := f.deep_pos
    omega
  · exact h
end DL

set_option autoImplicit true
set_option Elab.async false
set_option autoImplicit false
set_option linter.all false
set_option maxRecDepth 100000
set_option maxHeartbeats 8000000
/-! Law k05, plain part. -/
namespace DL
open PySem
def n_law5 : List Str := ["_law_script", "_law_m", "_law_hall_here", "_law_sentence", "_law_names", "_law_bound", "_law_name", "_law_answer", "_law_odd_here"]
def b_law5 : Sms :=
  (.cons (.asg 1 (.lst (.cons (.int 3) .nil)))
  (.cons (.asg 2 (.call 104 (.cons (.var 0) (.cons (.var 1) (.cons (.int 4) .nil)))))
  (.cons (.asg 3 (.call 107 (.cons (.var 0) (.cons (.var 1) (.cons (.var 2) (.cons (.lst (.cons (.str "x") (.cons (.str "y") (.cons (.str "z") .nil)))) (.cons (.int 2) .nil)))))))
  (.cons (.asg 4 (.call 114 (.cons (.var 3) .nil)))
  (.cons (.asg 5 (.sub (.lst (.cons (.lst .nil) (.cons (.lst (.cons (.str "x") .nil)) (.cons (.lst (.cons (.str "x") (.cons (.str "y") .nil))) (.cons (.lst (.cons (.str "z") .nil)) .nil))))) (.call 101 (.cons (.var 0) (.cons (.int 0) (.cons (.int 4) .nil))))))
  (.cons (.for (.one 6) (.val (.var 5))
    (.cons (.asg 3 (.tup (.cons (.sub (.lst (.cons (.str "some") (.cons (.str "all") .nil))) (.call 101 (.cons (.var 0) (.cons (.int 1) (.cons (.int 2) .nil))))) (.cons (.var 6) (.cons (.var 3) .nil)))))
      .nil))
  (.cons (.asg 7 (.call 29 (.cons (.var 2) (.cons (.var 3) .nil))))
  (.cons (.ite (.or (.cmp .ne (.call 28 (.cons (.var 2) (.cons (.var 3) .nil))) (.var 3)) (.not (.isi (.var 7) .list)))
    (.cons (.ret (.bl false))
      .nil)
    .nil)
  (.cons (.ite (.drop (.cmp .ne (.var 7) (.comp (.mk (.one 6) [6] (.var 6) (.val (.var 4)) (.some (.cmp .notin (.var 6) (.var 5)))))))
    (.cons (.ret (.bl false))
      .nil)
    .nil)
  (.cons (.asg 8 (.call 124 (.cons (.var 2) (.cons (.var 3) (.cons (.call 101 (.cons (.var 0) (.cons (.int 2) (.cons (.bin .pow (.int 10) (.int 6)) .nil)))) .nil)))))
  (.cons (.ret (.and (.call 123 (.cons (.var 2) (.cons (.var 8) .nil))) (.call 123 (.cons (.var 2) (.cons (.tup (.cons (.str "and") (.cons (.tup (.cons (.str "same") (.cons (.int 1) (.cons (.int 1) .nil)))) (.cons (.var 8) .nil)))) .nil)))))
  .nil)))))))))))

structure K05G (G : Cfg) : Prop where
  f101 : G.fn 101 = some sp_mixed
  f104 : G.fn 104 = some sp_hall
  f107 : G.fn 107 = some (sp_lfree 3)
  f114 : G.fn 114 = some (up1 (ps_names_in 4))
  f28 : G.fn 28 = some (up1 ps_checked_sentence)
  f29 : G.fn 29 = some (up1 ps_free)
  f123 : G.fn 123 = some (up1 ps_refused5)
  f124 : G.fn 124 = some sp_odd5
theorem keep_bump {S : Sto} {b : Addr} {o o2 : Ob} {v : Val} (hv : ∀ a, v ≠ .ref a) (hb : S b = some o2) : keep S (up S b o) v = up S b o := by
  funext a
  have hr : isRef v a = false := by cases v <;> first | rfl | exact absurd rfl (hv _)
  unfold keep
  rw [hr, Bool.or_false]
  by_cases e : a = b
  · subst e
    simp [hb]
  · rw [up_get e]
    cases q : S a <;> simp
theorem xyz_eq : [Val.str "x", Val.str "y", Val.str "z"] = [23, 24, 25].map nmV := rfl
theorem veq_ldat {xs : List Val} (h : Val.dats xs = true) : (Val.lst xs).veq (.lst xs) = true := by
  have e : (Val.lst xs).veq (.lst xs) = (Val.tup xs).veq (.tup xs) := by simp [Val.veq, Val.py, PyData.eqv]
  rw [e]
  exact veq_refl h
theorem w_law5 {G : Cfg} (g : K05G G) : Wk G sp_plaw n_law5 b_law5 := by
  intro args S Q E h
  unfold sp_plaw at h
  split at h <;> first | contradiction | skip
  obtain ⟨ns, rfl, hQ⟩ := h
  unfold b_law5
  refine step fun K hK => ?_
  simp only [n_law5, wSs, wS, wE, wEs, wO, wI, wC, wIf, wBin, wSub, startE_cons, startE_nil, List.replicate, getV_0, getV_s, withO_s, withB_b, bind_one, bind_two, List.set_cons_zero, List.set_cons_succ, wipeE, Nat.zero_add, atI_0, atI_1, atI_2, atI_3, see_int, see_bl, see_str, see_non, dep_int, dep_bl, dep_str, dep_non, Nat.zero_min, Nat.min_zero, Nat.zero_le, true_imp_iff, false_imp_iff, Bool.not_false, Bool.not_true, reduceCtorEq, and_true, true_and, List.length_cons, List.length_nil]
  intro p1 hp1
  refine hK _ _ (step fun K2 hK2 => ?_)
  simp only [wSs, wS, wE, wEs, wO, wI, wC, wIf, wBin, wSub, startE_cons, startE_nil, List.replicate, getV_0, getV_s, withO_s, withB_b, bind_one, bind_two, List.set_cons_zero, List.set_cons_succ, wipeE, Nat.zero_add, atI_0, atI_1, atI_2, atI_3, see_int, see_bl, see_str, see_non, dep_int, dep_bl, dep_str, dep_non, Nat.zero_min, Nat.min_zero, Nat.zero_le, true_imp_iff, false_imp_iff, Bool.not_false, Bool.not_true, reduceCtorEq, and_true, true_and, List.length_cons, List.length_nil, g.f104, sp_hall]
  refine ⟨ns, 3, rfl, DL.up_same, by decide, fun base Rs j hb hl hR => ?_⟩
  rw [up_up]
  have hh : HallOk base Rs := ⟨hb, by omega, fun R h => (hR R h).1⟩
  have eh : Val.tup [.int base, .tup (Rs.map Row.val)] = hallV base Rs := rfl
  rw [eh]
  have hRne : Rs ≠ [] := List.length_pos_iff.mp (by omega)
  refine hK2 _ _ (step fun K3 hK3 => ?_)
  simp only [wSs, wS, wE, wEs, wO, wI, wC, wIf, wBin, wSub, startE_cons, startE_nil, List.replicate, getV_0, getV_s, withO_s, withB_b, bind_one, bind_two, List.set_cons_zero, List.set_cons_succ, wipeE, Nat.zero_add, atI_0, atI_1, atI_2, atI_3, see_int, see_bl, see_str, see_non, dep_int, dep_bl, dep_str, dep_non, Nat.zero_min, Nat.min_zero, Nat.zero_le, true_imp_iff, false_imp_iff, Bool.not_false, Bool.not_true, reduceCtorEq, and_true, true_and, List.length_cons, List.length_nil]
  intro q hq
  have hq1 : p1 ≠ q := ne_new (S := up S p1 (.lst [.int j])) DL.up_same hq
  simp only [g.f107, sp_lfree, wSs, wS, wE, wEs, wO, wI, wC, wIf, wBin, wSub, startE_cons, startE_nil, List.replicate, getV_0, getV_s, withO_s, withB_b, bind_one, bind_two, List.set_cons_zero, List.set_cons_succ, wipeE, Nat.zero_add, atI_0, atI_1, atI_2, atI_3, see_int, see_bl, see_str, see_non, dep_int, dep_bl, dep_str, dep_non, Nat.zero_min, Nat.min_zero, Nat.zero_le, true_imp_iff, false_imp_iff, Bool.not_false, Bool.not_true, reduceCtorEq, and_true, true_and, List.length_cons, List.length_nil]
  refine ⟨ns, j, [23, 24, 25], base, Rs, 2, rfl, by rw [up_get hq1]; exact DL.up_same, rfl, hRne, by omega, by rw [DL.up_same]; rfl, by simp, by simp, by simp, rfl, by omega, fun f j2 fq fd fo fx => ?_⟩
  generalize up (up (up S p1 (.lst [.int j])) q _) p1 (.lst [.int j2]) = S3
  refine hK3 _ _ (step fun K4 hK4 => ?_)
  simp only [wSs, wS, wE, wEs, wO, wI, wC, wIf, wBin, wSub, startE_cons, startE_nil, List.replicate, getV_0, getV_s, withO_s, withB_b, bind_one, bind_two, List.set_cons_zero, List.set_cons_succ, wipeE, Nat.zero_add, atI_0, atI_1, atI_2, atI_3, see_int, see_bl, see_str, see_non, dep_int, dep_bl, dep_str, dep_non, Nat.zero_min, Nat.min_zero, Nat.zero_le, true_imp_iff, false_imp_iff, Bool.not_false, Bool.not_true, reduceCtorEq, and_true, true_and, List.length_cons, List.length_nil, g.f114]
  refine up1_d (vs := [f.val]) ⟨f, Rs.length, rfl, fq, by omega, fo, ?_⟩
  intro p4 hp4
  refine hK4 _ _ (step fun K5 hK5 => ?_)
  have h44 : up S3 p4 (.lst (f.free.map nmV)) p4 = some (.lst (f.free.map nmV)) := DL.up_same
  generalize up S3 p4 (.lst (f.free.map nmV)) = S4 at h44
  simp only [wSs, wS, wE, wEs, wO, wI, wC, wIf, wBin, wSub, startE_cons, startE_nil, List.replicate, getV_0, getV_s, withO_s, withB_b, bind_one, bind_two, List.set_cons_zero, List.set_cons_succ, wipeE, Nat.zero_add, atI_0, atI_1, atI_2, atI_3, see_int, see_bl, see_str, see_non, dep_int, dep_bl, dep_str, dep_non, Nat.zero_min, Nat.min_zero, Nat.zero_le, true_imp_iff, false_imp_iff, Bool.not_false, Bool.not_true, reduceCtorEq, and_true, true_and, List.length_cons, List.length_nil]
  intro a0 h0 a1 h1 a2 h2 a3 h3 a4 h4
  have le4 : Sto.le S4 (up (up (up (up (up S4 a0 (.lst [])) a1 (.lst [.str "x"])) a2 (.lst [.str "x", .str "y"])) a3 (.lst [.str "z"])) a4 (.lst [.ref a0, .ref a1, .ref a2, .ref a3])) := le_new (le_new (le_new (le_new (le_new (.refl _) h0) h1) h2) h3) h4
  have g0 : (up (up (up (up (up S4 a0 (.lst [])) a1 (.lst [.str "x"])) a2 (.lst [.str "x", .str "y"])) a3 (.lst [.str "z"])) a4 (.lst [.ref a0, .ref a1, .ref a2, .ref a3])) a0 = some (.lst []) :=
    (le_new (le_new (le_new (le_new (.refl _) h1) h2) h3) h4) _ _ DL.up_same
  have g1 : (up (up (up (up (up S4 a0 (.lst [])) a1 (.lst [.str "x"])) a2 (.lst [.str "x", .str "y"])) a3 (.lst [.str "z"])) a4 (.lst [.ref a0, .ref a1, .ref a2, .ref a3])) a1 = some (.lst [.str "x"]) :=
    (le_new (le_new (le_new (.refl _) h2) h3) h4) _ _ DL.up_same
  have g2 : (up (up (up (up (up S4 a0 (.lst [])) a1 (.lst [.str "x"])) a2 (.lst [.str "x", .str "y"])) a3 (.lst [.str "z"])) a4 (.lst [.ref a0, .ref a1, .ref a2, .ref a3])) a2 = some (.lst [.str "x", .str "y"]) :=
    (le_new (le_new (.refl _) h3) h4) _ _ DL.up_same
  have g3 : (up (up (up (up (up S4 a0 (.lst [])) a1 (.lst [.str "x"])) a2 (.lst [.str "x", .str "y"])) a3 (.lst [.str "z"])) a4 (.lst [.ref a0, .ref a1, .ref a2, .ref a3])) a3 = some (.lst [.str "z"]) :=
    (le_new (.refl _) h4) _ _ DL.up_same
  have g4 : (up (up (up (up (up S4 a0 (.lst [])) a1 (.lst [.str "x"])) a2 (.lst [.str "x", .str "y"])) a3 (.lst [.str "z"])) a4 (.lst [.ref a0, .ref a1, .ref a2, .ref a3])) a4 = some (.lst [.ref a0, .ref a1, .ref a2, .ref a3]) := DL.up_same
  generalize (up (up (up (up (up S4 a0 (.lst [])) a1 (.lst [.str "x"])) a2 (.lst [.str "x", .str "y"])) a3 (.lst [.str "z"])) a4 (.lst [.ref a0, .ref a1, .ref a2, .ref a3])) = S5 at le4 g0 g1 g2 g3 g4
  simp only [g.f101, sp_mixed, wSs, wS, wE, wEs, wO, wI, wC, wIf, wBin, wSub, startE_cons, startE_nil, List.replicate, getV_0, getV_s, withO_s, withB_b, bind_one, bind_two, List.set_cons_zero, List.set_cons_succ, wipeE, Nat.zero_add, atI_0, atI_1, atI_2, atI_3, see_int, see_bl, see_str, see_non, dep_int, dep_bl, dep_str, dep_non, Nat.zero_min, Nat.min_zero, Nat.zero_le, true_imp_iff, false_imp_iff, Bool.not_false, Bool.not_true, reduceCtorEq, and_true, true_and, List.length_cons, List.length_nil]
  refine ⟨ns, 0, rfl, rfl, by decide, ?_⟩
  have hr := mixed_in (ns := ns) (k := 0) (many := 4) (by decide)
  obtain ⟨r, er⟩ := Int.eq_ofNat_of_zero_le hr.1
  rw [er] at hr ⊢
  have hr4 : r < 4 := by omega
  have ebs : ∃ (bn : List Nat) (qa : Addr), [Val.ref a0, .ref a1, .ref a2, .ref a3][r]? = some (.ref qa) ∧ S5 qa = some (.lst (bn.map nmV)) ∧ bn ∈ [[], [23], [23, 24], [25]] := by
    match r, hr4 with
    | 0, _ => exact ⟨[], a0, rfl, g0, by simp⟩
    | 1, _ => exact ⟨[23], a1, rfl, g1, by simp⟩
    | 2, _ => exact ⟨[23, 24], a2, rfl, g2, by simp⟩
    | 3, _ => exact ⟨[25], a3, rfl, g3, by simp⟩
  obtain ⟨bn, qa, eq1, eq2, hbn⟩ := ebs
  simp only [g4, atI_nat, eq1, wSs, wS, wE, wEs, wO, wI, wC, wIf, wBin, wSub, startE_cons, startE_nil, List.replicate, getV_0, getV_s, withO_s, withB_b, bind_one, bind_two, List.set_cons_zero, List.set_cons_succ, wipeE, Nat.zero_add, atI_0, atI_1, atI_2, atI_3, see_int, see_bl, see_str, see_non, dep_int, dep_bl, dep_str, dep_non, Nat.zero_min, Nat.min_zero, Nat.zero_le, true_imp_iff, false_imp_iff, Bool.not_false, Bool.not_true, reduceCtorEq, and_true, true_and, List.length_cons, List.length_nil]
  have h45 : S5 p4 = some (.lst (f.free.map nmV)) := le4 _ _ h44
  clear g0 g1 g2 g3 g4 le4
  refine hK5 _ _ (step fun K6 hK6 => for_step fun B hB => ?_)
  simp only [wSs, wS, wE, wEs, wO, wI, wC, wIf, wBin, wSub, startE_cons, startE_nil, List.replicate, getV_0, getV_s, withO_s, withB_b, bind_one, bind_two, List.set_cons_zero, List.set_cons_succ, wipeE, Nat.zero_add, atI_0, atI_1, atI_2, atI_3, see_int, see_bl, see_str, see_non, dep_int, dep_bl, dep_str, dep_non, Nat.zero_min, Nat.min_zero, Nat.zero_le, true_imp_iff, false_imp_iff, Bool.not_false, Bool.not_true, reduceCtorEq, and_true, true_and, List.length_cons, List.length_nil, iterOf, eq2]
  have hr2 := mixed_in (ns := ns) (k := 1) (many := 2) (by decide)
  obtain ⟨r2, er2⟩ := Int.eq_ofNat_of_zero_le hr2.1
  have hr22 : r2 < 2 := by omega
  have ea : ∃ a : Bool, [Val.str "some", Val.str "all"][r2]? = some (.str (quS a)) := by
    match r2, hr22 with
    | 0, _ => exact ⟨false, rfl⟩
    | 1, _ => exact ⟨true, rfl⟩
  obtain ⟨a, ea⟩ := ea
  refine for_inv (fun rest e S' => ∃ (done rst : List Nat) (v6 : Option Val), rest = rst.map nmV ∧ done ++ rst = bn ∧ Sto.le S5 S' ∧ e = [some (.lst (ns.map .int)), some (.ref p1), some (hallV base Rs), some (bindN a done f).val, some (.ref p4), some (.ref qa), v6, none, none]) ?_ ?_ _ _ _
    ⟨[], bn, none, rfl, rfl, .refl _, rfl⟩
  · rintro x rest e S' ⟨done, rst, v6, hrst, hd, le, rfl⟩
    refine ⟨le _ _ eq2, ?_⟩
    cases rst with
    | nil => cases hrst
    | cons c rst =>
      cases hrst
      simp only [bind_one, bind_two, withO_s, List.set_cons_zero, List.set_cons_succ]
      intro kk hkk
      refine hB _ _ _ (step fun K7 hK7 => ?_)
      simp only [wSs, wS, wE, wEs, wO, wI, wC, wIf, wBin, wSub, startE_cons, startE_nil, List.replicate, getV_0, getV_s, withO_s, withB_b, bind_one, bind_two, List.set_cons_zero, List.set_cons_succ, wipeE, Nat.zero_add, atI_0, atI_1, atI_2, atI_3, see_int, see_bl, see_str, see_non, dep_int, dep_bl, dep_str, dep_non, Nat.zero_min, Nat.min_zero, Nat.zero_le, true_imp_iff, false_imp_iff, Bool.not_false, Bool.not_true, reduceCtorEq, and_true, true_and, List.length_cons, List.length_nil]
      intro p hp
      simp only [g.f101, sp_mixed, wSs, wS, wE, wEs, wO, wI, wC, wIf, wBin, wSub, startE_cons, startE_nil, List.replicate, getV_0, getV_s, withO_s, withB_b, bind_one, bind_two, List.set_cons_zero, List.set_cons_succ, wipeE, Nat.zero_add, atI_0, atI_1, atI_2, atI_3, see_int, see_bl, see_str, see_non, dep_int, dep_bl, dep_str, dep_non, Nat.zero_min, Nat.min_zero, Nat.zero_le, true_imp_iff, false_imp_iff, Bool.not_false, Bool.not_true, reduceCtorEq, and_true, true_and, List.length_cons, List.length_nil]
      refine ⟨ns, 1, rfl, rfl, by decide, ?_⟩
      rw [er2]
      simp only [DL.up_same, atI_nat, ea, wSs, wS, wE, wEs, wO, wI, wC, wIf, wBin, wSub, startE_cons, startE_nil, List.replicate, getV_0, getV_s, withO_s, withB_b, bind_one, bind_two, List.set_cons_zero, List.set_cons_succ, wipeE, Nat.zero_add, atI_0, atI_1, atI_2, atI_3, see_int, see_bl, see_str, see_non, dep_int, dep_bl, dep_str, dep_non, Nat.zero_min, Nat.min_zero, Nat.zero_le, true_imp_iff, false_imp_iff, Bool.not_false, Bool.not_true, reduceCtorEq, and_true, true_and, List.length_cons, List.length_nil]
      refine hK7 _ _ ?_
      simp only [wSs, wS, wE, wEs, wO, wI, wC, wIf, wBin, wSub, startE_cons, startE_nil, List.replicate, getV_0, getV_s, withO_s, withB_b, bind_one, bind_two, List.set_cons_zero, List.set_cons_succ, wipeE, Nat.zero_add, atI_0, atI_1, atI_2, atI_3, see_int, see_bl, see_str, see_non, dep_int, dep_bl, dep_str, dep_non, Nat.zero_min, Nat.min_zero, Nat.zero_le, true_imp_iff, false_imp_iff, Bool.not_false, Bool.not_true, reduceCtorEq, and_true, true_and, List.length_cons, List.length_nil]
      refine hkk _ _ ⟨done ++ [c], rst, some (nmV c), rfl, by simpa using hd, le_new le hp, ?_⟩
      rw [bindN_app]
      rfl
  · rintro e S' ⟨done, rst, v6, hrst, hd, le, rfl⟩
    have hrst : rst = [] := by
      cases rst with
      | nil => rfl
      | cons _ _ => cases hrst
    subst hrst
    rw [List.append_nil] at hd
    subst hd
    refine ⟨le _ _ eq2, hK6 _ _ (step fun K7 hK7 => ?_)⟩
    have gd := bindN_good (rows := Rs.length) (a := a) fq fd fo fx hbn
    have fr := bindN_free (a := a) (l := done) (f := f)
    have h46 := le _ _ h45
    have eq6 := le _ _ eq2
    clear le
    generalize hgg : bindN a done f = gg at gd fr
    have gv := goodV_val gd
    simp only [wSs, wS, wE, wEs, wO, wI, wC, wIf, wBin, wSub, startE_cons, startE_nil, List.replicate, getV_0, getV_s, withO_s, withB_b, bind_one, bind_two, List.set_cons_zero, List.set_cons_succ, wipeE, Nat.zero_add, atI_0, atI_1, atI_2, atI_3, see_int, see_bl, see_str, see_non, dep_int, dep_bl, dep_str, dep_non, Nat.zero_min, Nat.min_zero, Nat.zero_le, true_imp_iff, false_imp_iff, Bool.not_false, Bool.not_true, reduceCtorEq, and_true, true_and, List.length_cons, List.length_nil, g.f29]
    refine up1_d (vs := [hallV base Rs, gg.val]) (.inl ⟨base, Rs, rfl, hh, snv_ok _ gg, fun _ f' rows e o => ?_, fun z => (by rw [gv] at z; cases z)⟩)
    have : gg = f' := val_inj gd.1 o e
    subst this
    intro p7 hp7
    have h47 : up S' p7 (.lst (gg.free.map nmV)) p4 = some (.lst (f.free.map nmV)) := by rw [up_get (ne_new h46 hp7)]; exact h46
    have eq7 : up S' p7 (.lst (gg.free.map nmV)) qa = some (.lst (done.map nmV)) := by rw [up_get (ne_new eq6 hp7)]; exact eq6
    have h77 : up S' p7 (.lst (gg.free.map nmV)) p7 = some (.lst (gg.free.map nmV)) := DL.up_same
    generalize up S' p7 (.lst (gg.free.map nmV)) = S7 at h47 eq7 h77
    refine hK7 _ _ (step fun K8 hK8 => ite_step fun A2 B2 hA2 hB2 => ?_)
    simp only [wSs, wS, wE, wEs, wO, wI, wC, wIf, wBin, wSub, startE_cons, startE_nil, List.replicate, getV_0, getV_s, withO_s, withB_b, bind_one, bind_two, List.set_cons_zero, List.set_cons_succ, wipeE, Nat.zero_add, atI_0, atI_1, atI_2, atI_3, see_int, see_bl, see_str, see_non, dep_int, dep_bl, dep_str, dep_non, Nat.zero_min, Nat.min_zero, Nat.zero_le, true_imp_iff, false_imp_iff, Bool.not_false, Bool.not_true, reduceCtorEq, and_true, true_and, List.length_cons, List.length_nil, g.f28]
    refine up1_d (vs := [hallV base Rs, gg.val]) (.inl ⟨base, Rs, rfl, hh, snv_ok _ gg, fun _ => ?_, fun z => (by rw [gv] at z; cases z)⟩)
    have egd : min gg.val.dep gg.val.dep ≤ 100 := by
      have := snv_dep gg
      have := gg.deep_parts
      have := gd.2.1
      omega
    simp only [ResU, wCmp, see_dat (snv_dat gg), veq_refl (snv_dat gg), egd, tyKnown, tyOf, h77, wSs, wS, wE, wEs, wO, wI, wC, wIf, wBin, wSub, startE_cons, startE_nil, List.replicate, getV_0, getV_s, withO_s, withB_b, bind_one, bind_two, List.set_cons_zero, List.set_cons_succ, wipeE, Nat.zero_add, atI_0, atI_1, atI_2, atI_3, see_int, see_bl, see_str, see_non, dep_int, dep_bl, dep_str, dep_non, Nat.zero_min, Nat.min_zero, Nat.zero_le, true_imp_iff, false_imp_iff, Bool.not_false, Bool.not_true, reduceCtorEq, and_true, true_and, List.length_cons, List.length_nil]
    refine hB2 _ _ ?_
    simp only [wSs, wS, wE, wEs, wO, wI, wC, wIf, wBin, wSub, startE_cons, startE_nil, List.replicate, getV_0, getV_s, withO_s, withB_b, bind_one, bind_two, List.set_cons_zero, List.set_cons_succ, wipeE, Nat.zero_add, atI_0, atI_1, atI_2, atI_3, see_int, see_bl, see_str, see_non, dep_int, dep_bl, dep_str, dep_non, Nat.zero_min, Nat.min_zero, Nat.zero_le, true_imp_iff, false_imp_iff, Bool.not_false, Bool.not_true, reduceCtorEq, and_true, true_and, List.length_cons, List.length_nil]
    refine hK8 _ _ (step fun K9 hK9 => ite_step fun A3 B3 hA3 hB3 => ?_)
    simp only [wSs, wS, wE, wEs, wO, wI, wC, wIf, wBin, wSub, startE_cons, startE_nil, List.replicate, getV_0, getV_s, withO_s, withB_b, bind_one, bind_two, List.set_cons_zero, List.set_cons_succ, wipeE, Nat.zero_add, atI_0, atI_1, atI_2, atI_3, see_int, see_bl, see_str, see_non, dep_int, dep_bl, dep_str, dep_non, Nat.zero_min, Nat.min_zero, Nat.zero_le, true_imp_iff, false_imp_iff, Bool.not_false, Bool.not_true, reduceCtorEq, and_true, true_and, List.length_cons, List.length_nil, iterOf, h47]
    have hfil : ((f.free.map nmV).filterMap fun x => if decide (x.nk ∈ (done.map nmV).map Val.nk) = true then none else some x) = gg.free.map nmV := by
      rw [fr]
      have : ∀ L : List Nat, ((L.map nmV).filterMap fun x => if decide (x.nk ∈ (done.map nmV).map Val.nk) = true then none else some x) = (L.filter fun c => !decide (c ∈ done)).map nmV := by
        intro L
        induction L with
        | nil => rfl
        | cons c L ih =>
          have e : decide ((nmV c).nk ∈ (done.map nmV).map Val.nk) = decide (c ∈ done) := by
            rw [decide_eq_decide, List.map_map, List.mem_map]
            constructor
            · rintro ⟨d, h1, h2⟩
              have := nmV_nk.mp h2
              rwa [← this]
            · exact fun h => ⟨c, h, rfl⟩
          rw [List.map_cons, List.filterMap_cons, List.filter_cons]
          rw [e, ih]
          by_cases q : c ∈ done <;> simp [q]
      exact this _
    refine turns_fil (fun x => if decide (x.nk ∈ (done.map nmV).map Val.nk) = true then none else some x) h47 (fun x hx k hk => ?_) ?_
    · obtain ⟨c, hc, rfl⟩ := List.mem_map.mp hx
      have e1 : (nmV c).dat = true := rfl
      have e2 : (nmV c).dep ≤ 100 := by show 0 ≤ 100; omega
      have e : decide ((nmV c).nk ∈ (done.map nmV).map Val.nk) = decide (c ∈ done) := by
        rw [decide_eq_decide, List.map_map, List.mem_map]
        constructor
        · rintro ⟨d, h1, h2⟩
          have := nmV_nk.mp h2
          rwa [← this]
        · exact fun h => ⟨c, h, rfl⟩
      have hk : k (if decide (c ∈ done) = true then none else some (nmV c)) S7 := by
        rw [← e]
        exact hk
      simp only [wSs, wS, wE, wEs, wO, wI, wC, wIf, wBin, wSub, startE_cons, startE_nil, List.replicate, getV_0, getV_s, withO_s, withB_b, bind_one, bind_two, List.set_cons_zero, List.set_cons_succ, wipeE, Nat.zero_add, atI_0, atI_1, atI_2, atI_3, see_int, see_bl, see_str, see_non, dep_int, dep_bl, dep_str, dep_non, Nat.zero_min, Nat.min_zero, Nat.zero_le, true_imp_iff, false_imp_iff, Bool.not_false, Bool.not_true, reduceCtorEq, and_true, true_and, List.length_cons, List.length_nil, wCmp, eq7, e1, e2, sees_dats (names_dats done), any_names]
      refine ⟨fun z => ?_, fun z => ?_⟩
      · have z : ¬ c ∈ done := by simpa using z
        simpa [z] using hk
      · have z : c ∈ done := by simpa using z
        simpa [z] using hk
    · rw [List.nil_append, hfil]
      intro p8 hp8
      have h78 : up S7 p8 (.lst (gg.free.map nmV)) p7 = some (.lst (gg.free.map nmV)) := by rw [up_get (ne_new h77 hp8)]; exact h77
      have h88 : up S7 p8 (.lst (gg.free.map nmV)) p8 = some (.lst (gg.free.map nmV)) := DL.up_same
      have egl : min (Val.lst (gg.free.map nmV)).dep (Val.lst (gg.free.map nmV)).dep ≤ 100 := by
        have : (Val.lst (gg.free.map nmV)).dep = Val.deps (gg.free.map nmV) + 1 := rfl
        have := names_dep gg.free
        omega
      simp only [wCmp, see_names h78, see_names h88, veq_ldat (names_dats _), egl, wSs, wS, wE, wEs, wO, wI, wC, wIf, wBin, wSub, startE_cons, startE_nil, List.replicate, getV_0, getV_s, withO_s, withB_b, bind_one, bind_two, List.set_cons_zero, List.set_cons_succ, wipeE, Nat.zero_add, atI_0, atI_1, atI_2, atI_3, see_int, see_bl, see_str, see_non, dep_int, dep_bl, dep_str, dep_non, Nat.zero_min, Nat.min_zero, Nat.zero_le, true_imp_iff, false_imp_iff, Bool.not_false, Bool.not_true, reduceCtorEq, and_true, true_and, List.length_cons, List.length_nil]
      refine hB3 _ _ ?_
      simp only [wSs, wS, wE, wEs, wO, wI, wC, wIf, wBin, wSub, startE_cons, startE_nil, List.replicate, getV_0, getV_s, withO_s, withB_b, bind_one, bind_two, List.set_cons_zero, List.set_cons_succ, wipeE, Nat.zero_add, atI_0, atI_1, atI_2, atI_3, see_int, see_bl, see_str, see_non, dep_int, dep_bl, dep_str, dep_non, Nat.zero_min, Nat.min_zero, Nat.zero_le, true_imp_iff, false_imp_iff, Bool.not_false, Bool.not_true, reduceCtorEq, and_true, true_and, List.length_cons, List.length_nil]
      refine hK9 _ _ (step fun K10 hK10 => ?_)
      simp only [wSs, wS, wE, wEs, wO, wI, wC, wIf, wBin, wSub, startE_cons, startE_nil, List.replicate, getV_0, getV_s, withO_s, withB_b, bind_one, bind_two, List.set_cons_zero, List.set_cons_succ, wipeE, Nat.zero_add, atI_0, atI_1, atI_2, atI_3, see_int, see_bl, see_str, see_non, dep_int, dep_bl, dep_str, dep_non, Nat.zero_min, Nat.min_zero, Nat.zero_le, true_imp_iff, false_imp_iff, Bool.not_false, Bool.not_true, reduceCtorEq, and_true, true_and, List.length_cons, List.length_nil, g.f101, sp_mixed]
      refine ⟨⟨by decide, by decide, by decide⟩, ns, 2, rfl, rfl, by decide, ?_⟩
      obtain ⟨r3, er3⟩ := Int.eq_ofNat_of_zero_le (mixed_in (ns := ns) (k := 2) (many := (10 : Int) ^ (6 : Int).toNat) (by decide)).1
      rw [er3]
      simp only [g.f124, sp_odd5]
      refine ⟨base, Rs, gg, r3, rfl, hh.2.1, rfl, rfl, fun x S9 le9 hx hbad => ?_⟩
      unfold badV at hbad
      rw [Bool.and_eq_true, Bool.not_eq_true', Bool.not_eq_true'] at hbad
      refine hK10 _ _ ?_
      simp only [wSs, wS, wE, wEs, wO, wI, wC, wIf, wBin, wSub, startE_cons, startE_nil, List.replicate, getV_0, getV_s, withO_s, withB_b, bind_one, bind_two, List.set_cons_zero, List.set_cons_succ, wipeE, Nat.zero_add, atI_0, atI_1, atI_2, atI_3, see_int, see_bl, see_str, see_non, dep_int, dep_bl, dep_str, dep_non, Nat.zero_min, Nat.min_zero, Nat.zero_le, true_imp_iff, false_imp_iff, Bool.not_false, Bool.not_true, reduceCtorEq, and_true, true_and, List.length_cons, List.length_nil, g.f123]
      refine up1_d (vs := [hallV base Rs, x]) ⟨base, Rs, rfl, hh, hx, hbad.1, ?_⟩
      simp only [ResU, wSs, wS, wE, wEs, wO, wI, wC, wIf, wBin, wSub, startE_cons, startE_nil, List.replicate, getV_0, getV_s, withO_s, withB_b, bind_one, bind_two, List.set_cons_zero, List.set_cons_succ, wipeE, Nat.zero_add, atI_0, atI_1, atI_2, atI_3, see_int, see_bl, see_str, see_non, dep_int, dep_bl, dep_str, dep_non, Nat.zero_min, Nat.min_zero, Nat.zero_le, true_imp_iff, false_imp_iff, Bool.not_false, Bool.not_true, reduceCtorEq, and_true, true_and, List.length_cons, List.length_nil]
      refine up1_d (vs := [hallV base Rs, andSame x]) ⟨base, Rs, rfl, hh, ?_, hbad.2, ?_⟩
      · simp only [andSame, okV_tup, okVs_cons, okVs_nil, okV_int, hx, Bool.and_true]
        rfl
      · exact rt_here (hQ _)
end DL

set_option autoImplicit true
set_option Elab.async false
set_option pp.maxSteps 300
set_option linter.all false
set_option maxRecDepth 100000
set_option maxHeartbeats 8000000
/-! law_k05_sentences: the end. -/
namespace DL
open PySem PySem.Spec PyProof.Rows L2
/-- the i-th statement of the program -/
def top (i : Nat) : Stmt := PySem.Challenge.pw_digitrow_k05_sentences.main.body.getD i (.Pass ⟨0, 0, 0, 0⟩)
abbrev exsK : List (Str × Nat) := [("RowError", 0), ("NoHall", 1), ("NoSentence", 3)]
def spNo : DL.Spec := fun _ _ _ _ => False
def fnK (n : Nat) : Option DL.Spec := match n with
    | 0 => some sp_is_whole
    | 1 => some sp_between
    | 2 => some sp_is_state
    | 3 => some sp_is_row
    | 4 => some sp_is_hall
    | 5 => some sp_checked
    | 16 => some (up1 ps_is_name)
    | 17 => some (up1 ps_is_term)
    | 18 => some (up1 ps_is_plain)
    | 19 => some (up1 ps_inner)
    | 20 => some (up1 (ps_is_built 21))
    | 21 => some (up1 (ps_parts 20))
    | 22 => some (up1 ps_terms_of)
    | 23 => some (up1 (ps_free_of 20))
    | 24 => some (up1 (ps_bound_of 20))
    | 25 => some (up1 ps_names_fit)
    | 26 => some (up1 (ps_all_bound 20))
    | 27 => some (up1 ps_need_sentence)
    | 28 => some (up1 ps_checked_sentence)
    | 29 => some (up1 ps_free)
    | 100 => some sp_cell_at
    | 101 => some sp_mixed
    | 102 => some sp_next
    | 103 => some sp_row
    | 104 => some sp_hall
    | 105 => some sp_lterm
    | 106 => some sp_lplain
    | 107 => some (sp_lfree 3)
    | 114 => some (up1 (ps_names_in 4))
    | 124 => some sp_odd5
    | 123 => some (up1 ps_refused5)
    | _ => none
def fnX (i : Nat) (sp : DL.Spec) (n : Nat) : Option DL.Spec := if n = i then some sp else fnK n
def gC (fn : Nat → Option DL.Spec) (mt : Nat → Str → Option DL.Spec) (fl : Nat → Str → Bool) : Cfg where
  fn := fn
  mt := mt
  cv := fun x => if x = "STATES" then some (.int 8) else if x = "LETTERS" then some (.str ("abcdefghijklmnopqrstuvwxyz" : Str)) else if x = "PARTS" then some (.int 20) else if x = "NAMES" then some (.int 4) else if x = "JOINS" then some (.tup [.str ("and" : Str), .str ("or" : Str), .str ("then" : Str)]) else none
  fl := fl
  sub := fun x y => x == y || y == 0 || y == 99
  ek := fun x => [0, 1, 3].contains x
def mt0 : Nat → Str → Option DL.Spec := fun _ _ => none
def fl0 : Nat → Str → Bool := fun _ _ => false
abbrev gK : Cfg := gC fnK mt0 fl0
def fnP (n : Nat) : Option PSpec := match n with
    | 1 => some ps_between
    | 5 => some ps_checked
    | 16 => some ps_is_name
    | 17 => some ps_is_term
    | 18 => some ps_is_plain
    | 19 => some ps_inner
    | 20 => some (ps_is_built 21)
    | 21 => some (ps_parts 20)
    | 22 => some ps_terms_of
    | 23 => some (ps_free_of 20)
    | 24 => some (ps_bound_of 20)
    | 25 => some ps_names_fit
    | 26 => some (ps_all_bound 20)
    | 27 => some ps_need_sentence
    | 28 => some ps_checked_sentence
    | 29 => some ps_free
    | 114 => some (ps_names_in 4)
    | 123 => some ps_refused5
    | _ => none
def lnP (n : Nat) : Option LSpec := match n with
    | 104 => some ls_hall
    | 106 => some ls_lplain
    | 107 => some ls_lfree
    | _ => none
theorem okf_P (f : Nat) (ps : PSpec) (h : fnP f = some ps) : ∃ sp, fnK f = some sp ∧ ∀ vs S Q E, up1 ps vs S Q E → sp vs S Q E := by
  unfold fnP at h
  split at h
  · cases h; exact ⟨_, rfl, up_between⟩
  · cases h; exact ⟨_, rfl, up_checked⟩
  · cases h; exact ⟨_, rfl, fun _ _ _ _ z => z⟩
  · cases h; exact ⟨_, rfl, fun _ _ _ _ z => z⟩
  · cases h; exact ⟨_, rfl, fun _ _ _ _ z => z⟩
  · cases h; exact ⟨_, rfl, fun _ _ _ _ z => z⟩
  · cases h; exact ⟨_, rfl, fun _ _ _ _ z => z⟩
  · cases h; exact ⟨_, rfl, fun _ _ _ _ z => z⟩
  · cases h; exact ⟨_, rfl, fun _ _ _ _ z => z⟩
  · cases h; exact ⟨_, rfl, fun _ _ _ _ z => z⟩
  · cases h; exact ⟨_, rfl, fun _ _ _ _ z => z⟩
  · cases h; exact ⟨_, rfl, fun _ _ _ _ z => z⟩
  · cases h; exact ⟨_, rfl, fun _ _ _ _ z => z⟩
  · cases h; exact ⟨_, rfl, fun _ _ _ _ z => z⟩
  · cases h; exact ⟨_, rfl, fun _ _ _ _ z => z⟩
  · cases h; exact ⟨_, rfl, fun _ _ _ _ z => z⟩
  · cases h; exact ⟨_, rfl, fun _ _ _ _ z => z⟩
  · cases h; exact ⟨_, rfl, fun _ _ _ _ z => z⟩
  · cases h
theorem okl_P (f : Nat) (ps : LSpec) (h : lnP f = some ps) : ∃ sp, fnK f = some sp ∧ ∀ vs S Q E, upL ps vs S Q E → sp vs S Q E := by
  unfold lnP at h
  split at h
  · cases h; exact ⟨_, rfl, up_hall⟩
  · cases h; exact ⟨_, rfl, up_lplain⟩
  · cases h; exact ⟨_, rfl, up_lfree⟩
  · cases h
def gPM (M : Nat → Str → Option PSpec) : PCfg := ⟨gC fnK (fun c m => (M c m).map up1) fl0, fnP, M, lnP, okl_P, okf_P, fun c m ps h => ⟨up1 ps, by show (M c m).map up1 = _; rw [h]; rfl, fun _ _ _ _ z => z⟩⟩
def gP : PCfg := ⟨gK, fnP, fun _ _ => none, lnP, okl_P, okf_P, fun _ _ _ h => by cases h⟩
def gPX (i : Nat) (ps : PSpec) (hl : lnP i = none) : PCfg := ⟨gC (fnX i (up1 ps)) mt0 fl0, fun n => if n = i then some ps else fnP n, fun _ _ => none, lnP, fun f ls h => by
  obtain ⟨sp, e, k⟩ := okl_P f ls h
  have hn : f ≠ i := fun z => by subst z; rw [hl] at h; cases h
  exact ⟨sp, by show (if f = i then _ else fnK f) = _; rw [if_neg hn]; exact e, k⟩, fun f p h => by
  by_cases hn : f = i
  · subst hn
    rw [if_pos rfl] at h
    cases h
    exact ⟨up1 ps, if_pos rfl, fun _ _ _ _ z => z⟩
  · rw [if_neg hn] at h
    obtain ⟨sp, e, k⟩ := okf_P f p h
    exact ⟨sp, by show (if f = i then _ else fnK f) = _; rw [if_neg hn]; exact e, k⟩, fun _ _ _ h => by cases h⟩
theorem wk_names {G : Cfg} {sp : DL.Spec} {N N2 : List Str} {b : Sms} (e : N.length = N2.length) (h : Wk G sp N b) : Wk G sp N2 b := fun args S Q E q => by rw [← e]; exact h args S Q E q
abbrev m_is_whole : List Str := ["thing"]
abbrev t_is_whole : Tab := ⟨m_is_whole, [], [], exsK⟩
theorem sc_is_whole : FnScope m_is_whole ["thing"] (defScope (top 6)) := ⟨rfl, rfl, rfl, by decide +kernel, rfl, by decide +kernel, by decide +kernel⟩
theorem ck_is_whole : chkSs t_is_whole (defScope (top 6)) b_is_whole (defBody (top 6)) = true := by decide +kernel
abbrev m_between : List Str := ["thing", "low", "most"]
abbrev t_between : Tab := ⟨m_between, [("is_whole", 0)], [], exsK⟩
theorem sc_between : FnScope m_between ["thing", "low", "most"] (defScope (top 7)) := ⟨rfl, rfl, rfl, by decide +kernel, rfl, by decide +kernel, by decide +kernel⟩
theorem ck_between : chkSs t_between (defScope (top 7)) b_between (defBody (top 7)) = true := by decide +kernel
abbrev m_is_state : List Str := ["thing", "base", "many", "to"]
abbrev t_is_state : Tab := ⟨m_is_state, [("between", 1)], [], exsK⟩
theorem sc_is_state : FnScope m_is_state ["thing", "base", "many"] (defScope (top 8)) := ⟨rfl, rfl, rfl, by decide +kernel, rfl, by decide +kernel, by decide +kernel⟩
theorem ck_is_state : chkSs t_is_state (defScope (top 8)) b_is_state (defBody (top 8)) = true := by decide +kernel
abbrev m_is_row : List Str := ["thing", "base", "many", "state", "sign", "k"]
abbrev t_is_row : Tab := ⟨m_is_row, [("between", 1), ("is_state", 2)], [], exsK⟩
theorem sc_is_row : FnScope m_is_row ["thing", "base"] (defScope (top 9)) := ⟨rfl, rfl, rfl, by decide +kernel, rfl, by decide +kernel, by decide +kernel⟩
theorem ck_is_row : chkSs t_is_row (defScope (top 9)) (b_is_row "STATES") (defBody (top 9)) = true := by decide +kernel
abbrev m_is_hall : List Str := ["thing", "row"]
abbrev t_is_hall : Tab := ⟨m_is_hall, [("between", 1), ("is_row", 3)], [], exsK⟩
theorem sc_is_hall : FnScope m_is_hall ["thing"] (defScope (top 10)) := ⟨rfl, rfl, rfl, by decide +kernel, rfl, by decide +kernel, by decide +kernel⟩
theorem ck_is_hall : chkSs t_is_hall (defScope (top 10)) b_is_hall (defBody (top 10)) = true := by decide +kernel
abbrev m_checked : List Str := ["hall"]
abbrev t_checked : Tab := ⟨m_checked, [("is_hall", 4)], [], exsK⟩
theorem sc_checked : FnScope m_checked ["hall"] (defScope (top 11)) := ⟨rfl, rfl, rfl, by decide +kernel, rfl, by decide +kernel, by decide +kernel⟩
theorem ck_checked : chkSs t_checked (defScope (top 11)) b_checked (defBody (top 11)) = true := by decide +kernel
abbrev m_is_name : List Str := ["thing"]
abbrev t_is_name : Tab := ⟨m_is_name, [], [], exsK⟩
theorem sc_is_name : FnScope m_is_name ["thing"] (defScope (top 17)) := ⟨rfl, rfl, rfl, by decide +kernel, rfl, by decide +kernel, by decide +kernel⟩
theorem ck_is_name : chkSs t_is_name (defScope (top 17)) b_is_name (defBody (top 17)) = true := by decide +kernel
abbrev m_is_term : List Str := ["thing"]
abbrev t_is_term : Tab := ⟨m_is_term, [("between", 1), ("is_name", 16)], [], exsK⟩
theorem sc_is_term : FnScope m_is_term ["thing"] (defScope (top 18)) := ⟨rfl, rfl, rfl, by decide +kernel, rfl, by decide +kernel, by decide +kernel⟩
theorem ck_is_term : chkSs t_is_term (defScope (top 18)) b_is_term (defBody (top 18)) = true := by decide +kernel
abbrev m_is_plain : List Str := ["hall", "thing", "term"]
abbrev t_is_plain : Tab := ⟨m_is_plain, [("between", 1), ("is_term", 17)], [], exsK⟩
theorem sc_is_plain : FnScope m_is_plain ["hall", "thing"] (defScope (top 19)) := ⟨rfl, rfl, rfl, by decide +kernel, rfl, by decide +kernel, by decide +kernel⟩
theorem ck_is_plain : chkSs t_is_plain (defScope (top 19)) b_is_plain (defBody (top 19)) = true := by decide +kernel
abbrev m_inner : List Str := ["sentence"]
abbrev t_inner : Tab := ⟨m_inner, [], [], exsK⟩
theorem sc_inner : FnScope m_inner ["sentence"] (defScope (top 20)) := ⟨rfl, rfl, rfl, by decide +kernel, rfl, by decide +kernel, by decide +kernel⟩
theorem ck_inner : chkSs t_inner (defScope (top 20)) b_inner (defBody (top 20)) = true := by decide +kernel
abbrev m_is_built : List Str := ["hall", "thing", "most", "part"]
abbrev t_is_built : Tab := ⟨m_is_built, [("is_name", 16), ("is_plain", 18), ("inner", 19), ("is_built", 20)], [], exsK⟩
theorem sc_is_built : FnScope m_is_built ["hall", "thing", "most"] (defScope (top 21)) := ⟨rfl, rfl, rfl, by decide +kernel, rfl, by decide +kernel, by decide +kernel⟩
theorem ck_is_built : chkSs t_is_built (defScope (top 21)) b_is_built (defBody (top 21)) = true := by decide +kernel
abbrev m_parts : List Str := ["sentence", "part"]
abbrev t_parts : Tab := ⟨m_parts, [("inner", 19), ("parts", 21)], [], exsK⟩
theorem sc_parts : FnScope m_parts ["sentence"] (defScope (top 22)) := ⟨rfl, rfl, rfl, by decide +kernel, rfl, by decide +kernel, by decide +kernel⟩
theorem ck_parts : chkSs t_parts (defScope (top 22)) b_parts (defBody (top 22)) = true := by decide +kernel
abbrev m_terms_of : List Str := ["sentence"]
abbrev t_terms_of : Tab := ⟨m_terms_of, [], [], exsK⟩
theorem sc_terms_of : FnScope m_terms_of ["sentence"] (defScope (top 23)) := ⟨rfl, rfl, rfl, by decide +kernel, rfl, by decide +kernel, by decide +kernel⟩
theorem ck_terms_of : chkSs t_terms_of (defScope (top 23)) b_terms_of (defBody (top 23)) = true := by decide +kernel
abbrev m_free_of : List Str := ["sentence", "term", "found", "part", "name"]
abbrev t_free_of : Tab := ⟨m_free_of, [("is_name", 16), ("inner", 19), ("terms_of", 22), ("free_of", 23)], [], exsK⟩
theorem sc_free_of : FnScope m_free_of ["sentence"] (defScope (top 24)) := ⟨rfl, rfl, rfl, by decide +kernel, rfl, by decide +kernel, by decide +kernel⟩
theorem ck_free_of : chkSs t_free_of (defScope (top 24)) b_free_of (defBody (top 24)) = true := by decide +kernel
abbrev m_bound_of : List Str := ["sentence", "made", "part"]
abbrev t_bound_of : Tab := ⟨m_bound_of, [("inner", 19), ("bound_of", 24)], [], exsK⟩
theorem sc_bound_of : FnScope m_bound_of ["sentence"] (defScope (top 25)) := ⟨rfl, rfl, rfl, by decide +kernel, rfl, by decide +kernel, by decide +kernel⟩
theorem ck_bound_of : chkSs t_bound_of (defScope (top 25)) b_bound_of (defBody (top 25)) = true := by decide +kernel
abbrev m_names_fit : List Str := ["sentence", "bound", "free_ones", "name"]
abbrev t_names_fit : Tab := ⟨m_names_fit, [("free_of", 23), ("bound_of", 24), ("all_bound", 26)], [], exsK⟩
theorem sc_names_fit : FnScope m_names_fit ["sentence"] (defScope (top 26)) := ⟨rfl, rfl, rfl, by decide +kernel, rfl, by decide +kernel, by decide +kernel⟩
theorem ck_names_fit : chkSs t_names_fit (defScope (top 26)) b_names_fit (defBody (top 26)) = true := by decide +kernel
abbrev m_all_bound : List Str := ["sentence", "known", "term", "part"]
abbrev t_all_bound : Tab := ⟨m_all_bound, [("is_name", 16), ("inner", 19), ("terms_of", 22), ("all_bound", 26)], [], exsK⟩
theorem sc_all_bound : FnScope m_all_bound ["sentence", "known"] (defScope (top 27)) := ⟨rfl, rfl, rfl, by decide +kernel, rfl, by decide +kernel, by decide +kernel⟩
theorem ck_all_bound : chkSs t_all_bound (defScope (top 27)) b_all_bound (defBody (top 27)) = true := by decide +kernel
abbrev m_need_sentence : List Str := ["hall", "sentence"]
abbrev t_need_sentence : Tab := ⟨m_need_sentence, [("checked", 5), ("is_built", 20), ("parts", 21), ("names_fit", 25)], [], exsK⟩
theorem sc_need_sentence : FnScope m_need_sentence ["hall", "sentence"] (defScope (top 28)) := ⟨rfl, rfl, rfl, by decide +kernel, rfl, by decide +kernel, by decide +kernel⟩
theorem ck_need_sentence : chkSs t_need_sentence (defScope (top 28)) b_need_sentence (defBody (top 28)) = true := by decide +kernel
abbrev m_checked_sentence : List Str := ["hall", "sentence"]
abbrev t_checked_sentence : Tab := ⟨m_checked_sentence, [("need_sentence", 27)], [], exsK⟩
theorem sc_checked_sentence : FnScope m_checked_sentence ["hall", "sentence"] (defScope (top 29)) := ⟨rfl, rfl, rfl, by decide +kernel, rfl, by decide +kernel, by decide +kernel⟩
theorem ck_checked_sentence : chkSs t_checked_sentence (defScope (top 29)) b_checked_sentence (defBody (top 29)) = true := by decide +kernel
abbrev m_free : List Str := ["hall", "sentence"]
abbrev t_free : Tab := ⟨m_free, [("free_of", 23), ("need_sentence", 27)], [], exsK⟩
theorem sc_free : FnScope m_free ["hall", "sentence"] (defScope (top 30)) := ⟨rfl, rfl, rfl, by decide +kernel, rfl, by decide +kernel, by decide +kernel⟩
theorem ck_free : chkSs t_free (defScope (top 30)) b_free (defBody (top 30)) = true := by decide +kernel
abbrev m__law_cell_at : List Str := ["_law_script", "_law_k"]
abbrev t__law_cell_at : Tab := ⟨m__law_cell_at, [], [], exsK⟩
theorem sc__law_cell_at : FnScope m__law_cell_at ["_law_script", "_law_k"] (defScope (top 32)) := ⟨rfl, rfl, rfl, by decide +kernel, rfl, by decide +kernel, by decide +kernel⟩
theorem ck__law_cell_at : chkSs t__law_cell_at (defScope (top 32)) b__law_cell_at (defBody (top 32)) = true := by decide +kernel
abbrev m__law_mixed : List Str := ["_law_script", "_law_k", "_law_many", "_law_drawn"]
abbrev t__law_mixed : Tab := ⟨m__law_mixed, [("_law_cell_at", 100)], [], exsK⟩
theorem sc__law_mixed : FnScope m__law_mixed ["_law_script", "_law_k", "_law_many"] (defScope (top 33)) := ⟨rfl, rfl, rfl, by decide +kernel, rfl, by decide +kernel, by decide +kernel⟩
theorem ck__law_mixed : chkSs t__law_mixed (defScope (top 33)) b__law_mixed (defBody (top 33)) = true := by decide +kernel
abbrev m__law_next : List Str := ["_law_script", "_law_m", "_law_many"]
abbrev t__law_next : Tab := ⟨m__law_next, [("_law_mixed", 101)], [], exsK⟩
theorem sc__law_next : FnScope m__law_next ["_law_script", "_law_m", "_law_many"] (defScope (top 34)) := ⟨rfl, rfl, rfl, by decide +kernel, rfl, by decide +kernel, by decide +kernel⟩
theorem ck__law_next : chkSs t__law_next (defScope (top 34)) b__law_next (defBody (top 34)) = true := by decide +kernel
abbrev m__law_row : List Str := ["_law_script", "_law_m", "_law_base", "_law_most", "_law_many", "_law_k", "_law_signs", "_law_steps", "_law_to", "_law_same", "_law_state", "_law_figure"]
abbrev t__law_row : Tab := ⟨m__law_row, [("_law_next", 102)], [], exsK⟩
theorem sc__law_row : FnScope m__law_row ["_law_script", "_law_m", "_law_base", "_law_most"] (defScope (top 35)) := ⟨rfl, rfl, rfl, by decide +kernel, rfl, by decide +kernel, by decide +kernel⟩
theorem ck__law_row : chkSs t__law_row (defScope (top 35)) b__law_row (defBody (top 35)) = true := by decide +kernel
abbrev m__law_hall : List Str := ["_law_script", "_law_m", "_law_most", "_law_base", "_law_k", "_law_rows"]
abbrev t__law_hall : Tab := ⟨m__law_hall, [("_law_next", 102), ("_law_row", 103)], [], exsK⟩
theorem sc__law_hall : FnScope m__law_hall ["_law_script", "_law_m", "_law_most"] (defScope (top 36)) := ⟨rfl, rfl, rfl, by decide +kernel, rfl, by decide +kernel, by decide +kernel⟩
theorem ck__law_hall : chkSs t__law_hall (defScope (top 36)) b__law_hall (defBody (top 36)) = true := by decide +kernel
abbrev m__law_term : List Str := ["_law_script", "_law_m", "_law_names"]
abbrev t__law_term : Tab := ⟨m__law_term, [("_law_next", 102)], [], exsK⟩
theorem sc__law_term : FnScope m__law_term ["_law_script", "_law_m", "_law_names"] (defScope (top 37)) := ⟨rfl, rfl, rfl, by decide +kernel, rfl, by decide +kernel, by decide +kernel⟩
theorem ck__law_term : chkSs t__law_term (defScope (top 37)) b__law_term (defBody (top 37)) = true := by decide +kernel
abbrev m__law_plain : List Str := ["_law_script", "_law_m", "_law_hall_here", "_law_names", "_law_way", "_law_one", "_law_other"]
abbrev t__law_plain : Tab := ⟨m__law_plain, [("_law_next", 102), ("_law_term", 105)], [], exsK⟩
theorem sc__law_plain : FnScope m__law_plain ["_law_script", "_law_m", "_law_hall_here", "_law_names"] (defScope (top 38)) := ⟨rfl, rfl, rfl, by decide +kernel, rfl, by decide +kernel, by decide +kernel⟩
theorem ck__law_plain : chkSs t__law_plain (defScope (top 38)) b__law_plain (defBody (top 38)) = true := by decide +kernel
abbrev m__law_free : List Str := ["_law_script", "_law_m", "_law_hall_here", "_law_names", "_law_deep", "_law_way", "_law_one"]
abbrev t__law_free : Tab := ⟨m__law_free, [("_law_next", 102), ("_law_plain", 106), ("_law_free", 107)], [], exsK⟩
theorem sc__law_free : FnScope m__law_free ["_law_script", "_law_m", "_law_hall_here", "_law_names", "_law_deep"] (defScope (top 39)) := ⟨rfl, rfl, rfl, by decide +kernel, rfl, by decide +kernel, by decide +kernel⟩
theorem ck__law_free : chkSs t__law_free (defScope (top 39)) b__law_free (defBody (top 39)) = true := by decide +kernel
abbrev m__law_names_in : List Str := ["_law_sentence", "_law_found", "_law_part", "_law_name"]
abbrev t__law_names_in : Tab := ⟨m__law_names_in, [("_law_names_in", 114)], [], exsK⟩
theorem sc__law_names_in : FnScope m__law_names_in ["_law_sentence"] (defScope (top 40)) := ⟨rfl, rfl, rfl, by decide +kernel, rfl, by decide +kernel, by decide +kernel⟩
theorem ck__law_names_in : chkSs t__law_names_in (defScope (top 40)) b__law_names_in (defBody (top 40)) = true := by decide +kernel
abbrev m__law_odd : List Str := ["_law_hall_here", "_law_sentence", "_law_cell", "_law_plain_here", "_law_long", "_law_k", "_law_five", "_law_some"]
abbrev t__law_odd : Tab := ⟨m__law_odd, [], [], exsK⟩
theorem sc__law_odd : FnScope m__law_odd ["_law_hall_here", "_law_sentence", "_law_cell"] (defScope (top 41)) := ⟨rfl, rfl, rfl, by decide +kernel, rfl, by decide +kernel, by decide +kernel⟩
theorem ck__law_odd : chkSs t__law_odd (defScope (top 41)) b__law_odd (defBody (top 41)) = true := by decide +kernel
abbrev m__law_refused : List Str := ["_law_hall_here", "_law_thing", "e"]
abbrev t__law_refused : Tab := ⟨m__law_refused, [("checked_sentence", 28)], [], exsK⟩
theorem sc__law_refused : FnScope m__law_refused ["_law_hall_here", "_law_thing"] (defScope (top 42)) := ⟨rfl, rfl, rfl, by decide +kernel, rfl, by decide +kernel, by decide +kernel⟩
theorem ck__law_refused : chkSs t__law_refused (defScope (top 42)) b__law_refused (defBody (top 42)) = true := by decide +kernel
abbrev m_law : List Str := ["_law_script", "_law_m", "_law_hall_here", "_law_sentence", "_law_names", "_law_bound", "_law_name", "_law_answer", "_law_odd_here"]
abbrev t_law : Tab := ⟨m_law, [("checked_sentence", 28), ("free", 29), ("_law_mixed", 101), ("_law_hall", 104), ("_law_free", 107), ("_law_names_in", 114), ("_law_odd", 124), ("_law_refused", 123)], [], exsK⟩
theorem sc_law : FnScope m_law ["_law_script"] (defScope (top 43)) := ⟨rfl, rfl, rfl, by decide +kernel, rfl, by decide +kernel, by decide +kernel⟩
theorem ck_law : chkSs t_law (defScope (top 43)) b_law5 (defBody (top 43)) = true := by decide +kernel
theorem ar_is_whole : Arity 1 sp_is_whole := fun args S Q E h => by
  unfold sp_is_whole at h
  split at h <;> first | rfl | contradiction
theorem ar_between : Arity 3 sp_between := fun args S Q E h => by
  unfold sp_between at h
  split at h <;> first | rfl | contradiction
theorem ar_is_state : Arity 3 sp_is_state := fun args S Q E h => by
  unfold sp_is_state at h
  split at h <;> first | rfl | contradiction
theorem ar_is_row : Arity 2 sp_is_row := fun args S Q E h => by
  unfold sp_is_row at h
  split at h <;> first | rfl | contradiction
theorem ar_is_hall : Arity 1 sp_is_hall := fun args S Q E h => by
  unfold sp_is_hall at h
  split at h <;> first | rfl | contradiction
theorem ar_checked : Arity 1 sp_checked := fun args S Q E h => by
  unfold sp_checked at h
  split at h <;> first | rfl | contradiction
theorem ar_is_name : Arity 1 (up1 ps_is_name) := arity_up fun args S Q E h => by
  unfold ps_is_name at h
  split at h <;> first | rfl | contradiction
theorem ar_is_term : Arity 1 (up1 ps_is_term) := arity_up fun args S Q E h => by
  unfold ps_is_term at h
  split at h <;> first | rfl | contradiction
theorem ar_is_plain : Arity 2 (up1 ps_is_plain) := arity_up fun args S Q E h => by
  unfold ps_is_plain at h
  split at h <;> first | rfl | contradiction
theorem ar_inner : Arity 1 (up1 ps_inner) := arity_up fun args S Q E h => by
  unfold ps_inner at h
  split at h <;> first | rfl | contradiction
theorem ar_is_built : ∀ d : Nat, Arity 3 (up1 (ps_is_built d)) := fun d => arity_up fun args S Q E h => by
  unfold ps_is_built at h
  split at h <;> first | rfl | contradiction
theorem ar_parts : ∀ d : Nat, Arity 1 (up1 (ps_parts d)) := fun d => arity_up fun args S Q E h => by
  unfold ps_parts at h
  split at h <;> first | rfl | contradiction
theorem ar_terms_of : Arity 1 (up1 ps_terms_of) := arity_up fun args S Q E h => by
  unfold ps_terms_of at h
  split at h <;> first | rfl | contradiction
theorem ar_free_of : ∀ d : Nat, Arity 1 (up1 (ps_free_of d)) := fun d => arity_up fun args S Q E h => by
  unfold ps_free_of at h
  split at h <;> first | rfl | contradiction
theorem ar_bound_of : ∀ d : Nat, Arity 1 (up1 (ps_bound_of d)) := fun d => arity_up fun args S Q E h => by
  unfold ps_bound_of at h
  split at h <;> first | rfl | contradiction
theorem ar_names_fit : Arity 1 (up1 ps_names_fit) := arity_up fun args S Q E h => by
  unfold ps_names_fit at h
  split at h <;> first | rfl | contradiction
theorem ar_all_bound : ∀ d : Nat, Arity 2 (up1 (ps_all_bound d)) := fun d => arity_up fun args S Q E h => by
  unfold ps_all_bound at h
  split at h <;> first | rfl | contradiction
theorem ar_need_sentence : Arity 2 (up1 ps_need_sentence) := arity_up fun args S Q E h => by
  unfold ps_need_sentence at h
  split at h <;> first | rfl | contradiction
theorem ar_checked_sentence : Arity 2 (up1 ps_checked_sentence) := arity_up fun args S Q E h => by
  unfold ps_checked_sentence at h
  split at h <;> first | rfl | contradiction
theorem ar_free : Arity 2 (up1 ps_free) := arity_up fun args S Q E h => by
  unfold ps_free at h
  split at h <;> first | rfl | contradiction
theorem ar__law_cell_at : Arity 2 sp_cell_at := fun args S Q E h => by
  unfold sp_cell_at at h
  split at h <;> first | rfl | contradiction
theorem ar__law_mixed : Arity 3 sp_mixed := fun args S Q E h => by
  unfold sp_mixed at h
  split at h <;> first | rfl | contradiction
theorem ar__law_next : Arity 3 sp_next := fun args S Q E h => by
  unfold sp_next at h
  split at h <;> first | rfl | contradiction
theorem ar__law_row : Arity 4 sp_row := fun args S Q E h => by
  unfold sp_row at h
  split at h <;> first | rfl | contradiction
theorem ar__law_hall : Arity 3 sp_hall := fun args S Q E h => by
  unfold sp_hall at h
  split at h <;> first | rfl | contradiction
theorem ar__law_term : Arity 3 sp_lterm := fun args S Q E h => by
  unfold sp_lterm at h
  split at h <;> first | rfl | contradiction
theorem ar__law_plain : Arity 4 sp_lplain := fun args S Q E h => by
  unfold sp_lplain at h
  split at h <;> first | rfl | contradiction
theorem ar__law_free : ∀ d : Nat, Arity 5 (sp_lfree d) := fun d args S Q E h => by
  unfold sp_lfree at h
  split at h <;> first | rfl | contradiction
theorem ar__law_names_in : ∀ d : Nat, Arity 1 (up1 (ps_names_in d)) := fun d => arity_up fun args S Q E h => by
  unfold ps_names_in at h
  split at h <;> first | rfl | contradiction
theorem ar__law_odd : Arity 3 sp_odd5 := fun args S Q E h => by
  unfold sp_odd5 at h
  split at h <;> first | rfl | contradiction
theorem ar__law_refused : Arity 2 (up1 ps_refused5) := arity_up fun args S Q E h => by
  unfold ps_refused5 at h
  split at h <;> first | rfl | contradiction
theorem ar_law : Arity 1 sp_plaw := fun args S Q E h => by
  unfold sp_plaw at h
  split at h <;> first | rfl | contradiction
def spTop (K : PySem.W.Frag) : Sp := fun vs H Q _ => ∃ (a : Addr) (ns : List Int), vs = [.ref a] ∧ Only H ∧ SqL K H a (ns.map V.int) ∧ ∀ H', Q (.bl true) H'
theorem rv_script {K : PySem.W.Frag} {H : Hp} : ∀ ns : List Int, RVs K H (ns.map .int) (ns.map V.int)
  | [] => rfl
  | i :: r => ⟨.int i, r.map V.int, rfl, rfl, rv_script r⟩
theorem top_in {P : Program} {w : World} {K : PySem.W.Frag} {ca ex : Nat → Addr} {vs : List V} {H : Hp} {Q : VK} {E : XK} (h : spTop K vs H Q E) : lift ⟨P, w, K, ca, ex⟩ sp_plaw vs H Q E := by
  obtain ⟨a, ns, rfl, hO, hS, q⟩ := h
  have fz : FzL K H a (ns.map V.int) := by
    rcases hS with (z | z) | z
    · rcases hO a with e | ⟨o, xs, e⟩
      · rw [z] at e; cases e
      · rw [z] at e; cases e
    · exact .inl z
    · exact .inr z
  refine ⟨[.lst (ns.map .int)], fun _ => none, fun v _ => v = .bl true, noE, ⟨.ref a, [], rfl, ⟨a, _, rfl, fz, rv_script ns⟩, rfl⟩, fun _ _ z => (by cases z), ⟨ns, rfl, fun _ => rfl⟩, fun v S' u H' _ e _ rv => ?_, fun _ _ _ _ z => z.elim⟩
  subst e
  cases rv
  exact q H'
theorem cx_no {P : Program} {w : World} {outer : List PySem.Env} {H : Hp} {s : Shared} {e : Value} {s' : Shared} (z : L2.CX P w outer H s (fun _ _ _ => False) e s') : False := by
  obtain ⟨_, _, _, _, _, _, _, _, _, _, _, _, z⟩ := z
  exact z
theorem kitV_of {K : PySem.W.Frag} {a : Addr} (h : PySem.W.subIn K (.ref a) (.type "ValueError") = some true) : PySem.W.kitOne K (.ref a) (.type "ValueError") = some true := by
  unfold PySem.W.kitOne
  rw [if_neg (by intro z; cases z)]
  show (if PySem.W.kitMeta "ValueError" = true then PySem.W.subIn K (.ref a) (.type "ValueError") else none) = some true
  rw [if_pos (by decide +kernel)]
  exact h
theorem never_ok {P : Program} {w : World} {K : PySem.W.Frag} {mg : Str → Option Value} {base : Heap} {x qual : Str} {st : Stmt} {f : Addr} {fd : FuncData} {k : Nat} {ps : List Str} {ca ex : Nat → Addr} {sp : DL.Spec} (_ : Fun K x qual st f fd) (h : ∀ vs S Q E, sp vs S Q E → False) :
    FnOk P w K mg base (L2.CX P w) k f fd ps (lift ⟨P, w, K, ca, ex⟩ sp) :=
  ⟨fun _ _ _ _ q => (by obtain ⟨_, _, _, _, _, _, z, _⟩ := q; exact (h _ _ _ _ z).elim), fun _ _ _ _ _ _ _ _ _ _ _ _ _ q => (by obtain ⟨_, _, _, _, _, _, z, _⟩ := q; exact (h _ _ _ _ z).elim)⟩
theorem never_up1 {ps : PSpec} (h : ∀ vs S Q E, ps vs S Q E → False) : ∀ vs S Q E, up1 ps vs S Q E → False := fun _ _ _ _ q => (by obtain ⟨_, _, _, _, _, _, z, _⟩ := q; exact h _ _ _ _ z)
theorem rv_tupS {K : PySem.W.Frag} {H : Hp} {a : Addr} {d : Option Addr} {its : Array Value} {n : Nat} {sl : Array (Option Value)} {zs : List Str} (h : K.lookup a = some ⟨.type "tuple", d, .seq its n, sl⟩) (hs : its.size ≤ 1000) (hv : Vals (zs.map V.str) its.toList) : RV K H (.tup (zs.map Val.str)) (.ref a) := by
  refine ⟨a, zs.map V.str, rfl, .inr ⟨_, its, n, h, rfl, rfl, by rw [sizeLine_eq]; omega, hv⟩, ?_⟩
  have : ∀ zs : List Str, RVs K H (zs.map Val.str) (zs.map V.str) := by
    intro zs
    induction zs with
    | nil => rfl
    | cons z zs ih => exact ⟨.str z, zs.map V.str, rfl, rfl, ih⟩
  exact this zs

/-- what the top has written -/
structure Fx (K : PySem.W.Frag) (mg : Str → Option Value) (c : LC) : Prop where
  blt : ∀ x : Str, x ∈ [("len" : Str), "all", "any", "tuple", "list", "dict", "sorted", "int", "max", "min", "sum", "str", "isinstance", "range", "enumerate", "zip", "bool"] → mg x = none
  vale : mg "ValueError" = none
  cv0 : ∃ t, mg "STATES" = some (.int 8 t)
  cv1 : ∃ t, mg "LETTERS" = some (.str "abcdefghijklmnopqrstuvwxyz" t)
  cv2 : ∃ t, mg "PARTS" = some (.int 20 t)
  cv3 : ∃ t, mg "NAMES" = some (.int 4 t)
  cv4 : ∃ a, mg "JOINS" = some (.ref a) ∧ ∀ H, RV K H (.tup [.str ("and" : Str), .str ("or" : Str), .str ("then" : Str)]) (.ref a)
  exs : ∀ x ci, exsK.lookup x = some ci → ExAt K mg c x ci
  exc : ∀ x, gK.ek x = true → L2.ExcC K (c.ex x)
  exm : ∀ x y, gK.ek x = true → gK.ek y = true → PySem.W.exmOne K (.ref (c.ex x)) (.ref (c.ex y)) = some (gK.sub x y)
  kit : ∀ x y, gK.ek x = true → gK.ek y = true → PySem.W.kitOne K (.ref (c.ex x)) (.ref (c.ex y)) = some (gK.sub x y)
  kitV : ∀ x, gK.ek x = true → PySem.W.kitOne K (.ref (c.ex x)) (.type "ValueError") = some (gK.sub x 99)
section
variable {P : Program} {w : World} {K : PySem.W.Frag} {mg : Str → Option Value} {base : Heap} {c : LC}
theorem nm_of (F : Fx K mg c) {T : Tab} {k : Nat} {fnk : Nat → Option DL.Spec} {mt : Nat → Str → Option DL.Spec} {fl : Nat → Str → Bool} (ee : T.exs = exsK) (nd : T.N.Nodup) (h : ∀ p ∈ T.fns, ∃ sp, fnk p.2 = some sp ∧ FnAt P w K mg base c k p.1 sp) (hm : ∀ ci m sp, mt ci m = some sp → m ≠ ("__init__" : Str) → MtAt P w K mg base c k ci m sp) (hn : ∀ x ci, T.cls.lookup x = some ci → ∃ sp, mt ci "__init__" = some sp ∧ NewAt P w K mg base c k x ci sp) (hf : ∀ ci f, fl ci f = true → Cls K (c.ca ci) ∧ NoAttr K (c.ca ci) f) : Nm P w K mg base c (gC fnk mt fl) T k where
  fns := fun x f q => h (x, f) (PySem.mem_of_lookup q)
  mts := hm
  news := hn
  cvs := fun x v q => by
    unfold gC at q
    simp only at q
    split at q
    · rename_i e
      subst e
      cases q
      obtain ⟨t, e⟩ := F.cv0
      exact ⟨_, .int 8, e, ⟨t, rfl⟩, fun _ => rfl⟩
    split at q
    · rename_i e
      subst e
      cases q
      obtain ⟨t, e⟩ := F.cv1
      exact ⟨_, .str "abcdefghijklmnopqrstuvwxyz", e, ⟨t, rfl⟩, fun _ => rfl⟩
    split at q
    · rename_i e
      subst e
      cases q
      obtain ⟨t, e⟩ := F.cv2
      exact ⟨_, .int 20, e, ⟨t, rfl⟩, fun _ => rfl⟩
    split at q
    · rename_i e
      subst e
      cases q
      obtain ⟨t, e⟩ := F.cv3
      exact ⟨_, .int 4, e, ⟨t, rfl⟩, fun _ => rfl⟩
    split at q
    · rename_i e
      subst e
      cases q
      obtain ⟨a, e, h⟩ := F.cv4
      exact ⟨_, .ref a, e, rfl, h⟩
    cases q
  blt := F.blt
  nd := nd
  exs := fun x ci q => F.exs x ci (by rw [← ee]; exact q)
  exk := fun x ci q => by
    rw [ee] at q
    have m := PySem.mem_of_lookup q
    simp only [exsK, List.mem_cons, Prod.mk.injEq, List.not_mem_nil, or_false] at m
    rcases m with ⟨_, rfl⟩ | ⟨_, rfl⟩ | ⟨_, rfl⟩ <;> rfl
  exc := F.exc
  exm := F.exm
  kit := F.kit
  kitV := F.kitV
  vale := F.vale
  fls := hf
end
theorem all_mk {P : Program} {w : World} {K : PySem.W.Frag} {h : Heap} {mg : Str → Option Value} {fa : Addr} (X : K.In h) (G : h.Ns mainGlobals mg) (hfa : mg "law" = some (.ref fa))
    {f0 f1 f2 f3 f4 f5 f6 f7 f8 f9 f10 f11 f12 f13 f14 f15 f16 f17 f18 f19 f20 f21 f22 f23 f24 f25 f26 f27 f28 f29 f30 f31 x0 x1 x3 : Addr}
    {oc0 oc1 oc2 oc3 oc4 oc5 oc6 oc7 oc8 oc9 oc10 oc11 oc12 oc13 oc14 oc15 oc16 oc17 oc18 oc19 oc20 oc21 oc22 oc23 oc24 oc25 oc26 oc27 oc28 oc29 oc30 oc31 : Value}
    {kV0 kV1 kV2 kV3 kV4 kV5 kV6 kV7 kV8 kV9 kV10 kV11 kV12 kV13 kV14 kV15 kV16 kV17 kV18 kV19 kV20 kV21 kV22 kV23 kV24 kV25 kV26 kV27 kV28 kV29 kV30 kV31 : Value}
    {dc0 dc1 dc2 dc3 dc4 dc5 dc6 dc7 dc8 dc9 dc10 dc11 dc12 dc13 dc14 dc15 dc16 dc17 dc18 dc19 dc20 dc21 dc22 dc23 dc24 dc25 dc26 dc27 dc28 dc29 dc30 dc31 : Value}
    {pm0 pm1 pm2 pm3 pm4 pm5 pm6 pm7 pm8 pm9 pm10 pm11 pm12 pm13 pm14 pm15 pm16 pm17 pm18 pm19 pm20 pm21 pm22 pm23 pm24 pm25 pm26 pm27 pm28 pm29 pm30 pm31 : Value}
    {cd0 cd1 cd2 cd3 cd4 cd5 cd6 cd7 cd8 cd9 cd10 cd11 cd12 cd13 cd14 cd15 cd16 cd17 cd18 cd19 cd20 cd21 cd22 cd23 cd24 cd25 cd26 cd27 cd28 cd29 cd30 cd31 : Value}
    {ct0 ct1 ct2 ct3 ct4 ct5 ct6 ct7 ct8 ct9 ct10 ct11 ct12 ct13 ct14 ct15 ct16 ct17 ct18 ct19 ct20 ct21 ct22 ct23 ct24 ct25 ct26 ct27 ct28 ct29 ct30 ct31 : Value}
    {od0 od1 od2 od3 od4 od5 od6 od7 od8 od9 od10 od11 od12 od13 od14 od15 od16 od17 od18 od19 od20 od21 od22 od23 od24 od25 od26 od27 od28 od29 od30 od31 : Option Addr}
    {an0 an1 an2 an3 an4 an5 an6 an7 an8 an9 an10 an11 an12 an13 an14 an15 an16 an17 an18 an19 an20 an21 an22 an23 an24 an25 an26 an27 an28 an29 an30 an31 : Option Addr}
    {sl0 sl1 sl2 sl3 sl4 sl5 sl6 sl7 sl8 sl9 sl10 sl11 sl12 sl13 sl14 sl15 sl16 sl17 sl18 sl19 sl20 sl21 sl22 sl23 sl24 sl25 sl26 sl27 sl28 sl29 sl30 sl31 : Array (Option Value)}
    {tk0 tk1 tk2 tk3 : Tok}
    {tu4 : Addr} {tud4 : Option Addr} {tun4 : Nat} {tus4 : Array (Option Value)} {tk4_0 tk4_1 tk4_2 : Tok}
    (a0 : PySem.W.nsIn K mainGlobals "is_whole" = some (some (.ref f0)))
    (l0 : K.lookup f0 = some ⟨oc0, od0, .func (PySem.W.fnOf "is_whole" "is_whole" (defArgs (top 6)) (defBody (top 6)) (defScope (top 6)) .none kV0 dc0 pm0 an0 cd0 ct0), sl0⟩)
    (c0 : PySem.W.codeIn K cd0 "is_whole" = true)
    (k0 : PySem.W.keepIn K (.ref f0) = true)
    (a1 : PySem.W.nsIn K mainGlobals "between" = some (some (.ref f1)))
    (l1 : K.lookup f1 = some ⟨oc1, od1, .func (PySem.W.fnOf "between" "between" (defArgs (top 7)) (defBody (top 7)) (defScope (top 7)) .none kV1 dc1 pm1 an1 cd1 ct1), sl1⟩)
    (c1 : PySem.W.codeIn K cd1 "between" = true)
    (k1 : PySem.W.keepIn K (.ref f1) = true)
    (a2 : PySem.W.nsIn K mainGlobals "is_state" = some (some (.ref f2)))
    (l2 : K.lookup f2 = some ⟨oc2, od2, .func (PySem.W.fnOf "is_state" "is_state" (defArgs (top 8)) (defBody (top 8)) (defScope (top 8)) .none kV2 dc2 pm2 an2 cd2 ct2), sl2⟩)
    (c2 : PySem.W.codeIn K cd2 "is_state" = true)
    (k2 : PySem.W.keepIn K (.ref f2) = true)
    (a3 : PySem.W.nsIn K mainGlobals "is_row" = some (some (.ref f3)))
    (l3 : K.lookup f3 = some ⟨oc3, od3, .func (PySem.W.fnOf "is_row" "is_row" (defArgs (top 9)) (defBody (top 9)) (defScope (top 9)) .none kV3 dc3 pm3 an3 cd3 ct3), sl3⟩)
    (c3 : PySem.W.codeIn K cd3 "is_row" = true)
    (k3 : PySem.W.keepIn K (.ref f3) = true)
    (a4 : PySem.W.nsIn K mainGlobals "is_hall" = some (some (.ref f4)))
    (l4 : K.lookup f4 = some ⟨oc4, od4, .func (PySem.W.fnOf "is_hall" "is_hall" (defArgs (top 10)) (defBody (top 10)) (defScope (top 10)) .none kV4 dc4 pm4 an4 cd4 ct4), sl4⟩)
    (c4 : PySem.W.codeIn K cd4 "is_hall" = true)
    (k4 : PySem.W.keepIn K (.ref f4) = true)
    (a5 : PySem.W.nsIn K mainGlobals "checked" = some (some (.ref f5)))
    (l5 : K.lookup f5 = some ⟨oc5, od5, .func (PySem.W.fnOf "checked" "checked" (defArgs (top 11)) (defBody (top 11)) (defScope (top 11)) .none kV5 dc5 pm5 an5 cd5 ct5), sl5⟩)
    (c5 : PySem.W.codeIn K cd5 "checked" = true)
    (k5 : PySem.W.keepIn K (.ref f5) = true)
    (a6 : PySem.W.nsIn K mainGlobals "is_name" = some (some (.ref f6)))
    (l6 : K.lookup f6 = some ⟨oc6, od6, .func (PySem.W.fnOf "is_name" "is_name" (defArgs (top 17)) (defBody (top 17)) (defScope (top 17)) .none kV6 dc6 pm6 an6 cd6 ct6), sl6⟩)
    (c6 : PySem.W.codeIn K cd6 "is_name" = true)
    (k6 : PySem.W.keepIn K (.ref f6) = true)
    (a7 : PySem.W.nsIn K mainGlobals "is_term" = some (some (.ref f7)))
    (l7 : K.lookup f7 = some ⟨oc7, od7, .func (PySem.W.fnOf "is_term" "is_term" (defArgs (top 18)) (defBody (top 18)) (defScope (top 18)) .none kV7 dc7 pm7 an7 cd7 ct7), sl7⟩)
    (c7 : PySem.W.codeIn K cd7 "is_term" = true)
    (k7 : PySem.W.keepIn K (.ref f7) = true)
    (a8 : PySem.W.nsIn K mainGlobals "is_plain" = some (some (.ref f8)))
    (l8 : K.lookup f8 = some ⟨oc8, od8, .func (PySem.W.fnOf "is_plain" "is_plain" (defArgs (top 19)) (defBody (top 19)) (defScope (top 19)) .none kV8 dc8 pm8 an8 cd8 ct8), sl8⟩)
    (c8 : PySem.W.codeIn K cd8 "is_plain" = true)
    (k8 : PySem.W.keepIn K (.ref f8) = true)
    (a9 : PySem.W.nsIn K mainGlobals "inner" = some (some (.ref f9)))
    (l9 : K.lookup f9 = some ⟨oc9, od9, .func (PySem.W.fnOf "inner" "inner" (defArgs (top 20)) (defBody (top 20)) (defScope (top 20)) .none kV9 dc9 pm9 an9 cd9 ct9), sl9⟩)
    (c9 : PySem.W.codeIn K cd9 "inner" = true)
    (k9 : PySem.W.keepIn K (.ref f9) = true)
    (a10 : PySem.W.nsIn K mainGlobals "is_built" = some (some (.ref f10)))
    (l10 : K.lookup f10 = some ⟨oc10, od10, .func (PySem.W.fnOf "is_built" "is_built" (defArgs (top 21)) (defBody (top 21)) (defScope (top 21)) .none kV10 dc10 pm10 an10 cd10 ct10), sl10⟩)
    (c10 : PySem.W.codeIn K cd10 "is_built" = true)
    (k10 : PySem.W.keepIn K (.ref f10) = true)
    (a11 : PySem.W.nsIn K mainGlobals "parts" = some (some (.ref f11)))
    (l11 : K.lookup f11 = some ⟨oc11, od11, .func (PySem.W.fnOf "parts" "parts" (defArgs (top 22)) (defBody (top 22)) (defScope (top 22)) .none kV11 dc11 pm11 an11 cd11 ct11), sl11⟩)
    (c11 : PySem.W.codeIn K cd11 "parts" = true)
    (k11 : PySem.W.keepIn K (.ref f11) = true)
    (a12 : PySem.W.nsIn K mainGlobals "terms_of" = some (some (.ref f12)))
    (l12 : K.lookup f12 = some ⟨oc12, od12, .func (PySem.W.fnOf "terms_of" "terms_of" (defArgs (top 23)) (defBody (top 23)) (defScope (top 23)) .none kV12 dc12 pm12 an12 cd12 ct12), sl12⟩)
    (c12 : PySem.W.codeIn K cd12 "terms_of" = true)
    (k12 : PySem.W.keepIn K (.ref f12) = true)
    (a13 : PySem.W.nsIn K mainGlobals "free_of" = some (some (.ref f13)))
    (l13 : K.lookup f13 = some ⟨oc13, od13, .func (PySem.W.fnOf "free_of" "free_of" (defArgs (top 24)) (defBody (top 24)) (defScope (top 24)) .none kV13 dc13 pm13 an13 cd13 ct13), sl13⟩)
    (c13 : PySem.W.codeIn K cd13 "free_of" = true)
    (k13 : PySem.W.keepIn K (.ref f13) = true)
    (a14 : PySem.W.nsIn K mainGlobals "bound_of" = some (some (.ref f14)))
    (l14 : K.lookup f14 = some ⟨oc14, od14, .func (PySem.W.fnOf "bound_of" "bound_of" (defArgs (top 25)) (defBody (top 25)) (defScope (top 25)) .none kV14 dc14 pm14 an14 cd14 ct14), sl14⟩)
    (c14 : PySem.W.codeIn K cd14 "bound_of" = true)
    (k14 : PySem.W.keepIn K (.ref f14) = true)
    (a15 : PySem.W.nsIn K mainGlobals "names_fit" = some (some (.ref f15)))
    (l15 : K.lookup f15 = some ⟨oc15, od15, .func (PySem.W.fnOf "names_fit" "names_fit" (defArgs (top 26)) (defBody (top 26)) (defScope (top 26)) .none kV15 dc15 pm15 an15 cd15 ct15), sl15⟩)
    (c15 : PySem.W.codeIn K cd15 "names_fit" = true)
    (k15 : PySem.W.keepIn K (.ref f15) = true)
    (a16 : PySem.W.nsIn K mainGlobals "all_bound" = some (some (.ref f16)))
    (l16 : K.lookup f16 = some ⟨oc16, od16, .func (PySem.W.fnOf "all_bound" "all_bound" (defArgs (top 27)) (defBody (top 27)) (defScope (top 27)) .none kV16 dc16 pm16 an16 cd16 ct16), sl16⟩)
    (c16 : PySem.W.codeIn K cd16 "all_bound" = true)
    (k16 : PySem.W.keepIn K (.ref f16) = true)
    (a17 : PySem.W.nsIn K mainGlobals "need_sentence" = some (some (.ref f17)))
    (l17 : K.lookup f17 = some ⟨oc17, od17, .func (PySem.W.fnOf "need_sentence" "need_sentence" (defArgs (top 28)) (defBody (top 28)) (defScope (top 28)) .none kV17 dc17 pm17 an17 cd17 ct17), sl17⟩)
    (c17 : PySem.W.codeIn K cd17 "need_sentence" = true)
    (k17 : PySem.W.keepIn K (.ref f17) = true)
    (a18 : PySem.W.nsIn K mainGlobals "checked_sentence" = some (some (.ref f18)))
    (l18 : K.lookup f18 = some ⟨oc18, od18, .func (PySem.W.fnOf "checked_sentence" "checked_sentence" (defArgs (top 29)) (defBody (top 29)) (defScope (top 29)) .none kV18 dc18 pm18 an18 cd18 ct18), sl18⟩)
    (c18 : PySem.W.codeIn K cd18 "checked_sentence" = true)
    (k18 : PySem.W.keepIn K (.ref f18) = true)
    (a19 : PySem.W.nsIn K mainGlobals "free" = some (some (.ref f19)))
    (l19 : K.lookup f19 = some ⟨oc19, od19, .func (PySem.W.fnOf "free" "free" (defArgs (top 30)) (defBody (top 30)) (defScope (top 30)) .none kV19 dc19 pm19 an19 cd19 ct19), sl19⟩)
    (c19 : PySem.W.codeIn K cd19 "free" = true)
    (k19 : PySem.W.keepIn K (.ref f19) = true)
    (a20 : PySem.W.nsIn K mainGlobals "_law_cell_at" = some (some (.ref f20)))
    (l20 : K.lookup f20 = some ⟨oc20, od20, .func (PySem.W.fnOf "_law_cell_at" "_law_cell_at" (defArgs (top 32)) (defBody (top 32)) (defScope (top 32)) .none kV20 dc20 pm20 an20 cd20 ct20), sl20⟩)
    (c20 : PySem.W.codeIn K cd20 "_law_cell_at" = true)
    (k20 : PySem.W.keepIn K (.ref f20) = true)
    (a21 : PySem.W.nsIn K mainGlobals "_law_mixed" = some (some (.ref f21)))
    (l21 : K.lookup f21 = some ⟨oc21, od21, .func (PySem.W.fnOf "_law_mixed" "_law_mixed" (defArgs (top 33)) (defBody (top 33)) (defScope (top 33)) .none kV21 dc21 pm21 an21 cd21 ct21), sl21⟩)
    (c21 : PySem.W.codeIn K cd21 "_law_mixed" = true)
    (k21 : PySem.W.keepIn K (.ref f21) = true)
    (a22 : PySem.W.nsIn K mainGlobals "_law_next" = some (some (.ref f22)))
    (l22 : K.lookup f22 = some ⟨oc22, od22, .func (PySem.W.fnOf "_law_next" "_law_next" (defArgs (top 34)) (defBody (top 34)) (defScope (top 34)) .none kV22 dc22 pm22 an22 cd22 ct22), sl22⟩)
    (c22 : PySem.W.codeIn K cd22 "_law_next" = true)
    (k22 : PySem.W.keepIn K (.ref f22) = true)
    (a23 : PySem.W.nsIn K mainGlobals "_law_row" = some (some (.ref f23)))
    (l23 : K.lookup f23 = some ⟨oc23, od23, .func (PySem.W.fnOf "_law_row" "_law_row" (defArgs (top 35)) (defBody (top 35)) (defScope (top 35)) .none kV23 dc23 pm23 an23 cd23 ct23), sl23⟩)
    (c23 : PySem.W.codeIn K cd23 "_law_row" = true)
    (k23 : PySem.W.keepIn K (.ref f23) = true)
    (a24 : PySem.W.nsIn K mainGlobals "_law_hall" = some (some (.ref f24)))
    (l24 : K.lookup f24 = some ⟨oc24, od24, .func (PySem.W.fnOf "_law_hall" "_law_hall" (defArgs (top 36)) (defBody (top 36)) (defScope (top 36)) .none kV24 dc24 pm24 an24 cd24 ct24), sl24⟩)
    (c24 : PySem.W.codeIn K cd24 "_law_hall" = true)
    (k24 : PySem.W.keepIn K (.ref f24) = true)
    (a25 : PySem.W.nsIn K mainGlobals "_law_term" = some (some (.ref f25)))
    (l25 : K.lookup f25 = some ⟨oc25, od25, .func (PySem.W.fnOf "_law_term" "_law_term" (defArgs (top 37)) (defBody (top 37)) (defScope (top 37)) .none kV25 dc25 pm25 an25 cd25 ct25), sl25⟩)
    (c25 : PySem.W.codeIn K cd25 "_law_term" = true)
    (k25 : PySem.W.keepIn K (.ref f25) = true)
    (a26 : PySem.W.nsIn K mainGlobals "_law_plain" = some (some (.ref f26)))
    (l26 : K.lookup f26 = some ⟨oc26, od26, .func (PySem.W.fnOf "_law_plain" "_law_plain" (defArgs (top 38)) (defBody (top 38)) (defScope (top 38)) .none kV26 dc26 pm26 an26 cd26 ct26), sl26⟩)
    (c26 : PySem.W.codeIn K cd26 "_law_plain" = true)
    (k26 : PySem.W.keepIn K (.ref f26) = true)
    (a27 : PySem.W.nsIn K mainGlobals "_law_free" = some (some (.ref f27)))
    (l27 : K.lookup f27 = some ⟨oc27, od27, .func (PySem.W.fnOf "_law_free" "_law_free" (defArgs (top 39)) (defBody (top 39)) (defScope (top 39)) .none kV27 dc27 pm27 an27 cd27 ct27), sl27⟩)
    (c27 : PySem.W.codeIn K cd27 "_law_free" = true)
    (k27 : PySem.W.keepIn K (.ref f27) = true)
    (a28 : PySem.W.nsIn K mainGlobals "_law_names_in" = some (some (.ref f28)))
    (l28 : K.lookup f28 = some ⟨oc28, od28, .func (PySem.W.fnOf "_law_names_in" "_law_names_in" (defArgs (top 40)) (defBody (top 40)) (defScope (top 40)) .none kV28 dc28 pm28 an28 cd28 ct28), sl28⟩)
    (c28 : PySem.W.codeIn K cd28 "_law_names_in" = true)
    (k28 : PySem.W.keepIn K (.ref f28) = true)
    (a29 : PySem.W.nsIn K mainGlobals "_law_odd" = some (some (.ref f29)))
    (l29 : K.lookup f29 = some ⟨oc29, od29, .func (PySem.W.fnOf "_law_odd" "_law_odd" (defArgs (top 41)) (defBody (top 41)) (defScope (top 41)) .none kV29 dc29 pm29 an29 cd29 ct29), sl29⟩)
    (c29 : PySem.W.codeIn K cd29 "_law_odd" = true)
    (k29 : PySem.W.keepIn K (.ref f29) = true)
    (a30 : PySem.W.nsIn K mainGlobals "_law_refused" = some (some (.ref f30)))
    (l30 : K.lookup f30 = some ⟨oc30, od30, .func (PySem.W.fnOf "_law_refused" "_law_refused" (defArgs (top 42)) (defBody (top 42)) (defScope (top 42)) .none kV30 dc30 pm30 an30 cd30 ct30), sl30⟩)
    (c30 : PySem.W.codeIn K cd30 "_law_refused" = true)
    (k30 : PySem.W.keepIn K (.ref f30) = true)
    (a31 : PySem.W.nsIn K mainGlobals "law" = some (some (.ref f31)))
    (l31 : K.lookup f31 = some ⟨oc31, od31, .func (PySem.W.fnOf "law" "law" (defArgs (top 43)) (defBody (top 43)) (defScope (top 43)) .none kV31 dc31 pm31 an31 cd31 ct31), sl31⟩)
    (c31 : PySem.W.codeIn K cd31 "law" = true)
    (k31 : PySem.W.keepIn K (.ref f31) = true)
    (z0 : PySem.W.nsIn K mainGlobals "len" = some none)
    (z1 : PySem.W.nsIn K mainGlobals "all" = some none)
    (z2 : PySem.W.nsIn K mainGlobals "any" = some none)
    (z3 : PySem.W.nsIn K mainGlobals "tuple" = some none)
    (z4 : PySem.W.nsIn K mainGlobals "list" = some none)
    (z5 : PySem.W.nsIn K mainGlobals "dict" = some none)
    (z6 : PySem.W.nsIn K mainGlobals "sorted" = some none)
    (z7 : PySem.W.nsIn K mainGlobals "int" = some none)
    (z8 : PySem.W.nsIn K mainGlobals "max" = some none)
    (z9 : PySem.W.nsIn K mainGlobals "min" = some none)
    (z10 : PySem.W.nsIn K mainGlobals "sum" = some none)
    (z11 : PySem.W.nsIn K mainGlobals "str" = some none)
    (z12 : PySem.W.nsIn K mainGlobals "isinstance" = some none)
    (z13 : PySem.W.nsIn K mainGlobals "range" = some none)
    (z14 : PySem.W.nsIn K mainGlobals "enumerate" = some none)
    (z15 : PySem.W.nsIn K mainGlobals "zip" = some none)
    (z16 : PySem.W.nsIn K mainGlobals "bool" = some none)
    (z17 : PySem.W.nsIn K mainGlobals "ValueError" = some none)
    (v0 : PySem.W.nsIn K mainGlobals "STATES" = some (some (.int 8 tk0)))
    (v1 : PySem.W.nsIn K mainGlobals "LETTERS" = some (some (.str "abcdefghijklmnopqrstuvwxyz" tk1)))
    (v2 : PySem.W.nsIn K mainGlobals "PARTS" = some (some (.int 20 tk2)))
    (v3 : PySem.W.nsIn K mainGlobals "NAMES" = some (some (.int 4 tk3)))
    (v4 : PySem.W.nsIn K mainGlobals "JOINS" = some (some (.ref tu4)))
    (w4 : K.lookup tu4 = some ⟨.type "tuple", tud4, .seq #[.str "and" tk4_0, .str "or" tk4_1, .str "then" tk4_2] tun4, tus4⟩)
    (ea0 : PySem.W.nsIn K mainGlobals "RowError" = some (some (.ref x0)))
    (ex0 : PySem.W.excIn K x0 [.type "ValueError", .type "Exception", .type "BaseException", .type "object"] "ValueError.__new__" = true)
    (ek0 : PySem.W.keepIn K (.ref x0) = true)
    (eb0 : PySem.W.subIn K (.ref x0) (.type "BaseException") = some true)
    (et0 : PySem.W.typeIn K (.ref x0) = some (.type "type"))
    (eg0 : PySem.W.findIn K (.ref x0) "__getattribute__" = some (some (.builtin "BaseException.__getattribute__")))
    (eh0 : PySem.W.findIn K (.ref x0) "__getattr__" = some none)
    (ed0 : PySem.W.hasDictIn K x0 = true)
    (ec0 : PySem.W.findIn K (.ref x0) "__class__" = some (some (.builtin "object.__class__")))
    (em0 : PySem.W.mroIn K x0 (.type "object") = some true)
    (ev0 : PySem.W.subIn K (.ref x0) (.type "ValueError") = some true)
    (ea1 : PySem.W.nsIn K mainGlobals "NoHall" = some (some (.ref x1)))
    (ex1 : PySem.W.excIn K x1 [.type "ValueError", .type "Exception", .type "BaseException", .type "object"] "ValueError.__new__" = true)
    (ek1 : PySem.W.keepIn K (.ref x1) = true)
    (eb1 : PySem.W.subIn K (.ref x1) (.type "BaseException") = some true)
    (et1 : PySem.W.typeIn K (.ref x1) = some (.type "type"))
    (eg1 : PySem.W.findIn K (.ref x1) "__getattribute__" = some (some (.builtin "BaseException.__getattribute__")))
    (eh1 : PySem.W.findIn K (.ref x1) "__getattr__" = some none)
    (ed1 : PySem.W.hasDictIn K x1 = true)
    (ec1 : PySem.W.findIn K (.ref x1) "__class__" = some (some (.builtin "object.__class__")))
    (em1 : PySem.W.mroIn K x1 (.type "object") = some true)
    (ev1 : PySem.W.subIn K (.ref x1) (.type "ValueError") = some true)
    (ea3 : PySem.W.nsIn K mainGlobals "NoSentence" = some (some (.ref x3)))
    (ex3 : PySem.W.excIn K x3 [.type "ValueError", .type "Exception", .type "BaseException", .type "object"] "ValueError.__new__" = true)
    (ek3 : PySem.W.keepIn K (.ref x3) = true)
    (eb3 : PySem.W.subIn K (.ref x3) (.type "BaseException") = some true)
    (et3 : PySem.W.typeIn K (.ref x3) = some (.type "type"))
    (eg3 : PySem.W.findIn K (.ref x3) "__getattribute__" = some (some (.builtin "BaseException.__getattribute__")))
    (eh3 : PySem.W.findIn K (.ref x3) "__getattr__" = some none)
    (ed3 : PySem.W.hasDictIn K x3 = true)
    (ec3 : PySem.W.findIn K (.ref x3) "__class__" = some (some (.builtin "object.__class__")))
    (em3 : PySem.W.mroIn K x3 (.type "object") = some true)
    (ev3 : PySem.W.subIn K (.ref x3) (.type "ValueError") = some true)
    (s0_0 : PySem.W.subIn K (.ref x0) (.ref x0) = some true)
    (t0_0 : PySem.W.kitOne K (.ref x0) (.ref x0) = some true)
    (s0_1 : PySem.W.subIn K (.ref x0) (.ref x1) = some false)
    (t0_1 : PySem.W.kitOne K (.ref x0) (.ref x1) = some false)
    (s0_3 : PySem.W.subIn K (.ref x0) (.ref x3) = some false)
    (t0_3 : PySem.W.kitOne K (.ref x0) (.ref x3) = some false)
    (s1_0 : PySem.W.subIn K (.ref x1) (.ref x0) = some true)
    (t1_0 : PySem.W.kitOne K (.ref x1) (.ref x0) = some true)
    (s1_1 : PySem.W.subIn K (.ref x1) (.ref x1) = some true)
    (t1_1 : PySem.W.kitOne K (.ref x1) (.ref x1) = some true)
    (s1_3 : PySem.W.subIn K (.ref x1) (.ref x3) = some false)
    (t1_3 : PySem.W.kitOne K (.ref x1) (.ref x3) = some false)
    (s3_0 : PySem.W.subIn K (.ref x3) (.ref x0) = some true)
    (t3_0 : PySem.W.kitOne K (.ref x3) (.ref x0) = some true)
    (s3_1 : PySem.W.subIn K (.ref x3) (.ref x1) = some false)
    (t3_1 : PySem.W.kitOne K (.ref x3) (.ref x1) = some false)
    (s3_3 : PySem.W.subIn K (.ref x3) (.ref x3) = some true)
    (t3_3 : PySem.W.kitOne K (.ref x3) (.ref x3) = some true)
    (yn : PySem.W.specialIn K (.builtin "object.__class__") "__get__" = some (some (.builtin "getset_descriptor.__get__")))
    (yt : PySem.W.takesIn K (.builtin "object.__class__") = some true)
    : ∃ fd : FuncData, (∀ (s : Shared) (u : Value), BindsTo s fd ⟨[u], []⟩ [("_law_script", u)]) ∧ ∀ base : Heap, K.In base → base.Ns mainGlobals mg → FnOk P w K mg base (L2.CX P w) 29 fa fd ["_law_script"] (spTop K) := by
  have e := hfa.symm.trans (PySem.W.mg_of X G a31)
  cases e
  let c : LC := ⟨fun n => match n with
    | _ => 0, fun n => match n with
    | 0 => x0
    | 1 => x1
    | 3 => x3
    | _ => 0⟩
  have ek : ∀ x, gK.ek x = true → x = 0 ∨ x = 1 ∨ x = 3 := fun x q => by
    unfold gK gC at q
    simpa using q
  have F : Fx K mg c := by
    refine ⟨fun x hx => ?_, PySem.W.mg_none_of X G z17, ⟨_, PySem.W.mg_of X G v0⟩, ⟨_, PySem.W.mg_of X G v1⟩, ⟨_, PySem.W.mg_of X G v2⟩, ⟨_, PySem.W.mg_of X G v3⟩, ⟨_, PySem.W.mg_of X G v4, fun H => rv_tupS (zs := ["and", "or", "then"]) w4 (Nat.le_of_ble_eq_true rfl) (.cons ⟨_, rfl⟩ (.cons ⟨_, rfl⟩ (.cons ⟨_, rfl⟩ (.nil))))⟩, fun x ci q => ?_, fun x q => ?_, fun x y q r => ?_, fun x y q r => ?_, fun x q => ?_⟩
    · simp only [List.mem_cons, List.not_mem_nil, or_false] at hx
      rcases hx with rfl | rfl | rfl | rfl | rfl | rfl | rfl | rfl | rfl | rfl | rfl | rfl | rfl | rfl | rfl | rfl | rfl
      · exact PySem.W.mg_none_of X G z0
      · exact PySem.W.mg_none_of X G z1
      · exact PySem.W.mg_none_of X G z2
      · exact PySem.W.mg_none_of X G z3
      · exact PySem.W.mg_none_of X G z4
      · exact PySem.W.mg_none_of X G z5
      · exact PySem.W.mg_none_of X G z6
      · exact PySem.W.mg_none_of X G z7
      · exact PySem.W.mg_none_of X G z8
      · exact PySem.W.mg_none_of X G z9
      · exact PySem.W.mg_none_of X G z10
      · exact PySem.W.mg_none_of X G z11
      · exact PySem.W.mg_none_of X G z12
      · exact PySem.W.mg_none_of X G z13
      · exact PySem.W.mg_none_of X G z14
      · exact PySem.W.mg_none_of X G z15
      · exact PySem.W.mg_none_of X G z16
    · have m := PySem.mem_of_lookup q
      simp only [exsK, List.mem_cons, Prod.mk.injEq, List.not_mem_nil, or_false] at m
      rcases m with ⟨rfl, rfl⟩ | ⟨rfl, rfl⟩ | ⟨rfl, rfl⟩
      · exact ⟨_, _, _, _, PySem.F.excBase_ValueError, ex0, PySem.W.mg_of X G ea0, ek0, eb0, et0⟩
      · exact ⟨_, _, _, _, PySem.F.excBase_ValueError, ex1, PySem.W.mg_of X G ea1, ek1, eb1, et1⟩
      · exact ⟨_, _, _, _, PySem.F.excBase_ValueError, ex3, PySem.W.mg_of X G ea3, ek3, eb3, et3⟩
    · rcases ek x q with rfl | rfl | rfl
      · exact ⟨eg0, eh0, eb0, ed0, ec0, yn, yt, em0⟩
      · exact ⟨eg1, eh1, eb1, ed1, ec1, yn, yt, em1⟩
      · exact ⟨eg3, eh3, eb3, ed3, ec3, yn, yt, em3⟩
    · rcases ek x q with rfl | rfl | rfl <;> rcases ek y r with rfl | rfl | rfl
      · exact PySem.W.exm_ref eb0 ed0 et0 s0_0
      · exact PySem.W.exm_ref eb1 ed1 et1 s0_1
      · exact PySem.W.exm_ref eb3 ed3 et3 s0_3
      · exact PySem.W.exm_ref eb0 ed0 et0 s1_0
      · exact PySem.W.exm_ref eb1 ed1 et1 s1_1
      · exact PySem.W.exm_ref eb3 ed3 et3 s1_3
      · exact PySem.W.exm_ref eb0 ed0 et0 s3_0
      · exact PySem.W.exm_ref eb1 ed1 et1 s3_1
      · exact PySem.W.exm_ref eb3 ed3 et3 s3_3
    · rcases ek x q with rfl | rfl | rfl <;> rcases ek y r with rfl | rfl | rfl
      · exact t0_0
      · exact t0_1
      · exact t0_3
      · exact t1_0
      · exact t1_1
      · exact t1_3
      · exact t3_0
      · exact t3_1
      · exact t3_3
    · rcases ek x q with rfl | rfl | rfl
      · exact kitV_of ev0
      · exact kitV_of ev1
      · exact kitV_of ev3
  have U0 := fun_mk (st := (top 6)) l0 c0 k0
  have B0 := U0.binds (ps := ["thing"]) fun _ _ _ _ _ _ us hl => match us, hl with | [_], _ => rfl
  have U1 := fun_mk (st := (top 7)) l1 c1 k1
  have B1 := U1.binds (ps := ["thing", "low", "most"]) fun _ _ _ _ _ _ us hl => match us, hl with | [_, _, _], _ => rfl
  have U2 := fun_mk (st := (top 8)) l2 c2 k2
  have B2 := U2.binds (ps := ["thing", "base", "many"]) fun _ _ _ _ _ _ us hl => match us, hl with | [_, _, _], _ => rfl
  have U3 := fun_mk (st := (top 9)) l3 c3 k3
  have B3 := U3.binds (ps := ["thing", "base"]) fun _ _ _ _ _ _ us hl => match us, hl with | [_, _], _ => rfl
  have U4 := fun_mk (st := (top 10)) l4 c4 k4
  have B4 := U4.binds (ps := ["thing"]) fun _ _ _ _ _ _ us hl => match us, hl with | [_], _ => rfl
  have U5 := fun_mk (st := (top 11)) l5 c5 k5
  have B5 := U5.binds (ps := ["hall"]) fun _ _ _ _ _ _ us hl => match us, hl with | [_], _ => rfl
  have U6 := fun_mk (st := (top 17)) l6 c6 k6
  have B6 := U6.binds (ps := ["thing"]) fun _ _ _ _ _ _ us hl => match us, hl with | [_], _ => rfl
  have U7 := fun_mk (st := (top 18)) l7 c7 k7
  have B7 := U7.binds (ps := ["thing"]) fun _ _ _ _ _ _ us hl => match us, hl with | [_], _ => rfl
  have U8 := fun_mk (st := (top 19)) l8 c8 k8
  have B8 := U8.binds (ps := ["hall", "thing"]) fun _ _ _ _ _ _ us hl => match us, hl with | [_, _], _ => rfl
  have U9 := fun_mk (st := (top 20)) l9 c9 k9
  have B9 := U9.binds (ps := ["sentence"]) fun _ _ _ _ _ _ us hl => match us, hl with | [_], _ => rfl
  have U10 := fun_mk (st := (top 21)) l10 c10 k10
  have B10 := U10.binds (ps := ["hall", "thing", "most"]) fun _ _ _ _ _ _ us hl => match us, hl with | [_, _, _], _ => rfl
  have U11 := fun_mk (st := (top 22)) l11 c11 k11
  have B11 := U11.binds (ps := ["sentence"]) fun _ _ _ _ _ _ us hl => match us, hl with | [_], _ => rfl
  have U12 := fun_mk (st := (top 23)) l12 c12 k12
  have B12 := U12.binds (ps := ["sentence"]) fun _ _ _ _ _ _ us hl => match us, hl with | [_], _ => rfl
  have U13 := fun_mk (st := (top 24)) l13 c13 k13
  have B13 := U13.binds (ps := ["sentence"]) fun _ _ _ _ _ _ us hl => match us, hl with | [_], _ => rfl
  have U14 := fun_mk (st := (top 25)) l14 c14 k14
  have B14 := U14.binds (ps := ["sentence"]) fun _ _ _ _ _ _ us hl => match us, hl with | [_], _ => rfl
  have U15 := fun_mk (st := (top 26)) l15 c15 k15
  have B15 := U15.binds (ps := ["sentence"]) fun _ _ _ _ _ _ us hl => match us, hl with | [_], _ => rfl
  have U16 := fun_mk (st := (top 27)) l16 c16 k16
  have B16 := U16.binds (ps := ["sentence", "known"]) fun _ _ _ _ _ _ us hl => match us, hl with | [_, _], _ => rfl
  have U17 := fun_mk (st := (top 28)) l17 c17 k17
  have B17 := U17.binds (ps := ["hall", "sentence"]) fun _ _ _ _ _ _ us hl => match us, hl with | [_, _], _ => rfl
  have U18 := fun_mk (st := (top 29)) l18 c18 k18
  have B18 := U18.binds (ps := ["hall", "sentence"]) fun _ _ _ _ _ _ us hl => match us, hl with | [_, _], _ => rfl
  have U19 := fun_mk (st := (top 30)) l19 c19 k19
  have B19 := U19.binds (ps := ["hall", "sentence"]) fun _ _ _ _ _ _ us hl => match us, hl with | [_, _], _ => rfl
  have U20 := fun_mk (st := (top 32)) l20 c20 k20
  have B20 := U20.binds (ps := ["_law_script", "_law_k"]) fun _ _ _ _ _ _ us hl => match us, hl with | [_, _], _ => rfl
  have U21 := fun_mk (st := (top 33)) l21 c21 k21
  have B21 := U21.binds (ps := ["_law_script", "_law_k", "_law_many"]) fun _ _ _ _ _ _ us hl => match us, hl with | [_, _, _], _ => rfl
  have U22 := fun_mk (st := (top 34)) l22 c22 k22
  have B22 := U22.binds (ps := ["_law_script", "_law_m", "_law_many"]) fun _ _ _ _ _ _ us hl => match us, hl with | [_, _, _], _ => rfl
  have U23 := fun_mk (st := (top 35)) l23 c23 k23
  have B23 := U23.binds (ps := ["_law_script", "_law_m", "_law_base", "_law_most"]) fun _ _ _ _ _ _ us hl => match us, hl with | [_, _, _, _], _ => rfl
  have U24 := fun_mk (st := (top 36)) l24 c24 k24
  have B24 := U24.binds (ps := ["_law_script", "_law_m", "_law_most"]) fun _ _ _ _ _ _ us hl => match us, hl with | [_, _, _], _ => rfl
  have U25 := fun_mk (st := (top 37)) l25 c25 k25
  have B25 := U25.binds (ps := ["_law_script", "_law_m", "_law_names"]) fun _ _ _ _ _ _ us hl => match us, hl with | [_, _, _], _ => rfl
  have U26 := fun_mk (st := (top 38)) l26 c26 k26
  have B26 := U26.binds (ps := ["_law_script", "_law_m", "_law_hall_here", "_law_names"]) fun _ _ _ _ _ _ us hl => match us, hl with | [_, _, _, _], _ => rfl
  have U27 := fun_mk (st := (top 39)) l27 c27 k27
  have B27 := U27.binds (ps := ["_law_script", "_law_m", "_law_hall_here", "_law_names", "_law_deep"]) fun _ _ _ _ _ _ us hl => match us, hl with | [_, _, _, _, _], _ => rfl
  have U28 := fun_mk (st := (top 40)) l28 c28 k28
  have B28 := U28.binds (ps := ["_law_sentence"]) fun _ _ _ _ _ _ us hl => match us, hl with | [_], _ => rfl
  have U29 := fun_mk (st := (top 41)) l29 c29 k29
  have B29 := U29.binds (ps := ["_law_hall_here", "_law_sentence", "_law_cell"]) fun _ _ _ _ _ _ us hl => match us, hl with | [_, _, _], _ => rfl
  have U30 := fun_mk (st := (top 42)) l30 c30 k30
  have B30 := U30.binds (ps := ["_law_hall_here", "_law_thing"]) fun _ _ _ _ _ _ us hl => match us, hl with | [_, _], _ => rfl
  have U31 := fun_mk (st := (top 43)) l31 c31 k31
  have B31 := U31.binds (ps := ["_law_script"]) fun _ _ _ _ _ _ us hl => match us, hl with | [_], _ => rfl
  refine ⟨PySem.W.fnOf "law" "law" (defArgs (top 43)) (defBody (top 43)) (defScope (top 43)) .none kV31 dc31 pm31 an31 cd31 ct31, fun s u => .of_eq rfl, fun base _ _ => ?_⟩
  have D0 : FnOk P w K mg base (L2.CX P w) 1 f0 _ _ (lift ⟨P, w, K, c.ca, c.ex⟩ sp_is_whole) := def_ok (k := 0) (c := c) (G := gC fnK mt0 fl0) (T := t_is_whole) U0 sc_is_whole (nm_of F rfl (by decide +kernel) (fun p hp => by
    simp [t_is_whole] at hp
    )
    (fun _ _ _ q _ => by cases q)
    (fun _ _ q => by cases q)
    (fun _ _ q => by cases q)
    ) rfl ck_is_whole ar_is_whole (wk_names (N := n_is_whole) rfl (w_is_whole))
  have D6 : FnOk P w K mg base (L2.CX P w) 1 f6 _ _ (lift ⟨P, w, K, c.ca, c.ex⟩ (up1 ps_is_name)) := def_ok (k := 0) (c := c) (G := gC fnK mt0 fl0) (T := t_is_name) U6 sc_is_name (nm_of F rfl (by decide +kernel) (fun p hp => by
    simp [t_is_name] at hp
    )
    (fun _ _ _ q _ => by cases q)
    (fun _ _ q => by cases q)
    (fun _ _ q => by cases q)
    ) rfl ck_is_name ar_is_name (wk_names (N := n_is_name) rfl (wk_of (g := gP) (w_is_name rfl)))
  have D9 : FnOk P w K mg base (L2.CX P w) 1 f9 _ _ (lift ⟨P, w, K, c.ca, c.ex⟩ (up1 ps_inner)) := def_ok (k := 0) (c := c) (G := gC fnK mt0 fl0) (T := t_inner) U9 sc_inner (nm_of F rfl (by decide +kernel) (fun p hp => by
    simp [t_inner] at hp
    )
    (fun _ _ _ q _ => by cases q)
    (fun _ _ q => by cases q)
    (fun _ _ q => by cases q)
    ) rfl ck_inner ar_inner (wk_names (N := n_inner) rfl (wk_of (g := gP) (w_inner rfl)))
  have D12 : FnOk P w K mg base (L2.CX P w) 1 f12 _ _ (lift ⟨P, w, K, c.ca, c.ex⟩ (up1 ps_terms_of)) := def_ok (k := 0) (c := c) (G := gC fnK mt0 fl0) (T := t_terms_of) U12 sc_terms_of (nm_of F rfl (by decide +kernel) (fun p hp => by
    simp [t_terms_of] at hp
    )
    (fun _ _ _ q _ => by cases q)
    (fun _ _ q => by cases q)
    (fun _ _ q => by cases q)
    ) rfl ck_terms_of ar_terms_of (wk_names (N := n_terms_of) rfl (wk_of (g := gP) (w_terms_of)))
  have D20 : FnOk P w K mg base (L2.CX P w) 1 f20 _ _ (lift ⟨P, w, K, c.ca, c.ex⟩ sp_cell_at) := def_ok (k := 0) (c := c) (G := gC fnK mt0 fl0) (T := t__law_cell_at) U20 sc__law_cell_at (nm_of F rfl (by decide +kernel) (fun p hp => by
    simp [t__law_cell_at] at hp
    )
    (fun _ _ _ q _ => by cases q)
    (fun _ _ q => by cases q)
    (fun _ _ q => by cases q)
    ) rfl ck__law_cell_at ar__law_cell_at (wk_names (N := n__law_cell_at) rfl (w_cell_at))
  have D29 : FnOk P w K mg base (L2.CX P w) 1 f29 _ _ (lift ⟨P, w, K, c.ca, c.ex⟩ sp_odd5) := def_ok (k := 0) (c := c) (G := gC fnK mt0 fl0) (T := t__law_odd) U29 sc__law_odd (nm_of F rfl (by decide +kernel) (fun p hp => by
    simp [t__law_odd] at hp
    )
    (fun _ _ _ q _ => by cases q)
    (fun _ _ q => by cases q)
    (fun _ _ q => by cases q)
    ) rfl ck__law_odd ar__law_odd (wk_names (N := n__law_odd) rfl (w_odd5))
  have D1 : FnOk P w K mg base (L2.CX P w) 2 f1 _ _ (lift ⟨P, w, K, c.ca, c.ex⟩ sp_between) := def_ok (k := 1) (c := c) (G := gC fnK mt0 fl0) (T := t_between) U1 sc_between (nm_of F rfl (by decide +kernel) (fun p hp => by
    simp only [t_between, List.mem_cons, List.not_mem_nil, or_false] at hp
    rcases hp with rfl
    · exact ⟨_, rfl, ⟨⟨_, _, _, D0.mono (by decide), PySem.W.mg_of X G a0, k0, B0⟩⟩⟩
    )
    (fun _ _ _ q _ => by cases q)
    (fun _ _ q => by cases q)
    (fun _ _ q => by cases q)
    ) rfl ck_between ar_between (wk_names (N := n_between) rfl (w_between (st := "STATES") (by repeat' (first | rfl | constructor))))
  have D21 : FnOk P w K mg base (L2.CX P w) 2 f21 _ _ (lift ⟨P, w, K, c.ca, c.ex⟩ sp_mixed) := def_ok (k := 1) (c := c) (G := gC fnK mt0 fl0) (T := t__law_mixed) U21 sc__law_mixed (nm_of F rfl (by decide +kernel) (fun p hp => by
    simp only [t__law_mixed, List.mem_cons, List.not_mem_nil, or_false] at hp
    rcases hp with rfl
    · exact ⟨_, rfl, ⟨⟨_, _, _, D20.mono (by decide), PySem.W.mg_of X G a20, k20, B20⟩⟩⟩
    )
    (fun _ _ _ q _ => by cases q)
    (fun _ _ q => by cases q)
    (fun _ _ q => by cases q)
    ) rfl ck__law_mixed ar__law_mixed (wk_names (N := n__law_mixed) rfl (w_mixed (by repeat' (first | rfl | constructor))))
  have D2 : FnOk P w K mg base (L2.CX P w) 3 f2 _ _ (lift ⟨P, w, K, c.ca, c.ex⟩ sp_is_state) := def_ok (k := 2) (c := c) (G := gC fnK mt0 fl0) (T := t_is_state) U2 sc_is_state (nm_of F rfl (by decide +kernel) (fun p hp => by
    simp only [t_is_state, List.mem_cons, List.not_mem_nil, or_false] at hp
    rcases hp with rfl
    · exact ⟨_, rfl, ⟨⟨_, _, _, D1.mono (by decide), PySem.W.mg_of X G a1, k1, B1⟩⟩⟩
    )
    (fun _ _ _ q _ => by cases q)
    (fun _ _ q => by cases q)
    (fun _ _ q => by cases q)
    ) rfl ck_is_state ar_is_state (wk_names (N := n_is_state) rfl (w_is_state (st := "STATES") (by repeat' (first | rfl | constructor))))
  have D7 : FnOk P w K mg base (L2.CX P w) 3 f7 _ _ (lift ⟨P, w, K, c.ca, c.ex⟩ (up1 ps_is_term)) := def_ok (k := 2) (c := c) (G := gC fnK mt0 fl0) (T := t_is_term) U7 sc_is_term (nm_of F rfl (by decide +kernel) (fun p hp => by
    simp only [t_is_term, List.mem_cons, List.not_mem_nil, or_false] at hp
    rcases hp with rfl | rfl
    · exact ⟨_, rfl, ⟨⟨_, _, _, D1.mono (by decide), PySem.W.mg_of X G a1, k1, B1⟩⟩⟩
    · exact ⟨_, rfl, ⟨⟨_, _, _, D6.mono (by decide), PySem.W.mg_of X G a6, k6, B6⟩⟩⟩
    )
    (fun _ _ _ q _ => by cases q)
    (fun _ _ q => by cases q)
    (fun _ _ q => by cases q)
    ) rfl ck_is_term ar_is_term (wk_names (N := n_is_term) rfl (wk_of (g := gP) (w_is_term rfl rfl)))
  have D22 : FnOk P w K mg base (L2.CX P w) 3 f22 _ _ (lift ⟨P, w, K, c.ca, c.ex⟩ sp_next) := def_ok (k := 2) (c := c) (G := gC fnK mt0 fl0) (T := t__law_next) U22 sc__law_next (nm_of F rfl (by decide +kernel) (fun p hp => by
    simp only [t__law_next, List.mem_cons, List.not_mem_nil, or_false] at hp
    rcases hp with rfl
    · exact ⟨_, rfl, ⟨⟨_, _, _, D21.mono (by decide), PySem.W.mg_of X G a21, k21, B21⟩⟩⟩
    )
    (fun _ _ _ q _ => by cases q)
    (fun _ _ q => by cases q)
    (fun _ _ q => by cases q)
    ) rfl ck__law_next ar__law_next (wk_names (N := n__law_next) rfl (w_next (by repeat' (first | rfl | constructor))))
  have D3 : FnOk P w K mg base (L2.CX P w) 4 f3 _ _ (lift ⟨P, w, K, c.ca, c.ex⟩ sp_is_row) := def_ok (k := 3) (c := c) (G := gC fnK mt0 fl0) (T := t_is_row) U3 sc_is_row (nm_of F rfl (by decide +kernel) (fun p hp => by
    simp only [t_is_row, List.mem_cons, List.not_mem_nil, or_false] at hp
    rcases hp with rfl | rfl
    · exact ⟨_, rfl, ⟨⟨_, _, _, D1.mono (by decide), PySem.W.mg_of X G a1, k1, B1⟩⟩⟩
    · exact ⟨_, rfl, ⟨⟨_, _, _, D2.mono (by decide), PySem.W.mg_of X G a2, k2, B2⟩⟩⟩
    )
    (fun _ _ _ q _ => by cases q)
    (fun _ _ q => by cases q)
    (fun _ _ q => by cases q)
    ) rfl ck_is_row ar_is_row (wk_names (N := n_is_row) rfl (w_is_row (st := "STATES") (by repeat' (first | rfl | constructor))))
  have D8 : FnOk P w K mg base (L2.CX P w) 4 f8 _ _ (lift ⟨P, w, K, c.ca, c.ex⟩ (up1 ps_is_plain)) := def_ok (k := 3) (c := c) (G := gC fnK mt0 fl0) (T := t_is_plain) U8 sc_is_plain (nm_of F rfl (by decide +kernel) (fun p hp => by
    simp only [t_is_plain, List.mem_cons, List.not_mem_nil, or_false] at hp
    rcases hp with rfl | rfl
    · exact ⟨_, rfl, ⟨⟨_, _, _, D1.mono (by decide), PySem.W.mg_of X G a1, k1, B1⟩⟩⟩
    · exact ⟨_, rfl, ⟨⟨_, _, _, D7.mono (by decide), PySem.W.mg_of X G a7, k7, B7⟩⟩⟩
    )
    (fun _ _ _ q _ => by cases q)
    (fun _ _ q => by cases q)
    (fun _ _ q => by cases q)
    ) rfl ck_is_plain ar_is_plain (wk_names (N := n_is_plain) rfl (wk_of (g := gP) (w_is_plain rfl rfl)))
  have D23 : FnOk P w K mg base (L2.CX P w) 4 f23 _ _ (lift ⟨P, w, K, c.ca, c.ex⟩ sp_row) := def_ok (k := 3) (c := c) (G := gC fnK mt0 fl0) (T := t__law_row) U23 sc__law_row (nm_of F rfl (by decide +kernel) (fun p hp => by
    simp only [t__law_row, List.mem_cons, List.not_mem_nil, or_false] at hp
    rcases hp with rfl
    · exact ⟨_, rfl, ⟨⟨_, _, _, D22.mono (by decide), PySem.W.mg_of X G a22, k22, B22⟩⟩⟩
    )
    (fun _ _ _ q _ => by cases q)
    (fun _ _ q => by cases q)
    (fun _ _ q => by cases q)
    ) rfl ck__law_row ar__law_row (wk_names (N := n__law_row) rfl (w_row (by repeat' (first | rfl | constructor))))
  have D25 : FnOk P w K mg base (L2.CX P w) 4 f25 _ _ (lift ⟨P, w, K, c.ca, c.ex⟩ sp_lterm) := def_ok (k := 3) (c := c) (G := gC fnK mt0 fl0) (T := t__law_term) U25 sc__law_term (nm_of F rfl (by decide +kernel) (fun p hp => by
    simp only [t__law_term, List.mem_cons, List.not_mem_nil, or_false] at hp
    rcases hp with rfl
    · exact ⟨_, rfl, ⟨⟨_, _, _, D22.mono (by decide), PySem.W.mg_of X G a22, k22, B22⟩⟩⟩
    )
    (fun _ _ _ q _ => by cases q)
    (fun _ _ q => by cases q)
    (fun _ _ q => by cases q)
    ) rfl ck__law_term ar__law_term (wk_names (N := n__law_term) rfl (w_lterm (by repeat' (first | rfl | constructor))))
  have R28 : ∀ d : Nat, FnOk P w K mg base (L2.CX P w) (0 + d) f28 (PySem.W.fnOf "_law_names_in" "_law_names_in" (defArgs (top 40)) (defBody (top 40)) (defScope (top 40)) .none kV28 dc28 pm28 an28 cd28 ct28) ["_law_sentence"] (lift ⟨P, w, K, c.ca, c.ex⟩ (up1 (ps_names_in d))) := fun d => by
    induction d with
    | zero => exact never_ok U28 (never_up1 z_names_in)
    | succ d ih =>
      exact def_ok (k := 0 + d) (c := c) (G := gC (fnX 114 (up1 (ps_names_in d))) mt0 fl0) (T := t__law_names_in) U28 sc__law_names_in (nm_of F rfl (by decide +kernel) (fun p hp => by
        simp only [t__law_names_in, List.mem_cons, List.not_mem_nil, or_false] at hp
        rcases hp with rfl
        · exact ⟨_, rfl, ⟨⟨_, _, _, ih, PySem.W.mg_of X G a28, k28, B28⟩⟩⟩
        ) (fun _ _ _ q _ => by cases q) (fun _ _ q => by cases q) (fun _ _ q => by cases q)) rfl ck__law_names_in (ar__law_names_in (d + 1)) (wk_names (N := n__law_names_in) rfl (wk_of (g := gPX 114 (ps_names_in d) rfl) (w_names_in rfl)))
  have D28 := R28 4
  have D4 : FnOk P w K mg base (L2.CX P w) 5 f4 _ _ (lift ⟨P, w, K, c.ca, c.ex⟩ sp_is_hall) := def_ok (k := 4) (c := c) (G := gC fnK mt0 fl0) (T := t_is_hall) U4 sc_is_hall (nm_of F rfl (by decide +kernel) (fun p hp => by
    simp only [t_is_hall, List.mem_cons, List.not_mem_nil, or_false] at hp
    rcases hp with rfl | rfl
    · exact ⟨_, rfl, ⟨⟨_, _, _, D1.mono (by decide), PySem.W.mg_of X G a1, k1, B1⟩⟩⟩
    · exact ⟨_, rfl, ⟨⟨_, _, _, D3.mono (by decide), PySem.W.mg_of X G a3, k3, B3⟩⟩⟩
    )
    (fun _ _ _ q _ => by cases q)
    (fun _ _ q => by cases q)
    (fun _ _ q => by cases q)
    ) rfl ck_is_hall ar_is_hall (wk_names (N := n_is_hall) rfl (w_is_hall (st := "STATES") (by repeat' (first | rfl | constructor))))
  have D24 : FnOk P w K mg base (L2.CX P w) 5 f24 _ _ (lift ⟨P, w, K, c.ca, c.ex⟩ sp_hall) := def_ok (k := 4) (c := c) (G := gC fnK mt0 fl0) (T := t__law_hall) U24 sc__law_hall (nm_of F rfl (by decide +kernel) (fun p hp => by
    simp only [t__law_hall, List.mem_cons, List.not_mem_nil, or_false] at hp
    rcases hp with rfl | rfl
    · exact ⟨_, rfl, ⟨⟨_, _, _, D22.mono (by decide), PySem.W.mg_of X G a22, k22, B22⟩⟩⟩
    · exact ⟨_, rfl, ⟨⟨_, _, _, D23.mono (by decide), PySem.W.mg_of X G a23, k23, B23⟩⟩⟩
    )
    (fun _ _ _ q _ => by cases q)
    (fun _ _ q => by cases q)
    (fun _ _ q => by cases q)
    ) rfl ck__law_hall ar__law_hall (wk_names (N := n__law_hall) rfl (w_hall (by repeat' (first | rfl | constructor))))
  have D26 : FnOk P w K mg base (L2.CX P w) 5 f26 _ _ (lift ⟨P, w, K, c.ca, c.ex⟩ sp_lplain) := def_ok (k := 4) (c := c) (G := gC fnK mt0 fl0) (T := t__law_plain) U26 sc__law_plain (nm_of F rfl (by decide +kernel) (fun p hp => by
    simp only [t__law_plain, List.mem_cons, List.not_mem_nil, or_false] at hp
    rcases hp with rfl | rfl
    · exact ⟨_, rfl, ⟨⟨_, _, _, D22.mono (by decide), PySem.W.mg_of X G a22, k22, B22⟩⟩⟩
    · exact ⟨_, rfl, ⟨⟨_, _, _, D25.mono (by decide), PySem.W.mg_of X G a25, k25, B25⟩⟩⟩
    )
    (fun _ _ _ q _ => by cases q)
    (fun _ _ q => by cases q)
    (fun _ _ q => by cases q)
    ) rfl ck__law_plain ar__law_plain (wk_names (N := n__law_plain) rfl (w_lplain (by repeat' (first | rfl | constructor)) rfl))
  have D5 : FnOk P w K mg base (L2.CX P w) 6 f5 _ _ (lift ⟨P, w, K, c.ca, c.ex⟩ sp_checked) := def_ok (k := 5) (c := c) (G := gC fnK mt0 fl0) (T := t_checked) U5 sc_checked (nm_of F rfl (by decide +kernel) (fun p hp => by
    simp only [t_checked, List.mem_cons, List.not_mem_nil, or_false] at hp
    rcases hp with rfl
    · exact ⟨_, rfl, ⟨⟨_, _, _, D4.mono (by decide), PySem.W.mg_of X G a4, k4, B4⟩⟩⟩
    )
    (fun _ _ _ q _ => by cases q)
    (fun _ _ q => by cases q)
    (fun _ _ q => by cases q)
    ) rfl ck_checked ar_checked (wk_names (N := n_checked) rfl (w_checked (st := "STATES") (by repeat' (first | rfl | constructor))))
  have R27 : ∀ d : Nat, FnOk P w K mg base (L2.CX P w) (5 + d) f27 (PySem.W.fnOf "_law_free" "_law_free" (defArgs (top 39)) (defBody (top 39)) (defScope (top 39)) .none kV27 dc27 pm27 an27 cd27 ct27) ["_law_script", "_law_m", "_law_hall_here", "_law_names", "_law_deep"] (lift ⟨P, w, K, c.ca, c.ex⟩ (sp_lfree d)) := fun d => by
    induction d with
    | zero => exact never_ok U27 (z_lfree)
    | succ d ih =>
      exact def_ok (k := 5 + d) (c := c) (G := gC (fnX 107 (sp_lfree d)) mt0 fl0) (T := t__law_free) U27 sc__law_free (nm_of F rfl (by decide +kernel) (fun p hp => by
        simp only [t__law_free, List.mem_cons, List.not_mem_nil, or_false] at hp
        rcases hp with rfl | rfl | rfl
        · exact ⟨_, rfl, ⟨⟨_, _, _, D22.mono (by omega), PySem.W.mg_of X G a22, k22, B22⟩⟩⟩
        · exact ⟨_, rfl, ⟨⟨_, _, _, D26.mono (by omega), PySem.W.mg_of X G a26, k26, B26⟩⟩⟩
        · exact ⟨_, rfl, ⟨⟨_, _, _, ih, PySem.W.mg_of X G a27, k27, B27⟩⟩⟩
        ) (fun _ _ _ q _ => by cases q) (fun _ _ q => by cases q) (fun _ _ q => by cases q)) rfl ck__law_free (ar__law_free (d + 1)) (wk_names (N := n__law_free) rfl (w_lfree (by repeat' (first | rfl | constructor)) rfl rfl))
  have D27 := R27 3
  have R11 : ∀ d : Nat, FnOk P w K mg base (L2.CX P w) (1 + d) f11 (PySem.W.fnOf "parts" "parts" (defArgs (top 22)) (defBody (top 22)) (defScope (top 22)) .none kV11 dc11 pm11 an11 cd11 ct11) ["sentence"] (lift ⟨P, w, K, c.ca, c.ex⟩ (up1 (ps_parts d))) := fun d => by
    induction d with
    | zero => exact never_ok U11 (never_up1 z_parts)
    | succ d ih =>
      exact def_ok (k := 1 + d) (c := c) (G := gC (fnX 21 (up1 (ps_parts d))) mt0 fl0) (T := t_parts) U11 sc_parts (nm_of F rfl (by decide +kernel) (fun p hp => by
        simp only [t_parts, List.mem_cons, List.not_mem_nil, or_false] at hp
        rcases hp with rfl | rfl
        · exact ⟨_, rfl, ⟨⟨_, _, _, D9.mono (by omega), PySem.W.mg_of X G a9, k9, B9⟩⟩⟩
        · exact ⟨_, rfl, ⟨⟨_, _, _, ih, PySem.W.mg_of X G a11, k11, B11⟩⟩⟩
        ) (fun _ _ _ q _ => by cases q) (fun _ _ q => by cases q) (fun _ _ q => by cases q)) rfl ck_parts (ar_parts (d + 1)) (wk_names (N := n_parts) rfl (wk_of (g := gPX 21 (ps_parts d) rfl) (w_parts rfl rfl)))
  have D11 := R11 20
  have R13 : ∀ d : Nat, FnOk P w K mg base (L2.CX P w) (1 + d) f13 (PySem.W.fnOf "free_of" "free_of" (defArgs (top 24)) (defBody (top 24)) (defScope (top 24)) .none kV13 dc13 pm13 an13 cd13 ct13) ["sentence"] (lift ⟨P, w, K, c.ca, c.ex⟩ (up1 (ps_free_of d))) := fun d => by
    induction d with
    | zero => exact never_ok U13 (never_up1 z_free_of)
    | succ d ih =>
      exact def_ok (k := 1 + d) (c := c) (G := gC (fnX 23 (up1 (ps_free_of d))) mt0 fl0) (T := t_free_of) U13 sc_free_of (nm_of F rfl (by decide +kernel) (fun p hp => by
        simp only [t_free_of, List.mem_cons, List.not_mem_nil, or_false] at hp
        rcases hp with rfl | rfl | rfl | rfl
        · exact ⟨_, rfl, ⟨⟨_, _, _, D6.mono (by omega), PySem.W.mg_of X G a6, k6, B6⟩⟩⟩
        · exact ⟨_, rfl, ⟨⟨_, _, _, D9.mono (by omega), PySem.W.mg_of X G a9, k9, B9⟩⟩⟩
        · exact ⟨_, rfl, ⟨⟨_, _, _, D12.mono (by omega), PySem.W.mg_of X G a12, k12, B12⟩⟩⟩
        · exact ⟨_, rfl, ⟨⟨_, _, _, ih, PySem.W.mg_of X G a13, k13, B13⟩⟩⟩
        ) (fun _ _ _ q _ => by cases q) (fun _ _ q => by cases q) (fun _ _ q => by cases q)) rfl ck_free_of (ar_free_of (d + 1)) (wk_names (N := n_free_of) rfl (wk_of (g := gPX 23 (ps_free_of d) rfl) (w_free_of rfl rfl rfl rfl)))
  have D13 := R13 20
  have R14 : ∀ d : Nat, FnOk P w K mg base (L2.CX P w) (1 + d) f14 (PySem.W.fnOf "bound_of" "bound_of" (defArgs (top 25)) (defBody (top 25)) (defScope (top 25)) .none kV14 dc14 pm14 an14 cd14 ct14) ["sentence"] (lift ⟨P, w, K, c.ca, c.ex⟩ (up1 (ps_bound_of d))) := fun d => by
    induction d with
    | zero => exact never_ok U14 (never_up1 z_bound_of)
    | succ d ih =>
      exact def_ok (k := 1 + d) (c := c) (G := gC (fnX 24 (up1 (ps_bound_of d))) mt0 fl0) (T := t_bound_of) U14 sc_bound_of (nm_of F rfl (by decide +kernel) (fun p hp => by
        simp only [t_bound_of, List.mem_cons, List.not_mem_nil, or_false] at hp
        rcases hp with rfl | rfl
        · exact ⟨_, rfl, ⟨⟨_, _, _, D9.mono (by omega), PySem.W.mg_of X G a9, k9, B9⟩⟩⟩
        · exact ⟨_, rfl, ⟨⟨_, _, _, ih, PySem.W.mg_of X G a14, k14, B14⟩⟩⟩
        ) (fun _ _ _ q _ => by cases q) (fun _ _ q => by cases q) (fun _ _ q => by cases q)) rfl ck_bound_of (ar_bound_of (d + 1)) (wk_names (N := n_bound_of) rfl (wk_of (g := gPX 24 (ps_bound_of d) rfl) (w_bound_of rfl rfl)))
  have D14 := R14 20
  have R16 : ∀ d : Nat, FnOk P w K mg base (L2.CX P w) (1 + d) f16 (PySem.W.fnOf "all_bound" "all_bound" (defArgs (top 27)) (defBody (top 27)) (defScope (top 27)) .none kV16 dc16 pm16 an16 cd16 ct16) ["sentence", "known"] (lift ⟨P, w, K, c.ca, c.ex⟩ (up1 (ps_all_bound d))) := fun d => by
    induction d with
    | zero => exact never_ok U16 (never_up1 z_all_bound)
    | succ d ih =>
      exact def_ok (k := 1 + d) (c := c) (G := gC (fnX 26 (up1 (ps_all_bound d))) mt0 fl0) (T := t_all_bound) U16 sc_all_bound (nm_of F rfl (by decide +kernel) (fun p hp => by
        simp only [t_all_bound, List.mem_cons, List.not_mem_nil, or_false] at hp
        rcases hp with rfl | rfl | rfl | rfl
        · exact ⟨_, rfl, ⟨⟨_, _, _, D6.mono (by omega), PySem.W.mg_of X G a6, k6, B6⟩⟩⟩
        · exact ⟨_, rfl, ⟨⟨_, _, _, D9.mono (by omega), PySem.W.mg_of X G a9, k9, B9⟩⟩⟩
        · exact ⟨_, rfl, ⟨⟨_, _, _, D12.mono (by omega), PySem.W.mg_of X G a12, k12, B12⟩⟩⟩
        · exact ⟨_, rfl, ⟨⟨_, _, _, ih, PySem.W.mg_of X G a16, k16, B16⟩⟩⟩
        ) (fun _ _ _ q _ => by cases q) (fun _ _ q => by cases q) (fun _ _ q => by cases q)) rfl ck_all_bound (ar_all_bound (d + 1)) (wk_names (N := n_all_bound) rfl (wk_of (g := gPX 26 (ps_all_bound d) rfl) (w_all_bound rfl rfl rfl rfl)))
  have D16 := R16 20
  have D15 : FnOk P w K mg base (L2.CX P w) 22 f15 _ _ (lift ⟨P, w, K, c.ca, c.ex⟩ (up1 ps_names_fit)) := def_ok (k := 21) (c := c) (G := gC fnK mt0 fl0) (T := t_names_fit) U15 sc_names_fit (nm_of F rfl (by decide +kernel) (fun p hp => by
    simp only [t_names_fit, List.mem_cons, List.not_mem_nil, or_false] at hp
    rcases hp with rfl | rfl | rfl
    · exact ⟨_, rfl, ⟨⟨_, _, _, D13.mono (by decide), PySem.W.mg_of X G a13, k13, B13⟩⟩⟩
    · exact ⟨_, rfl, ⟨⟨_, _, _, D14.mono (by decide), PySem.W.mg_of X G a14, k14, B14⟩⟩⟩
    · exact ⟨_, rfl, ⟨⟨_, _, _, D16.mono (by decide), PySem.W.mg_of X G a16, k16, B16⟩⟩⟩
    )
    (fun _ _ _ q _ => by cases q)
    (fun _ _ q => by cases q)
    (fun _ _ q => by cases q)
    ) rfl ck_names_fit ar_names_fit (wk_names (N := n_names_fit) rfl (wk_of (g := gP) (w_names_fit rfl rfl rfl rfl)))
  have R10 : ∀ d : Nat, FnOk P w K mg base (L2.CX P w) (4 + d) f10 (PySem.W.fnOf "is_built" "is_built" (defArgs (top 21)) (defBody (top 21)) (defScope (top 21)) .none kV10 dc10 pm10 an10 cd10 ct10) ["hall", "thing", "most"] (lift ⟨P, w, K, c.ca, c.ex⟩ (up1 (ps_is_built d))) := fun d => by
    induction d with
    | zero => exact never_ok U10 (never_up1 z_is_built)
    | succ d ih =>
      exact def_ok (k := 4 + d) (c := c) (G := gC (fnX 20 (up1 (ps_is_built d))) mt0 fl0) (T := t_is_built) U10 sc_is_built (nm_of F rfl (by decide +kernel) (fun p hp => by
        simp only [t_is_built, List.mem_cons, List.not_mem_nil, or_false] at hp
        rcases hp with rfl | rfl | rfl | rfl
        · exact ⟨_, rfl, ⟨⟨_, _, _, D6.mono (by omega), PySem.W.mg_of X G a6, k6, B6⟩⟩⟩
        · exact ⟨_, rfl, ⟨⟨_, _, _, D8.mono (by omega), PySem.W.mg_of X G a8, k8, B8⟩⟩⟩
        · exact ⟨_, rfl, ⟨⟨_, _, _, D9.mono (by omega), PySem.W.mg_of X G a9, k9, B9⟩⟩⟩
        · exact ⟨_, rfl, ⟨⟨_, _, _, ih, PySem.W.mg_of X G a10, k10, B10⟩⟩⟩
        ) (fun _ _ _ q _ => by cases q) (fun _ _ q => by cases q) (fun _ _ q => by cases q)) rfl ck_is_built (ar_is_built (d + 1)) (wk_names (N := n_is_built) rfl (wk_of (g := gPX 20 (ps_is_built d) rfl) (w_is_built rfl rfl rfl rfl rfl)))
  have D10 := R10 21
  have D17 : FnOk P w K mg base (L2.CX P w) 26 f17 _ _ (lift ⟨P, w, K, c.ca, c.ex⟩ (up1 ps_need_sentence)) := def_ok (k := 25) (c := c) (G := gC fnK mt0 fl0) (T := t_need_sentence) U17 sc_need_sentence (nm_of F rfl (by decide +kernel) (fun p hp => by
    simp only [t_need_sentence, List.mem_cons, List.not_mem_nil, or_false] at hp
    rcases hp with rfl | rfl | rfl | rfl
    · exact ⟨_, rfl, ⟨⟨_, _, _, D5.mono (by decide), PySem.W.mg_of X G a5, k5, B5⟩⟩⟩
    · exact ⟨_, rfl, ⟨⟨_, _, _, D10.mono (by decide), PySem.W.mg_of X G a10, k10, B10⟩⟩⟩
    · exact ⟨_, rfl, ⟨⟨_, _, _, D11.mono (by decide), PySem.W.mg_of X G a11, k11, B11⟩⟩⟩
    · exact ⟨_, rfl, ⟨⟨_, _, _, D15.mono (by decide), PySem.W.mg_of X G a15, k15, B15⟩⟩⟩
    )
    (fun _ _ _ q _ => by cases q)
    (fun _ _ q => by cases q)
    (fun _ _ q => by cases q)
    ) rfl ck_need_sentence ar_need_sentence (wk_names (N := n_need_sentence) rfl (wk_of (g := gP) (w_need_sentence (by repeat' (first | rfl | constructor)))))
  have D18 : FnOk P w K mg base (L2.CX P w) 27 f18 _ _ (lift ⟨P, w, K, c.ca, c.ex⟩ (up1 ps_checked_sentence)) := def_ok (k := 26) (c := c) (G := gC fnK mt0 fl0) (T := t_checked_sentence) U18 sc_checked_sentence (nm_of F rfl (by decide +kernel) (fun p hp => by
    simp only [t_checked_sentence, List.mem_cons, List.not_mem_nil, or_false] at hp
    rcases hp with rfl
    · exact ⟨_, rfl, ⟨⟨_, _, _, D17.mono (by decide), PySem.W.mg_of X G a17, k17, B17⟩⟩⟩
    )
    (fun _ _ _ q _ => by cases q)
    (fun _ _ q => by cases q)
    (fun _ _ q => by cases q)
    ) rfl ck_checked_sentence ar_checked_sentence (wk_names (N := n_checked_sentence) rfl (wk_of (g := gP) (w_checked_sentence rfl)))
  have D19 : FnOk P w K mg base (L2.CX P w) 27 f19 _ _ (lift ⟨P, w, K, c.ca, c.ex⟩ (up1 ps_free)) := def_ok (k := 26) (c := c) (G := gC fnK mt0 fl0) (T := t_free) U19 sc_free (nm_of F rfl (by decide +kernel) (fun p hp => by
    simp only [t_free, List.mem_cons, List.not_mem_nil, or_false] at hp
    rcases hp with rfl | rfl
    · exact ⟨_, rfl, ⟨⟨_, _, _, D13.mono (by decide), PySem.W.mg_of X G a13, k13, B13⟩⟩⟩
    · exact ⟨_, rfl, ⟨⟨_, _, _, D17.mono (by decide), PySem.W.mg_of X G a17, k17, B17⟩⟩⟩
    )
    (fun _ _ _ q _ => by cases q)
    (fun _ _ q => by cases q)
    (fun _ _ q => by cases q)
    ) rfl ck_free ar_free (wk_names (N := n_free) rfl (wk_of (g := gP) (w_free rfl rfl)))
  have D30 : FnOk P w K mg base (L2.CX P w) 28 f30 _ _ (lift ⟨P, w, K, c.ca, c.ex⟩ (up1 ps_refused5)) := def_ok (k := 27) (c := c) (G := gC fnK mt0 fl0) (T := t__law_refused) U30 sc__law_refused (nm_of F rfl (by decide +kernel) (fun p hp => by
    simp only [t__law_refused, List.mem_cons, List.not_mem_nil, or_false] at hp
    rcases hp with rfl
    · exact ⟨_, rfl, ⟨⟨_, _, _, D18.mono (by decide), PySem.W.mg_of X G a18, k18, B18⟩⟩⟩
    )
    (fun _ _ _ q _ => by cases q)
    (fun _ _ q => by cases q)
    (fun _ _ q => by cases q)
    ) rfl ck__law_refused ar__law_refused (wk_names (N := n__law_refused) rfl (wk_of (g := gP) (w_refused5 rfl rfl rfl rfl rfl rfl)))
  have D31 : FnOk P w K mg base (L2.CX P w) 29 fa _ _ (lift ⟨P, w, K, c.ca, c.ex⟩ sp_plaw) := def_ok (k := 28) (c := c) (G := gC fnK mt0 fl0) (T := t_law) U31 sc_law (nm_of F rfl (by decide +kernel) (fun p hp => by
    simp only [t_law, List.mem_cons, List.not_mem_nil, or_false] at hp
    rcases hp with rfl | rfl | rfl | rfl | rfl | rfl | rfl | rfl
    · exact ⟨_, rfl, ⟨⟨_, _, _, D18.mono (by decide), PySem.W.mg_of X G a18, k18, B18⟩⟩⟩
    · exact ⟨_, rfl, ⟨⟨_, _, _, D19.mono (by decide), PySem.W.mg_of X G a19, k19, B19⟩⟩⟩
    · exact ⟨_, rfl, ⟨⟨_, _, _, D21.mono (by decide), PySem.W.mg_of X G a21, k21, B21⟩⟩⟩
    · exact ⟨_, rfl, ⟨⟨_, _, _, D24.mono (by decide), PySem.W.mg_of X G a24, k24, B24⟩⟩⟩
    · exact ⟨_, rfl, ⟨⟨_, _, _, D27.mono (by decide), PySem.W.mg_of X G a27, k27, B27⟩⟩⟩
    · exact ⟨_, rfl, ⟨⟨_, _, _, D28.mono (by decide), PySem.W.mg_of X G a28, k28, B28⟩⟩⟩
    · exact ⟨_, rfl, ⟨⟨_, _, _, D29.mono (by decide), PySem.W.mg_of X G a29, k29, B29⟩⟩⟩
    · exact ⟨_, rfl, ⟨⟨_, _, _, D30.mono (by decide), PySem.W.mg_of X G a30, k30, B30⟩⟩⟩
    )
    (fun _ _ _ q _ => by cases q)
    (fun _ _ q => by cases q)
    (fun _ _ q => by cases q)
    ) rfl ck_law ar_law (wk_names (N := n_law5) rfl (w_law5 (by repeat' (first | rfl | constructor))))
  exact D31.imp fun vs H Q E q => top_in q
theorem walk_law {l : PySem.W.OpenLaw} {q : Program} {loose : List Str} {XP : (Str → Option Value) → Heap → Prop} {YP : World → Heap → Prop} {d : DefRec} {K : Params → PySem.W.Frag} (hn : l.most = some 63) (hdf : d.params.defaults = [])
    (hY : ∀ (w : World) (h : Heap), YP w h → (K w.params).In h)
    (F : ∀ (w : World) (mg : Str → Option Value) (fa : Addr) (h : Heap), (K w.params).In h → h.Ns mainGlobals mg → mg d.name = some (.ref fa) →
      ∃ fd : FuncData, (∀ (s : Shared) (u : Value), BindsTo s fd ⟨[u], []⟩ [("_law_script", u)]) ∧ ∀ base : Heap, (K w.params).In base → base.Ns mainGlobals mg → FnOk l.prog w (K w.params) mg base (L2.CX l.prog w) 29 fa fd ["_law_script"] (spTop (K w.params))) :
    PySem.W.WalkO q loose XP YP l.row.toRowW d [] (fun f vs => PySem.call f vs) :=
  L2.walk_of (n := 63) (k := 29) (x := "_law_script") (CX := fun w => L2.CX l.prog w) (sp := fun w => spTop (K w.params)) hn (by decide) hdf ⟨rfl, by decide, by decide⟩ hY F (fun _ _ a ns hl hO hS => ⟨a, ns, rfl, hO, hS, fun _ => rfl⟩) (fun _ _ _ _ _ z => cx_no z)
end DL
open PySem PySem.W PyProof.Rows
theorem PySem.Challenge.cw_digitrow_k05_sentences_holds : PySem.Challenge.rw_digitrow_k05_sentences.Holds := by
  w_on; o_law; k_head; (case hw => w_witness2)
  k_fill
  refine DL.walk_law (l := PySem.Challenge.rw_digitrow_k05_sentences) rfl rfl (fun w h Y => PySem.W.kIn_of Y) ?F
  case F =>
    intro w mg fa h KX G hmg
    refine' DL.all_mk KX G hmg ?a0 ?l0 ?c0 ?k0 ?a1 ?l1 ?c1 ?k1 ?a2 ?l2 ?c2 ?k2 ?a3 ?l3 ?c3 ?k3 ?a4 ?l4 ?c4 ?k4 ?a5 ?l5 ?c5 ?k5 ?a6 ?l6 ?c6 ?k6 ?a7 ?l7 ?c7 ?k7 ?a8 ?l8 ?c8 ?k8 ?a9 ?l9 ?c9 ?k9 ?a10 ?l10 ?c10 ?k10 ?a11 ?l11 ?c11 ?k11 ?a12 ?l12 ?c12 ?k12 ?a13 ?l13 ?c13 ?k13 ?a14 ?l14 ?c14 ?k14 ?a15 ?l15 ?c15 ?k15 ?a16 ?l16 ?c16 ?k16 ?a17 ?l17 ?c17 ?k17 ?a18 ?l18 ?c18 ?k18 ?a19 ?l19 ?c19 ?k19 ?a20 ?l20 ?c20 ?k20 ?a21 ?l21 ?c21 ?k21 ?a22 ?l22 ?c22 ?k22 ?a23 ?l23 ?c23 ?k23 ?a24 ?l24 ?c24 ?k24 ?a25 ?l25 ?c25 ?k25 ?a26 ?l26 ?c26 ?k26 ?a27 ?l27 ?c27 ?k27 ?a28 ?l28 ?c28 ?k28 ?a29 ?l29 ?c29 ?k29 ?a30 ?l30 ?c30 ?k30 ?a31 ?l31 ?c31 ?k31 ?z0 ?z1 ?z2 ?z3 ?z4 ?z5 ?z6 ?z7 ?z8 ?z9 ?z10 ?z11 ?z12 ?z13 ?z14 ?z15 ?z16 ?z17 ?v0 ?v1 ?v2 ?v3 ?v4 ?w4 ?ea0 ?ex0 ?ek0 ?eb0 ?et0 ?eg0 ?eh0 ?ed0 ?ec0 ?em0 ?ev0 ?ea1 ?ex1 ?ek1 ?eb1 ?et1 ?eg1 ?eh1 ?ed1 ?ec1 ?em1 ?ev1 ?ea3 ?ex3 ?ek3 ?eb3 ?et3 ?eg3 ?eh3 ?ed3 ?ec3 ?em3 ?ev3 ?s0_0 ?t0_0 ?s0_1 ?t0_1 ?s0_3 ?t0_3 ?s1_0 ?t1_0 ?s1_1 ?t1_1 ?s1_3 ?t1_3 ?s3_0 ?t3_0 ?s3_1 ?t3_1 ?s3_3 ?t3_3 ?yn ?yt
    (case a0 => k_is)
    (case l0 => k_is)
    (case c0 => k_is)
    (case k0 => k_is)
    (case a1 => k_is)
    (case l1 => k_is)
    (case c1 => k_is)
    (case k1 => k_is)
    (case a2 => k_is)
    (case l2 => k_is)
    (case c2 => k_is)
    (case k2 => k_is)
    (case a3 => k_is)
    (case l3 => k_is)
    (case c3 => k_is)
    (case k3 => k_is)
    (case a4 => k_is)
    (case l4 => k_is)
    (case c4 => k_is)
    (case k4 => k_is)
    (case a5 => k_is)
    (case l5 => k_is)
    (case c5 => k_is)
    (case k5 => k_is)
    (case a6 => k_is)
    (case l6 => k_is)
    (case c6 => k_is)
    (case k6 => k_is)
    (case a7 => k_is)
    (case l7 => k_is)
    (case c7 => k_is)
    (case k7 => k_is)
    (case a8 => k_is)
    (case l8 => k_is)
    (case c8 => k_is)
    (case k8 => k_is)
    (case a9 => k_is)
    (case l9 => k_is)
    (case c9 => k_is)
    (case k9 => k_is)
    (case a10 => k_is)
    (case l10 => k_is)
    (case c10 => k_is)
    (case k10 => k_is)
    (case a11 => k_is)
    (case l11 => k_is)
    (case c11 => k_is)
    (case k11 => k_is)
    (case a12 => k_is)
    (case l12 => k_is)
    (case c12 => k_is)
    (case k12 => k_is)
    (case a13 => k_is)
    (case l13 => k_is)
    (case c13 => k_is)
    (case k13 => k_is)
    (case a14 => k_is)
    (case l14 => k_is)
    (case c14 => k_is)
    (case k14 => k_is)
    (case a15 => k_is)
    (case l15 => k_is)
    (case c15 => k_is)
    (case k15 => k_is)
    (case a16 => k_is)
    (case l16 => k_is)
    (case c16 => k_is)
    (case k16 => k_is)
    (case a17 => k_is)
    (case l17 => k_is)
    (case c17 => k_is)
    (case k17 => k_is)
    (case a18 => k_is)
    (case l18 => k_is)
    (case c18 => k_is)
    (case k18 => k_is)
    (case a19 => k_is)
    (case l19 => k_is)
    (case c19 => k_is)
    (case k19 => k_is)
    (case a20 => k_is)
    (case l20 => k_is)
    (case c20 => k_is)
    (case k20 => k_is)
    (case a21 => k_is)
    (case l21 => k_is)
    (case c21 => k_is)
    (case k21 => k_is)
    (case a22 => k_is)
    (case l22 => k_is)
    (case c22 => k_is)
    (case k22 => k_is)
    (case a23 => k_is)
    (case l23 => k_is)
    (case c23 => k_is)
    (case k23 => k_is)
    (case a24 => k_is)
    (case l24 => k_is)
    (case c24 => k_is)
    (case k24 => k_is)
    (case a25 => k_is)
    (case l25 => k_is)
    (case c25 => k_is)
    (case k25 => k_is)
    (case a26 => k_is)
    (case l26 => k_is)
    (case c26 => k_is)
    (case k26 => k_is)
    (case a27 => k_is)
    (case l27 => k_is)
    (case c27 => k_is)
    (case k27 => k_is)
    (case a28 => k_is)
    (case l28 => k_is)
    (case c28 => k_is)
    (case k28 => k_is)
    (case a29 => k_is)
    (case l29 => k_is)
    (case c29 => k_is)
    (case k29 => k_is)
    (case a30 => k_is)
    (case l30 => k_is)
    (case c30 => k_is)
    (case k30 => k_is)
    (case a31 => k_is)
    (case l31 => k_is)
    (case c31 => k_is)
    (case k31 => k_is)
    (case z0 => k_is)
    (case z1 => k_is)
    (case z2 => k_is)
    (case z3 => k_is)
    (case z4 => k_is)
    (case z5 => k_is)
    (case z6 => k_is)
    (case z7 => k_is)
    (case z8 => k_is)
    (case z9 => k_is)
    (case z10 => k_is)
    (case z11 => k_is)
    (case z12 => k_is)
    (case z13 => k_is)
    (case z14 => k_is)
    (case z15 => k_is)
    (case z16 => k_is)
    (case z17 => k_is)
    (case v0 => k_is)
    (case v1 => k_is)
    (case v2 => k_is)
    (case v3 => k_is)
    (case v4 => k_is)
    (case w4 => k_is)
    (case ea0 => k_is)
    (case ex0 => k_exc)
    (case ek0 => k_is)
    (case eb0 => k_is)
    (case et0 => k_is)
    (case eg0 => k_is)
    (case eh0 => k_is)
    (case ed0 => k_is)
    (case ec0 => k_is)
    (case em0 => k_is)
    (case ev0 => k_is)
    (case ea1 => k_is)
    (case ex1 => k_exc)
    (case ek1 => k_is)
    (case eb1 => k_is)
    (case et1 => k_is)
    (case eg1 => k_is)
    (case eh1 => k_is)
    (case ed1 => k_is)
    (case ec1 => k_is)
    (case em1 => k_is)
    (case ev1 => k_is)
    (case ea3 => k_is)
    (case ex3 => k_exc)
    (case ek3 => k_is)
    (case eb3 => k_is)
    (case et3 => k_is)
    (case eg3 => k_is)
    (case eh3 => k_is)
    (case ed3 => k_is)
    (case ec3 => k_is)
    (case em3 => k_is)
    (case ev3 => k_is)
    (case s0_0 => first | rfl | k_is)
    (case t0_0 => first | rfl | k_is)
    (case s0_1 => first | rfl | k_is)
    (case t0_1 => first | rfl | k_is)
    (case s0_3 => first | rfl | k_is)
    (case t0_3 => first | rfl | k_is)
    (case s1_0 => first | rfl | k_is)
    (case t1_0 => first | rfl | k_is)
    (case s1_1 => first | rfl | k_is)
    (case t1_1 => first | rfl | k_is)
    (case s1_3 => first | rfl | k_is)
    (case t1_3 => first | rfl | k_is)
    (case s3_0 => first | rfl | k_is)
    (case t3_0 => first | rfl | k_is)
    (case s3_1 => first | rfl | k_is)
    (case t3_1 => first | rfl | k_is)
    (case s3_3 => first | rfl | k_is)
    (case t3_3 => first | rfl | k_is)
    (case yn => k_is)
    (case yt => k_is)
#print axioms PySem.Challenge.cw_digitrow_k05_sentences_holds

