import PyProof.Rows.All
import Wide.All
import OpenK.AllK
import Wide.FinOn
import HandS.ForMost
import HandS.ForExc
import KE.KeyNested
import KE.KDictKeyed
import KE.KDictCopyH
import KE.KDictWalk
import HandS.Wide
import HandS.TupAny
import KE.DataEq
import HandS.TupMul
import HandS.SortInts
import HandS.IsInst
import HandS.SortRule
import PyProof.StrOps2
import HandS.Deep
import HandS.Walk
import HandS.CallSlots
import HandS.ExcIs
import HandS.TryOnly
import HandS.Exc
import HandS.ExcOwn
import HandS.Zip
import KE.GoesMore
import HandS.Iter
import HandS.Conv
import HandS.WordsExc
import PySem.Challenge.RW_digitrow_k02_rules
set_option autoImplicit true
set_option Elab.async false
set_option linter.all false
set_option maxRecDepth 100000
/-! Own layer, part 1: values without addresses for tuples, a small tree of the text, what must hold ahead of a text (wE, wS). -/
namespace DL
open PySem

/-- a value: tuples by what they hold; ref: a list, a dict, an instance. lst: a list's snapshot, in comparisons only -/
inductive Val where
  | non | bl (b : Bool) | int (i : Int) | str (x : Str) | tup (xs : List Val) | ref (a : Addr) | lst (xs : List Val)
deriving Inhabited

mutual
/-- no address within -/
def Val.dat : Val → Bool
  | .tup xs => Val.dats xs
  | .ref _ => false
  | .lst _ => false
  | .non => true
  | .bl _ => true
  | .int _ => true
  | .str _ => true
def Val.dats : List Val → Bool
  | [] => true
  | x :: xs => x.dat && Val.dats xs
end
mutual
def Val.py : Val → PyData
  | .non => .none
  | .bl b => .bool b
  | .int i => .int i
  | .str x => .str x
  | .tup xs => .tuple (Val.pys xs)
  | .lst xs => .list (Val.pys xs)
  | .ref _ => .none
def Val.pys : List Val → List PyData
  | [] => []
  | x :: xs => x.py :: Val.pys xs
end
mutual
def Val.nk : Val → NestedKey
  | .non => .none
  | .bl b => .num (if b then 1 else 0)
  | .int i => .num i
  | .str x => .text x
  | .tup xs => .tup (Val.nks xs)
  | .lst _ => .none
  | .ref _ => .none
def Val.nks : List Val → List NestedKey
  | [] => []
  | x :: xs => x.nk :: Val.nks xs
end
mutual
def Val.dep : Val → Nat
  | .tup xs => Val.deps xs + 1
  | .lst xs => Val.deps xs + 1
  | .non => 0
  | .bl _ => 0
  | .int _ => 0
  | .str _ => 0
  | .ref _ => 0
def Val.deps : List Val → Nat
  | [] => 0
  | x :: xs => max x.dep (Val.deps xs)
end
/-- == -/
def Val.veq (x y : Val) : Bool := PyData.eqv x.py y.py

/-- what stands at an address; t: a dict's version -/
inductive Ob where
  | lst (xs : List Val) | dct (kvs : List (Val × Val)) (t : Nat) | ins (c : Nat) (fs : List (Str × Val))
abbrev Sto := Addr → Option Ob
def up (S : Sto) (a : Addr) (o : Ob) : Sto := fun b => if b = a then some o else S b
/-- what S had, and v -/
def isRef : Val → Addr → Bool
  | .ref b, a => b == a
  | _, _ => false
def keep (S S' : Sto) (v : Val) : Sto := fun a => if ((S a).isSome || isRef v a) = true then S' a else none

abbrev Env := List (Option Val)
abbrev KV := Val → Sto → Prop
def withO {α : Type} : Option α → (α → Prop) → Prop
  | some a, k => k a
  | none, _ => False
def withB : Val → (Bool → Prop) → Prop
  | .bl b, k => k b
  | _, _ => False
def getV (e : Env) (i : Nat) : Option Val := (e[i]?).join

inductive Bop where
  | add | sub | mul | fdiv | mod | pow
deriving DecidableEq
inductive Cop where
  | eq | ne | lt | le | gt | ge | isin | notin
deriving DecidableEq
inductive Ty where
  | int | bool | str | tuple | list
deriving DecidableEq
/-- built-ins: of values; max1, min1: of one sequence -/
inductive Bt where
  | len | all | any | tuple | list | dict | sorted | int | max1 | max2 | min1 | min2 | sum | str
deriving DecidableEq
/-- methods of built-in types -/
inductive Mt where
  | append | extend | index | count | pop | reverse | setdefault | get | split | find
deriving DecidableEq

inductive Tg where
  | one (i : Nat) | many (is : List Nat)

mutual
inductive Ex where
  | var (i : Nat) | glob (x : Str) | int (i : Int) | bl (b : Bool) | non | str (x : Str)
  | bin (o : Bop) (a b : Ex) | neg (a : Ex) | not (a : Ex)
  | cmp (o : Cop) (a b : Ex) | isN (a : Ex) | notN (a : Ex) | chain (o p : Cop) (a b c : Ex)
  | and (a b : Ex) | or (a b : Ex)
  | tup (es : Exs) | lst (es : Exs) | dict0 | dict1 (k v : Ex)
  | sub (a i : Ex) | slice (a : Ex) (lo hi : Oe) | fld (a : Ex) (f : Str)
  | call (f : Nat) (es : Exs) | new (c : Nat) (es : Exs) | blt (b : Bt) (es : Exs) | bltc (b : Bt) (c : Cmp)
  | isi (a : Ex) (t : Ty) | meth (a : Ex) (m : Mt) (es : Exs) | umeth (a : Ex) (m : Str) (es : Exs)
  | comp (c : Cmp)
  | lzip (a b : Ex) | lrng (es : Exs) | trng (es : Exs)
  | drop (e : Ex)
inductive Exs where
  | nil | cons (e : Ex) (es : Exs)
inductive Oe where
  | none | some (e : Ex)
inductive Itr where
  | val (e : Ex) | rng (es : Exs) | enum (e : Ex) | zip (a b : Ex)
/-- a comprehension: target, its own slots, the element, what is walked, the test -/
inductive Cmp where
  | mk (tg : Tg) (own : List Nat) (elt : Ex) (it : Itr) (cond : Oe)
end

/-- an exception clause's suite: a return of whether the exception is (not) of some own classes; of a text where it is; of a value; a raise -/
inductive Hd where
  | conj (cs : List (Nat × Bool)) | text (x : Str) (cs : List (Nat × Bool)) | bl (b : Bool) | non | str (x : Str) | raise (c : Nat)
mutual
inductive Sm where
  | asg (i : Nat) (e : Ex) | asgs (is : List Nat) (e : Ex) | par (i j : Nat) (a b : Ex)
  | setI (a i e : Ex) | setF (a : Ex) (f : Str) (e : Ex)
  | expr (e : Ex) | ret (e : Ex) | ret0 | pass
  | ite (c : Ex) (a b : Sms) | while (c : Ex) (b : Sms) | for (tg : Tg) (it : Itr) (b : Sms)
  | raise (c : Nat) (x : Str)
  | try1 (b : Sms) (c : Nat) (n : Option Nat) (h : Hd)
inductive Sms where
  | nil | cons (s : Sm) (r : Sms)
end

/-! ### values' operations -/
def Val.ints : List Val → Option (List Int)
  | [] => some []
  | .int i :: r => (Val.ints r).map (i :: ·)
  | _ :: _ => none
def Val.bls : List Val → Option (List Bool)
  | [] => some []
  | .bl i :: r => (Val.bls r).map (i :: ·)
  | _ :: _ => none
def Val.strs : List Val → Option (List Str)
  | [] => some []
  | .str i :: r => (Val.strs r).map (i :: ·)
  | _ :: _ => none
/-- tuples of whole numbers -/
def Val.itups : List Val → Option (List (List Int))
  | [] => some []
  | .tup xs :: r => match Val.ints xs, Val.itups r with
    | some ns, some rs => some (ns :: rs)
    | _, _ => none
  | _ :: _ => none
/-- pairs -/
def Val.prs : List Val → Option (List (Val × Val))
  | [] => some []
  | .tup [a, b] :: r => (Val.prs r).map ((a, b) :: ·)
  | _ :: _ => none
mutual
/-- a list's content, at most n lists deep -/
def Sto.see (S : Sto) : Nat → Val → Option Val
  | 0, v => if v.dat then some v else none
  | n + 1, v => if v.dat then some v else match v with
    | .ref a => match S a with
      | some (.lst xs) => (Sto.sees S n xs).map .lst
      | _ => none
    | .lst xs => (Sto.sees S n xs).map .lst
    | _ => none
def Sto.sees (S : Sto) : Nat → List Val → Option (List Val)
  | _, [] => some []
  | n, x :: xs => match Sto.see S n x, Sto.sees S n xs with
    | some y, some ys => some (y :: ys)
    | _, _ => none
end

def line : Nat := 16777216
/-- a factor's size -/
def mulOk (i j : Int) : Prop := L2.CMul i j ∨ i.natAbs.log2 + j.natAbs.log2 < 1000000
def modKey (k : Val) : Bool := k.dat && decide (k.nk.depth ≤ 8)

def dget (kvs : List (Val × Val)) (k : Val) : Option Val := match kvs with
  | [] => none
  | (a, v) :: r => if a.nk = k.nk then some v else dget r k
def dput (kvs : List (Val × Val)) (k v : Val) : List (Val × Val) := match kvs with
  | [] => [(k, v)]
  | (a, w) :: r => if a.nk = k.nk then (a, v) :: r else (a, w) :: dput r k v
/-- a key's kind: whole numbers and texts, tuples, the others; a dict's keys are of one kind -/
def isTup : Val → Bool
  | .tup _ => true
  | _ => false
def kcl : Val → Nat
  | .int _ => 0
  | .str _ => 0
  | .tup _ => 2
  | _ => 1
def kindOk (kvs : List (Val × Val)) (k : Val) : Bool := modKey k && match kvs with
  | [] => true
  | (a, _) :: _ => kcl a == kcl k

/-- a text, k times -/
def srep (z : Str) (k : Int) : Str := ⟨(List.replicate k.toNat z.cps).foldl (· ++ ·) #[]⟩
def wBin (o : Bop) (x y : Val) (S : Sto) (Q : KV) : Prop := match o, x, y with
  | .add, .int i, .int j => Q (.int (i + j)) S
  | .add, .str i, .str j => i.length + j.length ≤ line ∧ Q (.str (i ++ j)) S
  | .add, .tup i, .tup j => i.length + j.length ≤ line ∧ Q (.tup (i ++ j)) S
  | .add, .ref a, .ref b => match S a, S b with
    | some (.lst i), some (.lst j) => i.length + j.length ≤ line ∧ ∀ p, S p = none → Q (.ref p) (up S p (.lst (i ++ j)))
    | _, _ => False
  | .sub, .int i, .int j => Q (.int (i - j)) S
  | .mul, .int i, .int j => mulOk i j ∧ Q (.int (i * j)) S
  | .mul, .tup xs, .int k => (xs ≠ [] ∧ 0 ≤ k ∧ k ≤ 1000 ∧ xs.length ≤ 1000) ∧ Q (.tup (List.replicate k.toNat xs).flatten) S
  | .mul, .str z, .int k => (0 ≤ k ∧ k ≤ 1000 ∧ z.length ≤ 1000) ∧ Q (.str (srep z k)) S
  | .mul, .ref a, .int k => match S a with
    | some (.lst xs) => (0 ≤ k ∧ k < 2 ^ 62 ∧ xs.length * k.toNat ≤ line) ∧ ∀ p, S p = none → Q (.ref p) (up S p (.lst (List.replicate k.toNat xs).flatten))
    | _ => False
  | .fdiv, .int i, .int j => 0 < j ∧ j < 1073741824 ∧ Q (.int (i / j)) S
  | .mod, .int i, .int j => 0 < j ∧ Q (.int (i % j)) S
  | .pow, .int i, .int j => (0 ≤ j ∧ j ≤ 1000000 ∧ i.natAbs < 2 ^ 64) ∧ Q (.int (i ^ j.toNat)) S
  | _, _, _ => False

def veqAny (x : Val) : List Val → Bool
  | [] => false
  | y :: ys => y.veq x || veqAny x ys

def wCmp (o : Cop) (x y : Val) (S : Sto) (Q : KV) : Prop := match o with
  | .eq => withO (S.see 3 x) fun a => withO (S.see 3 y) fun b => min a.dep b.dep ≤ 100 ∧ Q (.bl (a.veq b)) S
  | .ne => withO (S.see 3 x) fun a => withO (S.see 3 y) fun b => min a.dep b.dep ≤ 100 ∧ Q (.bl (!a.veq b)) S
  | .lt => match x, y with
    | .int i, .int j => Q (.bl (decide (i < j))) S
    | .tup xs, .tup ys => withO (Val.ints xs) fun ns => withO (Val.ints ys) fun ms => Q (.bl (HT.lexLt ns ms)) S
    | _, _ => False
  | .le => match x, y with
    | .int i, .int j => Q (.bl (decide (i ≤ j))) S
    | _, _ => False
  | .gt => match x, y with
    | .int i, .int j => Q (.bl (decide (j < i))) S
    | _, _ => False
  | .ge => match x, y with
    | .int i, .int j => Q (.bl (decide (j ≤ i))) S
    | _, _ => False
  | .isin => match y with
    | .str z => match x with
      | .str w => Q (.bl (!(Builtin.Str.occurrences z w 0 z.length 1).isEmpty)) S
      | _ => False
    | .tup ys => (x.dat && Val.dats ys) = true ∧ x.dep ≤ 100 ∧ Q (.bl (veqAny x ys)) S
    | .ref a => match S a with
      | some (.lst ys) => x.dat = true ∧ x.dep ≤ 100 ∧ withO (S.sees 3 ys) fun zs => Q (.bl (veqAny x zs)) S
      | some (.dct kvs _) => kindOk kvs x = true ∧ Q (.bl (dget kvs x).isSome) S
      | _ => False
    | _ => False
  | .notin => match y with
    | .str z => match x with
      | .str w => Q (.bl (Builtin.Str.occurrences z w 0 z.length 1).isEmpty) S
      | _ => False
    | .tup ys => (x.dat && Val.dats ys) = true ∧ x.dep ≤ 100 ∧ Q (.bl (!veqAny x ys)) S
    | .ref a => match S a with
      | some (.lst ys) => x.dat = true ∧ x.dep ≤ 100 ∧ withO (S.sees 3 ys) fun zs => Q (.bl (!veqAny x zs)) S
      | some (.dct kvs _) => kindOk kvs x = true ∧ Q (.bl (dget kvs x).isNone) S
      | _ => False
    | _ => False

def wSub (x y : Val) (S : Sto) (Q : KV) : Prop := match x, y with
  | .lst xs, .int i => withO (L2.atI xs i) fun v => Q v S
  | .tup xs, .int i => withO (L2.atI xs i) fun v => Q v S
  | .str z, .int i => z.length ≤ line ∧ withO (L2.atI z.cps.toList i) fun c => Q (.str ⟨#[c]⟩) S
  | .ref a, k => match S a, k with
    | some (.lst xs), .int i => withO (L2.atI xs i) fun v => Q v S
    | some (.dct kvs _), k => kindOk kvs k = true ∧ withO (dget kvs k) fun v => Q v S
    | _, _ => False
  | _, _ => False

def cutL {α : Type} (xs : List α) (lo hi : Option Int) : List α := (xs.drop (HT.sIx xs.length 0 lo)).take (HT.sIx xs.length xs.length hi - HT.sIx xs.length 0 lo)
def wSlice (x : Val) (lo hi : Option Int) (S : Sto) (Q : KV) : Prop := match x with
  | .tup xs => Q (.tup (cutL xs lo hi)) S
  | .str z => z.length ≤ line ∧ Q (.str ⟨(cutL z.cps.toList lo hi).toArray⟩) S
  | .ref a => match S a with
    | some (.lst xs) => ∀ p, S p = none → Q (.ref p) (up S p (.lst (cutL xs lo hi)))
    | _ => False
  | _ => False

def tyOf : Ty → Val → Sto → Bool
  | .int, .int _, _ => true
  | .int, .bl _, _ => true
  | .bool, .bl _, _ => true
  | .str, .str _, _ => true
  | .tuple, .tup _, _ => true
  | .list, .ref a, S => match S a with
    | some (.lst _) => true
    | _ => false
  | _, _, _ => false
/-- isinstance is told of plain values and lists -/
def tyKnown : Val → Sto → Bool
  | .ref a, S => match S a with
    | some (.lst _) => true
    | _ => false
  | .lst _, _ => false
  | _, _ => true

def maxL : Int → List Int → Int
  | a, [] => a
  | a, b :: r => maxL (if b > a then b else a) r
def minL : Int → List Int → Int
  | a, [] => a
  | a, b :: r => minL (if b < a then b else a) r
/-- sorted: the rising list of the same items -/
def ins (i : Int) : List Int → List Int
  | [] => [i]
  | j :: r => if i ≤ j then i :: j :: r else j :: ins i r
def isort : List Int → List Int
  | [] => []
  | i :: r => ins i (isort r)

/-- a built-in of a list's content, told without the list -/
def wBtL (b : Bt) (xs : List Val) (S : Sto) (Q : KV) : Prop := match b with
  | .len => Q (.int xs.length) S
  | .all => withO (Val.bls xs) fun bs => Q (.bl (bs.all id)) S
  | .any => withO (Val.bls xs) fun bs => Q (.bl (bs.any id)) S
  | .tuple => Q (.tup xs) S
  | .sum => withO (Val.ints xs) fun ns => Q (.int ns.sum) S
  | .max1 => withO (Val.ints xs) fun ns => 0 < ns.length ∧ ∀ m, m ∈ ns → (∀ y, y ∈ ns → y ≤ m) → Q (.int m) S
  | .min1 => withO (Val.ints xs) fun ns => 0 < ns.length ∧ ∀ m, m ∈ ns → (∀ y, y ∈ ns → m ≤ y) → Q (.int m) S
  | .dict => withO (Val.prs xs) fun ps => (ps.map (·.1)).all (kindOk [] ·) = true ∧ (ps.all fun p => isTup p.1) = false ∧ (ps.all fun p => !isTup p.1) = true ∧ ∀ p t, S p = none → Q (.ref p) (up S p (.dct (ps.foldl (fun m q => dput m q.1 q.2) []) t))
  | .sorted => (∃ ns, Val.ints xs = some ns ∧ ∀ (p : Addr) (ms : List Int), ms.Perm ns → ms.Pairwise (· ≤ ·) → S p = none → Q (.ref p) (up S p (.lst (ms.map .int)))) ∨
      (∃ ss, Val.strs xs = some ss ∧ ss.length < 64 ∧ ∀ (p : Addr) (ms : List Str), ms.Perm ss → PyProof.Rows.sortedS ms = true → S p = none → Q (.ref p) (up S p (.lst (ms.map .str)))) ∨
      (∃ nss, Val.itups xs = some nss ∧ (∀ ns ∈ nss, 0 < ns.length) ∧ ∀ (p : Addr) (mss : List (List Int)), mss.Perm nss → mss.Pairwise (fun a b => HT.lexLt b a = false) → S p = none → Q (.ref p) (up S p (.lst (mss.map fun ns => .tup (ns.map .int)))))
  | .list => ∀ p, S p = none → Q (.ref p) (up S p (.lst xs))
  | _ => False

def wBt (b : Bt) (vs : List Val) (S : Sto) (Q : KV) : Prop := match b, vs with
  | .len, [.tup xs] => Q (.int xs.length) S
  | .len, [.lst xs] => Q (.int xs.length) S
  | .len, [.str x] => x.length ≤ line ∧ Q (.int x.length) S
  | .len, [.ref a] => match S a with
    | some (.lst xs) => Q (.int xs.length) S
    | some (.dct kvs _) => Q (.int kvs.length) S
    | _ => False
  | .list, [.tup xs] => ∀ p, S p = none → Q (.ref p) (up S p (.lst xs))
  | .list, [.ref a] => match S a with
    | some (.lst xs) => ∀ p, S p = none → Q (.ref p) (up S p (.lst xs))
    | _ => False
  | .tuple, [.tup xs] => Q (.tup xs) S
  | .int, [.int i] => Q (.int i) S
  | .int, [.bl b] => Q (.int (if b then 1 else 0)) S
  | .max2, [.int i, .int j] => Q (.int (if j > i then j else i)) S
  | .min2, [.int i, .int j] => Q (.int (if j < i then j else i)) S
  | .str, [.int i] => i.natAbs.log2 < 1920 ∧ Q (.str (toString i)) S
  | .dict, [.ref a] => match S a with
    | some (.lst xs) => wBtL .dict xs S Q
    | _ => False
  | b, [.ref a] => match S a with
    | some (.lst xs) => wBtL b xs S Q
    | _ => False
  | _, _ => False

def findI (p : Val → Bool) : List Val → Nat → Option Nat
  | [], _ => none
  | x :: xs, n => if p x then some n else findI p xs (n + 1)
def countV (x : Val) : List Val → Nat
  | [] => 0
  | y :: ys => (if y.veq x then 1 else 0) + countV x ys
def wMt (m : Mt) (x : Val) (vs : List Val) (S : Sto) (Q : KV) : Prop := match m, x, vs with
  | .append, .ref a, [v] => match S a with
    | some (.lst xs) => xs.length < line ∧ Q .non (up S a (.lst (xs ++ [v])))
    | _ => False
  | .extend, .ref a, [.ref b] => match S a, S b with
    | some (.lst xs), some (.lst ys) => a ≠ b ∧ xs.length + ys.length ≤ line ∧ Q .non (up S a (.lst (xs ++ ys)))
    | _, _ => False
  | .extend, .ref a, [.tup ys] => match S a with
    | some (.lst xs) => xs.length + ys.length ≤ line ∧ Q .non (up S a (.lst (xs ++ ys)))
    | _ => False
  | .pop, .ref a, [] => match S a with
    | some (.lst xs) => withO (xs[xs.length - 1]?) fun v => Q v (up S a (.lst xs.dropLast))
    | _ => False
  | .reverse, .ref a, [] => match S a with
    | some (.lst xs) => Q .non (up S a (.lst xs.reverse))
    | _ => False
  | .index, .ref a, [v] => match S a with
    | some (.lst xs) => (v.dat && Val.dats xs && decide (v.dep ≤ 60) && decide (Val.deps xs ≤ 60) && v.py.canLay0 && PyData.canLayAll0 (Val.pys xs)) = true ∧ withO (findI (·.veq v) xs 0) fun j => Q (.int j) S
    | _ => False
  | .count, .ref a, [v] => match S a with
    | some (.lst xs) => (v.dat && Val.dats xs && decide (v.dep ≤ 60)) = true ∧ Q (.int (countV v xs)) S
    | _ => False
  | .setdefault, .ref a, [k, v] => match S a with
    | some (.dct kvs _) => kindOk kvs k = true ∧ kvs.length < line ∧ match dget kvs k with
      | some w => ∀ t, Q w (up S a (.dct kvs t))
      | none => ∀ t, Q v (up S a (.dct (dput kvs k v) t))
    | _ => False
  | .get, .ref a, [k, v] => match S a with
    | some (.dct kvs _) => kindOk kvs k = true ∧ Q ((dget kvs k).getD v) S
    | _ => False
  | _, _, _ => False

/-- whose method it is -/
def recv (m : Mt) (x : Val) (S : Sto) : Bool := match m, x with
  | .setdefault, .ref p => match S p with
    | some (.dct _ _) => true
    | _ => false
  | .get, .ref p => match S p with
    | some (.dct _ _) => true
    | _ => false
  | .split, _ => false
  | .find, _ => false
  | _, .ref p => match S p with
    | some (.lst _) => true
    | _ => false
  | _, _ => false

def wSetI (x i v : Val) (S : Sto) (Q : Sto → Prop) : Prop := match x with
  | .ref a => match S a, i with
    | some (.lst xs), .int k => withO (L2.ixN xs.length k) fun j => Q (up S a (.lst (xs.set j v)))
    | some (.dct kvs _), k => kindOk kvs k = true ∧ kvs.length < line ∧ ∀ t, Q (up S a (.dct (dput kvs k v) t))
    | _, _ => False
  | _ => False

def fput (f : Str) (v : Val) : List (Str × Val) → List (Str × Val)
  | [] => [(f, v)]
  | (g, w) :: r => if g = f then (f, v) :: r else (g, w) :: fput f v r

/-- what a def asks: its arguments, the store, what is wanted behind, what is wanted of a refusal (by its class's number) -/
abbrev Spec := List Val → Sto → KV → (Nat → Sto → Prop) → Prop
structure Cfg where
  fn : Nat → Option Spec
  mt : Nat → Str → Option Spec
  cv : Str → Option Val
  fl : Nat → Str → Bool
  /-- a class of exceptions is below another -/
  sub : Nat → Nat → Bool
  /-- the own classes of exceptions that are there -/
  ek : Nat → Bool
/-- nothing is raised -/
def noE : Nat → Sto → Prop := fun _ _ => False

def wipeE (e : Env) : List Nat → Env
  | [] => e
  | i :: r => (wipeE e r).set i none
def bindMany (e : Env) : List Nat → List Val → Option Env
  | [], [] => some e
  | i :: r, v :: vs => bindMany (e.set i (some v)) r vs
  | _, _ => none
def bindT (tg : Tg) (e : Env) (v : Val) : Option Env := match tg, v with
  | .one i, v => some (e.set i (some v))
  | .many is, .tup vs => bindMany e is vs
  | .many _, _ => none

/-- the turns of a comprehension: acc what is made so far; grd: what is walked stands -/
def wTurns (body : Val → Sto → (Option Val → Sto → Prop) → Prop) (grd : Sto → Prop) (Q : List Val → Sto → Prop) : List Val → List Val → Sto → Prop
  | [], acc, S => grd S ∧ Q acc S
  | x :: xs, acc, S => grd S ∧ body x S fun r S' => wTurns body grd Q xs (acc ++ r.toList) S'

def enumL : Nat → List Val → List Val
  | _, [] => []
  | n, x :: xs => .tup [.int n, x] :: enumL (n + 1) xs
def zipL : List Val → List Val → List Val
  | x :: xs, y :: ys => .tup [x, y] :: zipL xs ys
  | _, _ => []
def rangeL (lo : Int) (n : Nat) (st : Int) : List Val := (List.range n).map fun (k : Nat) => Val.int (lo + (k : Int) * st)
/-- what a sequence holds, and that it stands -/
def seqOf (v : Val) (S : Sto) : Option (List Val × (Sto → Prop)) := match v with
  | .tup xs => some (xs, fun _ => True)
  | .ref a => match S a with
    | some (.lst xs) => some (xs, fun S' => S' a = some (.lst xs))
    | _ => none
  | _ => none
/-- keys are walked where they are whole numbers and texts, or tuples -/
def keysOk : List (Val × Val) → Bool
  | [] => true
  | (a, _) :: _ => kcl a != 1
def iterOf (v : Val) (S : Sto) : Option (List Val × (Sto → Prop)) := match v with
  | .tup xs => some (xs, fun _ => True)
  | .str z => if z.cps.size ≤ line then some (z.cps.toList.map fun c => .str ⟨#[c]⟩, fun _ => True) else none
  | .ref a => match S a with
    | some (.lst xs) => some (xs, fun S' => S' a = some (.lst xs))
    | some (.dct kvs t) => if keysOk kvs then some (kvs.map (·.1), fun S' => S' a = some (.dct kvs t)) else none
    | _ => none
  | _ => none
def listOf (v : Val) (S : Sto) : Option (List Val × (Sto → Prop)) := match v with
  | .ref a => match S a with
    | some (.lst xs) => some (xs, fun S' => S' a = some (.lst xs))
    | _ => none
  | .tup xs => some (xs, fun _ => True)
  | .str z => if z.cps.size ≤ line then some (z.cps.toList.map fun c => .str ⟨#[c]⟩, fun _ => True) else none
  | _ => none
def zipOf (x y : Val) (S : Sto) : Option (List Val × (Sto → Prop)) := match x, y with
  | .tup xs, .tup ys => some (zipL xs ys, fun _ => True)
  | .ref a, .ref b => match S a, S b with
    | some (.lst xs), some (.lst ys) => some (zipL xs ys, fun S' => S' a = some (.lst xs) ∧ S' b = some (.lst ys))
    | _, _ => none
  | _, _ => none
def wRng (vs : List Val) (K : Int → Nat → Int → Prop) : Prop := match vs with
  | [.int n] => n < 2 ^ 24 ∧ -(2 ^ 24) < n ∧ K 0 n.toNat 1
  | [.int a, .int b] => (-(2 ^ 23) < a ∧ a < 2 ^ 23 ∧ -(2 ^ 23) < b ∧ b < 2 ^ 23) ∧ K a (b - a).toNat 1
  | [.int a, .int b, .int c] => c = -1 ∧ (-(2 ^ 23) < a ∧ a < 2 ^ 23 ∧ -(2 ^ 23) < b ∧ b < 2 ^ 23) ∧ K a (a - b).toNat (-1)
  | _ => False

mutual
def wE (G : Cfg) (E : Nat → Sto → Prop) : Ex → Env → Sto → KV → Prop
  | .var i, e, S, Q => withO (getV e i) fun v => Q v S
  | .glob x, e, S, Q => withO (G.cv x) fun v => Q v S
  | .int i, e, S, Q => Q (.int i) S
  | .bl b, e, S, Q => Q (.bl b) S
  | .non, e, S, Q => Q .non S
  | .str x, e, S, Q => Q (.str x) S
  | .bin o a b, e, S, Q => wE G E a e S fun x S1 => wE G E b e S1 fun y S2 => wBin o x y S2 Q
  | .neg a, e, S, Q => wE G E a e S fun x S1 => match x with
    | .int i => Q (.int (-i)) S1
    | _ => False
  | .not a, e, S, Q => wE G E a e S fun x S1 => withB x fun b => Q (.bl (!b)) S1
  | .cmp o a b, e, S, Q => wE G E a e S fun x S1 => wE G E b e S1 fun y S2 => wCmp o x y S2 Q
  | .isN a, e, S, Q => wE G E a e S fun x S1 => match x with
    | .non => Q (.bl true) S1
    | _ => Q (.bl false) S1
  | .notN a, e, S, Q => wE G E a e S fun x S1 => match x with
    | .non => Q (.bl false) S1
    | _ => Q (.bl true) S1
  | .chain o p a b c, e, S, Q => wE G E a e S fun x S1 => wE G E b e S1 fun y S2 => wCmp o x y S2 fun z S3 => withB z fun k =>
      (k = true → wE G E c e S3 fun u S4 => wCmp p y u S4 Q) ∧ (k = false → Q (.bl false) S3)
  | .and a b, e, S, Q => wE G E a e S fun x S1 => withB x fun k => (k = true → wE G E b e S1 Q) ∧ (k = false → Q (.bl false) S1)
  | .or a b, e, S, Q => wE G E a e S fun x S1 => withB x fun k => (k = true → Q (.bl true) S1) ∧ (k = false → wE G E b e S1 Q)
  | .tup es, e, S, Q => wEs G E es e S fun vs S1 => Q (.tup vs) S1
  | .lst es, e, S, Q => wEs G E es e S fun vs S1 => ∀ p, S1 p = none → Q (.ref p) (up S1 p (.lst vs))
  | .dict0, e, S, Q => ∀ p t, S p = none → Q (.ref p) (up S p (.dct [] t))
  | .dict1 k v, e, S, Q => wE G E k e S fun x S1 => wE G E v e S1 fun y S2 => kindOk [] x = true ∧ ∀ p t, S2 p = none → Q (.ref p) (up S2 p (.dct [(x, y)] t))
  | .sub a i, e, S, Q => wE G E a e S fun x S1 => wE G E i e S1 fun y S2 => wSub x y S2 Q
  | .slice a lo hi, e, S, Q => wE G E a e S fun x S1 => wO G E lo e S1 fun l S2 => wO G E hi e S2 fun h S3 => wSlice x l h S3 Q
  | .fld a f, e, S, Q => wE G E a e S fun x S1 => match x with
    | .ref p => match S1 p with
      | some (.ins _ fs) => withO (fs.lookup f) fun v => Q v S1
      | _ => False
    | _ => False
  | .call f es, e, S, Q => wEs G E es e S fun vs S1 => withO (G.fn f) fun sp => sp vs S1 Q E
  | .new c es, e, S, Q => wEs G E es e S fun vs S1 => withO (G.mt c "__init__") fun sp => ∀ p, S1 p = none → sp (.ref p :: vs) (up S1 p (.ins c [])) (fun v S2 => (match v with | .non => Q (.ref p) S2 | _ => False)) noE
  | .blt b es, e, S, Q => wEs G E es e S fun vs S1 => wBt b vs S1 Q
  | .bltc b c, e, S, Q => wC G E c e S fun vs S1 => wBtL b vs S1 Q
  | .isi a t, e, S, Q => wE G E a e S fun x S1 => tyKnown x S1 = true ∧ Q (.bl (tyOf t x S1)) S1
  | .meth a m es, e, S, Q => wE G E a e S fun x S1 => recv m x S1 = true ∧ wEs G E es e S1 fun vs S2 => wMt m x vs S2 Q
  | .umeth a m es, e, S, Q => wE G E a e S fun x S1 => match x with
    | .ref p => match S1 p with
      | some (.ins c fs) => fs.lookup m = none ∧ withO (G.mt c m) fun sp => wEs G E es e S1 fun vs S2 => sp (.ref p :: vs) S2 Q noE
      | _ => False
    | _ => False
  | .comp c, e, S, Q => wC G E c e S fun vs S1 => ∀ p, S1 p = none → Q (.ref p) (up S1 p (.lst vs))
  | .lzip a b, e, S, Q => wE G E a e S fun x S1 => wE G E b e S1 fun y S2 => withO (seqOf x S2) fun xs => withO (seqOf y S2) fun ys =>
      ∀ p, S2 p = none → Q (.ref p) (up S2 p (.lst (zipL xs.1 ys.1)))
  | .lrng es, e, S, Q => wEs G E es e S fun vs S1 => wRng vs fun lo n st => st = 1 ∧ ∀ p, S1 p = none → Q (.ref p) (up S1 p (.lst (rangeL lo n 1)))
  | .trng es, e, S, Q => wEs G E es e S fun vs S1 => wRng vs fun lo n st => st = 1 ∧ Q (.tup (rangeL lo n 1)) S1
  | .drop a, e, S, Q => wE G E a e S fun v S' => Q v (keep S S' v)
def wEs (G : Cfg) (E : Nat → Sto → Prop) : Exs → Env → Sto → (List Val → Sto → Prop) → Prop
  | .nil, e, S, Q => Q [] S
  | .cons a r, e, S, Q => wE G E a e S fun x S1 => wEs G E r e S1 fun xs S2 => Q (x :: xs) S2
def wO (G : Cfg) (E : Nat → Sto → Prop) : Oe → Env → Sto → (Option Int → Sto → Prop) → Prop
  | .none, e, S, Q => Q none S
  | .some a, e, S, Q => wE G E a e S fun x S1 => match x with
    | .int i => Q (some i) S1
    | _ => False
/-- what is walked: its items, and that it stands -/
def wI (G : Cfg) (E : Nat → Sto → Prop) : Itr → Env → Sto → (List Val → (Sto → Prop) → Sto → Prop) → Prop
  | .val a, e, S, Q => wE G E a e S fun x S1 => withO (iterOf x S1) fun p => Q p.1 p.2 S1
  | .rng es, e, S, Q => wEs G E es e S fun vs S1 => wRng vs fun lo n st => Q (rangeL lo n st) (fun _ => True) S1
  | .enum a, e, S, Q => wE G E a e S fun x S1 => withO (listOf x S1) fun p => Q (enumL 0 p.1) p.2 S1
  | .zip a b, e, S, Q => wE G E a e S fun x S1 => wE G E b e S1 fun y S2 => withO (zipOf x y S2) fun p => Q p.1 p.2 S2
def wC (G : Cfg) (E : Nat → Sto → Prop) : Cmp → Env → Sto → (List Val → Sto → Prop) → Prop
  | .mk tg own elt it cond, e, S, Q => wI G E it e S fun xs grd S1 =>
      wTurns (fun x S2 k => withO (bindT tg (wipeE e own) x) fun e' => wIf G cond e' S2 fun b S3 => (b = true → wE G noE elt e' S3 fun v S4 => k (some v) S4) ∧ (b = false → k none S3)) grd Q xs [] S1
def wIf (G : Cfg) : Oe → Env → Sto → (Bool → Sto → Prop) → Prop
  | .none, e, S, Q => Q true S
  | .some a, e, S, Q => wE G noE a e S fun x S1 => withB x fun b => Q b S1
end

/-- the turns of a for -/
def wFor (tg : Tg) (body : (Env → Sto → Prop) → Env → Sto → Prop) (grd : Sto → Prop) (nx : Env → Sto → Prop) : List Val → Env → Sto → Prop
  | [], e, S => grd S ∧ nx e S
  | x :: xs, e, S => grd S ∧ withO (bindT tg e x) fun e' => body (fun e2 S2 => wFor tg body grd nx xs e2 S2) e' S

/-- a clause's suite -/
def wH (G : Cfg) (E : Nat → Sto → Prop) (rt : KV) : Hd → Nat → Sto → Prop
  | .conj cs, x, S => rt (.bl (cs.all fun p => G.sub x p.1 == p.2)) S
  | .text z cs, x, S => rt (.str (if (cs.all fun p => G.sub x p.1 == p.2) = true then z else "")) S
  | .bl b, _, S => rt (.bl b) S
  | .non, _, S => rt .non S
  | .str z, _, S => rt (.str z) S
  | .raise c, _, S => E c S
mutual
def wS (G : Cfg) (E : Nat → Sto → Prop) (rt : KV) : Sm → (Env → Sto → Prop) → Env → Sto → Prop
  | .asg i a, nx, e, S => wE G E a e S fun v S1 => nx (e.set i (some v)) S1
  | .asgs is a, nx, e, S => wE G E a e S fun v S1 => withO (bindT (.many is) e v) fun e' => nx e' S1
  | .par i j a b, nx, e, S => wE G E a e S fun v S1 => wE G E b e S1 fun w S2 => nx ((e.set i (some v)).set j (some w)) S2
  | .setI a i c, nx, e, S => wE G E c e S fun v S1 => wE G E a e S1 fun x S2 => wE G E i e S2 fun y S3 => wSetI x y v S3 fun S4 => nx e S4
  | .setF a f c, nx, e, S => wE G E c e S fun v S1 => wE G E a e S1 fun x S2 => match x with
    | .ref p => match S2 p with
      | some (.ins c fs) => G.fl c f = true ∧ fs.length < 900 ∧ nx e (up S2 p (.ins c (fput f v fs)))
      | _ => False
    | _ => False
  | .expr a, nx, e, S => wE G E a e S fun _ S1 => nx e S1
  | .ret a, nx, e, S => wE G E a e S fun v S1 => rt v S1
  | .ret0, nx, e, S => rt .non S
  | .pass, nx, e, S => nx e S
  | .ite c a b, nx, e, S => wE G E c e S fun x S1 => withB x fun k => (k = true → wSs G E rt a nx e S1) ∧ (k = false → wSs G E rt b nx e S1)
  | .while c b, nx, e, S => ∃ W : Nat → Env → Sto → Prop, (∃ m, W m e S) ∧ ∀ m e S, W m e S → wE G E c e S fun x S1 => withB x fun k =>
      (k = true → wSs G E rt b (fun e' S' => ∃ m', m' < m ∧ W m' e' S') e S1) ∧ (k = false → nx e S1)
  | .for tg it b, nx, e, S => wI G E it e S fun xs grd S1 => wFor tg (fun k e' S' => wSs G E rt b k e' S') grd nx xs e S1
  | .raise c _, nx, e, S => E c S
  | .try1 b c _ h, nx, e, S => wSs G (fun x S' => G.ek x = true ∧ (G.sub x c = true → wH G E rt h x S') ∧ (G.sub x c = false → E x S')) rt b nx e S
def wSs (G : Cfg) (E : Nat → Sto → Prop) (rt : KV) : Sms → (Env → Sto → Prop) → Env → Sto → Prop
  | .nil, nx, e, S => nx e S
  | .cons s r, nx, e, S => wS G E rt s (fun e' S' => wSs G E rt r nx e' S') e S
end
end DL

set_option autoImplicit true
set_option Elab.async false
set_option linter.all false
set_option maxRecDepth 100000
set_option maxHeartbeats 1000000
/-! Own layer, part 2: how a value lies in the abstract heap. -/
namespace DL
open PySem PySem.Spec PyProof.Rows L2

/-- where classes stand -/
structure Lay where
  P : Program
  w : World
  K : PySem.W.Frag
  ca : Nat → Addr
  ex : Nat → Addr

/-- a list that nobody changes -/
def FzL (K : PySem.W.Frag) (H : Hp) (a : Addr) (xs : List V) : Prop := (∃ ob, H a = some (.frz ob (.lst xs))) ∨
  ∃ (o : Obj) (its : Array Value) (n : Nat), K.lookup a = some o ∧ o.cls = .type "list" ∧ o.dict = none ∧ o.data = .seq its n ∧ its.size ≤ sizeLine ∧ Vals xs its.toList
theorem FzL.sq {K : PySem.W.Frag} {H : Hp} {a : Addr} {xs : List V} (h : FzL K H a xs) : SqL K H a xs := by
  rcases h with h | h
  · exact .inl (.inr h)
  · exact .inr h
mutual
def RV (K : PySem.W.Frag) (H : Hp) : Val → V → Prop
  | .non, u => u = .non
  | .bl b, u => u = .bl b
  | .int i, u => u = .int i
  | .str x, u => u = .str x
  | .tup xs, u => ∃ a vs, u = .ref a ∧ SqT K H a vs ∧ RVs K H xs vs
  | .ref a, u => u = .ref a
  | .lst xs, u => ∃ a vs, u = .ref a ∧ FzL K H a vs ∧ RVs K H xs vs
def RVs (K : PySem.W.Frag) (H : Hp) : List Val → List V → Prop
  | [], us => us = []
  | x :: xs, us => ∃ u r, us = u :: r ∧ RV K H x u ∧ RVs K H xs r
end
theorem RVs.length {K : PySem.W.Frag} {H : Hp} : ∀ {xs : List Val} {us : List V}, RVs K H xs us → xs.length = us.length
  | [], us, h => by
    have e : us = [] := h
    subst e
    rfl
  | x :: xs, us, h => by
    obtain ⟨u, r, rfl, _, h2⟩ := h
    simp [RVs.length h2]

/-- the tuples stay -/
def Tp (K : PySem.W.Frag) (H H' : Hp) : Prop := (∀ a xs, SqT K H a xs → SqT K H' a xs) ∧ ∀ a xs, FzL K H a xs → FzL K H' a xs
mutual
theorem RV.mono {K : PySem.W.Frag} {H H' : Hp} (t : Tp K H H') : ∀ (x : Val) (u : V), RV K H x u → RV K H' x u
  | .non, _, h => h
  | .bl _, _, h => h
  | .int _, _, h => h
  | .str _, _, h => h
  | .tup xs, _, h => by
    obtain ⟨a, vs, e, hq, hr⟩ := h
    exact ⟨a, vs, e, t.1 _ _ hq, RVs.mono t xs vs hr⟩
  | .ref _, _, h => h
  | .lst xs, _, h => by
    obtain ⟨a, vs, e, hq, hr⟩ := h
    exact ⟨a, vs, e, t.2 _ _ hq, RVs.mono t xs vs hr⟩
theorem RVs.mono {K : PySem.W.Frag} {H H' : Hp} (t : Tp K H H') : ∀ (xs : List Val) (us : List V), RVs K H xs us → RVs K H' xs us
  | [], _, h => h
  | x :: xs, _, h => by
    obtain ⟨u, r, e, h1, h2⟩ := h
    exact ⟨u, r, e, RV.mono t x u h1, RVs.mono t xs r h2⟩
end
theorem RVs.append {K : PySem.W.Frag} {H : Hp} : ∀ {xs ys : List Val} {us ws : List V}, RVs K H xs us → RVs K H ys ws → RVs K H (xs ++ ys) (us ++ ws)
  | [], ys, us, ws, h, h' => by
    have e : us = [] := h
    subst e
    exact h'
  | x :: xs, ys, us, ws, h, h' => by
    obtain ⟨u, r, rfl, h1, h2⟩ := h
    exact ⟨u, r ++ ws, rfl, h1, RVs.append h2 h'⟩
theorem RVs.get {K : PySem.W.Frag} {H : Hp} : ∀ {xs : List Val} {us : List V} {i : Nat} {x : Val}, RVs K H xs us → xs[i]? = some x → ∃ u, us[i]? = some u ∧ RV K H x u
  | [], _, _, _, _, e => by simp at e
  | y :: xs, us, 0, x, h, e => by
    obtain ⟨u, r, rfl, h1, h2⟩ := h
    simp at e
    subst e
    exact ⟨u, rfl, h1⟩
  | y :: xs, us, i + 1, x, h, e => by
    obtain ⟨u, r, rfl, h1, h2⟩ := h
    obtain ⟨v, e1, e2⟩ := RVs.get (i := i) (x := x) h2 (by simpa using e)
    exact ⟨v, by simpa using e1, e2⟩
theorem RVs.getr {K : PySem.W.Frag} {H : Hp} : ∀ {xs : List Val} {us : List V} {i : Nat} {u : V}, RVs K H xs us → us[i]? = some u → ∃ x, xs[i]? = some x ∧ RV K H x u
  | [], us, _, _, h, e => by
    have e' : us = [] := h
    subst e'
    simp at e
  | y :: xs, us, 0, v, h, e => by
    obtain ⟨u, r, rfl, h1, h2⟩ := h
    simp at e
    subst e
    exact ⟨y, rfl, h1⟩
  | y :: xs, us, i + 1, v, h, e => by
    obtain ⟨u, r, rfl, h1, h2⟩ := h
    obtain ⟨x, e1, e2⟩ := RVs.getr (i := i) (u := v) h2 (by simpa using e)
    exact ⟨x, by simpa using e1, e2⟩
theorem RVs.take {K : PySem.W.Frag} {H : Hp} : ∀ {xs : List Val} {us : List V} (n : Nat), RVs K H xs us → RVs K H (xs.take n) (us.take n)
  | _, _, 0, _ => by simp [RVs]
  | [], us, n + 1, h => by
    have e' : us = [] := h
    subst e'
    simp [RVs]
  | y :: xs, us, n + 1, h => by
    obtain ⟨u, r, rfl, h1, h2⟩ := h
    exact ⟨u, r.take n, rfl, h1, RVs.take n h2⟩
theorem RVs.drop {K : PySem.W.Frag} {H : Hp} : ∀ {xs : List Val} {us : List V} (n : Nat), RVs K H xs us → RVs K H (xs.drop n) (us.drop n)
  | _, _, 0, h => by simpa using h
  | [], us, n + 1, h => by
    have e' : us = [] := h
    subst e'
    simp [RVs]
  | y :: xs, us, n + 1, h => by
    obtain ⟨u, r, rfl, h1, h2⟩ := h
    simpa using RVs.drop n h2
theorem RVs.set {K : PySem.W.Frag} {H : Hp} {x : Val} {u : V} (r : RV K H x u) : ∀ {xs : List Val} {us : List V} (i : Nat), RVs K H xs us → RVs K H (xs.set i x) (us.set i u)
  | [], us, i, h => by
    have e' : us = [] := h
    subst e'
    simp [RVs]
  | y :: xs, us, 0, h => by
    obtain ⟨v, w, rfl, h1, h2⟩ := h
    exact ⟨u, w, rfl, r, h2⟩
  | y :: xs, us, i + 1, h => by
    obtain ⟨v, w, rfl, h1, h2⟩ := h
    exact ⟨v, w.set i u, rfl, h1, RVs.set r i h2⟩
theorem RVs.reverse {K : PySem.W.Frag} {H : Hp} : ∀ {xs : List Val} {us : List V}, RVs K H xs us → RVs K H xs.reverse us.reverse
  | [], us, h => by
    have e' : us = [] := h
    subst e'
    simp [RVs]
  | y :: xs, us, h => by
    obtain ⟨u, r, rfl, h1, h2⟩ := h
    simp only [List.reverse_cons]
    exact RVs.append (RVs.reverse h2) ⟨u, [], rfl, h1, rfl⟩
theorem RVs.dropLast {K : PySem.W.Frag} {H : Hp} {xs : List Val} {us : List V} (h : RVs K H xs us) : RVs K H xs.dropLast us.dropLast := by
  rw [List.dropLast_eq_take, List.dropLast_eq_take, h.length]
  exact h.take _
theorem RVs.rep {K : PySem.W.Frag} {H : Hp} {xs : List Val} {us : List V} (h : RVs K H xs us) : ∀ n : Nat, RVs K H (List.replicate n xs).flatten (List.replicate n us).flatten
  | 0 => rfl
  | n + 1 => by
    rw [List.replicate_succ, List.replicate_succ, List.flatten_cons, List.flatten_cons]
    exact RVs.append h (RVs.rep h n)
theorem RVs.one {K : PySem.W.Frag} {H : Hp} {x : Val} {us : List V} (h : RVs K H [x] us) : ∃ u, us = [u] ∧ RV K H x u := by
  obtain ⟨u, r, rfl, h1, h2⟩ := h
  have e : r = [] := h2
  subst e
  exact ⟨u, rfl, h1⟩
theorem RVs.two {K : PySem.W.Frag} {H : Hp} {x y : Val} {us : List V} (h : RVs K H [x, y] us) : ∃ u v, us = [u, v] ∧ RV K H x u ∧ RV K H y v := by
  obtain ⟨u, r, rfl, h1, h2⟩ := h
  obtain ⟨v, rfl, h3⟩ := RVs.one h2
  exact ⟨u, v, rfl, h1, h3⟩
theorem RVs.of1 {K : PySem.W.Frag} {H : Hp} {x : Val} {u : V} (h : RV K H x u) : RVs K H [x] [u] := ⟨u, [], rfl, h, rfl⟩

/-! ### kinds of sequences -/
theorem ints_rv {K : PySem.W.Frag} {H : Hp} : ∀ {xs : List Val} {us : List V} {ns : List Int}, Val.ints xs = some ns → RVs K H xs us → us = ns.map V.int
  | [], us, ns, e, h => by
    simp [Val.ints] at e
    subst e
    exact h
  | .int i :: xs, us, ns, e, h => by
    obtain ⟨u, r, rfl, h1, h2⟩ := h
    cases q : Val.ints xs with
    | none => rw [Val.ints, q] at e; cases e
    | some ms =>
      rw [Val.ints, q] at e
      have e' : i :: ms = ns := Option.some.inj e
      subst e'
      have h1' : u = .int i := h1
      rw [h1', ints_rv q h2]
      rfl
  | .non :: _, _, _, e, _ => by cases e
  | .bl _ :: _, _, _, e, _ => by cases e
  | .str _ :: _, _, _, e, _ => by cases e
  | .tup _ :: _, _, _, e, _ => by cases e
  | .ref _ :: _, _, _, e, _ => by cases e
  | .lst _ :: _, _, _, e, _ => by cases e
theorem bls_rv {K : PySem.W.Frag} {H : Hp} : ∀ {xs : List Val} {us : List V} {ns : List Bool}, Val.bls xs = some ns → RVs K H xs us → us = ns.map V.bl
  | [], us, ns, e, h => by
    simp [Val.bls] at e
    subst e
    exact h
  | .bl i :: xs, us, ns, e, h => by
    obtain ⟨u, r, rfl, h1, h2⟩ := h
    cases q : Val.bls xs with
    | none => rw [Val.bls, q] at e; cases e
    | some ms =>
      rw [Val.bls, q] at e
      have e' : i :: ms = ns := Option.some.inj e
      subst e'
      have h1' : u = .bl i := h1
      rw [h1', bls_rv q h2]
      rfl
  | .non :: _, _, _, e, _ => by cases e
  | .int _ :: _, _, _, e, _ => by cases e
  | .str _ :: _, _, _, e, _ => by cases e
  | .tup _ :: _, _, _, e, _ => by cases e
  | .ref _ :: _, _, _, e, _ => by cases e
  | .lst _ :: _, _, _, e, _ => by cases e
theorem strs_rv {K : PySem.W.Frag} {H : Hp} : ∀ {xs : List Val} {us : List V} {ns : List Str}, Val.strs xs = some ns → RVs K H xs us → us = ns.map V.str
  | [], us, ns, e, h => by
    simp [Val.strs] at e
    subst e
    exact h
  | .str i :: xs, us, ns, e, h => by
    obtain ⟨u, r, rfl, h1, h2⟩ := h
    cases q : Val.strs xs with
    | none => rw [Val.strs, q] at e; cases e
    | some ms =>
      rw [Val.strs, q] at e
      have e' : i :: ms = ns := Option.some.inj e
      subst e'
      have h1' : u = .str i := h1
      rw [h1', strs_rv q h2]
      rfl
  | .non :: _, _, _, e, _ => by cases e
  | .int _ :: _, _, _, e, _ => by cases e
  | .bl _ :: _, _, _, e, _ => by cases e
  | .tup _ :: _, _, _, e, _ => by cases e
  | .ref _ :: _, _, _, e, _ => by cases e
  | .lst _ :: _, _, _, e, _ => by cases e
theorem rv_ints {K : PySem.W.Frag} {H : Hp} : ∀ (ns : List Int), RVs K H (ns.map Val.int) (ns.map V.int)
  | [] => rfl
  | n :: ns => ⟨_, _, rfl, rfl, rv_ints ns⟩
theorem rv_strs {K : PySem.W.Frag} {H : Hp} : ∀ (ns : List Str), RVs K H (ns.map Val.str) (ns.map V.str)
  | [] => rfl
  | n :: ns => ⟨_, _, rfl, rfl, rv_strs ns⟩

/-! ### the store -/
def leafOf : Val → Option Leaf
  | .non => some .none
  | .bl b => some (.num (if b then 1 else 0))
  | _ => none
def keyOf : Val → Option Key
  | .int i => some (.inl i)
  | .str x => some (.inr x)
  | _ => none
/-- how keys that are no tuples are told -/
structure KEnc (P : Program) (w : World) where
  κ : Type
  dec : DecidableEq κ
  knd : KeyKind P w κ
  enc : Val → Option κ
  key : κ → NestedKey
  nk : ∀ {v l}, enc v = some l → v.nk = key l
  inj : ∀ {a b}, key a = key b → a = b
  is : ∀ {K : PySem.W.Frag} {H : Hp} {v l u z}, enc v = some l → RV K H v u → RelV u z → knd.is l z = true
  /-- the value of a key, from its kind -/
  cl : Nat
  ecl : ∀ {v l}, enc v = some l → kcl v = cl
  some : ∀ {v}, kcl v = cl → v.dat = true → ∃ l, enc v = some l
instance {P : Program} {w : World} (B : KEnc P w) : DecidableEq B.κ := B.dec
/-- a dict whose keys are no tuples -/
structure LeafD (L : Lay) (B : KEnc L.P L.w) (H : Hp) (kvs : List (Val × Val)) (es : Array DictEntry) (lvs : List (B.κ × Value)) : Prop where
  keys : KeysOf B.knd es
  prs : Pairs B.knd es.toList lvs
  nd : (lvs.map (·.1)).Nodup
  rep : Paired (fun (p : Val × Val) (q : B.κ × Value) => B.enc p.1 = some q.1 ∧ ∃ u, RV L.K H p.2 u ∧ RelV u q.2) kvs lvs
/-- a dict of tuples -/
structure TupD (L : Lay) (H : Hp) (kvs : List (Val × Val)) (es : Array DictEntry) (xs : List (NestedKey × Addr × Value)) : Prop where
  ents : es.toList = xs.map (entryOfKey (nestedKind L.P L.w))
  nd : (xs.map (·.1)).Nodup
  rep : Paired (fun (p : Val × Val) (q : NestedKey × Addr × Value) => isTup p.1 = true ∧ p.1.dat = true ∧ q.1 = p.1.nk ∧ p.1.nk.depth ≤ 8 ∧ RV L.K H p.1 (.ref q.2.1) ∧ ∃ u, RV L.K H p.2 u ∧ RelV u q.2.2) kvs xs
theorem leaf_key : ∀ {v : Val} {l : Leaf}, leafOf v = some l → v.nk = l.key
  | .non, _, h => by cases h; rfl
  | .bl b, _, h => by cases h; rfl
  | .int _, _, h => by cases h
  | .str _, _, h => by cases h
  | .tup _, _, h => by cases h
  | .ref _, _, h => by cases h
  | .lst _, _, h => by cases h
theorem leaf_is {P : Program} {w : World} {K : PySem.W.Frag} {H : Hp} : ∀ {v : Val} {l : Leaf} {u : V} {z : Value}, leafOf v = some l → RV K H v u → RelV u z → (leafKind P w).is l z = true
  | .non, _, u, z, h, r, q => by
    cases h
    have e : u = .non := r
    subst e
    have e : z = Value.none := q
    subst e
    rfl
  | .bl b, _, u, z, h, r, q => by
    cases h
    have e : u = .bl b := r
    subst e
    have e : z = Value.bool b := q
    subst e
    cases b <;> rfl
  | .int i, _, _, _, h, _, _ => by cases h
  | .str x, _, _, _, h, _, _ => by cases h
  | .tup _, _, _, _, h, _, _ => by cases h
  | .ref _, _, _, _, h, _, _ => by cases h
  | .lst _, _, _, _, h, _, _ => by cases h
def leafE (P : Program) (w : World) : KEnc P w where
  κ := Leaf
  dec := inferInstance
  knd := leafKind P w
  enc := leafOf
  key := Leaf.key
  nk := leaf_key
  inj := Leaf.key_inj
  is := leaf_is
  cl := 1
  ecl := fun {v l} h => by cases v <;> first | rfl | cases h
  some := fun {v} h d => by cases v <;> first | exact ⟨_, rfl⟩ | (cases d; done) | (cases h; done)
def keyN : Key → NestedKey
  | .inl i => .num i
  | .inr x => .text x
def mixE (P : Program) (w : World) : KEnc P w where
  κ := Key
  dec := inferInstance
  knd := mixKind P w
  enc := keyOf
  key := keyN
  nk := fun {v l} h => by cases v <;> first | (cases h; rfl) | cases h
  inj := fun {a b} h => by
    cases a <;> cases b <;> first | (injection h with h; rw [h]) | cases h
  is := fun {K H v l u z} h r q => by
    cases v <;> first | cases h | skip
    · have e : u = .int _ := r
      subst e
      obtain ⟨t, rfl⟩ := q
      exact keyIs_int _ t
    · have e : u = .str _ := r
      subst e
      obtain ⟨t, rfl⟩ := q
      exact keyIs_str _ t
  cl := 0
  ecl := fun {v l} h => by cases v <;> first | rfl | cases h
  some := fun {v} h d => by cases v <;> first | exact ⟨_, rfl⟩ | (cases d; done) | (cases h; done)
/-- the two of them -/
def encOf (P : Program) (w : World) : Bool → KEnc P w
  | true => mixE P w
  | false => leafE P w
def dctO (a : Addr) (es : Array DictEntry) (t : Nat) : HO := .ext fun h => h.DictRaw a es t
def RD (L : Lay) (H : Hp) (a : Addr) (kvs : List (Val × Val)) (t : Nat) : Prop :=
  ∃ es, H a = some (dctO a es t) ∧ (a == sysModules) = false ∧ kvs.length ≤ sizeLine ∧ es.size = kvs.length ∧ ((∃ b lvs, LeafD L (encOf L.P L.w b) H kvs es lvs) ∨ ∃ xs, TupD L H kvs es xs)
def RO (L : Lay) (H : Hp) (a : Addr) : Ob → Prop
  | .lst xs => ∃ vs, H a = some (.lst vs) ∧ RVs L.K H xs vs
  | .dct kvs t => RD L H a kvs t
  | .ins c fs => ∃ dx gs, H a = some (.ins (L.ca c) dx gs) ∧ Cls L.K (L.ca c) ∧ Paired (fun (p : Str × Val) (q : Str × V) => p.1 = q.1 ∧ NoAttr L.K (L.ca c) p.1 ∧ RV L.K H p.2 q.2) fs gs
def RS (L : Lay) (H : Hp) (S : Sto) : Prop := ∀ a o, S a = some o → RO L H a o

theorem Paired.imp {α β : Type} {F G : α → β → Prop} : ∀ {l₁ : List α} {l₂ : List β}, Paired F l₁ l₂ → (∀ a b, F a b → G a b) → Paired G l₁ l₂
  | _, _, .nil, _ => .nil
  | _, _, .cons r t, f => .cons (f _ _ r) (Paired.imp t f)
theorem LeafD.mono {L : Lay} {B : KEnc L.P L.w} {H H' : Hp} {kvs es lvs} (t : Tp L.K H H') (x : LeafD L B H kvs es lvs) : LeafD L B H' kvs es lvs :=
  ⟨x.keys, x.prs, x.nd, Paired.imp x.rep fun p q ⟨h1, u, h2, h3⟩ => ⟨h1, u, RV.mono t _ _ h2, h3⟩⟩
theorem TupD.mono {L : Lay} {H H' : Hp} {kvs es xs} (t : Tp L.K H H') (x : TupD L H kvs es xs) : TupD L H' kvs es xs :=
  ⟨x.ents, x.nd, Paired.imp x.rep fun p q ⟨h1, h0, h2, h3, h4, u, h5, h6⟩ => ⟨h1, h0, h2, h3, RV.mono t _ _ h4, u, RV.mono t _ _ h5, h6⟩⟩
/-- what is told of an object stays where its own place and the tuples stay -/
theorem RO.mono {L : Lay} {H H' : Hp} {a : Addr} (t : Tp L.K H H') (e : H' a = H a) : ∀ {o : Ob}, RO L H a o → RO L H' a o
  | .lst xs, h => by
    obtain ⟨vs, h1, h2⟩ := h
    exact ⟨vs, by rw [e]; exact h1, RVs.mono t _ _ h2⟩
  | .dct kvs v, h => by
    obtain ⟨es, h1, h2, h3, h4, h5⟩ := h
    refine ⟨es, by rw [e]; exact h1, h2, h3, h4, ?_⟩
    rcases h5 with ⟨b, l, h5⟩ | ⟨l, h5⟩
    · exact .inl ⟨b, l, h5.mono t⟩
    · exact .inr ⟨l, h5.mono t⟩
  | .ins c fs, h => by
    obtain ⟨dx, gs, h1, h2, h3⟩ := h
    exact ⟨dx, gs, by rw [e]; exact h1, h2, Paired.imp h3 fun p q ⟨z1, z2, z3⟩ => ⟨z1, z2, RV.mono t _ _ z3⟩⟩
theorem RO.has {L : Lay} {H : Hp} {a : Addr} {o : Ob} (h : RO L H a o) : ∃ u, H a = some u ∧ (∀ xs, u ≠ .tup xs) ∧ ∀ ob v, u ≠ .frz ob v := by
  cases o with
  | lst xs => obtain ⟨vs, h1, _⟩ := h; exact ⟨_, h1, (fun _ e => by cases e), (fun _ _ e => by cases e)⟩
  | dct kvs t => obtain ⟨es, h1, _⟩ := h; exact ⟨_, h1, (fun _ e => by cases e), (fun _ _ e => by cases e)⟩
  | ins c fs => obtain ⟨dx, gs, h1, _⟩ := h; exact ⟨_, h1, (fun _ e => by cases e), (fun _ _ e => by cases e)⟩
theorem RS.off {L : Lay} {H : Hp} {S : Sto} (h : RS L H S) {a : Addr} (e : H a = none) : S a = none := by
  cases q : S a with
  | none => rfl
  | some o =>
    obtain ⟨u, h1, _⟩ := (h a o q).has
    rw [e] at h1
    cases h1
theorem RS.there {L : Lay} {H : Hp} {S : Sto} (h : RS L H S) {a : Addr} {o : Ob} (q : S a = some o) : H a ≠ none := by
  obtain ⟨u, h1, _⟩ := (h a o q).has
  rw [h1]
  exact fun z => by cases z

/-- from here to there: tuples stay, what is tracked stays tracked, new places were free -/
structure Stp (L : Lay) (H : Hp) (S : Sto) (H' : Hp) (S' : Sto) : Prop where
  tp : Tp L.K H H'
  more : ∀ a, H a ≠ none → H' a ≠ none
  dom : ∀ a, S' a ≠ none → S a ≠ none ∨ H a = none
  frm : ∀ a u, H a = some u → S a = none → H' a = some u
theorem Stp.refl {L : Lay} {H : Hp} {S : Sto} : Stp L H S H S := ⟨⟨fun _ _ h => h, fun _ _ h => h⟩, fun _ h => h, fun _ h => .inl h, fun _ _ h _ => h⟩
theorem Stp.off {L : Lay} {H H' : Hp} {S S' : Sto} (st : Stp L H S H' S') {a : Addr} {u : HO} (h : H a = some u) (n : S a = none) : S' a = none := by
  cases q : S' a with
  | none => rfl
  | some b =>
    rcases st.dom a (by rw [q]; exact fun z => by cases z) with z | z
    · exact absurd n z
    · rw [h] at z; cases z
theorem Stp.trans {L : Lay} {H H1 H2 : Hp} {S S1 S2 : Sto} (a : Stp L H S H1 S1) (b : Stp L H1 S1 H2 S2) : Stp L H S H2 S2 :=
  ⟨⟨fun x xs h => b.tp.1 x xs (a.tp.1 x xs h), fun x xs h => b.tp.2 x xs (a.tp.2 x xs h)⟩, fun x h => b.more x (a.more x h), fun x h => by
    rcases b.dom x h with q | q
    · exact a.dom x q
    · refine .inr ?_
      cases e : H x with
      | none => rfl
      | some u => exact absurd q (a.more x (by rw [e]; exact fun z => by cases z)),
   fun x u h n => b.frm x u (a.frm x u h n) (a.off h n)⟩
theorem Tp.fresh {K : PySem.W.Frag} {H : Hp} {p : Addr} {o : HO} (n : H p = none) : Tp K H (upd H p o) := ⟨fun a xs h => by
  rcases h with (h | ⟨ob, h⟩) | h
  · exact .inl (.inl (by rw [upd_ne (ne_of_none h n)]; exact h))
  · exact .inl (.inr ⟨ob, by rw [upd_ne (ne_of_none h n)]; exact h⟩)
  · exact .inr h, fun a xs h => by
  rcases h with ⟨ob, h⟩ | h
  · exact .inl ⟨ob, by rw [upd_ne (ne_of_none h n)]; exact h⟩
  · exact .inr h⟩
theorem Tp.write {K : PySem.W.Frag} {H : Hp} {p : Addr} {o u : HO} (e : H p = some u) (h1 : ∀ xs, u ≠ .tup xs) (h2 : ∀ ob v, u ≠ .frz ob v) : Tp K H (upd H p o) := ⟨fun a xs h => by
  rcases h with (h | ⟨ob, h⟩) | h
  · refine .inl (.inl ?_)
    rw [upd_ne]
    · exact h
    · intro z; subst z; rw [e] at h; cases h; exact h1 _ rfl
  · refine .inl (.inr ⟨ob, ?_⟩)
    rw [upd_ne]
    · exact h
    · intro z; subst z; rw [e] at h; cases h; exact h2 _ _ rfl
  · exact .inr h, fun a xs h => by
  rcases h with ⟨ob, h⟩ | h
  · refine .inl ⟨ob, ?_⟩
    rw [upd_ne]
    · exact h
    · intro z; subst z; rw [e] at h; cases h; exact h2 _ _ rfl
  · exact .inr h⟩
theorem Tp.refl {K : PySem.W.Frag} {H : Hp} : Tp K H H := ⟨fun _ _ h => h, fun _ _ h => h⟩
theorem Tp.trans {K : PySem.W.Frag} {H H1 H2 : Hp} (a : Tp K H H1) (b : Tp K H1 H2) : Tp K H H2 := ⟨fun x xs h => b.1 x xs (a.1 x xs h), fun x xs h => b.2 x xs (a.2 x xs h)⟩
theorem up_same {S : Sto} {a : Addr} {o : Ob} : up S a o a = some o := by unfold up; rw [if_pos rfl]
theorem up_ne {S : Sto} {a b : Addr} {o : Ob} (h : b ≠ a) : up S a o b = S b := by unfold up; rw [if_neg h]
theorem Stp.new {L : Lay} {H : Hp} {S : Sto} {p : Addr} {o : HO} (n : H p = none) : Stp L H S (upd H p o) S :=
  ⟨Tp.fresh n, fun a h => by
    by_cases e : a = p
    · subst e; rw [upd_same]; exact fun z => by cases z
    · rw [upd_ne e]; exact h, fun _ h => .inl h, fun a u h _ => by rw [upd_ne (ne_of_none h n)]; exact h⟩
theorem Stp.alloc {L : Lay} {H : Hp} {S : Sto} {p : Addr} {o : HO} {b : Ob} (n : H p = none) : Stp L H S (upd H p o) (up S p b) :=
  ⟨Tp.fresh n, (Stp.new (L := L) (S := S) n).more, fun a h => by
    by_cases e : a = p
    · subst e; exact .inr n
    · rw [up_ne e] at h; exact .inl h, fun a u h _ => by rw [upd_ne (ne_of_none h n)]; exact h⟩
theorem Stp.write {L : Lay} {H : Hp} {S : Sto} {p : Addr} {o u : HO} {b c : Ob} (e : H p = some u) (h1 : ∀ xs, u ≠ .tup xs) (h2 : ∀ ob v, u ≠ .frz ob v) (q : S p = some c) : Stp L H S (upd H p o) (up S p b) :=
  ⟨Tp.write e h1 h2, fun a h => by
    by_cases e : a = p
    · subst e; rw [upd_same]; exact fun z => by cases z
    · rw [upd_ne e]; exact h, fun a h => by
    by_cases e : a = p
    · subst e; rw [q]; exact .inl fun z => by cases z
    · rw [up_ne e] at h; exact .inl h, fun a v h n => by
    rw [upd_ne]
    · exact h
    · intro z; subst z; rw [q] at n; cases n⟩
/-- the store behind a new or a changed object -/
theorem RS.upd {L : Lay} {H : Hp} {S : Sto} {p : Addr} {o : HO} {b : Ob} (h : RS L H S) (t : Tp L.K H (upd H p o)) (new : RO L (L2.upd H p o) p b) : RS L (L2.upd H p o) (up S p b) := fun a c q => by
  by_cases e : a = p
  · subst e; rw [up_same] at q; cases q; exact new
  · rw [up_ne e] at q
    exact (h a c q).mono t (upd_ne e)
/-- .. an untracked new object -/
theorem RS.new {L : Lay} {H : Hp} {S : Sto} {p : Addr} {o : HO} (h : RS L H S) (n : H p = none) : RS L (L2.upd H p o) S := fun a c q => (h a c q).mono (Tp.fresh n) (upd_ne fun z => by
  subst z
  exact RS.there h q n)
theorem RS.sub {L : Lay} {H : Hp} {S S' : Sto} (h : RS L H S) (s : ∀ a o, S' a = some o → S a = some o) : RS L H S' := fun a o q => h a o (s a o q)
theorem keep_sub {S S' : Sto} {v : Val} : ∀ a o, keep S S' v a = some o → S' a = some o := fun a o q => by
  unfold keep at q
  split at q
  · exact q
  · cases q

/-! ### slots -/
def RE (K : PySem.W.Frag) (H : Hp) (e : Env) (σ : L2.St) : Prop := e.length = σ.length ∧ ∀ (i : Nat) (v : Val), e[i]? = some (some v) → ∃ u, σ[i]? = some (some u) ∧ RV K H v u
theorem RE.mono {K : PySem.W.Frag} {H H' : Hp} {e : Env} {σ : L2.St} (t : Tp K H H') (h : RE K H e σ) : RE K H' e σ :=
  ⟨h.1, fun i v q => by
    obtain ⟨u, h1, h2⟩ := h.2 i v q
    exact ⟨u, h1, RV.mono t _ _ h2⟩⟩
theorem RE.set {K : PySem.W.Frag} {H : Hp} {e : Env} {σ : L2.St} {v : Val} {u : V} (h : RE K H e σ) (i : Nat) (r : RV K H v u) : RE K H (e.set i (some v)) (σ.set i (some u)) := by
  refine ⟨by simp [h.1], fun j x q => ?_⟩
  by_cases e1 : i = j
  · subst e1
    by_cases l : i < e.length
    · rw [List.getElem?_set_self l] at q
      cases q
      exact ⟨u, by rw [List.getElem?_set_self (by rw [← h.1]; exact l)], r⟩
    · rw [List.getElem?_eq_none (by simpa using l)] at q
      cases q
  · rw [List.getElem?_set_ne e1] at q
    obtain ⟨z, h1, h2⟩ := h.2 j x q
    exact ⟨z, by rw [List.getElem?_set_ne e1]; exact h1, h2⟩
theorem RE.set_none {K : PySem.W.Frag} {H : Hp} {e : Env} {σ : L2.St} (h : RE K H e σ) (i : Nat) : RE K H (e.set i none) (σ.set i none) := by
  refine ⟨by simp [h.1], fun j x q => ?_⟩
  by_cases e1 : i = j
  · subst e1
    by_cases l : i < e.length
    · rw [List.getElem?_set_self l] at q
      cases q
    · rw [List.getElem?_eq_none (by simpa using l)] at q
      cases q
  · rw [List.getElem?_set_ne e1] at q
    obtain ⟨z, h1, h2⟩ := h.2 j x q
    exact ⟨z, by rw [List.getElem?_set_ne e1]; exact h1, h2⟩
theorem RE.wipe {K : PySem.W.Frag} {H : Hp} {e : Env} {σ : L2.St} (h : RE K H e σ) : ∀ l : List Nat, RE K H (wipeE e l) (wipe σ l)
  | [] => h
  | i :: r => (RE.wipe h r).set_none i
theorem RE.get {K : PySem.W.Frag} {H : Hp} {e : Env} {σ : L2.St} (h : RE K H e σ) {i : Nat} {v : Val} (q : getV e i = some v) : ∃ u, σ[i]? = some (some u) ∧ RV K H v u := by
  refine h.2 i v ?_
  unfold getV at q
  cases z : e[i]? with
  | none => rw [z] at q; cases q
  | some o =>
    rw [z] at q
    have q' : o = some v := q
    rw [q']
end DL

set_option autoImplicit true
set_option Elab.async false
set_option linter.all false
set_option maxRecDepth 100000
set_option maxHeartbeats 1000000
/-! Own layer, part 3: the operations on values over the hand layer's rules. -/
namespace DL
open PySem PySem.Spec PyProof.Rows L2

structure LC where
  ca : Nat → Addr
  ex : Nat → Addr
abbrev lay (X : Cx) (c : LC) : Lay := ⟨X.prog, X.w, X.K, c.ca, c.ex⟩

/-- what is wanted behind, by what is wanted of values -/
def Cont (L : Lay) (H : Hp) (S : Sto) (Qd : KV) (Q : VK) : Prop :=
  ∀ v S' u H', Stp L H S H' S' → Qd v S' → RS L H' S' → RV L.K H' v u → Q u H'
section
variable {L : Lay} {H : Hp} {S : Sto} {Qd : KV} {Q : VK}
theorem Cont.here {v : Val} {u : V} (c : Cont L H S Qd Q) (q : Qd v S) (s : RS L H S) (r : RV L.K H v u) : Q u H := c v S u H .refl q s r
theorem Cont.tup {xs : List Val} {us : List V} {p : Addr} (c : Cont L H S Qd Q) (q : Qd (.tup xs) S) (s : RS L H S) (r : RVs L.K H xs us) (n : H p = none) : Q (.ref p) (upd H p (.tup us)) :=
  c (.tup xs) S (.ref p) _ (Stp.new n) q (s.new n) ⟨p, us, rfl, SqT.of upd_same, RVs.mono (Tp.fresh n) _ _ r⟩
theorem Cont.lst {xs : List Val} {us : List V} {p : Addr} (c : Cont L H S Qd Q) (q : ∀ p, S p = none → Qd (.ref p) (up S p (.lst xs))) (s : RS L H S) (r : RVs L.K H xs us) (n : H p = none) : Q (.ref p) (upd H p (.lst us)) :=
  c (.ref p) _ (.ref p) _ (Stp.alloc n) (q p (RS.off s n)) (RS.upd s (Tp.fresh n) ⟨us, upd_same, RVs.mono (Tp.fresh n) _ _ r⟩) rfl
theorem Cont.set {xs ys : List Val} {us ws : List V} {p : Addr} {v : Val} {u : V} (c : Cont L H S Qd Q) (q : Qd v (up S p (.lst ys))) (s : RS L H S) (h : H p = some (.lst us)) (hs : S p = some (.lst xs)) (r : RVs L.K H ys ws) (rv : RV L.K H v u) :
    Q u (upd H p (.lst ws)) := by
  have t : Tp L.K H (upd H p (.lst ws)) := Tp.write h (fun _ e => by cases e) (fun _ _ e => by cases e)
  exact c v _ u _ (Stp.write h (fun _ e => by cases e) (fun _ _ e => by cases e) hs) q (RS.upd s t ⟨ws, upd_same, RVs.mono t _ _ r⟩) (RV.mono t _ _ rv)
end

/-- by values -/
def rv2 (L : Lay) (f : Val → Val → Sto → KV → Prop) : R2 := fun x y H Q => ∃ v1 v2 S Qd, RV L.K H v1 x ∧ RV L.K H v2 y ∧ RS L H S ∧ f v1 v2 S Qd ∧ Cont L H S Qd Q
def rv1 (L : Lay) (f : Val → Sto → KV → Prop) : V → Hp → VK → Prop := fun x H Q => ∃ v S Qd, RV L.K H v x ∧ RS L H S ∧ f v S Qd ∧ Cont L H S Qd Q
def rvs (L : Lay) (f : List Val → Sto → KV → Prop) : List V → Hp → VK → Prop := fun xs H Q => ∃ vs S Qd, RVs L.K H vs xs ∧ RS L H S ∧ f vs S Qd ∧ Cont L H S Qd Q

theorem line_eq : line = sizeLine := by rw [sizeLine_eq]; rfl
section
variable {X : Cx} {c : LC}
theorem o_add : OpR X (binaryOp .Add) (rv2 (lay X c) (wBin .add)) := by
  intro pins s σ H x y v u Q I rx ry h
  obtain ⟨v1, v2, S, Qd, h1, h2, hs, hf, k⟩ := h
  cases v1 with
  | int i =>
    cases v2 with
    | int j =>
      cases h1; cases h2
      exact op_add pins s σ H _ _ v u Q I rx ry ⟨i, j, rfl, rfl, k.here hf hs rfl⟩
    | _ => exact hf.elim
  | str i =>
    cases v2 with
    | str j =>
      cases h1; cases h2
      exact op_add_str pins s σ H _ _ v u Q I rx ry ⟨i, j, rfl, rfl, by rw [← line_eq]; exact hf.1, k.here hf.2 hs rfl⟩
    | _ => exact hf.elim
  | tup i =>
    cases v2 with
    | tup j =>
      obtain ⟨a, us, rfl, ha, ra⟩ := h1
      obtain ⟨b, ws, rfl, hb, rb⟩ := h2
      obtain ⟨z, hf⟩ := hf
      refine op_catA pins s σ H _ _ v u Q I rx ry ⟨a, b, us, ws, rfl, rfl, ha, hb, by rw [← line_eq, ← ra.length, ← rb.length]; exact z, fun e => ?_, fun _ e => ?_, fun _ _ p n => ?_⟩
      · subst e
        have e : i = [] := List.eq_nil_of_length_eq_zero ra.length
        subst e
        exact k.here hf hs ⟨b, ws, rfl, hb, rb⟩
      · subst e
        have e : j = [] := List.eq_nil_of_length_eq_zero rb.length
        subst e
        rw [List.append_nil] at hf
        exact k.here hf hs ⟨a, us, rfl, ha, ra⟩
      · exact k.tup hf hs (RVs.append ra rb) n
    | _ => exact hf.elim
  | ref a =>
    cases v2 with
    | ref b =>
      have e1 : x = .ref a := h1
      have e2 : y = .ref b := h2
      subst e1; subst e2
      change (match S a, S b with
        | some (.lst i), some (.lst j) => i.length + j.length ≤ line ∧ ∀ p, S p = none → Qd (.ref p) (up S p (.lst (i ++ j)))
        | _, _ => False) at hf
      split at hf
      · rename_i i j ea eb
        obtain ⟨us, ha, ra⟩ := hs a _ ea
        obtain ⟨ws, hb, rb⟩ := hs b _ eb
        exact op_cat pins s σ H _ _ v u Q I rx ry ⟨a, b, us, ws, rfl, rfl, ha, hb, by rw [← line_eq, ← ra.length, ← rb.length]; exact hf.1, fun p n => k.lst hf.2 hs (RVs.append ra rb) n⟩
      · exact hf.elim
    | _ => exact hf.elim
  | _ => exact hf.elim
theorem o_sub : OpR X (binaryOp .Sub) (rv2 (lay X c) (wBin .sub)) := by
  intro pins s σ H x y v u Q I rx ry h
  obtain ⟨v1, v2, S, Qd, h1, h2, hs, hf, k⟩ := h
  cases v1 with
  | int i =>
    cases v2 with
    | int j =>
      cases h1; cases h2
      exact op_sub pins s σ H _ _ v u Q I rx ry ⟨i, j, rfl, rfl, k.here hf hs rfl⟩
    | _ => exact hf.elim
  | _ => exact hf.elim
theorem o_fdiv : OpR X (binaryOp .FloorDiv) (rv2 (lay X c) (wBin .fdiv)) := by
  intro pins s σ H x y v u Q I rx ry h
  obtain ⟨v1, v2, S, Qd, h1, h2, hs, hf, k⟩ := h
  cases v1 with
  | int i =>
    cases v2 with
    | int j =>
      cases h1; cases h2
      exact op_fdiv pins s σ H _ _ v u Q I rx ry ⟨i, j, rfl, rfl, ⟨hf.1, hf.2.1⟩, k.here hf.2.2 hs rfl⟩
    | _ => exact hf.elim
  | _ => exact hf.elim
theorem o_mod : OpR X (binaryOp .Mod) (rv2 (lay X c) (wBin .mod)) := by
  intro pins s σ H x y v u Q I rx ry h
  obtain ⟨v1, v2, S, Qd, h1, h2, hs, hf, k⟩ := h
  cases v1 with
  | int i =>
    cases v2 with
    | int j =>
      cases h1; cases h2
      exact op_mod pins s σ H _ _ v u Q I rx ry ⟨i, j, rfl, rfl, hf.1, k.here hf.2 hs rfl⟩
    | _ => exact hf.elim
  | _ => exact hf.elim
theorem o_pow : OpR X (binaryOp .Pow) (rv2 (lay X c) (wBin .pow)) := by
  intro pins s σ H x y v u Q I rx ry h
  obtain ⟨v1, v2, S, Qd, h1, h2, hs, hf, k⟩ := h
  cases v1 with
  | int i =>
    cases v2 with
    | int j =>
      cases h1; cases h2
      exact op_pow pins s σ H _ _ v u Q I rx ry ⟨i, j, rfl, rfl, hf.1, k.here hf.2 hs rfl⟩
    | _ => exact hf.elim
  | _ => exact hf.elim
end
end DL

set_option autoImplicit true
set_option Elab.async false
set_option linter.all false
set_option maxRecDepth 100000
set_option maxHeartbeats 1000000
/-! Own layer, part 3a: dicts by their keys' values. -/
namespace DL
open PySem PySem.Spec PyProof.Rows L2

mutual
theorem nested_of {X : Cx} {pins : List (Addr × Obj)} {σ : L2.St} {H : Hp} {s : Shared} (I : Inv X pins σ H s) : ∀ (v : Val) (u : V) (w : Value), v.dat = true → RV X.K H v u → RelV u w → NestedIs s.heap v.nk w
  | .non, u, w, _, h, r => by
    have e : u = .non := h
    subst e
    have e : w = Value.none := r
    subst e
    exact .none
  | .bl b, u, w, _, h, r => by
    have e : u = .bl b := h
    subst e
    have e : w = Value.bool b := r
    subst e
    exact .bool rfl
  | .int i, u, w, _, h, r => by
    have e : u = .int i := h
    subst e
    obtain ⟨t, rfl⟩ := r
    exact .int i t
  | .str x, u, w, _, h, r => by
    have e : u = .str x := h
    subst e
    obtain ⟨t, rfl⟩ := r
    exact .text x t
  | .tup xs, u, w, d, h, r => by
    obtain ⟨a, vs, rfl, hq, hr⟩ := h
    have e : w = Value.ref a := r
    subst e
    obtain ⟨its, rv, ⟨o, h1, h2, n, h3⟩, _⟩ := I.tuple hq
    exact .tup h1 h2 h3 (by simpa using nesteds_of I xs vs its d hr rv)
  | .ref _, _, _, d, _, _ => by cases d
  | .lst _, _, _, d, _, _ => by cases d
theorem nesteds_of {X : Cx} {pins : List (Addr × Obj)} {σ : L2.St} {H : Hp} {s : Shared} (I : Inv X pins σ H s) : ∀ (vs : List Val) (us : List V) (ws : List Value), Val.dats vs = true → RVs X.K H vs us → Vals us ws → NestedAll s.heap (Val.nks vs) ws
  | [], us, ws, _, h, r => by
    have e : us = [] := h
    subst e
    cases r
    exact .nil
  | v :: vs, us, ws, d, h, r => by
    obtain ⟨u, q, rfl, h1, h2⟩ := h
    cases r with
    | cons r1 r2 =>
      have d' : v.dat = true ∧ Val.dats vs = true := by simpa [Val.dats] using d
      exact .cons (nested_of I v u _ d'.1 h1 r1) (nesteds_of I vs q _ d'.2 h2 r2)
end

/-- what both say -/
def RelD (K : PySem.W.Frag) (H : Hp) : Option Val → Option Value → Prop
  | some v, some w => ∃ u, RV K H v u ∧ RelV u w
  | none, none => True
  | _, _ => False
theorem RelD.isSome {K : PySem.W.Frag} {H : Hp} {a : Option Val} {b : Option Value} (h : RelD K H a b) : a.isSome = b.isSome := by
  cases a <;> cases b <;> first | rfl | exact h.elim
theorem valueAt_one {K : Type} [DecidableEq K] (a : K) (w : Value) (r : List (K × Value)) (k : K) : valueAt ((a, w) :: r) k = if a = k then some w else valueAt r k := by
  unfold valueAt
  rw [List.find?_cons]
  by_cases e : a = k
  · simp [e]
  · simp [e]
theorem leaf_get {L : Lay} {B : KEnc L.P L.w} {H : Hp} {k : Val} {l : B.κ} (hl : B.enc k = some l) : ∀ {kvs : List (Val × Val)} {lvs : List (B.κ × Value)},
    Paired (fun (p : Val × Val) (q : B.κ × Value) => B.enc p.1 = some q.1 ∧ ∃ u, RV L.K H p.2 u ∧ RelV u q.2) kvs lvs → RelD L.K H (dget kvs k) (valueAt lvs l)
  | _, _, .nil => trivial
  | (a, v) :: kvs, (b, w) :: lvs, .cons ⟨h1, h2⟩ t => by
    have e1 : a.nk = B.key b := B.nk h1
    have e2 : k.nk = B.key l := B.nk hl
    rw [valueAt_one]
    show RelD L.K H (if a.nk = k.nk then some v else dget kvs k) _
    by_cases e : b = l
    · rw [if_pos e, if_pos (by rw [e1, e2, e])]
      exact h2
    · rw [if_neg e, if_neg (fun z => e (B.inj (by rw [← e1, ← e2]; exact z)))]
      exact leaf_get hl t
theorem stored_one {K : Type} [DecidableEq K] (a : K) (w : Value) (r : List (K × Value)) (k : K) (v : Value) (nd : (((a, w) :: r).map (·.1)).Nodup) : stored ((a, w) :: r) k v = if a = k then (a, v) :: r else (a, w) :: stored r k v := by
  unfold stored
  by_cases e : a = k
  · subst e
    have hn : a ∉ r.map (·.1) := by
      have := List.nodup_cons.mp nd
      exact this.1
    simp [map_store_of_not_mem r a v hn]
  · simp only [List.any_cons, decide_eq_false e, Bool.false_or, List.map_cons, if_neg e]
    by_cases h : (r.any fun kv => decide (kv.1 = k)) = true
    · rw [if_pos h, if_pos h]
    · rw [if_neg h, if_neg h]
      rfl
theorem leaf_put {L : Lay} {B : KEnc L.P L.w} {H : Hp} {k v : Val} {l : B.κ} {u : V} {w : Value} (hl : B.enc k = some l) (hv : RV L.K H v u) (hw : RelV u w) : ∀ {kvs : List (Val × Val)} {lvs : List (B.κ × Value)}, (lvs.map (·.1)).Nodup →
    Paired (fun (p : Val × Val) (q : B.κ × Value) => B.enc p.1 = some q.1 ∧ ∃ u, RV L.K H p.2 u ∧ RelV u q.2) kvs lvs →
    Paired (fun (p : Val × Val) (q : B.κ × Value) => B.enc p.1 = some q.1 ∧ ∃ u, RV L.K H p.2 u ∧ RelV u q.2) (dput kvs k v) (stored lvs l w)
  | _, _, _, .nil => .cons ⟨hl, u, hv, hw⟩ .nil
  | (a, x) :: kvs, (b, y) :: lvs, nd, .cons ⟨h1, h2⟩ t => by
    have e1 : a.nk = B.key b := B.nk h1
    have e2 : k.nk = B.key l := B.nk hl
    rw [stored_one _ _ _ _ _ nd]
    show Paired _ (if a.nk = k.nk then (a, v) :: kvs else (a, x) :: dput kvs k v) _
    by_cases e : b = l
    · rw [if_pos e, if_pos (by rw [e1, e2, e])]
      exact .cons ⟨h1, u, hv, hw⟩ t
    · rw [if_neg e, if_neg (fun z => e (B.inj (by rw [← e1, ← e2]; exact z)))]
      exact .cons ⟨h1, h2⟩ (leaf_put hl hv hw (List.nodup_cons.mp nd).2 t)
theorem dput_length (k v : Val) : ∀ kvs : List (Val × Val), (dput kvs k v).length ≤ kvs.length + 1
  | [] => Nat.le_refl _
  | (a, w) :: r => by
    show (if a.nk = k.nk then (a, v) :: r else (a, w) :: dput r k v).length ≤ _
    split
    · simp
    · simp [dput_length k v r]

abbrev TupR (L : Lay) (H : Hp) := fun (p : Val × Val) (q : NestedKey × Addr × Value) => isTup p.1 = true ∧ p.1.dat = true ∧ q.1 = p.1.nk ∧ p.1.nk.depth ≤ 8 ∧ RV L.K H p.1 (.ref q.2.1) ∧ ∃ u, RV L.K H p.2 u ∧ RelV u q.2.2
theorem tup_get {L : Lay} {H : Hp} {k : Val} : ∀ {kvs : List (Val × Val)} {xs : List (NestedKey × Addr × Value)}, Paired (TupR L H) kvs xs → RelD L.K H (dget kvs k) (valueAt (pairsH xs) k.nk)
  | _, _, .nil => trivial
  | (a, v) :: kvs, (b, p, w) :: xs, .cons ⟨h1, h0, h2, h3, h4, h5⟩ t => by
    have e1 : b = a.nk := h2
    show RelD L.K H (if a.nk = k.nk then some v else dget kvs k) (valueAt ((b, w) :: pairsH xs) k.nk)
    rw [valueAt_one]
    by_cases e : a.nk = k.nk
    · rw [if_pos e, if_pos (by rw [e1, e])]
      exact h5
    · rw [if_neg e, if_neg (by rw [e1]; exact e)]
      exact tup_get t
theorem storedH_one (a : NestedKey) (b : Addr) (w : Value) (r : List (NestedKey × Addr × Value)) (k : NestedKey) (p : Addr) (v : Value) (nd : (((a, b, w) :: r).map (·.1)).Nodup) :
    storedH ((a, b, w) :: r) k p v = if a = k then (a, b, v) :: r else (a, b, w) :: storedH r k p v := by
  unfold storedH
  by_cases e : a = k
  · subst e
    have hn : a ∉ r.map (·.1) := (List.nodup_cons.mp nd).1
    have hm : r.map (putAt a v) = r := by
      conv => rhs; rw [← List.map_id r]
      refine List.map_congr_left fun x hx => ?_
      unfold putAt
      rw [if_neg (fun z => hn (List.mem_map.mpr ⟨x, hx, z⟩))]
      rfl
    have h1 : (atKey ((a, b, w) :: r) a).isSome = true := by simp [atKey]
    rw [if_pos h1, if_pos rfl, List.map_cons, hm]
    simp [putAt]
  · rw [if_neg e]
    have h1 : atKey ((a, b, w) :: r) k = atKey r k := by simp [atKey, e]
    rw [h1, List.map_cons]
    have h2 : putAt k v (a, b, w) = (a, b, w) := by simp [putAt, e]
    rw [h2]
    split <;> rfl
theorem tup_put {L : Lay} {H : Hp} {k v : Val} {b : Addr} {u : V} {w : Value} (hk : isTup k = true) (hd : k.dat = true) (h8 : k.nk.depth ≤ 8) (hb : RV L.K H k (.ref b)) (hv : RV L.K H v u) (hw : RelV u w) :
    ∀ {kvs : List (Val × Val)} {xs : List (NestedKey × Addr × Value)}, (xs.map (·.1)).Nodup → Paired (TupR L H) kvs xs → Paired (TupR L H) (dput kvs k v) (storedH xs k.nk b w)
  | _, _, _, .nil => .cons ⟨hk, hd, rfl, h8, hb, u, hv, hw⟩ .nil
  | (a, x) :: kvs, (c, p, y) :: xs, nd, .cons ⟨h1, h0, h2, h3, h4, h5⟩ t => by
    have e1 : c = a.nk := h2
    rw [storedH_one _ _ _ _ _ _ _ nd]
    show Paired _ (if a.nk = k.nk then (a, v) :: kvs else (a, x) :: dput kvs k v) _
    by_cases e : a.nk = k.nk
    · rw [if_pos e, if_pos (by rw [e1, e])]
      exact .cons ⟨h1, h0, h2, h3, h4, u, hv, hw⟩ t
    · rw [if_neg e, if_neg (by rw [e1]; exact e)]
      exact .cons ⟨h1, h0, h2, h3, h4, h5⟩ (tup_put hk hd h8 hb hv hw (List.nodup_cons.mp nd).2 t)

theorem kind_mod {kvs : List (Val × Val)} {k : Val} (h : kindOk kvs k = true) : k.dat = true ∧ k.nk.depth ≤ 8 := by
  unfold kindOk at h
  have h1 := (Bool.and_eq_true_iff.mp h).1
  unfold modKey at h1
  have h2 := Bool.and_eq_true_iff.mp h1
  exact ⟨h2.1, of_decide_eq_true h2.2⟩
theorem kcl_tup : ∀ {v : Val}, isTup v = true → kcl v = 2
  | .tup _, _ => rfl
  | .non, h => by cases h
  | .bl _, h => by cases h
  | .int _, h => by cases h
  | .str _, h => by cases h
  | .ref _, h => by cases h
  | .lst _, h => by cases h
theorem kcl_not : ∀ {v : Val}, isTup v = false → kcl v = 0 ∨ kcl v = 1
  | .tup _, h => by cases h
  | .non, h => .inr rfl
  | .bl _, h => .inr rfl
  | .int _, h => .inl rfl
  | .str _, h => .inl rfl
  | .ref _, h => .inr rfl
  | .lst _, h => .inr rfl
theorem enc_cl (P : Program) (w : World) : ∀ b, (encOf P w b).cl = if b then 0 else 1
  | true => rfl
  | false => rfl
theorem kind_cl {a v k : Val} {r : List (Val × Val)} (h : kindOk ((a, v) :: r) k = true) : kcl a = kcl k := by
  unfold kindOk at h
  exact beq_iff_eq.mp (Bool.and_eq_true_iff.mp h).2
/-- a dict with keys that are none is a dict of leaves for a leaf, of tuples for a tuple -/
theorem RD.leaf {L : Lay} {H : Hp} {a : Addr} {kvs : List (Val × Val)} {t : Nat} {k : Val} (h : RD L H a kvs t) (ok : kindOk kvs k = true) (nt : isTup k = false) :
    ∃ (es : Array DictEntry) (b : Bool) (lvs : List ((encOf L.P L.w b).κ × Value)) (l : (encOf L.P L.w b).κ), H a = some (dctO a es t) ∧ (a == sysModules) = false ∧ kvs.length ≤ sizeLine ∧ (encOf L.P L.w b).enc k = some l ∧ LeafD L (encOf L.P L.w b) H kvs es lvs := by
  obtain ⟨es, h1, h2, h3, h4, h5⟩ := h
  cases kvs with
  | nil =>
    have e : es = #[] := Array.eq_empty_of_size_eq_zero h4
    subst e
    have hb : ∃ b, kcl k = (encOf L.P L.w b).cl := by
      rcases kcl_not nt with z | z
      · exact ⟨true, z⟩
      · exact ⟨false, z⟩
    obtain ⟨b, hb⟩ := hb
    obtain ⟨l, hl⟩ := (encOf L.P L.w b).some hb (kind_mod ok).1
    exact ⟨_, b, [], l, h1, h2, h3, hl, ⟨fun e he => by simp at he, .nil, by simp, .nil⟩⟩
  | cons p r =>
    obtain ⟨a', v'⟩ := p
    have ek := kind_cl ok
    rcases h5 with ⟨b, lvs, h5⟩ | ⟨xs, h5⟩
    · have q := h5.rep
      cases q with
      | cons z _ =>
        have z1 : kcl a' = (encOf L.P L.w b).cl := (encOf L.P L.w b).ecl z.1
        obtain ⟨l, hl⟩ := (encOf L.P L.w b).some (v := k) (by rw [← ek]; exact z1) (kind_mod ok).1
        exact ⟨es, b, _, l, h1, h2, h3, hl, h5⟩
    · have q := h5.rep
      cases q with
      | cons z _ =>
        have z1 : kcl a' = 2 := kcl_tup z.1
        rcases kcl_not nt with y | y <;> omega
theorem RD.tup {L : Lay} {H : Hp} {a : Addr} {kvs : List (Val × Val)} {t : Nat} {k : Val} (h : RD L H a kvs t) (ok : kindOk kvs k = true) (nt : isTup k = true) :
    ∃ es xs, H a = some (dctO a es t) ∧ (a == sysModules) = false ∧ kvs.length ≤ sizeLine ∧ TupD L H kvs es xs := by
  obtain ⟨es, h1, h2, h3, h4, h5⟩ := h
  rcases h5 with ⟨b, lvs, h5⟩ | ⟨xs, h5⟩
  · cases kvs with
    | nil =>
      have e : es = #[] := Array.eq_empty_of_size_eq_zero h4
      subst e
      exact ⟨_, [], h1, h2, h3, ⟨rfl, by simp, .nil⟩⟩
    | cons p r =>
      obtain ⟨a', v'⟩ := p
      have ek := kind_cl ok
      have q := h5.rep
      cases q with
      | cons z _ =>
        have z1 : kcl a' = (encOf L.P L.w b).cl := (encOf L.P L.w b).ecl z.1
        rw [enc_cl] at z1
        have := kcl_tup nt
        cases b <;> simp at z1 <;> omega
  · exact ⟨es, xs, h1, h2, h3, h5⟩

section
variable {X : Cx} {c : LC} {pins : List (Addr × Obj)} {σ : L2.St} {H : Hp} {s : Shared} {a : Addr} {es : Array DictEntry} {t : Nat} {kvs : List (Val × Val)}
theorem raw_of (I : Inv X pins σ H s) (h : H a = some (dctO a es t)) : s.heap.DictRaw a es t := (show ObjOk X.prog X.w H s.heap a (dctO a es t) from I.hok a _ h).1
theorem dictOf_of {B : KEnc X.prog X.w} {lvs : List (B.κ × Value)} (I : Inv X pins σ H s) (h : H a = some (dctO a es t)) (d : LeafD (lay X c) B H kvs es lvs) : s.heap.DictOf B.knd a lvs := by
  obtain ⟨o, h1, h2, h3⟩ := raw_of I h
  exact ⟨o, es, t, h1, h2, h3, d.keys, d.prs, d.nd⟩
theorem keyH_of {k : Val} {b : Addr} (I : Inv X pins σ H s) (hk : k.dat = true) (h8 : k.nk.depth ≤ 8) (r : RV X.K H k (.ref b)) : (nestedKind X.prog X.w).is s.heap k.nk b := ⟨nested_of I k _ _ hk r rfl, h8⟩
theorem keysH_of (I : Inv X pins σ H s) : ∀ {kvs : List (Val × Val)} {xs : List (NestedKey × Addr × Value)}, Paired (TupR (lay X c) H) kvs xs → ∀ x ∈ xs, (nestedKind X.prog X.w).is s.heap x.1 x.2.1
  | _, _, .nil, x, hx => by simp at hx
  | _, _, .cons (a := p) (b := q) ⟨_, h0, h2, h3, h4, _⟩ t, x, hx => by
    rcases List.mem_cons.mp hx with e | hx
    · subst e
      rw [h2]
      exact keyH_of I h0 h3 h4
    · exact keysH_of I t x hx
theorem dictH_of {xs : List (NestedKey × Addr × Value)} (I : Inv X pins σ H s) (h : H a = some (dctO a es t)) (d : TupD (lay X c) H kvs es xs) : s.heap.DictOfH (nestedKind X.prog X.w) a xs := by
  obtain ⟨o, h1, h2, h3⟩ := raw_of I h
  exact ⟨o, es, t, h1, h2, h3, d.ents, keysH_of I d.rep, d.nd⟩
theorem dct_okT {h' : Heap} (x : h'.DictRaw a es t) {H' : Hp} : ObjOk X.prog X.w H' h' a (dctO a es t) :=
  ⟨x, let ⟨o, e, _⟩ := x; ⟨o, e⟩, fun h1 h2 q k => q.at k⟩
theorem notTup_dct {es : Array DictEntry} : (∀ xs, dctO a es t ≠ .tup xs) ∧ ∀ ob v, dctO a es t ≠ .frz ob v := ⟨(fun _ e => by cases e), (fun _ _ e => by cases e)⟩
/-- a dict's object is replaced -/
theorem dct_write {h' : Heap} {tk : Nat} {es' : Array DictEntry} {t' : Nat} (I : Inv X pins σ H s) (h : H a = some (dctO a es t)) (hs : Heap.SameBut a s.heap h') (new : h'.DictRaw a es' t') :
    Inv X pins σ (upd H a (dctO a es' t')) { s with heap := h', toks := tk } :=
  I.write (x := a) (e := a) (by rw [h]; exact True.intro) (.inl rfl) (fun b q hb z => (hs.2 b hb).trans z) (let ⟨o, e, _⟩ := new; ⟨o, e⟩) (dct_okT new)
end
end DL

set_option autoImplicit true
set_option Elab.async false
set_option linter.all false
set_option maxRecDepth 100000
set_option maxHeartbeats 1000000
/-! Own layer, part 3b: what a dict is asked. -/
namespace DL
open PySem PySem.Spec PyProof.Rows L2

theorem isTup_ref {K : PySem.W.Frag} {H : Hp} : ∀ {k : Val} {x : V}, isTup k = true → RV K H k x → ∃ b, x = .ref b
  | .tup xs, x, _, h => by
    obtain ⟨a, _, e, _⟩ := h
    exact ⟨a, e⟩
  | .non, _, h, _ => by cases h
  | .bl _, _, h, _ => by cases h
  | .int _, _, h, _ => by cases h
  | .str _, _, h, _ => by cases h
  | .ref _, _, h, _ => by cases h
  | .lst _, _, h, _ => by cases h
theorem DictOf.es_size {P : Program} {w : World} {B : KEnc P w} {es : Array DictEntry} {lvs : List (B.κ × Value)} (h : Pairs B.knd es.toList lvs) : es.size = lvs.length := by
  rw [← Array.length_toList]
  exact h.length
section
variable {X : Cx} {c : LC} {pins : List (Addr × Obj)} {σ : L2.St} {H : Hp} {s : Shared} {S : Sto} {a : Addr} {t : Nat} {kvs : List (Val × Val)} {k v : Val} {x y : V} {u r : Value} {A : Around} {E : Value → Shared → Prop}
theorem dct_in {Q : Value → Shared → Prop} (hu : A.units + 10 < cLine) (I : Inv X pins σ H s) (rd : RD (lay X c) H a kvs t) (ok : kindOk kvs k = true) (rk : RV X.K H k x) (ru : RelV x u)
    (h : ∀ s', Inv X pins σ H s' → Q (.bool (dget kvs k).isSome) s') : wpAny (model X.prog X.w) A (compareOp .In u (.ref a)) Q E s := by
  cases nt : isTup k with
  | false =>
    obtain ⟨es, B, lvs, l, h1, h2, h3, hl, d⟩ := rd.leaf ok nt
    refine wpAny_in_of ((encOf X.prog X.w B).is hl rk ru) h2 (dictOf_of I h1 d).mapOf ?_
    rw [← (leaf_get hl d.rep).isSome]
    exact h _ (I.tok _)
  | true =>
    obtain ⟨es, xs, h1, h2, h3, d⟩ := rd.tup ok nt
    obtain ⟨b, rfl⟩ := isTup_ref nt rk
    cases ru
    refine in_keyed (knd := nestedKind X.prog X.w) (by show A.units + 1 + 8 < cLine; omega) (keyH_of I (kind_mod ok).1 (kind_mod ok).2 rk) h2 ⟨xs, dictH_of I h1 d, rfl⟩ ?_
    rw [← (tup_get (k := k) d.rep).isSome]
    exact h _ (I.tok _)
theorem dct_notIn {Q : Value → Shared → Prop} (hu : A.units + 10 < cLine) (I : Inv X pins σ H s) (rd : RD (lay X c) H a kvs t) (ok : kindOk kvs k = true) (rk : RV X.K H k x) (ru : RelV x u)
    (h : ∀ s', Inv X pins σ H s' → Q (.bool (dget kvs k).isNone) s') : wpAny (model X.prog X.w) A (compareOp .NotIn u (.ref a)) Q E s := by
  have e : ∀ o : Option Val, o.isNone = !o.isSome := fun o => by cases o <;> rfl
  cases nt : isTup k with
  | false =>
    obtain ⟨es, B, lvs, l, h1, h2, h3, hl, d⟩ := rd.leaf ok nt
    refine wpAny_notIn_of ((encOf X.prog X.w B).is hl rk ru) h2 (dictOf_of I h1 d).mapOf ?_
    rw [← (leaf_get hl d.rep).isSome, ← e]
    exact h _ (I.tok _)
  | true =>
    obtain ⟨es, xs, h1, h2, h3, d⟩ := rd.tup ok nt
    obtain ⟨b, rfl⟩ := isTup_ref nt rk
    cases ru
    refine notIn_keyed (knd := nestedKind X.prog X.w) (by show A.units + 1 + 8 < cLine; omega) (keyH_of I (kind_mod ok).1 (kind_mod ok).2 rk) h2 ⟨xs, dictH_of I h1 d, rfl⟩ ?_
    rw [← (tup_get (k := k) d.rep).isSome, ← e]
    exact h _ (I.tok _)
theorem RelD.some_of {K : PySem.W.Frag} {v : Val} {b : Option Value} (h : RelD K H (some v) b) : ∃ w u, b = some w ∧ RV K H v u ∧ RelV u w := by
  cases b with
  | none => exact h.elim
  | some w =>
    obtain ⟨u, h1, h2⟩ := h
    exact ⟨w, u, rfl, h1, h2⟩
theorem RelD.none_of {K : PySem.W.Frag} {b : Option Value} (h : RelD K H none b) : b = none := by
  cases b with
  | none => rfl
  | some w => exact h.elim
theorem dct_getItem {Q : Value → Shared → Prop} (hu : A.units + 10 < cLine) (I : Inv X pins σ H s) (rd : RD (lay X c) H a kvs t) (ok : kindOk kvs k = true) (rk : RV X.K H k x) (ru : RelV x u) (e : dget kvs k = some v)
    (h : ∀ s' w z, Inv X pins σ H s' → RV X.K H v w → RelV w z → Q z s') : wpAny (model X.prog X.w) A (getItem (.ref a) u) Q E s := by
  cases nt : isTup k with
  | false =>
    obtain ⟨es, B, lvs, l, h1, h2, h3, hl, d⟩ := rd.leaf ok nt
    have q := leaf_get hl d.rep
    rw [e] at q
    obtain ⟨z, w, e2, rw', rz⟩ := q.some_of
    exact wpAny_getItem_of ((encOf X.prog X.w B).is hl rk ru) (dictOf_of I h1 d).mapOf e2 (h _ w z (I.tok _) rw' rz)
  | true =>
    obtain ⟨es, xs, h1, h2, h3, d⟩ := rd.tup ok nt
    obtain ⟨b, rfl⟩ := isTup_ref nt rk
    cases ru
    have q := tup_get (k := k) d.rep
    rw [e] at q
    obtain ⟨z, w, e2, rw', rz⟩ := q.some_of
    exact getItem_keyed (knd := nestedKind X.prog X.w) (by show A.units + 1 + 8 < cLine; omega) (keyH_of I (kind_mod ok).1 (kind_mod ok).2 rk) ⟨xs, dictH_of I h1 d, rfl⟩ e2 (h _ w z (I.tok _) rw' rz)
theorem dct_getD {Q : Value → Shared → Prop} (hu : A.units + 10 < cLine) (I : Inv X pins σ H s) (rd : RD (lay X c) H a kvs t) (ok : kindOk kvs k = true) (rk : RV X.K H k x) (ru : RelV x u) (rv : RV X.K H v y) (rr : RelV y r)
    (h : ∀ s' w z, Inv X pins σ H s' → RV X.K H ((dget kvs k).getD v) w → RelV w z → Q z s') : wpAny (model X.prog X.w) A (call (.builtin "dict.get") [.ref a, u, r]) Q E s := by
  cases nt : isTup k with
  | false =>
    obtain ⟨es, B, lvs, l, h1, h2, h3, hl, d⟩ := rd.leaf ok nt
    have q := leaf_get hl d.rep
    have dd := dictOf_of I h1 d
    refine call_meetsIn PySem.F.slot_dict_get dd.typeIs PySem.F.entry_dict_get (PySem.F.args_dict_get_3 _ _ _) (meets_dict_get_default (encOf X.prog X.w B).knd a ((encOf X.prog X.w B).is hl rk ru) h2 r) ⟨_, dd.mapOf, ?_⟩
    cases e : dget kvs k with
    | none =>
      rw [e] at q h
      rw [q.none_of]
      exact h _ y r (I.tok _) rv rr
    | some v' =>
      rw [e] at q h
      obtain ⟨z, w, e2, rw', rz⟩ := q.some_of
      rw [e2]
      exact h _ w z (I.tok _) rw' rz
  | true =>
    obtain ⟨es, xs, h1, h2, h3, d⟩ := rd.tup ok nt
    obtain ⟨b, rfl⟩ := isTup_ref nt rk
    cases ru
    have q := tup_get (k := k) d.rep
    refine getOr_keyed (knd := nestedKind X.prog X.w) (by show A.units + 1 + 8 < cLine; omega) (keyH_of I (kind_mod ok).1 (kind_mod ok).2 rk) h2 ⟨xs, dictH_of I h1 d, rfl⟩ ?_
    cases e : dget kvs k with
    | none =>
      rw [e] at q h
      rw [q.none_of]
      exact h _ y r (I.tok _) rv rr
    | some v' =>
      rw [e] at q h
      obtain ⟨z, w, e2, rw', rz⟩ := q.some_of
      rw [e2]
      exact h _ w z (I.tok _) rw' rz
/-- what is tracked behind a store -/
theorem leaf_new {L : Lay} {B : Bool} {es : Array DictEntry} {lvs' : List ((encOf L.P L.w B).κ × Value)} {kvs' : List (Val × Val)} {es' : Array DictEntry} {t' : Nat} (h1 : H a = some (dctO a es t)) (h2 : (a == sysModules) = false) (hz : kvs'.length ≤ sizeLine) (k1 : KeysOf (encOf L.P L.w B).knd es') (p1 : Pairs (encOf L.P L.w B).knd es'.toList lvs') (n1 : (lvs'.map (·.1)).Nodup)
    (rep : Paired (fun (p : Val × Val) (q : (encOf L.P L.w B).κ × Value) => (encOf L.P L.w B).enc p.1 = some q.1 ∧ ∃ u, RV L.K H p.2 u ∧ RelV u q.2) kvs' lvs') : RD L (upd H a (dctO a es' t')) a kvs' t' :=
  ⟨es', upd_same, h2, hz, by rw [DictOf.es_size p1]; exact (Paired.length rep).symm, .inl ⟨B, lvs', (LeafD.mono (Tp.write h1 notTup_dct.1 notTup_dct.2) ⟨k1, p1, n1, rep⟩)⟩⟩
theorem tup_new {L : Lay} {es : Array DictEntry} {xs' : List (NestedKey × Addr × Value)} {kvs' : List (Val × Val)} {es' : Array DictEntry} {t' : Nat} (h1 : H a = some (dctO a es t)) (h2 : (a == sysModules) = false) (hz : kvs'.length ≤ sizeLine)
    (e1 : es'.toList = xs'.map (entryOfKey (nestedKind L.P L.w))) (n1 : (xs'.map (·.1)).Nodup) (rep : Paired (TupR L H) kvs' xs') : RD L (upd H a (dctO a es' t')) a kvs' t' :=
  ⟨es', upd_same, h2, hz, by rw [← Array.length_toList, e1, List.length_map]; exact (Paired.length rep).symm, .inr ⟨xs', (TupD.mono (Tp.write h1 notTup_dct.1 notTup_dct.2) ⟨e1, n1, rep⟩)⟩⟩
theorem dct_set {Q : Unit → Shared → Prop} (hu : A.units + 10 < cLine) (I : Inv X pins σ H s) (rs : RS (lay X c) H S) (hs : S a = some (.dct kvs t)) (ok : kindOk kvs k = true) (rk : RV X.K H k x) (ru : RelV x u) (rv : RV X.K H v y) (rr : RelV y r) (hz : kvs.length < line)
    (h : ∀ s' H' t', Inv X pins σ H' s' → Stp (lay X c) H S H' (up S a (.dct (dput kvs k v) t')) → RS (lay X c) H' (up S a (.dct (dput kvs k v) t')) → Q () s') : wpAny (model X.prog X.w) A (setItem (.ref a) u r) Q E s := by
  have rd : RD (lay X c) H a kvs t := rs a _ hs
  have hl : (dput kvs k v).length ≤ sizeLine := by
    have := dput_length k v kvs
    rw [line_eq] at hz
    omega
  cases nt : isTup k with
  | false =>
    obtain ⟨es, B, lvs, l, h1, h2, h3, hk, d⟩ := rd.leaf ok nt
    have dd := dictOf_of I h1 d
    refine wpAny_setItem_pairs (hsz := by rw [← Paired.length d.rep]; exact h3) ((encOf X.prog X.w B).is hk rk ru) dd fun h' dd' sb => ?_
    obtain ⟨o, es', t', e1, e2, e3, e4, e5, e6⟩ := dd'
    have J := dct_write (t' := t') (tk := s.toks + 1) I h1 sb ⟨o, e1, e2, e3⟩
    have tp : Tp X.K H (upd H a (dctO a es' t')) := Tp.write h1 notTup_dct.1 notTup_dct.2
    exact h _ _ t' J (Stp.write h1 notTup_dct.1 notTup_dct.2 hs) (RS.upd rs tp (leaf_new (L := lay X c) (B := B) h1 h2 hl e4 e5 e6 (leaf_put hk rv rr d.nd d.rep)))
  | true =>
    obtain ⟨es, xs, h1, h2, h3, d⟩ := rd.tup ok nt
    obtain ⟨b, rfl⟩ := isTup_ref nt rk
    cases ru
    refine wpAny_setItem_heap (knd := nestedKind X.prog X.w) (hsz := by rw [← Paired.length d.rep]; exact h3) (by show A.units + 1 + 8 < cLine; omega) (keyH_of I (kind_mod ok).1 (kind_mod ok).2 rk) (dictH_of I h1 d) fun h' dd' sb => ?_
    obtain ⟨o, es', t', e1, e2, e3, e4, e5, e6⟩ := dd'
    have J := dct_write (t' := t') (tk := s.toks + (nestedKind X.prog X.w).draws k.nk) I h1 sb ⟨o, e1, e2, e3⟩
    have tp : Tp X.K H (upd H a (dctO a es' t')) := Tp.write h1 notTup_dct.1 notTup_dct.2
    exact h _ _ t' J (Stp.write h1 notTup_dct.1 notTup_dct.2 hs) (RS.upd rs tp (tup_new (L := lay X c) h1 h2 hl e4 e6 (tup_put nt (kind_mod ok).1 (kind_mod ok).2 rk rv rr d.nd d.rep)))
theorem dct_len {Q : Value → Shared → Prop} (I : Inv X pins σ H s) (rd : RD (lay X c) H a kvs t) (h : ∀ tk s', Inv X pins σ H s' → Q (.int kvs.length tk) s') : wpAny (model X.prog X.w) A (call (.builtin "len") [.ref a]) Q E s := by
  obtain ⟨es, h1, h2, h3, h4, h5⟩ := rd
  have z := raw_of I h1
  have hl : (kvs.length : Int) < 2 ^ 63 := by rw [sizeLine_eq] at h3; omega
  have h' : ∀ tk s', Inv X pins σ H s' → Q (.int es.size tk) s' := by rw [h4]; exact h
  exact PyProof.Rows.call_len_slot (n := es.size) z.typeIs F.slot_dict_len (fun Q' hq => call_meetsIn F.slot_dict_len z.typeIs F.entry_dict_len (F.args_dict_len_1 _) (meets_dict_len_raw a h2) ⟨es, t, z, hq⟩) (by omega) (by omega) (h' _ _ (I.tok _))
end
end DL

set_option autoImplicit true
set_option Elab.async false
set_option linter.all false
set_option maxRecDepth 100000
set_option maxHeartbeats 1000000
/-! Own layer, part 3c: comparisons, subscripts, built-ins by values. -/
namespace DL
open PySem PySem.Spec PyProof.Rows L2

mutual
theorem dp_of {K : PySem.W.Frag} {H : Hp} : ∀ (v : Val) (u : V), v.dat = true → RV K H v u → Dp K H u v.py
  | .non, u, _, h => by cases h; exact .non
  | .bl b, u, _, h => by cases h; exact .bl b
  | .int i, u, _, h => by cases h; exact .int i
  | .str x, u, _, h => by cases h; exact .str x
  | .tup xs, u, d, h => by
    obtain ⟨a, vs, rfl, hq, hr⟩ := h
    exact .tup hq (dps_of xs vs d hr)
  | .ref _, _, d, _ => by cases d
  | .lst _, _, d, _ => by cases d
theorem dps_of {K : PySem.W.Frag} {H : Hp} : ∀ (vs : List Val) (us : List V), Val.dats vs = true → RVs K H vs us → DpAll K H us (Val.pys vs)
  | [], us, _, h => by cases h; exact .nil
  | v :: vs, us, d, h => by
    obtain ⟨u, q, rfl, h1, h2⟩ := h
    have d' : v.dat = true ∧ Val.dats vs = true := by simpa [Val.dats] using d
    exact .cons (dp_of v u d'.1 h1) (dps_of vs q d'.2 h2)
end
mutual
theorem see_dp {L : Lay} {H : Hp} {S : Sto} (rs : RS L H S) : ∀ (n : Nat) (v : Val) (w : Val) (u : V), Sto.see S n v = some w → RV L.K H v u → Dp L.K H u w.py
  | 0, v, w, u, e, h => by
    unfold Sto.see at e
    split at e
    · rename_i d
      cases e
      exact dp_of v u d h
    · cases e
  | n + 1, v, w, u, e, h => by
    unfold Sto.see at e
    split at e
    · rename_i d
      cases e
      exact dp_of v u d h
    · cases v with
      | ref a =>
        cases h
        simp only at e
        split at e
        · rename_i xs q
          cases z : Sto.sees S n xs with
          | none => rw [z] at e; cases e
          | some ys =>
            rw [z] at e
            have e' : Val.lst ys = w := Option.some.inj e
            subst e'
            obtain ⟨vs, h1, h2⟩ := rs a _ q
            exact .lst (SqL.of h1) (sees_dp rs n xs ys vs z h2)
        · cases e
      | lst xs =>
        simp only at e
        obtain ⟨a, vs, rfl, h1, h2⟩ := h
        cases z : Sto.sees S n xs with
        | none => rw [z] at e; cases e
        | some ys =>
          rw [z] at e
          have e' : Val.lst ys = w := Option.some.inj e
          subst e'
          exact .lst h1.sq (sees_dp rs n xs ys vs z h2)
      | _ => cases e
theorem sees_dp {L : Lay} {H : Hp} {S : Sto} (rs : RS L H S) : ∀ (n : Nat) (vs : List Val) (ws : List Val) (us : List V), Sto.sees S n vs = some ws → RVs L.K H vs us → DpAll L.K H us (Val.pys ws)
  | n, [], ws, us, e, h => by
    unfold Sto.sees at e
    cases e
    cases h
    exact .nil
  | n, v :: vs, ws, us, e, h => by
    unfold Sto.sees at e
    obtain ⟨u, q, rfl, h1, h2⟩ := h
    cases z : Sto.see S n v with
    | none => rw [z] at e; cases e
    | some y =>
      cases z2 : Sto.sees S n vs with
      | none => rw [z, z2] at e; cases e
      | some ys =>
        rw [z, z2] at e
        have e' : y :: ys = ws := Option.some.inj e
        subst e'
        exact .cons (see_dp rs n v y u z h1) (sees_dp rs n vs ys q z2 h2)
end
mutual
theorem py_plain : ∀ v : Val, v.py.plain = true
  | .non => rfl
  | .bl _ => rfl
  | .int _ => rfl
  | .str _ => rfl
  | .tup xs => pys_plain xs
  | .lst xs => pys_plain xs
  | .ref _ => rfl
theorem pys_plain : ∀ vs : List Val, PyData.plainAll (Val.pys vs) = true
  | [] => rfl
  | v :: vs => by
    show (v.py.plain && PyData.plainAll (Val.pys vs)) = true
    rw [py_plain v, pys_plain vs]
    rfl
end
mutual
theorem py_depth : ∀ v : Val, v.py.depth = v.dep
  | .non => rfl
  | .bl _ => rfl
  | .int _ => rfl
  | .str _ => rfl
  | .tup xs => congrArg (· + 1) (pys_depth xs)
  | .lst xs => congrArg (· + 1) (pys_depth xs)
  | .ref _ => rfl
theorem pys_depth : ∀ vs : List Val, PyData.depthAll (Val.pys vs) = Val.deps vs
  | [] => rfl
  | v :: vs => by
    show max v.py.depth (PyData.depthAll (Val.pys vs)) = max v.dep (Val.deps vs)
    rw [py_depth v, pys_depth vs]
end
theorem withO_some {α : Type} {o : Option α} {k : α → Prop} (h : withO o k) : ∃ a, o = some a ∧ k a := by
  cases o with
  | none => exact h.elim
  | some a => exact ⟨a, rfl, h⟩
theorem withB_some {v : Val} {k : Bool → Prop} (h : withB v k) : ∃ b, v = .bl b ∧ k b := by
  cases v with
  | bl b => exact ⟨b, rfl, h⟩
  | _ => exact h.elim
theorem veqAny_any (x : Val) : ∀ ys : List Val, veqAny x ys = (Val.pys ys).any fun y => PyData.eqv y x.py
  | [] => rfl
  | y :: ys => by
    show (y.veq x || veqAny x ys) = (PyData.eqv y.py x.py || (Val.pys ys).any fun y => PyData.eqv y x.py)
    rw [veqAny_any x ys]
    rfl

section
variable {X : Cx} {c : LC}
theorem o_eq (hu : X.A.units + 120 < cLine) : OpR X (compareOp .Eq) (rv2 (lay X c) (wCmp .eq)) := by
  intro pins s σ H x y v u Q I rx ry h
  obtain ⟨v1, v2, S, Qd, h1, h2, hs, hf, k⟩ := h
  obtain ⟨a, ea, hf⟩ := withO_some hf
  obtain ⟨b, eb, hz, hf⟩ := withO_some hf
  obtain ⟨as, ra⟩ := Dp.reads I _ _ _ (see_dp hs 3 v1 a x ea h1) rx
  obtain ⟨bs, rb⟩ := Dp.reads I _ _ _ (see_dp hs 3 v2 b y eb h2) ry
  exact SeqAt.eq_plain ra rb (py_plain a) (py_plain b) (by rw [py_depth, py_depth]; omega) ⟨.bl _, H, I, rfl, k.here hf hs rfl⟩
theorem o_ne (hu : X.A.units + 120 < cLine) : OpR X (compareOp .NotEq) (rv2 (lay X c) (wCmp .ne)) := by
  intro pins s σ H x y v u Q I rx ry h
  obtain ⟨v1, v2, S, Qd, h1, h2, hs, hf, k⟩ := h
  obtain ⟨a, ea, hf⟩ := withO_some hf
  obtain ⟨b, eb, hz, hf⟩ := withO_some hf
  obtain ⟨as, ra⟩ := Dp.reads I _ _ _ (see_dp hs 3 v1 a x ea h1) rx
  obtain ⟨bs, rb⟩ := Dp.reads I _ _ _ (see_dp hs 3 v2 b y eb h2) ry
  exact SeqAt.ne_plain ra rb (py_plain a) (py_plain b) (by rw [py_depth, py_depth]; omega) ⟨.bl _, H, I, rfl, k.here hf hs rfl⟩
theorem o_lt (hu : X.A.units + 120 < cLine) : OpR X (compareOp .Lt) (rv2 (lay X c) (wCmp .lt)) := by
  intro pins s σ H x y v u Q I rx ry h
  obtain ⟨v1, v2, S, Qd, h1, h2, hs, hf, k⟩ := h
  cases v1 with
  | int i =>
    cases v2 with
    | int j =>
      cases h1; cases h2
      exact op_lt pins s σ H _ _ v u Q I rx ry ⟨i, j, rfl, rfl, k.here hf hs rfl⟩
    | _ => exact hf.elim
  | tup xs =>
    cases v2 with
    | tup ys =>
      obtain ⟨ns, e1, hf⟩ := withO_some hf
      obtain ⟨ms, e2, hf⟩ := withO_some hf
      obtain ⟨a, us, rfl, ha, ra⟩ := h1
      obtain ⟨b, ws, rfl, hb, rb⟩ := h2
      have q1 := ints_rv e1 ra
      have q2 := ints_rv e2 rb
      subst q1; subst q2
      exact op_ltT (by omega) pins s σ H _ _ v u Q I rx ry ⟨a, b, ns, ms, rfl, rfl, ha, hb, k.here hf hs rfl⟩
    | _ => exact hf.elim
  | _ => exact hf.elim
theorem o_le : OpR X (compareOp .LtE) (rv2 (lay X c) (wCmp .le)) := by
  intro pins s σ H x y v u Q I rx ry h
  obtain ⟨v1, v2, S, Qd, h1, h2, hs, hf, k⟩ := h
  cases v1 with
  | int i =>
    cases v2 with
    | int j =>
      cases h1; cases h2
      exact op_le pins s σ H _ _ v u Q I rx ry ⟨i, j, rfl, rfl, k.here hf hs rfl⟩
    | _ => exact hf.elim
  | _ => exact hf.elim
theorem o_gt : OpR X (compareOp .Gt) (rv2 (lay X c) (wCmp .gt)) := by
  intro pins s σ H x y v u Q I rx ry h
  obtain ⟨v1, v2, S, Qd, h1, h2, hs, hf, k⟩ := h
  cases v1 with
  | int i =>
    cases v2 with
    | int j =>
      cases h1; cases h2
      exact op_gt pins s σ H _ _ v u Q I rx ry ⟨i, j, rfl, rfl, k.here hf hs rfl⟩
    | _ => exact hf.elim
  | _ => exact hf.elim
theorem o_ge : OpR X (compareOp .GtE) (rv2 (lay X c) (wCmp .ge)) := by
  intro pins s σ H x y v u Q I rx ry h
  obtain ⟨v1, v2, S, Qd, h1, h2, hs, hf, k⟩ := h
  cases v1 with
  | int i =>
    cases v2 with
    | int j =>
      cases h1; cases h2
      exact op_ge pins s σ H _ _ v u Q I rx ry ⟨i, j, rfl, rfl, k.here hf hs rfl⟩
    | _ => exact hf.elim
  | _ => exact hf.elim
theorem o_in (hu : X.A.units + 120 < cLine) : OpR X (compareOp .In) (rv2 (lay X c) (wCmp .isin)) := by
  intro pins s σ H x y v u Q I rx ry h
  obtain ⟨v1, v2, S, Qd, h1, h2, hs, hf, k⟩ := h
  cases v2 with
  | str z =>
    cases v1 with
    | str w =>
      cases h1; cases h2
      exact op_in_str pins s σ H _ _ v u Q I rx ry ⟨w, z, rfl, rfl, k.here hf hs rfl⟩
    | _ => exact hf.elim
  | tup ys =>
    obtain ⟨d, hz, hf⟩ := hf
    obtain ⟨d1, d2⟩ := Bool.and_eq_true_iff.mp d
    obtain ⟨as, ra⟩ := Dp.reads I _ _ _ (dp_of v1 x d1 h1) rx
    obtain ⟨bs, rb⟩ := Dp.reads I _ _ _ (dp_of (.tup ys) y d2 h2) ry
    refine SeqAt.in_tuple_data rb ra (pys_plain ys) (py_plain v1) (by rw [py_depth]; omega) ⟨.bl _, H, I, rfl, k.here (v := .bl _) ?_ hs rfl⟩
    rw [← veqAny_any]
    exact hf
  | ref a =>
    have e2 : y = .ref a := h2
    subst e2
    cases ry
    cases q : S a with
    | none =>
      simp only [wCmp, q] at hf
    | some o =>
      cases o with
      | lst ys =>
        simp only [wCmp, q] at hf
        obtain ⟨d1, hz, hf⟩ := hf
        obtain ⟨zs, e, hf⟩ := withO_some hf
        obtain ⟨us, hl, hr⟩ := hs a _ q
        obtain ⟨as, ra⟩ := Dp.reads I _ _ _ (dp_of v1 x d1 h1) rx
        obtain ⟨bs, rb⟩ := Dp.reads I (.list (Val.pys zs)) (.ref a) (Value.ref a) (Dp.lst (SqL.of hl) (sees_dp hs 3 ys zs us e hr)) rfl
        refine SeqAt.in_list_data rb ra (pys_plain zs) (py_plain v1) (by rw [py_depth]; omega) ⟨.bl _, H, I, rfl, k.here (v := .bl _) ?_ hs rfl⟩
        rw [← veqAny_any]
        exact hf
      | dct kvs t =>
        simp only [wCmp, q] at hf
        exact dct_in (c := c) (by omega) I (hs a _ q) hf.1 h1 rx fun s' J => ⟨.bl _, H, J, rfl, k.here hf.2 hs rfl⟩
      | ins cc fs => simp only [wCmp, q] at hf
  | _ => exact hf.elim
theorem o_notin (hu : X.A.units + 120 < cLine) : OpR X (compareOp .NotIn) (rv2 (lay X c) (wCmp .notin)) := by
  intro pins s σ H x y v u Q I rx ry h
  obtain ⟨v1, v2, S, Qd, h1, h2, hs, hf, k⟩ := h
  cases v2 with
  | str z =>
    cases v1 with
    | str w =>
      cases h1; cases h2
      exact op_notIn_str pins s σ H _ _ v u Q I rx ry ⟨w, z, rfl, rfl, by rw [Bool.not_not]; exact k.here hf hs rfl⟩
    | _ => exact hf.elim
  | tup ys =>
    obtain ⟨d, hz, hf⟩ := hf
    obtain ⟨d1, d2⟩ := Bool.and_eq_true_iff.mp d
    obtain ⟨as, ra⟩ := Dp.reads I _ _ _ (dp_of v1 x d1 h1) rx
    obtain ⟨bs, rb⟩ := Dp.reads I _ _ _ (dp_of (.tup ys) y d2 h2) ry
    refine SeqAt.notIn_tuple_data rb ra (pys_plain ys) (py_plain v1) (by rw [py_depth]; omega) ⟨.bl _, H, I, rfl, k.here (v := .bl _) ?_ hs rfl⟩
    rw [← veqAny_any]
    exact hf
  | ref a =>
    have e2 : y = .ref a := h2
    subst e2
    cases ry
    cases q : S a with
    | none =>
      simp only [wCmp, q] at hf
    | some o =>
      cases o with
      | lst ys =>
        simp only [wCmp, q] at hf
        obtain ⟨d1, hz, hf⟩ := hf
        obtain ⟨zs, e, hf⟩ := withO_some hf
        obtain ⟨us, hl, hr⟩ := hs a _ q
        obtain ⟨as, ra⟩ := Dp.reads I _ _ _ (dp_of v1 x d1 h1) rx
        obtain ⟨bs, rb⟩ := Dp.reads I (.list (Val.pys zs)) (.ref a) (Value.ref a) (Dp.lst (SqL.of hl) (sees_dp hs 3 ys zs us e hr)) rfl
        refine SeqAt.notIn_list_data rb ra (pys_plain zs) (py_plain v1) (by rw [py_depth]; omega) ⟨.bl _, H, I, rfl, k.here (v := .bl _) ?_ hs rfl⟩
        rw [← veqAny_any]
        exact hf
      | dct kvs t =>
        simp only [wCmp, q] at hf
        exact dct_notIn (c := c) (by omega) I (hs a _ q) hf.1 h1 rx fun s' J => ⟨.bl _, H, J, rfl, k.here hf.2 hs rfl⟩
      | ins cc fs => simp only [wCmp, q] at hf
  | _ => exact hf.elim

/-! ### subscripts -/
theorem atI_rv {K : PySem.W.Frag} {H : Hp} {xs : List Val} {us : List V} {i : Int} {v : Val} (r : RVs K H xs us) (e : atI xs i = some v) : ∃ u, atI us i = some u ∧ RV K H v u := by
  unfold atI at e ⊢
  rw [← r.length]
  cases q : ixN xs.length i with
  | none => rw [q] at e; cases e
  | some j =>
    rw [q] at e
    exact r.get e
theorem i_sub (hu : X.A.units + 120 < cLine) : IxR X (rv2 (lay X c) wSub) := by
  intro value slice pins s σ H x y v u Q I rx ry h sub
  obtain ⟨v1, v2, S, Qd, h1, h2, hs, hf, k⟩ := h
  cases v1 with
  | lst xs =>
    cases v2 with
    | int i =>
      obtain ⟨w, e, hf⟩ := withO_some hf
      obtain ⟨a, us, rfl, ha, ra⟩ := h1
      cases h2
      obtain ⟨z, e2, rz⟩ := atI_rv ra e
      exact ix_list value slice pins s σ H _ _ v u Q I rx ry ⟨a, us, i, z, rfl, rfl, ha.sq, e2, k.here hf hs rz⟩ sub
    | _ => exact hf.elim
  | tup xs =>
    cases v2 with
    | int i =>
      obtain ⟨w, e, hf⟩ := withO_some hf
      obtain ⟨a, us, rfl, ha, ra⟩ := h1
      cases h2
      obtain ⟨z, e2, rz⟩ := atI_rv ra e
      exact ix_tup value slice pins s σ H _ _ v u Q I rx ry ⟨a, us, i, z, rfl, rfl, ha, e2, k.here hf hs rz⟩ sub
    | _ => exact hf.elim
  | str z =>
    cases v2 with
    | int i =>
      obtain ⟨hz, hf⟩ := hf
      obtain ⟨w, e, hf⟩ := withO_some hf
      cases h1; cases h2
      exact ix_str value slice pins s σ H _ _ v u Q I rx ry ⟨z, i, w, rfl, rfl, by rw [← line_eq]; exact hz, e, k.here hf hs rfl⟩ sub
    | _ => exact hf.elim
  | ref a =>
    have e1 : x = .ref a := h1
    subst e1
    cases q : S a with
    | none => simp only [wSub, q] at hf
    | some o =>
      cases o with
      | lst xs =>
        cases v2 with
        | int i =>
          simp only [wSub, q] at hf
          obtain ⟨w, e, hf⟩ := withO_some hf
          obtain ⟨us, hl, hr⟩ := hs a _ q
          cases h2
          obtain ⟨z, e2, rz⟩ := atI_rv hr e
          exact ix_list value slice pins s σ H _ _ v u Q I rx ry ⟨a, us, i, z, rfl, rfl, SqL.of hl, e2, k.here hf hs rz⟩ sub
        | _ => simp only [wSub, q] at hf
      | dct kvs t =>
        simp only [wSub, q] at hf
        obtain ⟨ok, hf⟩ := hf
        obtain ⟨w, e, hf⟩ := withO_some hf
        cases rx
        obtain ⟨es, z1, _⟩ := id (hs a _ q)
        exact tail_any (ops := [.ref a, u]) (raw_of I z1).typeIs PySem.F.slot_dict_getitem.lookup (dct_getItem (c := c) (by omega) I (hs a _ q) ok h2 ry e fun s' w' z' J rw' rz => ⟨w', H, J, rz, k.here hf hs rw'⟩) sub
      | ins cc fs => simp only [wSub, q] at hf
  | _ => exact hf.elim
end
end DL

set_option autoImplicit true
set_option Elab.async false
set_option linter.all false
set_option maxRecDepth 100000
set_option maxHeartbeats 1000000
/-! Own layer, part 3d: slices, factors, built-ins, methods of lists, isinstance. -/
namespace DL
open PySem PySem.Spec PyProof.Rows L2

theorem cut_rv {K : PySem.W.Frag} {H : Hp} {xs : List Val} {us : List V} {lo hi : Option Int} (r : RVs K H xs us) : RVs K H (cutL xs lo hi) (cutV us lo hi) := by
  unfold cutL cutV
  rw [r.length]
  exact RVs.take _ (RVs.drop _ r)
def rvsl (L : Lay) : V → Option Int → Option Int → Hp → VK → Prop := fun x lo hi H Q => ∃ v S Qd, RV L.K H v x ∧ RS L H S ∧ wSlice v lo hi S Qd ∧ Cont L H S Qd Q
section
variable {X : Cx} {c : LC}
theorem s_slice : SlR X (rvsl (lay X c)) := by
  intro pins s σ H x v vl vu lo hi sl Q I rx hsl pl pu h
  obtain ⟨v1, S, Qd, h1, hs, hf, k⟩ := h
  cases v1 with
  | tup xs =>
    obtain ⟨a, us, rfl, ha, ra⟩ := h1
    refine sl_tupA pins s σ H _ v vl vu lo hi sl Q I rx hsl pl pu ⟨a, us, rfl, ha, fun e => ?_, fun _ p n => k.tup hf hs (cut_rv ra) n⟩
    have e' : cutL xs lo hi = xs := by
      unfold cutL
      rw [ra.length, e.1, e.2]
      simp [← ra.length]
    have hf' : Qd (.tup (cutL xs lo hi)) S := hf
    rw [e'] at hf'
    exact k.here hf' hs ⟨a, us, rfl, ha, ra⟩
  | str z =>
    obtain ⟨hz, hf⟩ := hf
    cases h1
    refine sl_str pins s σ H _ v vl vu lo hi sl Q I rx hsl pl pu ⟨z, rfl, by rw [← line_eq]; exact hz, ?_⟩
    have e : cutS z lo hi = ⟨(cutL z.cps.toList lo hi).toArray⟩ := by
      unfold cutS cutL
      have : z.cps.toList.length = z.length := by simp [Str.length]
      rw [this]
    rw [e]
    exact k.here hf hs rfl
  | ref a =>
    have e1 : x = .ref a := h1
    subst e1
    cases q : S a with
    | none => simp only [wSlice, q] at hf
    | some o =>
      cases o with
      | lst xs =>
        simp only [wSlice, q] at hf
        obtain ⟨us, hl, hr⟩ := hs a _ q
        exact sl_list pins s σ H _ v vl vu lo hi sl Q I rx hsl pl pu ⟨a, us, rfl, SqL.of hl, fun p n => k.lst hf hs (cut_rv hr) n⟩
      | dct kvs t => simp only [wSlice, q] at hf
      | ins cc fs => simp only [wSlice, q] at hf
  | _ => exact hf.elim

/-! ### factors -/
theorem tuple_mul1 (l : Addr) (items : Array Value) (n : Nat) (dd : Option Addr) (sl : Array (Option Value)) (x : Int) (u : Tok) (c0 : (decide (x < -(2 ^ 63)) || decide (x ≥ 2 ^ 63)) = false) (c1 : (items.isEmpty || x == 1) = true) :
    Meets (Builtin.«tuple.__mul__» ⟨[.ref l, .int x u], []⟩) (fun _ R s => s.heap.get? l = some { cls := .type "tuple", dict := dd, data := .seq items n, slots := sl } ∧ R (.ok (.ret (Value.ref l))) s) :=
  .of_wp fun prog w A R s h => by
    obtain ⟨hp, g, d, tk, os⟩ := s
    obtain ⟨hl, h⟩ := h
    have f1 := AutoSeq1.idx_int
    wp_walk using wpAny_loadPart' hl
    repeat (first
      | (refine wpAny_ite_false (decide_eq_false (by rw [c0]; exact Bool.false_ne_true)) ?_; wp_walk using wpAny_loadPart' hl)
      | (refine wpAny_ite_true (decide_eq_true c1) ?_; wp_walk using wpAny_loadPart' hl))
    exact ⟨_, rfl, h⟩
theorem tuple_mul0 (l : Addr) (items : Array Value) (n : Nat) (dd : Option Addr) (sl : Array (Option Value)) (x : Int) (u : Tok) (c0 : (decide (x < -(2 ^ 63)) || decide (x ≥ 2 ^ 63)) = false) (c1 : (items.isEmpty || x == 1) = false) (c2 : (decide (x ≤ 0) || items.isEmpty) = true) :
    Meets (Builtin.«tuple.__mul__» ⟨[.ref l, .int x u], []⟩) (fun _ R s => s.heap.get? l = some { cls := .type "tuple", dict := dd, data := .seq items n, slots := sl } ∧
      R (.ok (.ret (Value.ref s.heap.objs.size))) { s with heap := s.heap.push { cls := Value.type "tuple", data := Data.seq #[] }, toks := s.toks }) :=
  .of_wp fun prog w A R s h => by
    obtain ⟨hp, g, d, tk, os⟩ := s
    obtain ⟨hl, h⟩ := h
    have f1 := AutoSeq1.idx_int
    wp_walk using wpAny_loadPart' hl
    repeat (first
      | (refine wpAny_ite_false (decide_eq_false (by rw [c0]; exact Bool.false_ne_true)) ?_; wp_walk using wpAny_loadPart' hl)
      | (refine wpAny_ite_false (decide_eq_false (by rw [c1]; exact Bool.false_ne_true)) ?_; wp_walk using wpAny_loadPart' hl)
      | (refine wpAny_ite_true (decide_eq_true c2) ?_; wp_walk using wpAny_loadPart' hl))
    exact ⟨_, rfl, h⟩
end
end DL

set_option autoImplicit true
set_option Elab.async false
set_option autoImplicit false
set_option linter.all false
set_option maxRecDepth 100000
set_option maxHeartbeats 4000000
/-! Own layer: sorted of tuples of whole numbers, any number of them. -/
namespace DL
open PySem PySem.Spec PyProof.Rows L2

/-- a tuple of whole numbers in the heap -/
def NumT (h : Heap) (v : Value) (ns : List Int) : Prop := ∃ a o xs n, v = .ref a ∧ h.get? a = some o ∧ o.cls = .type "tuple" ∧ o.data = .seq xs n ∧ IntsV xs.toList ns
where
  IntsV : List Value → List Int → Prop
  | [], [] => True
  | v :: vs, n :: ns => (∃ t, v = .int n t) ∧ IntsV vs ns
  | _, _ => False
abbrev IntsV := NumT.IntsV
theorem IntsV.length : ∀ {vs : List Value} {ns : List Int}, IntsV vs ns → vs.length = ns.length
  | [], [], _ => rfl
  | _ :: _, _ :: _, h => by simp [IntsV.length h.2]
  | [], _ :: _, h => h.elim
  | _ :: _, [], h => h.elim
theorem NumT.kept {h h' : Heap} {v : Value} {ns : List Int} (p : NumT h v ns) (k : ∀ b o, h.get? b = some o → o.cls = .type "tuple" → h'.get? b = some o) : NumT h' v ns := by
  obtain ⟨a, o, xs, n, e1, e2, e3, e4, e5⟩ := p
  exact ⟨a, o, xs, n, e1, k a o e2 e3, e3, e4, e5⟩
theorem lexLt_irr : ∀ ns : List Int, HT.lexLt ns ns = false
  | [] => rfl
  | n :: ns => by rw [HT.lexLt_cons, if_pos rfl]; exact lexLt_irr ns
theorem lexLt_asym : ∀ {a b : List Int}, HT.lexLt a b = true → HT.lexLt b a = false
  | [], [], h => by cases h
  | [], _ :: _, _ => rfl
  | _ :: _, [], h => by cases h
  | x :: a, y :: b, h => by
    rw [HT.lexLt_cons] at h ⊢
    by_cases e : x = y
    · rw [if_pos e] at h
      rw [if_pos e.symm]
      exact lexLt_asym h
    · rw [if_neg e] at h
      rw [if_neg fun z => e z.symm]
      have := of_decide_eq_true h
      exact decide_eq_false (by omega)
theorem lexLt_ntr : ∀ {a b c : List Int}, HT.lexLt b a = false → HT.lexLt c b = false → HT.lexLt c a = false
  | [], b, c, h1, h2 => by cases c <;> rfl
  | x :: a, [], c, h1, h2 => by cases h1
  | x :: a, y :: b, [], h1, h2 => by cases h2
  | x :: a, y :: b, z :: c, h1, h2 => by
    rw [HT.lexLt_cons] at h1 h2 ⊢
    by_cases e1 : y = x
    · rw [if_pos e1] at h1
      by_cases e2 : z = y
      · rw [if_pos e2] at h2
        rw [if_pos (by omega)]
        exact lexLt_ntr h1 h2
      · rw [if_neg e2] at h2
        have := of_decide_eq_false h2
        rw [if_neg (by omega)]
        exact decide_eq_false (by omega)
    · rw [if_neg e1] at h1
      have q1 := of_decide_eq_false h1
      by_cases e2 : z = y
      · rw [if_neg (by omega)]
        exact decide_eq_false (by omega)
      · rw [if_neg e2] at h2
        have q2 := of_decide_eq_false h2
        rw [if_neg (by omega)]
        exact decide_eq_false (by omega)
theorem swo_nums {α : Type} (k : α → List Int) : SrtO.Swo fun v u => HT.lexLt (k v) (k u) := ⟨fun _ _ h => lexLt_asym h, fun x y z h1 h2 => lexLt_ntr (a := k x) (b := k y) (c := k z) h1 h2⟩
section
variable {prog : Program} {w : World} {A : Around} {s : Shared}
theorem lex_walk {Q : Bool → Shared → Prop} {fin : Bool} : ∀ {xs ys : List Value} {ns ms : List Int} (i : Nat), IntsV xs ns → IntsV ys ms → fin = decide (xs.length < ys.length) → Q (HT.lexLt ns ms) s → PySem.W.KatLex prog w A true fin Q (xs.zip ys) i s
  | [], [], [], [], i, _, _, e, h => PySem.W.kat_nil (by rw [e]; exact h)
  | [], y :: ys, [], m :: ms, i, _, _, e, h => PySem.W.kat_nil (by rw [e, show decide (([] : List Value).length < (y :: ys).length) = true from decide_eq_true (by simp)]; exact h)
  | x :: xs, [], n :: ns, [], i, _, _, e, h => PySem.W.kat_nil (by rw [e, show decide ((x :: xs).length < ([] : List Value).length) = false from decide_eq_false (by simp)]; exact h)
  | x :: xs, y :: ys, n :: ns, m :: ms, i, ⟨⟨t, ex⟩, hx⟩, ⟨⟨u, ey⟩, hy⟩, e, h => by
    subst ex ey
    rw [HT.lexLt_cons] at h
    refine PySem.W.kat_cons (SeqAt.EqAt.int_int n t m u prog w _ _ (PySem.W.kat_go (fun q => ?_) fun q => ?_))
    · have q : n = m := by simpa using q
      rw [if_pos q] at h
      exact PySem.W.kat_yes (lex_walk (i + 1) hx hy (by rw [e]; simp) h)
    · have q : ¬ n = m := by simpa using q
      rw [if_neg q] at h
      refine PySem.W.kat_no ?_
      cases (true && i == 0)
      · exact PySem.W.kat_one _ _ (PyProof.Rows.lt_int (Q := PySem.W.BoolBack Q) h)
      · exact oneLt_int h
theorem nums_cmp {vs : List Value} {k : Value → List Int} (hp : ∀ v ∈ vs, NumT s.heap v (k v)) : SrtO.Cmp prog w A s (tuples' true) (fun p => p.1 ∈ vs) (SrtO.lt2 fun v u => HT.lexLt (k v) (k u)) := by
  intro p q hm hm'
  obtain ⟨a, o, xs, n, e1, e2, e3, e4, e5⟩ := hp _ hm
  obtain ⟨b, o', ys, n', f1, f2, f3, f4, f5⟩ := hp _ hm'
  show wpAny (model prog w) A (keyLt' (tuples' true) p.1 q.1) _ _ s
  rw [show SrtO.lt2 (fun v u => HT.lexLt (k v) (k u)) p q = HT.lexLt (k p.1) (k q.1) from rfl, e1, f1]
  refine PySem.W.kat_lt e2 e4 f2 f4 ?_
  refine lex_walk 0 e5 f5 (by simp) ⟨rfl, ?_⟩
  rw [← e1, ← f1]
theorem nums_firsts {h : Heap} {k : Value → List Int} : ∀ {vs : List Value}, (∀ v ∈ vs, NumT h v (k v) ∧ 0 < (k v).length) → ∃ fs : List Value, PySem.W.KatTups h vs fs ∧ fs.length = vs.length ∧ ∀ f ∈ fs, ∃ x t, f = Value.int x t
  | [], _ => ⟨[], .nil, rfl, fun _ hm => by cases hm⟩
  | v :: vs, hp => by
    obtain ⟨fs, g1, g2, g3⟩ := nums_firsts (vs := vs) fun u hu => hp u (.tail _ hu)
    obtain ⟨⟨a, o, xs, n, e1, e2, e3, e4, e5⟩, hl⟩ := hp v (.head _)
    cases q : xs.toList with
    | nil =>
      rw [q] at e5
      have := IntsV.length e5
      simp at this
      omega
    | cons f r =>
      rw [q] at e5
      cases qk : k v with
      | nil => rw [qk] at hl; cases hl
      | cons m ms =>
        rw [qk] at e5
        obtain ⟨t, rfl⟩ := e5.1
        have e0 : xs[0]? = some (Value.int m t) := by
          rw [← Array.getElem?_toList, q]
          rfl
        subst e1
        refine ⟨.int m t :: fs, PySem.W.KatTups.cons e2 e3 e4 e0 g1, by simp [g2], fun z hz => ?_⟩
        rcases List.mem_cons.mp hz with c | c
        · exact ⟨m, t, c⟩
        · exact g3 z c
theorem nums_sortable {a : Addr} {vs : List Value} {k : Value → List Int} (h0 : 0 < vs.length) (hp : ∀ v ∈ vs, NumT s.heap v (k v) ∧ 0 < (k v).length) (ha : ∀ o, s.heap.get? a = some o → o.cls ≠ .type "tuple") : SrtO.SortableO prog w A s a vs fun v u => HT.lexLt (k v) (k u) := by
  intro h' keep
  have hp' : ∀ v ∈ vs, NumT h' v (k v) ∧ 0 < (k v).length := fun v hm => ⟨(hp v hm).1.kept fun b o e c => keep b o (fun z => ha o (z ▸ e) c) e, (hp v hm).2⟩
  obtain ⟨fs, g1, g2, g3⟩ := nums_firsts hp'
  refine ⟨tuples' true, fun Q E hq => PySem.W.kat_kind (T := .type "int") g1 (by omega) (fun f hm => ?_) (by rfl) ?_, nums_cmp fun v hv => (hp' v hv).1⟩
  · obtain ⟨x, t, rfl⟩ := g3 f hm
    exact .now
  · rw [show (Value.type "int" != Value.type "tuple") = true by decide +kernel]
    exact hq
end
/-- sorted of a list of tuples of whole numbers -/
def rSortNums (K : PySem.W.Frag) : List V → Hp → VK → Prop := fun vs H Q => ∃ (a : Addr) (xs : List V) (k : V → List Int), vs = [V.ref a] ∧ SqL K H a xs ∧ (∀ x ∈ xs, ∃ t, x = V.ref t ∧ SqT K H t ((k x).map V.int) ∧ 0 < (k x).length) ∧
  ∀ ys p, ys.Perm xs → ys.Pairwise (fun u v => HT.lexLt (k v) (k u) = false) → H p = none → Q (.ref p) (upd H p (.lst ys))
theorem intsV_of : ∀ {ns : List Int} {its : List Value}, Vals (ns.map V.int) its → IntsV its ns
  | [], its, h => by cases h; trivial
  | n :: ns, its, h => by
    cases h with
    | cons r rr => exact ⟨r, intsV_of rr⟩
theorem cr_sortNums {X : Cx} : CallR X (.builtin "sorted") (rSortNums X.K) := by
  intro pins s σ H vs us Q I r h
  obtain ⟨a, xs, k, rfl, hs, hx, q⟩ := h
  obtain ⟨its, rv, hl, hz⟩ := I.list hs
  obtain ⟨u, rfl, ru⟩ := vals1 r
  obtain rfl : u = Value.ref a := ru
  obtain ⟨g1, g2⟩ := refs_back rv fun x m => by
    obtain ⟨t, e, _⟩ := hx x m
    exact ⟨t, e⟩
  have hn : ∀ v ∈ its, NumT s.heap v (k (backV v)) ∧ 0 < (k (backV v)).length := fun v hv => by
    obtain ⟨t, rfl⟩ := g2 v hv
    have hm : V.ref t ∈ xs := by rw [g1]; exact List.mem_map.mpr ⟨_, hv, rfl⟩
    obtain ⟨t', e, ht, hp⟩ := hx _ hm
    cases e
    obtain ⟨its2, r2, ⟨o, ho, hc, n, hd⟩, _⟩ := I.tuple ht
    exact ⟨⟨t, o, _, n, rfl, ho, hc, hd, by rw [List.toList_toArray]; exact intsV_of r2⟩, hp⟩
  refine SrtO.sorted_ord (swo_nums fun u => k (backV u)) hl.isList (by rw [← rv.length]; exact hz) (fun h2 h1 b hb kk => ?_) fun out h1 h2 => ?_
  · refine nums_sortable (s := { s with heap := h1 }) (by omega) (fun v hv => ⟨(hn v hv).1.kept fun c o e _ => (kk c o e).2, (hn v hv).2⟩) fun o e c => ?_
    have : some o = some (seqObj "list" its.toArray 0) := e.symm.trans hb
    cases this
    exact absurd (Value.type.inj c) (by decide)
  · have h3 : ∀ u ∈ out, ∃ c, u = Value.ref c := fun u hu => g2 u (h2.perm.mem_iff.mp hu)
    obtain ⟨n, hat⟩ := sortedAll_at s.heap its out.toArray
    have hle : s.heap.objs.size ≤ s.heap.objs.size + 1 := Nat.le_succ _
    have hp : (out.map backV).Perm xs := by
      rw [g1]
      exact h2.perm.map backV
    refine ⟨.ref (s.heap.objs.size + 1), upd H (s.heap.objs.size + 1) (.lst (out.map backV)), I.laid (t' := s.toks) (fun b o e => sortedAll_old e) hle ⟨?_, out, n, vals_back h3, hat⟩, rfl, q _ _ hp (List.pairwise_map.mpr h1) (I.hok.fresh hle)⟩
    rw [hp.length_eq]
    exact hz
end DL

set_option autoImplicit true
set_option Elab.async false
set_option linter.all false
set_option maxRecDepth 100000
set_option maxHeartbeats 1000000
/-! Own layer, part 3e: products, built-ins. -/
namespace DL
open PySem PySem.Spec PyProof.Rows L2
section
variable {X : Cx} {c : LC}
theorem rep1 (xs : List Val) : (List.replicate 1 xs).flatten = xs := by simp
theorem op_mulS : OpR X (binaryOp .Mult) (fun x y H Q => ∃ z k, x = .str z ∧ y = .int k ∧ 0 ≤ k ∧ k ≤ 1000 ∧ z.length ≤ 1000 ∧ Q (.str (srep z k)) H) := by
  intro pins s σ H x y v u Q I rx ry h
  obtain ⟨z, k, rfl, rfl, h0, h1, hz, q⟩ := h
  obtain ⟨t, rfl⟩ := rx
  obtain ⟨t2, rfl⟩ := ry
  have e1 : (decide (k < -(2 ^ 63 : Int)) || decide (k ≥ 2 ^ 63)) = false := by
    rw [decide_eq_false (by omega), decide_eq_false (by omega)]
    rfl
  have hlen : z.length * k.toNat ≤ 1000000 := by
    have e : k.toNat ≤ 1000 := by omega
    exact Nat.mul_le_mul hz e
  refine P.mul_str e1 (fun h2 h3 h4 => ?_) (fun h2 h3 => ?_) ?_
  · have h5 : (1000 : Int) ≤ (2 ^ 63 - 1) / k := by
      refine (Int.le_ediv_iff_mul_le (by omega)).mpr ?_
      omega
    have : (z.length : Int) ≤ 1000 := by omega
    omega
  · unfold Builtin.Str.tooLong
    exact decide_eq_false (by rw [sizeLine_eq]; omega)
  · by_cases h2 : k < 1
    · rw [if_pos h2]
      have hk : k = 0 := by omega
      subst hk
      exact ⟨by decide, .str (srep z 0), H, I.tok _, ⟨_, rfl⟩, q⟩
    · rw [if_neg h2]
      by_cases h3 : (k == 1 || z.length == 0) = true
      · rw [if_pos h3]
        have e : z = srep z k := by
          have rep0 : ∀ (n : Nat), (List.replicate n (#[] : Array Nat)).foldl (· ++ ·) #[] = #[] := by
            intro n
            induction n with
            | zero => rfl
            | succ n ih => rw [List.replicate_succ, List.foldl_cons]; simpa using ih
          rw [Bool.or_eq_true] at h3
          rcases h3 with h3 | h3
          · have : k = 1 := by simpa using h3
            subst this
            obtain ⟨cp⟩ := z
            simp [srep]
          · obtain ⟨cp⟩ := z
            have : cp = #[] := by
              have h4 : cp.size = 0 := eq_of_beq (show (cp.size == 0) = true from h3)
              exact Array.eq_empty_of_size_eq_zero h4
            subst this
            simp [srep, rep0]
        exact ⟨.str (srep z k), H, I, ⟨t, by rw [← e]⟩, q⟩
      · rw [if_neg h3]
        refine ⟨?_, .str (srep z k), H, I.tok _, ⟨_, rfl⟩, q⟩
        have hsz : ∀ (n : Nat) (b : Array Nat), ((List.replicate n z.cps).foldl (· ++ ·) b).size = b.size + n * z.cps.size := by
          intro n
          induction n with
          | zero => intro b; simp
          | succ n ih =>
            intro b
            rw [List.replicate_succ, List.foldl_cons, ih, Array.size_append, Nat.succ_mul]
            omega
        have e : Str.length ⟨(List.replicate k.toNat z.cps).foldl (· ++ ·) #[]⟩ = k.toNat * z.cps.size := by
          show ((List.replicate k.toNat z.cps).foldl (· ++ ·) #[]).size = _
          rw [hsz]
          simp
        rw [e, Nat.mul_comm, sizeLine_eq]
        have : z.cps.size * k.toNat ≤ 1000000 := hlen
        omega
theorem o_mul : OpR X (binaryOp .Mult) (rv2 (lay X c) (wBin .mul)) := by
  intro pins s σ H x y v u Q I rx ry h
  obtain ⟨v1, v2, S, Qd, h1, h2, hs, hf, k⟩ := h
  cases v1 with
  | int i =>
    cases v2 with
    | int j =>
      cases h1; cases h2
      obtain ⟨ok, hf⟩ := hf
      rcases ok with ok | ok
      · exact op_mul pins s σ H _ _ v u Q I rx ry ⟨i, j, rfl, rfl, ok, k.here hf hs rfl⟩
      · exact op_mulW pins s σ H _ _ v u Q I rx ry ⟨i, j, rfl, rfl, ok, k.here hf hs rfl⟩
    | _ => exact hf.elim
  | tup xs =>
    cases v2 with
    | int n =>
      obtain ⟨⟨ne, n0, n1, n2⟩, hf⟩ := hf
      obtain ⟨a, us, rfl, ha, ra⟩ := h1
      cases h2
      have hne : us ≠ [] := fun e => ne (by subst e; exact List.eq_nil_of_length_eq_zero ra.length)
      by_cases hn : 2 ≤ n
      · exact op_repT pins s σ H _ _ v u Q I rx ry ⟨a, n, us, rfl, rfl, ha, hne, hn, n1, by rw [← ra.length]; exact n2, fun p np => k.tup hf hs (RVs.rep ra _) np⟩
      · cases rx
        obtain ⟨t, rfl⟩ := ry
        obtain ⟨its, r, ⟨⟨cls, dd, data, sl⟩, ho, hc, nn, hd⟩, hsz⟩ := I.tuple ha
        simp only at hc hd
        subst hc hd
        have hni : its ≠ [] := fun e => hne (by subst e; cases r; rfl)
        have hi : its.toArray.isEmpty = false := by
          cases its with
          | nil => exact absurd rfl hni
          | cons a b => rfl
        have c0 : (decide (n < -(2 ^ 63)) || decide (n ≥ 2 ^ 63)) = false := by
          rw [decide_eq_false (by omega), decide_eq_false (by omega)] <;> rfl
        by_cases e1 : n = 1
        · subst e1
          refine wpAny_binaryOp_repeat_ref (T := "tuple") (U := "int") (by decide) ⟨_, ho, rfl⟩ (fun s' => typeIs_int s' 1 t) noFill_tuple_mul F.fills_int_mul F.slot_int_rmul repeat_tuple F.slot_int_index.lookup
            (call_meets F.slot_int_rmul (typeIs_int s 1 t) F.entry_int_rmul (F.args_int_rmul_2 _ _) (int_rmul_tuple 1 t a its.toArray nn dd sl)
              ⟨ho, rfl, ⟨_, ho, rfl⟩, call_meets F.slot_tuple_mul ⟨_, ho, rfl⟩ F.entry_tuple_mul (F.args_tuple_mul_2 _ _) (tuple_mul1 a its.toArray nn dd sl 1 t c0 (by rw [hi]; rfl)) ⟨ho, ?_⟩⟩)
          have hf' : Qd (.tup (List.replicate 1 xs).flatten) S := hf
          rw [rep1] at hf'
          exact ⟨.ref a, H, I, rfl, k.here hf' hs ⟨a, us, rfl, ha, ra⟩⟩
        · have e0 : n = 0 := by omega
          subst e0
          refine wpAny_binaryOp_repeat_ref (T := "tuple") (U := "int") (by decide) ⟨_, ho, rfl⟩ (fun s' => typeIs_int s' 0 t) noFill_tuple_mul F.fills_int_mul F.slot_int_rmul repeat_tuple F.slot_int_index.lookup
            (call_meets F.slot_int_rmul (typeIs_int s 0 t) F.entry_int_rmul (F.args_int_rmul_2 _ _) (int_rmul_tuple 0 t a its.toArray nn dd sl)
              ⟨ho, rfl, ⟨_, ho, rfl⟩, call_meets F.slot_tuple_mul ⟨_, ho, rfl⟩ F.entry_tuple_mul (F.args_tuple_mul_2 _ _) (tuple_mul0 a its.toArray nn dd sl 0 t c0 (by rw [hi]; rfl) (by rfl)) ⟨ho, ?_⟩⟩)
          refine ⟨.ref s.heap.objs.size, _, I.laid (t' := s.toks) (o := .tup []) (fun b ob q => Heap.get?_push_of_some _ q) (Nat.le_refl _) ?_, rfl, k.tup (xs := []) hf hs rfl (I.hok.fresh (Nat.le_refl _))⟩
          exact ⟨by rw [sizeLine_eq]; exact Nat.zero_le _, [], .nil, IsTup.new _ _⟩
    | _ => exact hf.elim
  | str z =>
    cases v2 with
    | int n =>
      cases h1; cases h2
      obtain ⟨⟨n0, n1, n2⟩, hf⟩ := hf
      exact op_mulS pins s σ H _ _ v u Q I rx ry ⟨z, n, rfl, rfl, n0, n1, n2, k.here hf hs rfl⟩
    | _ => exact hf.elim
  | ref a =>
    cases v2 with
    | int n =>
      have e1 : x = .ref a := h1
      subst e1
      cases h2
      cases q : S a with
      | none => simp only [wBin, q] at hf
      | some o =>
        cases o with
        | lst xs =>
          simp only [wBin, q] at hf
          obtain ⟨⟨n0, n1, n2⟩, hf⟩ := hf
          obtain ⟨us, hl, hr⟩ := hs a _ q
          exact op_rep pins s σ H _ _ v u Q I rx ry ⟨a, n, us, rfl, rfl, hl, by omega, by omega, by rw [← line_eq, ← hr.length]; exact n2, fun p np => k.lst hf hs (RVs.rep hr _) np⟩
        | dct kvs t => simp only [wBin, q] at hf
        | ins cc fs => simp only [wBin, q] at hf
    | _ => exact hf.elim
  | _ => exact hf.elim

/-- what each tuple holds -/
theorem itups_key {X : Cx} {pins : List (Addr × Obj)} {σ : L2.St} {s : Shared} {H : Hp} {xs : List Val} {ws : List V} {nss : List (List Int)} (I : Inv X pins σ H s) (e : Val.itups xs = some nss) (r : RVs X.K H xs ws) : ∃ kf : V → List Int, (∀ y ∈ ws, ∃ t, y = V.ref t ∧ SqT X.K H t ((kf y).map V.int) ∧ kf y ∈ nss) ∧ ws.map kf = nss := by
  classical
  have key : ∀ {xs : List Val} {ws : List V} {nss : List (List Int)}, Val.itups xs = some nss → RVs X.K H xs ws → Paired (fun y ns => ∃ t, y = V.ref t ∧ SqT X.K H t (ns.map V.int)) ws nss := by
    intro xs
    induction xs with
    | nil => intro ws nss e r; cases e; cases r; exact .nil
    | cons x xs ih =>
      intro ws nss e r
      obtain ⟨u, ws, rfl, r1, r2⟩ := r
      cases x <;> first | (cases e; done) | skip
      rename_i vs
      simp only [Val.itups] at e
      cases e1 : Val.ints vs with
      | none => rw [e1] at e; cases e
      | some ns =>
        cases e2 : Val.itups xs with
        | none => rw [e1, e2] at e; cases e
        | some rs =>
          rw [e1, e2] at e
          cases e
          obtain ⟨a, us, rfl, hq, hr⟩ := r1
          have := ints_rv e1 hr
          subst this
          exact .cons ⟨a, rfl, hq⟩ (ih e2 r2)
  have p := key e r
  have inj : ∀ (a b : List Int), a.map V.int = b.map V.int → a = b := by
    intro a
    induction a with
    | nil => intro b h; cases b with
      | nil => rfl
      | cons _ _ => cases h
    | cons x a ih => intro b h; cases b with
      | nil => cases h
      | cons y b =>
        rw [List.map_cons, List.map_cons] at h
        injection h with h1 h2
        injection h1 with h1
        rw [h1, ih b h2]
  let kf : V → List Int := fun y => if h : ∃ ns : List Int, ∃ t, y = V.ref t ∧ SqT X.K H t (ns.map V.int) then Classical.choose h else []
  have kfe : ∀ y ns, (∃ t, y = V.ref t ∧ SqT X.K H t (ns.map V.int)) → kf y = ns := by
    intro y ns h
    have hex : ∃ ns : List Int, ∃ t, y = V.ref t ∧ SqT X.K H t (ns.map V.int) := ⟨ns, h⟩
    have h1 : kf y = Classical.choose hex := dif_pos hex
    obtain ⟨t, e1, q1⟩ := Classical.choose_spec hex
    obtain ⟨t', e2, q2⟩ := h
    rw [h1]
    rw [e1] at e2
    cases e2
    exact inj _ _ (I.tuple_inj q1 q2)
  refine ⟨kf, ?_, ?_⟩
  · intro y hy
    have : ∀ {ws : List V} {nss : List (List Int)}, Paired (fun y ns => ∃ t, y = V.ref t ∧ SqT X.K H t (ns.map V.int)) ws nss → y ∈ ws → ∃ ns ∈ nss, ∃ t, y = V.ref t ∧ SqT X.K H t (ns.map V.int) := by
      intro ws nss p
      induction p with
      | nil => intro h; cases h
      | cons r _ ih =>
        intro h
        rcases List.mem_cons.mp h with z | z
        · subst z; exact ⟨_, .head _, r⟩
        · obtain ⟨ns, h1, h2⟩ := ih z
          exact ⟨ns, .tail _ h1, h2⟩
    obtain ⟨ns, h1, t, h2, h3⟩ := this p hy
    have e3 := kfe y ns ⟨t, h2, h3⟩
    exact ⟨t, h2, by rw [e3]; exact h3, by rw [e3]; exact h1⟩
  · have : ∀ {ws : List V} {nss : List (List Int)}, Paired (fun y ns => ∃ t, y = V.ref t ∧ SqT X.K H t (ns.map V.int)) ws nss → ws.map kf = nss := by
      intro ws nss p
      induction p with
      | nil => rfl
      | cons r _ ih => rw [List.map_cons, ih, kfe _ _ r]
    exact this p
/-- the built-in that is called -/
def bf : Bt → Value
  | .len => .builtin "len" | .all => .builtin "all" | .any => .builtin "any" | .tuple => .type "tuple" | .list => .type "list" | .dict => .type "dict" | .sorted => .builtin "sorted"
  | .int => .type "int" | .max1 => .builtin "max" | .max2 => .builtin "max" | .min1 => .builtin "min" | .min2 => .builtin "min" | .sum => .builtin "sum" | .str => .type "str"
/-- a list's content, told without the list -/
def rvl (L : Lay) (b : Bt) : List V → Hp → VK → Prop := fun xs H Q => ∃ (a : Addr) (us : List V) (vs : List Val) (S : Sto) (Qd : KV), xs = [.ref a] ∧ H a = some (.lst us) ∧ RVs L.K H vs us ∧ RS L H S ∧ wBtL b vs S Qd ∧ Cont L H S Qd Q
theorem b_list (hc : X.calm = true) : ∀ b : Bt, b ≠ .dict → CallR X (bf b) (rvl (lay X c) b)
  | .len, _ => by
    intro pins s σ H xs us Q I r h
    obtain ⟨a, ws, vs, S, Qd, rfl, hl, rv, hs, hf, k⟩ := h
    exact call_len_seq pins s σ H _ us Q I r ⟨a, ws, rfl, .inl (SqL.of hl), k.here (v := .int ws.length) (by rw [← rv.length]; exact hf) hs rfl⟩
  | .all, _ => by
    intro pins s σ H xs us Q I r h
    obtain ⟨a, ws, vs, S, Qd, rfl, hl, rv, hs, hf, k⟩ := h
    obtain ⟨bs, e, hf⟩ := withO_some hf
    have q := bls_rv e rv
    subst q
    exact cr_all hc pins s σ H _ us Q I r ⟨a, bs, rfl, SqL.of hl, k.here hf hs rfl⟩
  | .any, _ => by
    intro pins s σ H xs us Q I r h
    obtain ⟨a, ws, vs, S, Qd, rfl, hl, rv, hs, hf, k⟩ := h
    obtain ⟨bs, e, hf⟩ := withO_some hf
    have q := bls_rv e rv
    subst q
    exact cr_any hc pins s σ H _ us Q I r ⟨a, bs, rfl, SqL.of hl, k.here hf hs rfl⟩
  | .tuple, _ => by
    intro pins s σ H xs us Q I r h
    obtain ⟨a, ws, vs, S, Qd, rfl, hl, rv, hs, hf, k⟩ := h
    exact call_tuple_of pins s σ H _ us Q I r ⟨a, ws, rfl, .inl ⟨SqL.of hl, fun p n => k.tup hf hs rv n⟩⟩
  | .list, _ => by
    intro pins s σ H xs us Q I r h
    obtain ⟨a, ws, vs, S, Qd, rfl, hl, rv, hs, hf, k⟩ := h
    exact call_list_of pins s σ H _ us Q I r ⟨a, ws, rfl, .inl (SqL.of hl), fun p n => k.lst hf hs rv n⟩
  | .sum, _ => by
    intro pins s σ H xs us Q I r h
    obtain ⟨a, ws, vs, S, Qd, rfl, hl, rv, hs, hf, k⟩ := h
    obtain ⟨bs, e, hf⟩ := withO_some hf
    have q := ints_rv e rv
    subst q
    exact cr_sum hc pins s σ H _ us Q I r ⟨a, bs, rfl, SqL.of hl, k.here hf hs rfl⟩
  | .max1, _ => by
    intro pins s σ H xs us Q I r h
    obtain ⟨a, ws, vs, S, Qd, rfl, hl, rv, hs, hf, k⟩ := h
    obtain ⟨bs, e, h0, hf⟩ := withO_some hf
    have q := ints_rv e rv
    subst q
    exact cr_max hc pins s σ H _ us Q I r ⟨a, bs, rfl, SqL.of hl, h0, fun m h1 h2 => k.here (hf m h1 h2) hs rfl⟩
  | .min1, _ => by
    intro pins s σ H xs us Q I r h
    obtain ⟨a, ws, vs, S, Qd, rfl, hl, rv, hs, hf, k⟩ := h
    obtain ⟨bs, e, h0, hf⟩ := withO_some hf
    have q := ints_rv e rv
    subst q
    exact cr_min hc pins s σ H _ us Q I r ⟨a, bs, rfl, SqL.of hl, h0, fun m h1 h2 => k.here (hf m h1 h2) hs rfl⟩
  | .sorted, _ => by
    intro pins s σ H xs us Q I r h
    obtain ⟨a, ws, vs, S, Qd, rfl, hl, rv, hs, hf, k⟩ := h
    rcases hf with ⟨ns, e, hf⟩ | ⟨ss, e, hz, hf⟩ | ⟨nss, e, hz, hf⟩
    · have q := ints_rv e rv
      subst q
      exact cr_sortedI pins s σ H _ us Q I r ⟨a, ns, rfl, SqL.of hl, fun ms p h1 h2 n => k.lst (fun p hp => hf p ms h1 h2 hp) hs (rv_ints ms) n⟩
    · have q := strs_rv e rv
      subst q
      exact cr_sortedS pins s σ H _ us Q I r ⟨a, ss, rfl, SqL.of hl, hz, fun ms p h1 h2 n => k.lst (fun p hp => hf p ms h1 h2 hp) hs (rv_strs ms) n⟩
    · classical
      obtain ⟨kf, hk1, hk2⟩ := itups_key I e rv
      refine cr_sortNums pins s σ H _ us Q I r ⟨a, ws, kf, rfl, SqL.of hl, fun y hy => ?_, fun ys p h1 h2 n => ?_⟩
      · obtain ⟨t, e1, e2, e3⟩ := hk1 y hy
        exact ⟨t, e1, e2, hz _ e3⟩
      · have hp : (ys.map kf).Perm nss := by
          rw [← hk2]
          exact h1.map kf
        have hr : RVs (lay X c).K H ((ys.map kf).map fun ns => Val.tup (ns.map .int)) ys := by
          have : ∀ zs : List V, (∀ y ∈ zs, y ∈ ws) → RVs (lay X c).K H ((zs.map kf).map fun ns => Val.tup (ns.map .int)) zs := by
            intro zs
            induction zs with
            | nil => intro _; rfl
            | cons y zs ih =>
              intro hin
              obtain ⟨t, e1, e2, _⟩ := hk1 y (hin y (by simp))
              exact ⟨y, zs, rfl, ⟨t, _, e1, e2, rv_ints _⟩, ih fun z hz => hin z (by simp [hz])⟩
          exact this ys fun y hy => h1.mem_iff.mp hy
        exact k.lst (fun p hp' => hf p _ hp (List.pairwise_map.mpr h2) hp') hs hr n
  | .dict, h => absurd rfl h
  | .int, _ => fun pins s σ H xs us Q I r h => by obtain ⟨a, ws, vs, S, Qd, _, _, _, _, hf, _⟩ := h; exact hf.elim
  | .max2, _ => fun pins s σ H xs us Q I r h => by obtain ⟨a, ws, vs, S, Qd, _, _, _, _, hf, _⟩ := h; exact hf.elim
  | .min2, _ => fun pins s σ H xs us Q I r h => by obtain ⟨a, ws, vs, S, Qd, _, _, _, _, hf, _⟩ := h; exact hf.elim
  | .str, _ => fun pins s σ H xs us Q I r h => by obtain ⟨a, ws, vs, S, Qd, _, _, _, _, hf, _⟩ := h; exact hf.elim
end
end DL

set_option autoImplicit true
set_option Elab.async false
set_option linter.all false
set_option maxRecDepth 100000
set_option maxHeartbeats 2000000
/-! Own layer, part 3f: built-ins of values, methods of lists, stores, isinstance. -/
namespace DL
open PySem PySem.Spec PyProof.Rows L2
section
variable {X : Cx} {c : LC}
/-- what is asked where the argument is a list -/
theorem wBt_ref {b : Bt} {a : Addr} {S : Sto} {Q : KV} (hb : b ≠ .dict) (h : wBt b [.ref a] S Q) : (∃ xs, S a = some (.lst xs) ∧ wBtL b xs S Q) ∨ (b = .len ∧ ∃ kvs t, S a = some (.dct kvs t) ∧ Q (.int kvs.length) S) := by
  cases q : S a with
  | none => cases b <;> simp only [wBt, q] at h
  | some o =>
    cases o with
    | lst xs => exact .inl ⟨xs, rfl, by cases b <;> simp only [wBt, q] at h <;> first | exact h | exact absurd rfl hb⟩
    | dct kvs t => cases b <;> simp only [wBt, q] at h <;> exact .inr ⟨rfl, kvs, t, rfl, h⟩
    | ins cc fs => cases b <;> simp only [wBt, q] at h
theorem b_vals (hc : X.calm = true) (b : Bt) (hb : b ≠ .dict) : CallR X (bf b) (rvs (lay X c) (wBt b)) := by
  intro pins s σ H xs us Q I r h
  obtain ⟨vs, S, Qd, h1, hs, hf, k⟩ := h
  cases vs with
  | nil => cases b <;> exact hf.elim
  | cons v vs =>
    cases vs with
    | nil =>
      obtain ⟨x, rfl, rx⟩ := h1.one
      cases v with
      | ref a =>
        have ex : x = .ref a := rx
        subst ex
        rcases wBt_ref hb hf with ⟨ys, q, hf⟩ | ⟨rfl, kvs, t, q, hf⟩
        · obtain ⟨ws, hl, hr⟩ := hs a _ q
          exact b_list (c := c) hc b hb pins s σ H _ us Q I r ⟨a, ws, ys, S, Qd, rfl, hl, hr, hs, hf, k⟩
        · obtain ⟨u, rfl, ru⟩ := vals1 r
          cases ru
          exact dct_len (c := c) I (hs a _ q) fun tk s' J => ⟨.int _, H, J, ⟨_, rfl⟩, k.here hf hs rfl⟩
      | lst ys =>
        obtain ⟨a, ws, rfl, ha, ra⟩ := rx
        cases b with
        | len => exact call_len_seq pins s σ H _ us Q I r ⟨a, ws, rfl, .inl ha.sq, k.here (v := .int ws.length) (by rw [← ra.length]; exact hf) hs rfl⟩
        | _ => exact hf.elim
      | tup ys =>
        obtain ⟨a, ws, rfl, ha, ra⟩ := rx
        cases b with
        | len => exact call_len_seq pins s σ H _ us Q I r ⟨a, ws, rfl, .inr ha, k.here (v := .int ws.length) (by rw [← ra.length]; exact hf) hs rfl⟩
        | list => exact call_list_of pins s σ H _ us Q I r ⟨a, ws, rfl, .inr ha, fun p n => k.lst hf hs ra n⟩
        | tuple => exact call_tuple_of pins s σ H _ us Q I r ⟨a, ws, rfl, .inr ⟨ha, k.here hf hs ⟨a, ws, rfl, ha, ra⟩⟩⟩
        | _ => exact hf.elim
      | str z =>
        cases rx
        cases b with
        | len => exact call_len_str pins s σ H _ us Q I r ⟨z, rfl, by rw [← line_eq]; exact hf.1, k.here hf.2 hs rfl⟩
        | str => exact hf.elim
        | _ => exact hf.elim
      | int i =>
        cases rx
        cases b with
        | int => exact call_int1 pins s σ H _ us Q I r (.inl ⟨i, rfl, k.here hf hs rfl⟩)
        | str => exact call_str_int pins s σ H _ us Q I r ⟨i, rfl, hf.1, k.here hf.2 hs rfl⟩
        | _ => exact hf.elim
      | bl i =>
        cases rx
        cases b with
        | int => exact call_int1 pins s σ H _ us Q I r (.inr ⟨i, rfl, k.here hf hs rfl⟩)
        | _ => exact hf.elim
      | _ => cases b <;> exact hf.elim
    | cons w ws =>
      cases ws with
      | nil =>
        obtain ⟨x, y, rfl, rx, ry⟩ := h1.two
        cases v with
        | int i =>
          cases w with
          | int j =>
            cases rx; cases ry
            cases b with
            | max2 => exact call_max2 hc pins s σ H _ us Q I r ⟨i, j, rfl, k.here hf hs rfl⟩
            | min2 => exact call_min2 hc pins s σ H _ us Q I r ⟨i, j, rfl, k.here hf hs rfl⟩
            | _ => exact hf.elim
          | _ => cases b <;> exact hf.elim
        | _ => cases b <;> exact hf.elim
      | cons z zs => cases v <;> cases w <;> cases b <;> exact hf.elim
end
end DL

set_option autoImplicit true
set_option Elab.async false
set_option linter.all false
set_option maxRecDepth 100000
set_option maxHeartbeats 2000000
/-! Own layer, part 3g: methods of lists, stores, isinstance. -/
namespace DL
open PySem PySem.Spec PyProof.Rows L2
/-- a method of a list by values -/
def rvm (L : Lay) (m : Mt) : V → List V → Hp → VK → Prop := fun x xs H Q => ∃ (v : Val) (vs : List Val) (S : Sto) (Qd : KV), RV L.K H v x ∧ RVs L.K H vs xs ∧ RS L H S ∧ wMt m v vs S Qd ∧ Cont L H S Qd Q
section
variable {X : Cx} {c : LC}
theorem m_append : MtR X "list.append" (rvm (lay X c) .append) := by
  intro pins s σ H x xs v us Q I rx rv h
  obtain ⟨w, vs, S, Qd, h1, h2, hs, hf, k⟩ := h
  cases w with
  | ref a =>
    cases h1
    cases vs with
    | nil => exact hf.elim
    | cons y ys =>
      cases ys with
      | nil =>
        obtain ⟨u, rfl, ru⟩ := h2.one
        cases q : S a with
        | none => simp only [wMt, q] at hf
        | some o =>
          cases o with
          | lst zs =>
            simp only [wMt, q] at hf
            obtain ⟨ws, hl, hr⟩ := hs a _ q
            exact mt_append pins s σ H _ _ v us Q I rx rv ⟨a, ws, u, rfl, rfl, hl, by rw [← line_eq, ← hr.length]; exact hf.1, k.set hf.2 hs hl q (RVs.append hr (RVs.of1 ru)) rfl⟩
          | dct kvs t => simp only [wMt, q] at hf
          | ins cc fs => simp only [wMt, q] at hf
      | cons _ _ => exact hf.elim
  | _ => exact hf.elim
theorem m_pop : MtR X "list.pop" (rvm (lay X c) .pop) := by
  intro pins s σ H x xs v us Q I rx rv h
  obtain ⟨w, vs, S, Qd, h1, h2, hs, hf, k⟩ := h
  cases w with
  | ref a =>
    cases h1
    cases vs with
    | nil =>
      cases h2
      cases q : S a with
      | none => simp only [wMt, q] at hf
      | some o =>
        cases o with
        | lst zs =>
          simp only [wMt, q] at hf
          obtain ⟨y, e, hf⟩ := withO_some hf
          obtain ⟨ws, hl, hr⟩ := hs a _ q
          obtain ⟨u, e2, ru⟩ := hr.get e
          exact mt_pop pins s σ H _ _ v us Q I rx rv ⟨a, ws, u, rfl, rfl, hl, by rw [← hr.length]; exact e2, k.set hf hs hl q hr.dropLast ru⟩
        | dct kvs t => simp only [wMt, q] at hf
        | ins cc fs => simp only [wMt, q] at hf
    | cons y ys => exact hf.elim
  | _ => exact hf.elim
theorem canLay_findI {f : Val → Bool} : ∀ {xs : List Val} {n j : Nat}, findI f xs n = some j → ∃ i x, j = n + i ∧ xs[i]? = some x ∧ f x = true ∧ ∀ m y, m < i → xs[m]? = some y → f y = false
  | [], n, j, h => by cases h
  | x :: xs, n, j, h => by
    unfold findI at h
    cases e : f x with
    | true =>
      rw [if_pos e] at h
      cases h
      exact ⟨0, x, rfl, rfl, e, fun m y hm => by omega⟩
    | false =>
      rw [if_neg (by rw [e]; decide)] at h
      obtain ⟨i, y, h1, h2, h3, h4⟩ := canLay_findI h
      refine ⟨i + 1, y, by omega, by simpa using h2, h3, fun m z hm hz => ?_⟩
      cases m with
      | zero => simp at hz; rw [← hz]; exact e
      | succ m => exact h4 m z (by omega) (by simpa using hz)
theorem pys_get : ∀ (xs : List Val) (i : Nat), (Val.pys xs)[i]? = (xs[i]?).map Val.py
  | [], i => by simp [Val.pys]
  | x :: xs, 0 => by simp [Val.pys]
  | x :: xs, i + 1 => by simp [Val.pys, pys_get xs i]
theorem m_index (hu : X.A.units + 70 < cLine) : MtR X "list.index" (rvm (lay X c) .index) := by
  intro pins s σ H x xs v us Q I rx rv h
  obtain ⟨w, vs, S, Qd, h1, h2, hs, hf, k⟩ := h
  cases w with
  | ref a =>
    cases h1
    cases vs with
    | nil => exact hf.elim
    | cons y ys =>
      cases ys with
      | nil =>
        obtain ⟨u, rfl, ru⟩ := h2.one
        cases q : S a with
        | none => simp only [wMt, q] at hf
        | some o =>
          cases o with
          | lst zs =>
            simp only [wMt, q, Bool.and_eq_true, decide_eq_true_eq] at hf
            obtain ⟨⟨⟨⟨⟨⟨d1, d2⟩, d3⟩, d4⟩, d5⟩, d6⟩, hf⟩ := hf
            obtain ⟨j, ej, hf⟩ := withO_some hf
            obtain ⟨ws, hl, hr⟩ := hs a _ q
            obtain ⟨i, z, e0, e1, e2, e3⟩ := canLay_findI ej
            rw [Nat.zero_add] at e0
            subst e0
            refine mt_indexD (by omega) pins s σ H _ _ v us Q I rx rv ⟨a, u, y.py, Val.pys zs, j, z.py, rfl, rfl, Dp.lst (SqL.of hl) (dps_of zs ws d2 hr), dp_of y u d1 ru, ?_, ?_, by rw [pys_get, e1]; rfl, e2, fun m z' hm hz => ?_, k.here (v := .int j) hf hs rfl⟩
            · unfold SeqAt.shaped
              rw [Bool.and_eq_true]
              refine ⟨d6, decide_eq_true ?_⟩
              show PyData.depthAll (Val.pys zs) + 1 ≤ 64
              rw [pys_depth]
              omega
            · unfold SeqAt.shaped
              rw [Bool.and_eq_true]
              refine ⟨d5, decide_eq_true ?_⟩
              rw [py_depth]
              omega
            · rw [pys_get] at hz
              cases ez : zs[m]? with
              | none => rw [ez] at hz; cases hz
              | some y' =>
                rw [ez] at hz
                cases hz
                exact e3 m y' hm ez
          | dct kvs t => simp only [wMt, q] at hf
          | ins cc fs => simp only [wMt, q] at hf
      | cons _ _ => exact hf.elim
  | _ => exact hf.elim
theorem m_reverse : MtR X "list.reverse" (rvm (lay X c) .reverse) := by
  intro pins s σ H x xs v us Q I rx rv h
  obtain ⟨w, vs, S, Qd, h1, h2, hs, hf, k⟩ := h
  cases w with
  | ref a =>
    cases h1
    cases vs with
    | nil =>
      cases h2
      cases q : S a with
      | none => simp only [wMt, q] at hf
      | some o =>
        cases o with
        | lst zs =>
          simp only [wMt, q] at hf
          obtain ⟨ws, hl, hr⟩ := hs a _ q
          exact mt_reverse pins s σ H _ _ v us Q I rx rv ⟨a, ws, rfl, rfl, hl, k.set hf hs hl q hr.reverse rfl⟩
        | dct kvs t => simp only [wMt, q] at hf
        | ins cc fs => simp only [wMt, q] at hf
    | cons y ys => exact hf.elim
  | _ => exact hf.elim
/-- xs.extend(t), t a tuple -/
theorem list_extend_tup (l : Addr) (items : Array Value) (n : Nat) (b : Addr) (items2 : Array Value) (n2 : Nat) (dd : Option Addr) (sl : Array (Option Value)) (hs0 : ¬(!items.isEmpty && Builtin.List.listTooLong (items.size + items2.size)) = true) (hs1 : items.size ≤ sizeLine) (hs2 : items.size + items2.size ≤ sizeLine + 1) :
    Meets (Builtin.«list.extend» ⟨[.ref l, .ref b], []⟩) (fun _ R s => s.heap.get? l = some { cls := .type "list", dict := none, data := .seq items n, slots := #[] } ∧ s.heap.get? b = some { cls := .type "tuple", dict := dd, data := .seq items2 n2, slots := sl } ∧ R (.ok (.ret Value.none)) { s with heap := s.heap.update l (Obj.mapSeq fun x => x ++ items2), toks := s.toks }) :=
  .of_wp fun prog w A R s h => by
    obtain ⟨hp, g, d, tk, os⟩ := s; obtain ⟨hl, hb, h⟩ := h; have f1 := AutoSeq1.idx_int; have f2 := AutoSeq1.sub_tuple_tuple; have f3 := AutoSeq1.sub_list_list; have f4 := AutoSeq1.sub_tuple_list; have f5 := AutoSeq1.sub_list_tuple;
    have hz' : (items ++ items2).size ≤ sizeLine + 1 := by rw [Array.size_append]; exact hs2
    wp_walk using (wpAny_updateSeq hl rfl (hz := hs1) (_hz' := hz')), wpAny_loadPart' hl, wpAny_loadPart' hb; exact ⟨_, rfl, h⟩
theorem extend_tup {pins : List (Addr × Obj)} {s : Shared} {σ : L2.St} {H : Hp} {l b : Addr} {xs zs : List V} {Q : VK} (I : Inv X pins σ H s) (hH : H l = some (.lst xs)) (hB : SqT X.K H b zs) (hz : xs.length + zs.length ≤ sizeLine) (q : Q .non (upd H l (.lst (xs ++ zs)))) :
    wpAny (model X.prog X.w) X.A (call (.builtin "list.extend") [.ref l, .ref b]) (EP X pins σ Q) X.xe s := by
  obtain ⟨z, its, n, r, hl, e⟩ := I.lstM hH
  obtain ⟨its2, r2, p2, _⟩ := I.tuple hB
  obtain ⟨⟨cls, dd, data, sl⟩, e2, hc, n2, hd⟩ := id p2
  simp only at hc hd
  subst hc hd
  have hl2 := r2.length
  have hsz : its.toArray.size + its2.toArray.size ≤ sizeLine := by rw [List.size_toArray, List.size_toArray]; omega
  have hlong : ¬ (!its.toArray.isEmpty && Builtin.List.listTooLong (its.toArray.size + its2.toArray.size)) = true := by
    rw [notLongL hsz, Bool.and_false]
    exact Bool.false_ne_true
  refine call_meets F.slot_list_extend ⟨_, e, rfl⟩ F.entry_list_extend (F.args_list_extend_2 _ _)
    (list_extend_tup l its.toArray n b its2.toArray n2 dd sl hlong (by rw [List.size_toArray]; omega) (by omega)) ⟨e, e2, ?_⟩
  refine ⟨.non, _, I.lset (its' := its ++ its2) hH e (by simp) (r.append r2) ?_, rfl, q⟩
  rw [List.length_append]
  omega
theorem m_extend : MtR X "list.extend" (rvm (lay X c) .extend) := by
  intro pins s σ H x xs v us Q I rx rv h
  obtain ⟨w, vs, S, Qd, h1, h2, hs, hf, k⟩ := h
  cases w with
  | ref a =>
    cases h1
    cases vs with
    | nil => exact hf.elim
    | cons y ys =>
      cases ys with
      | nil =>
        obtain ⟨u, rfl, ru⟩ := h2.one
        cases y with
        | ref b =>
          have eu : u = .ref b := ru
          subst eu
          cases q : S a with
          | none => simp only [wMt, q] at hf
          | some o =>
            cases o with
            | lst zs =>
              cases q2 : S b with
              | none => simp only [wMt, q, q2] at hf
              | some o2 =>
                cases o2 with
                | lst ts =>
                  simp only [wMt, q, q2] at hf
                  obtain ⟨ws, hl, hr⟩ := hs a _ q
                  obtain ⟨ps, hl2, hr2⟩ := hs b _ q2
                  exact mt_extend pins s σ H _ _ v us Q I rx rv ⟨a, b, ws, ps, rfl, rfl, hl, hl2, by rw [← line_eq, ← hr.length, ← hr2.length]; exact hf.2.1, k.set hf.2.2 hs hl q (RVs.append hr hr2) rfl⟩
                | dct kvs t => simp only [wMt, q, q2] at hf
                | ins cc fs => simp only [wMt, q, q2] at hf
            | dct kvs t => simp only [wMt, q] at hf
            | ins cc fs => simp only [wMt, q] at hf
        | tup ts =>
          obtain ⟨b, ps, rfl, hb, hr2⟩ := ru
          cases q : S a with
          | none => simp only [wMt, q] at hf
          | some o =>
            cases o with
            | lst zs =>
              simp only [wMt, q] at hf
              obtain ⟨ws, hl, hr⟩ := hs a _ q
              cases rx
              obtain ⟨u, rfl, ru⟩ := rv.one
              cases ru
              exact extend_tup I hl hb (by rw [← line_eq, ← hr.length, ← hr2.length]; exact hf.1) (k.set hf.2 hs hl q (RVs.append hr hr2) rfl)
            | dct kvs t => simp only [wMt, q] at hf
            | ins cc fs => simp only [wMt, q] at hf
        | _ => exact hf.elim
      | cons _ _ => cases y <;> exact hf.elim
  | _ => exact hf.elim

/-! ### o[i] = v -/
def rvset (L : Lay) : V → V → V → Hp → (Hp → Prop) → Prop := fun o i v H Q => ∃ (a b d : Val) (S : Sto) (Qd : Sto → Prop), RV L.K H a o ∧ RV L.K H b i ∧ RV L.K H d v ∧ RS L H S ∧ wSetI a b d S Qd ∧ ∀ S' H', Stp L H S H' S' → Qd S' → RS L H' S' → Q H'
theorem p_set (hu : X.A.units + 120 < cLine) : PSet X (rvset (lay X c)) := by
  intro pins s σ H o i v ov iv u Q I ro ri rv h
  obtain ⟨a, b, d, S, Qd, h1, h2, h3, hs, hf, k⟩ := h
  cases a with
  | ref p =>
    have e1 : o = .ref p := h1
    subst e1
    cases q : S p with
    | none => simp only [wSetI, q] at hf
    | some ob =>
      cases ob with
      | lst xs =>
        cases b with
        | int j =>
          simp only [wSetI, q] at hf
          obtain ⟨m, e, hf⟩ := withO_some hf
          obtain ⟨us, hl, hr⟩ := hs p _ q
          cases h2
          have t : Tp X.K H (upd H p (.lst (us.set m v))) := Tp.write hl (fun _ e => by cases e) (fun _ _ e => by cases e)
          exact set_list pins s σ H _ _ _ ov iv u Q I ro ri rv ⟨p, us, j, m, rfl, rfl, hl, by rw [← hr.length]; exact e,
            k _ _ (Stp.write hl (fun _ e => by cases e) (fun _ _ e => by cases e) q) hf (RS.upd hs t ⟨_, upd_same, RVs.mono t _ _ (RVs.set h3 m hr)⟩)⟩
        | _ => simp only [wSetI, q] at hf
      | dct kvs t =>
        simp only [wSetI, q] at hf
        cases ro
        exact dct_set (c := c) (by omega) I hs q hf.1 h2 ri h3 rv hf.2.1 fun s' H' t' J st rs' => ⟨H', J, k _ _ st (hf.2.2 t') rs'⟩
      | ins cc fs => simp only [wSetI, q] at hf
  | _ => exact hf.elim

/-! ### isinstance -/
def tyN : Ty → String
  | .int => "int" | .bool => "bool" | .str => "str" | .tuple => "tuple" | .list => "list"
theorem kb_int : ∀ t : Ty, kitB "int" (tyN t) = some (decide (t = .int))
  | .int => by decide +kernel
  | .bool => by decide +kernel
  | .str => by decide +kernel
  | .tuple => by decide +kernel
  | .list => by decide +kernel
theorem kb_bool : ∀ t : Ty, kitB "bool" (tyN t) = some (decide (t = .int) || decide (t = .bool))
  | .int => by decide +kernel
  | .bool => by decide +kernel
  | .str => by decide +kernel
  | .tuple => by decide +kernel
  | .list => by decide +kernel
theorem kb_str : ∀ t : Ty, kitB "str" (tyN t) = some (decide (t = .str))
  | .int => by decide +kernel
  | .bool => by decide +kernel
  | .str => by decide +kernel
  | .tuple => by decide +kernel
  | .list => by decide +kernel
theorem kb_tuple : ∀ t : Ty, kitB "tuple" (tyN t) = some (decide (t = .tuple))
  | .int => by decide +kernel
  | .bool => by decide +kernel
  | .str => by decide +kernel
  | .tuple => by decide +kernel
  | .list => by decide +kernel
theorem kb_list : ∀ t : Ty, kitB "list" (tyN t) = some (decide (t = .list))
  | .int => by decide +kernel
  | .bool => by decide +kernel
  | .str => by decide +kernel
  | .tuple => by decide +kernel
  | .list => by decide +kernel
theorem kb_none : ∀ t : Ty, kitB "NoneType" (tyN t) = some false
  | .int => by decide +kernel
  | .bool => by decide +kernel
  | .str => by decide +kernel
  | .tuple => by decide +kernel
  | .list => by decide +kernel
def rvisi (L : Lay) (t : Ty) : List V → Hp → VK → Prop := fun xs H Q => ∃ (x : V) (v : Val) (S : Sto) (Qd : KV), xs = [x, .ty (tyN t)] ∧ RV L.K H v x ∧ RS L H S ∧ tyKnown v S = true ∧ Qd (.bl (tyOf t v S)) S ∧ Cont L H S Qd Q
theorem tyx_tup {K : PySem.W.Frag} {H : Hp} {a : Addr} {vs : List V} (h : SqT K H a vs) : TyX K H (.ref a) (.type "tuple") := by
  rcases h with (h | ⟨o, h⟩) | ⟨o, its, n, h1, h2, _⟩
  · exact .base (.tup h)
  · exact .fTuple h
  · exact .kTuple h1 h2
theorem b_isi (t : Ty) : CallR X (.builtin "isinstance") (rvisi (lay X c) t) := by
  intro pins s σ H xs us Q I r h
  obtain ⟨x, v, S, Qd, rfl, h1, hs, kn, hf, k⟩ := h
  have go : ∀ (T : String) (b : Bool), TyX X.K H x (.type T) → kitB T (tyN t) = some b → b = tyOf t v S → wpAny (model X.prog X.w) X.A (call (.builtin "isinstance") us) (EP X pins σ Q) X.xe s := fun T b ty e eb =>
    call_isi pins s σ H _ us Q I r ⟨x, .ty (tyN t), .type T, .type (tyN t), b, rfl, .ty _, ty, kit_ty e, k.here (v := .bl b) (by rw [eb]; exact hf) hs rfl⟩
  cases v with
  | non => cases h1; exact go _ _ (.base .non) (kb_none t) (by cases t <;> rfl)
  | bl b => cases h1; exact go _ _ (.base (.bl b)) (kb_bool t) (by cases t <;> rfl)
  | int i => cases h1; exact go _ _ (.base (.int i)) (kb_int t) (by cases t <;> rfl)
  | str z => cases h1; exact go _ _ (.base (.str z)) (kb_str t) (by cases t <;> rfl)
  | tup ys =>
    obtain ⟨a, ws, rfl, ha, ra⟩ := h1
    exact go _ _ (tyx_tup ha) (kb_tuple t) (by cases t <;> rfl)
  | ref a =>
    have ex : x = .ref a := h1
    subst ex
    cases q : S a with
    | none => simp only [tyKnown, q] at kn; cases kn
    | some o =>
      cases o with
      | lst ys =>
        obtain ⟨ws, hl, hr⟩ := hs a _ q
        exact go _ _ (.base (.lst hl)) (kb_list t) (by cases t <;> simp [tyOf, q])
      | dct kvs t => simp only [tyKnown, q] at kn; cases kn
      | ins cc fs => simp only [tyKnown, q] at kn; cases kn
  | lst _ => cases kn
end
end DL

set_option autoImplicit true
set_option Elab.async false
set_option linter.all false
set_option maxRecDepth 100000
set_option maxHeartbeats 2000000
/-! Own layer, part 3h: setdefault, get, the empty dict. -/
namespace DL
open PySem PySem.Spec PyProof.Rows L2

section
variable {prog : Program} {w : World} {A : Around} {E : Value → Shared → Prop} {s : Shared} {K : Type} [DecidableEq K] {knd : KeyKind prog w K}
/-- d.setdefault(key, x) over the pairs in order -/
theorem sd_pairs {d : Addr} {ps : List (K × Value)} {l : K} {u x : Value} {Q : Value → Shared → Prop} (hu : knd.is l u = true) (dd : s.heap.DictOf knd d ps) (few : ps.length ≤ sizeLine)
    (there : ∀ y, valueAt ps l = some y → Q y { s with toks := s.toks + 1 })
    (new : valueAt ps l = none → ∀ h2, h2.DictOf knd d (stored ps l x) → Heap.SameBut d s.heap h2 → Q x { s with heap := h2, toks := s.toks + 1 }) : wpAny (model prog w) A (dictSetDefault d u x) Q E s := by
  have mo := Heap.DictOf.mapOf dd
  obtain ⟨ob, ents, tm, at1, cls1, dat1, keys1, prs1, nd1⟩ := dd
  have few2 : ents.size ≤ sizeLine := by
    have e1 := prs1.length
    have e2 : ents.toList.length = ents.size := by simp
    omega
  have le1 : s.heap.DictLe d sizeLine := fun ob2 es2 t2 a2 d2 => by
    rw [at1] at a2
    cases a2
    rw [dat1] at d2
    cases d2
    exact few2
  cases hv : valueAt ps l with
  | some y => exact wpAny_dictSetDefault_of (hz := le1) hu mo (fun z hz => there z hz) fun hn => by rw [hv] at hn; cases hn
  | none =>
    unfold dictSetDefault
    try with_reducible refine wpAny_holding ?_
    refine wpAny_bind (knd.pyHash hu (wpAny_bind (wpAny_dictFind_of (s := { s with toks := s.toks + 1 }) hu at1 dat1 keys1 ?_)))
    have same : (ents.findIdx? fun e => knd.is l e.key) = ps.findIdx? fun p => decide (p.1 = l) := by
      rw [← prs1.findIdx l]; obtain ⟨z⟩ := ents; simp
    cases hi : ents.findIdx? fun e => knd.is l e.key with
    | some i =>
      exfalso
      rw [same] at hi
      have hany := any_of_findIdx_some hi
      rw [List.any_eq_true] at hany
      obtain ⟨p, hp, e⟩ := hany
      have e := of_decide_eq_true e
      have none1 : (ps.find? fun q => decide (q.1 = l)) = none := by simpa [valueAt] using hv
      have no := List.find?_eq_none.mp none1 p hp
      simp [e] at no
    | none =>
      have off : l ∉ ps.map (·.1) := not_mem_of_findIdx_none (same ▸ hi)
      have off2 : ¬ (ps.any fun p => decide (p.1 = l)) = true := fun z => by
        obtain ⟨p, hp, e⟩ := List.any_eq_true.mp z
        exact off (List.mem_map.mpr ⟨p, hp, of_decide_eq_true e⟩)
      refine wpAny_bind (wpAny_rule (wpAny_bind (wpAny_updateDictKeys (hz := few2) (s := { s with toks := s.toks + 1 }) at1 dat1 (wpAny_pure (new hv _
        ⟨_, _, tm + 1, Heap.get?_update_self _ at1 (Obj.isFreed_of_dict (Obj.data_mapDictKeys dat1 _)), cls1.mapDictKeys _, Obj.data_mapDictKeys dat1 _, keys1.push hu _, ?_, ?_⟩ (Heap.SameBut.update ..))))))
      · rw [stored, if_neg off2]
        have more := prs1.append hu (knd.hash l) x
        obtain ⟨z⟩ := ents
        simpa using more
      · rw [stored, if_neg off2, List.map_append, List.nodup_append]
        refine ⟨nd1, by simp, fun p hp q hq e => ?_⟩
        simp only [List.map_cons, List.map_nil, List.mem_singleton] at hq
        exact off (by rw [← hq, ← e]; exact hp)
theorem meets_sd {d : Addr} {l : K} {u : Value} (hu : knd.is l u = true) (hd : (d == sysModules) = false) (x : Value) :
    MeetsIn prog w (Builtin.«dict.setdefault» ⟨[.ref d, u, x], []⟩) (fun _ R s => ∃ ps, s.heap.DictOf knd d ps ∧ ps.length ≤ sizeLine ∧
      (∀ y, valueAt ps l = some y → R (.ok (.ret y)) { s with toks := s.toks + 1 }) ∧
      (valueAt ps l = none → ∀ h2, h2.DictOf knd d (stored ps l x) → Heap.SameBut d s.heap h2 → R (.ok (.ret x)) { s with heap := h2, toks := s.toks + 1 })) :=
  .of_wp fun A R s ⟨ps, dd, few, there, new⟩ => by
    unfold Builtin.«dict.setdefault» Builtin.Dict.keyAndDefault
    refine wpAny_bind (wpAny_bind (wpAny_notOrdered_dict dd.typeIs (wpAny_pure ?_)))
    show wpAny _ _ (if (d == sysModules) = true then _ else (dictSetDefault d u x >>= _)) _ _ s
    rw [if_neg (by rw [hd]; exact Bool.false_ne_true)]
    exact wpAny_bind (sd_pairs hu dd few (fun y hy => wpAny_pure ⟨y, rfl, there y hy⟩) fun hn h2 d2 sb => wpAny_pure ⟨x, rfl, new hn h2 d2 sb⟩)
theorem call_sd {d : Addr} {ps : List (K × Value)} {l : K} {u x : Value} {Q : Value → Shared → Prop} (hu : knd.is l u = true) (hd : (d == sysModules) = false) (dd : s.heap.DictOf knd d ps) (few : ps.length ≤ sizeLine)
    (there : ∀ y, valueAt ps l = some y → Q y { s with toks := s.toks + 1 })
    (new : valueAt ps l = none → ∀ h2, h2.DictOf knd d (stored ps l x) → Heap.SameBut d s.heap h2 → Q x { s with heap := h2, toks := s.toks + 1 }) : wpAny (model prog w) A (call (.builtin "dict.setdefault") [.ref d, u, x]) Q E s :=
  call_meetsIn F.slot_dict_setdefault dd.typeIs F.entry_dict_setdefault (F.args_dict_setdefault_3 _ _ _) (meets_sd hu hd x) ⟨ps, dd, few, there, new⟩
end
section
variable {X : Cx} {c : LC} {A : Around} {E : Value → Shared → Prop} {pins : List (Addr × Obj)} {σ : L2.St} {H : Hp} {s : Shared} {S : Sto} {a : Addr} {kvs : List (Val × Val)} {t : Nat} {k v : Val} {x y : V} {u r : Value}
theorem dct_sd {Q : Value → Shared → Prop} (hu : A.units + 10 < cLine) (I : Inv X pins σ H s) (rs : RS (lay X c) H S) (hs : S a = some (.dct kvs t)) (ok : kindOk kvs k = true) (rk : RV X.K H k x) (ru : RelV x u) (rv : RV X.K H v y) (rr : RelV y r) (hz : kvs.length < line)
    (there : ∀ w, dget kvs k = some w → ∀ s' w' z, Inv X pins σ H s' → RV X.K H w w' → RelV w' z → Q z s')
    (new : dget kvs k = none → ∀ s' H' t', Inv X pins σ H' s' → Stp (lay X c) H S H' (up S a (.dct (dput kvs k v) t')) → RS (lay X c) H' (up S a (.dct (dput kvs k v) t')) → Q r s') : wpAny (model X.prog X.w) A (call (.builtin "dict.setdefault") [.ref a, u, r]) Q E s := by
  have rd : RD (lay X c) H a kvs t := rs a _ hs
  have hl : (dput kvs k v).length ≤ sizeLine := by
    have := dput_length k v kvs
    rw [line_eq] at hz
    omega
  cases nt : isTup k with
  | false =>
    obtain ⟨es, B, lvs, l, h1, h2, h3, hk, d⟩ := rd.leaf ok nt
    have q := leaf_get hk d.rep
    have dd := dictOf_of I h1 d
    refine call_sd ((encOf X.prog X.w B).is hk rk ru) h2 dd (by rw [← Paired.length d.rep]; exact h3) (fun z hz' => ?_) fun hn h' dd' sb => ?_
    · cases e : dget kvs k with
      | none => rw [e] at q; rw [q.none_of] at hz'; cases hz'
      | some w =>
        rw [e] at q
        obtain ⟨z2, w', e2, rw', rz⟩ := q.some_of
        rw [hz'] at e2
        cases e2
        exact there w e _ w' z (I.tok _) rw' rz
    · cases e : dget kvs k with
      | some w =>
        rw [e] at q
        obtain ⟨z2, w', e2, rw', rz⟩ := q.some_of
        rw [hn] at e2
        cases e2
      | none =>
        obtain ⟨o, es', t', e1, e2, e3, e4, e5, e6⟩ := dd'
        have J := dct_write (t' := t') (tk := s.toks + 1) I h1 sb ⟨o, e1, e2, e3⟩
        have tp : Tp X.K H (upd H a (dctO a es' t')) := Tp.write h1 notTup_dct.1 notTup_dct.2
        exact new e _ _ t' J (Stp.write h1 notTup_dct.1 notTup_dct.2 hs) (RS.upd rs tp (leaf_new (L := lay X c) (B := B) h1 h2 hl e4 e5 e6 (leaf_put hk rv rr d.nd d.rep)))
  | true =>
    obtain ⟨es, xs, h1, h2, h3, d⟩ := rd.tup ok nt
    obtain ⟨b, rfl⟩ := isTup_ref nt rk
    cases ru
    have q := tup_get (k := k) d.rep
    have at_none : ∀ p, atKey xs k.nk = some p → valueAt (pairsH xs) k.nk = some p.2 := fun p hp => by rw [valueAt_pairsH, hp]; rfl
    refine call_setdefault_heap (knd := nestedKind X.prog X.w) (hsz := by rw [← Paired.length d.rep]; exact h3) (by show A.units + 1 + 8 < cLine; omega) (keyH_of I (kind_mod ok).1 (kind_mod ok).2 rk) h2 (dictH_of I h1 d) (fun p hp => ?_) fun hn h' dd' sb => ?_
    · cases e : dget kvs k with
      | none => rw [e] at q; have z := at_none p hp; rw [q.none_of] at z; cases z
      | some w =>
        rw [e] at q
        obtain ⟨z2, w', e2, rw', rz⟩ := q.some_of
        rw [at_none p hp] at e2
        cases e2
        exact there w e _ w' p.2 (I.tok _) rw' rz
    · cases e : dget kvs k with
      | some w =>
        rw [e] at q
        obtain ⟨z2, w', e2, rw', rz⟩ := q.some_of
        rw [valueAt_pairsH, hn] at e2
        cases e2
      | none =>
        obtain ⟨o, es', t', e1, e2, e3, e4, e5, e6⟩ := dd'
        have J := dct_write (t' := t') (tk := s.toks + (nestedKind X.prog X.w).draws k.nk) I h1 sb ⟨o, e1, e2, e3⟩
        have tp : Tp X.K H (upd H a (dctO a es' t')) := Tp.write h1 notTup_dct.1 notTup_dct.2
        exact new e _ _ t' J (Stp.write h1 notTup_dct.1 notTup_dct.2 hs) (RS.upd rs tp (tup_new (L := lay X c) h1 h2 hl e4 e6 (tup_put nt (kind_mod ok).1 (kind_mod ok).2 rk rv rr d.nd d.rep)))
end
end DL

set_option autoImplicit true
set_option Elab.async false
set_option linter.all false
set_option maxRecDepth 100000
set_option maxHeartbeats 2000000
/-! Own layer, part 3i: displays of dicts; methods of dicts and lists. -/
namespace DL
open PySem PySem.Spec PyProof.Rows L2
section
variable {X : Cx} {c : LC}
theorem m_setdefault (hu : X.A.units + 10 < cLine) : MtR X "dict.setdefault" (rvm (lay X c) .setdefault) := by
  intro pins s σ H x xs v us Q I rx rv h
  obtain ⟨w, vs, S, Qd, h1, h2, hs, hf, k⟩ := h
  cases w with
  | ref a =>
    cases h1
    match vs, hf, h2 with
    | [y, z], hf, h2 =>
      obtain ⟨u1, u2, rfl, r1, r2⟩ := h2.two
      cases q : S a with
      | none => simp only [wMt, q] at hf
      | some o =>
        cases o with
        | dct kvs t =>
          simp only [wMt, q] at hf
          obtain ⟨ok, hz, hf⟩ := hf
          cases rx
          cases rv with
          | cons rv1 rr =>
            cases rr with
            | cons rv2 rr =>
              cases rr
              refine dct_sd (c := c) hu I hs q ok r1 rv1 r2 rv2 hz (fun w e s' w' z' J rw' rz => ?_) fun e s' H' t' J st rs' => ?_
              · rw [e] at hf
                have hq := hf t
                have e0 : up S a (.dct kvs t) = S := by
                  funext b
                  unfold up
                  split
                  · rename_i e1
                    rw [e1, q]
                  · rfl
                rw [e0] at hq
                exact ⟨w', H, J, rz, k.here hq hs rw'⟩
              · rw [e] at hf
                exact ⟨u2, H', J, rv2, k _ _ _ _ st (hf t') rs' (RV.mono st.tp _ _ r2)⟩
        | lst zs => simp only [wMt, q] at hf
        | ins cc fs => simp only [wMt, q] at hf
    | [], hf, _ => exact hf.elim
    | [_], hf, _ => exact hf.elim
    | _ :: _ :: _ :: _, hf, _ => exact hf.elim
  | _ => exact hf.elim
theorem m_get (hu : X.A.units + 10 < cLine) : MtR X "dict.get" (rvm (lay X c) .get) := by
  intro pins s σ H x xs v us Q I rx rv h
  obtain ⟨w, vs, S, Qd, h1, h2, hs, hf, k⟩ := h
  cases w with
  | ref a =>
    cases h1
    match vs, hf, h2 with
    | [y, z], hf, h2 =>
      obtain ⟨u1, u2, rfl, r1, r2⟩ := h2.two
      cases q : S a with
      | none => simp only [wMt, q] at hf
      | some o =>
        cases o with
        | dct kvs t =>
          simp only [wMt, q] at hf
          obtain ⟨ok, hf⟩ := hf
          cases rx
          cases rv with
          | cons rv1 rr =>
            cases rr with
            | cons rv2 rr =>
              cases rr
              exact dct_getD (c := c) hu I (hs a _ q) ok r1 rv1 r2 rv2 fun s' w' z' J rw' rz => ⟨w', H, J, rz, k.here hf hs rw'⟩
        | lst zs => simp only [wMt, q] at hf
        | ins cc fs => simp only [wMt, q] at hf
    | [], hf, _ => exact hf.elim
    | [_], hf, _ => exact hf.elim
    | _ :: _ :: _ :: _, hf, _ => exact hf.elim
  | _ => exact hf.elim
/-- the raw empty dict -/
theorem raw_empty {P : Program} {w : World} {H : Hp} (h : Heap) : ObjOk P w H (h.push { cls := .type "dict", data := .dict #[] }) h.objs.size (dctO h.objs.size #[] 0) :=
  have z : (h.push { cls := .type "dict", data := .dict #[] }).DictRaw h.objs.size #[] 0 := ⟨_, Heap.get?_push_size _ rfl, ⟨rfl, rfl, rfl⟩, rfl⟩
  ⟨z, let ⟨o, e, _⟩ := z; ⟨o, e⟩, fun h1 h2 q k => q.at k⟩
/-- a new dict's place and pairs -/
theorem rd_empty {L : Lay} {H : Hp} {p : Addr} (h : H p = some (dctO p #[] 0)) (hp : (p == sysModules) = false) : RD L H p [] 0 :=
  ⟨#[], h, hp, Nat.zero_le _, rfl, .inr ⟨[], rfl, List.nodup_nil, .nil⟩⟩
theorem pe_dict0 {pos : Pos} : PE X (.Dict [] [] pos) (fun _ H Q => ∀ p, H p = none → (p == sysModules) = false → Q (.ref p) (upd H p (dctO p #[] 0))) := by
  refine ⟨fun pins s σ H Q I h => wpAny_Dict_empty ?_⟩
  have I1 := I.laid (a := s.heap.objs.size) (o := dctO s.heap.objs.size #[] 0) (h' := s.heap.push { cls := .type "dict", data := .dict #[] }) (t' := s.toks) (fun _ _ q => Heap.get?_push_of_some _ q) (Nat.le_refl _) (raw_empty s.heap)
  exact ⟨.ref s.heap.objs.size, _, I1, rfl, h _ (I.hok.fresh (Nat.le_refl _)) (beq_eq_false_iff_ne.mpr (Ne.symm (Nat.ne_of_lt I.big)))⟩
/-- {k: v} -/
theorem dict1_walk {M : Program} {w : World} {A : Around} {E : Value → Shared → Prop} {env : PySem.Env} {s : Shared} {pk pv : Expr} {pos : Pos} {Q : Value → Shared → Prop}
    (h : wpAny (model M w) A (eval pk env) (fun a s1 => wpAny (model M w) A (eval pv env) (fun b s2 => wpAny (model M w) A (dictSet s.heap.objs.size a b) (fun _ s3 => Q (.ref s.heap.objs.size) s3) E s2) E s1) E { s with heap := s.heap.push { cls := .type "dict", data := .dict #[] } }) :
    wpAny (model M w) A (eval (.Dict [some pk] [pv] pos) env) Q E s := by
  rw [arm_eval_Dict]
  refine wpAny_bind (wpAny_standAt ?_)
  show wpAny _ _ (dictDisplay ((pairTrees [some pk] [pv] env pos).map fun p => (some p.1, p.2))) _ _ _
  rw [dictDisplay_pairs _ (fun z => by cases z) (by show 1 < 17; decide)]
  refine wpAny_bind ?_
  unfold subDict
  refine wpAny_bind (wpAny_alloc (wpAny_bind (wpAny_holding ?_)))
  rw [if_pos (by show 1 ≤ 15; decide)]
  refine wpAny_bind (pairTrees_cons_walk (thn h fun a s1 h1 => thn h1 fun b s2 h2 => pairTrees_nil_walk (wpAny_holding ?_)))
  show wpAny _ _ (forIn [(a, b)] PUnit.unit _ >>= _) _ _ _
  rw [List.forIn_cons]
  refine wpAny_bind (wpAny_bind (wpAny_bind (thn h2 fun _ s3 h3 => ?_)))
  exact wpAny_pure (wpAny_pure (wpAny_pure (wpAny_pure (wpAny_pure h3))))
end
section
variable {X : Cx} {c : LC} {A : Around} {E : Value → Shared → Prop} {pins : List (Addr × Obj)} {σ : L2.St} {H : Hp} {s : Shared} {S : Sto} {a : Addr} {kvs : List (Val × Val)} {t : Nat} {k v : Val} {x y : V} {u r : Value}
/-- a pair stored, below setItem -/
theorem dct_dset {Q : Unit → Shared → Prop} (hu : A.units + 10 < cLine) (I : Inv X pins σ H s) (rs : RS (lay X c) H S) (hs : S a = some (.dct kvs t)) (ok : kindOk kvs k = true) (rk : RV X.K H k x) (ru : RelV x u) (rv : RV X.K H v y) (rr : RelV y r) (hz : kvs.length < line)
    (h : ∀ s' H' t', Inv X pins σ H' s' → Stp (lay X c) H S H' (up S a (.dct (dput kvs k v) t')) → RS (lay X c) H' (up S a (.dct (dput kvs k v) t')) → Q () s') : wpAny (model X.prog X.w) A (dictSet a u r) Q E s := by
  have rd : RD (lay X c) H a kvs t := rs a _ hs
  have hl : (dput kvs k v).length ≤ sizeLine := by
    have := dput_length k v kvs
    rw [line_eq] at hz
    omega
  cases nt : isTup k with
  | false =>
    obtain ⟨es, B, lvs, l, h1, h2, h3, hk, d⟩ := rd.leaf ok nt
    have dd := dictOf_of I h1 d
    refine wpAny_dictSet_pairs (hsz := by rw [← Paired.length d.rep]; exact h3) ((encOf X.prog X.w B).is hk rk ru) dd fun h' dd' sb => ?_
    obtain ⟨o, es', t', e1, e2, e3, e4, e5, e6⟩ := dd'
    have J := dct_write (t' := t') (tk := s.toks + 1) I h1 sb ⟨o, e1, e2, e3⟩
    have tp : Tp X.K H (upd H a (dctO a es' t')) := Tp.write h1 notTup_dct.1 notTup_dct.2
    exact h _ _ t' J (Stp.write h1 notTup_dct.1 notTup_dct.2 hs) (RS.upd rs tp (leaf_new (L := lay X c) (B := B) h1 h2 hl e4 e5 e6 (leaf_put hk rv rr d.nd d.rep)))
  | true =>
    obtain ⟨es, xs, h1, h2, h3, d⟩ := rd.tup ok nt
    obtain ⟨b, rfl⟩ := isTup_ref nt rk
    cases ru
    refine wpAny_dictSet_heap (knd := nestedKind X.prog X.w) (hsz := by rw [← Paired.length d.rep]; exact h3) (by show A.units + 8 < cLine; omega) (keyH_of I (kind_mod ok).1 (kind_mod ok).2 rk) (dictH_of I h1 d) fun h' dd' sb => ?_
    obtain ⟨o, es', t', e1, e2, e3, e4, e5, e6⟩ := dd'
    have J := dct_write (t' := t') (tk := s.toks + (nestedKind X.prog X.w).draws k.nk) I h1 sb ⟨o, e1, e2, e3⟩
    have tp : Tp X.K H (upd H a (dctO a es' t')) := Tp.write h1 notTup_dct.1 notTup_dct.2
    exact h _ _ t' J (Stp.write h1 notTup_dct.1 notTup_dct.2 hs) (RS.upd rs tp (tup_new (L := lay X c) h1 h2 hl e4 e6 (tup_put nt (kind_mod ok).1 (kind_mod ok).2 rk rv rr d.nd d.rep)))
end
end DL

set_option autoImplicit true
set_option Elab.async false
set_option linter.all false
set_option maxRecDepth 100000
set_option maxHeartbeats 2000000
/-! Own layer, part 4: a text is the tree; what is known of names. -/
namespace DL
open PySem PySem.Spec PyProof.Rows L2

/-- names of a def: slots; defs and classes by number (with how many arguments) -/
structure Tab where
  N : List Str
  fns : List (Str × Nat)
  cls : List (Str × Nat)
  exs : List (Str × Nat)
def visC (sc : Scope) (x : Str) : Bool := match sc.names.lookup x with
  | some .local => true
  | some .cell => true
  | some .free => true
  | _ => false
def locC (sc : Scope) (x : Str) : Bool := match sc.names.lookup x with
  | some .local => true
  | some .cell => true
  | _ => false
def gloC (sc : Scope) (x : Str) : Bool := match sc.names.lookup x with
  | some .globalImplicit => true
  | _ => false
def nameC (x : Str) : Bool := !(x == ("__debug__" : Str)) && !(x == ("__classdict__" : Str)) && !decide (x = ("__name__" : Str))
def bN : Bt → Str
  | .len => "len" | .all => "all" | .any => "any" | .tuple => "tuple" | .list => "list" | .dict => "dict" | .sorted => "sorted"
  | .int => "int" | .max1 => "max" | .max2 => "max" | .min1 => "min" | .min2 => "min" | .sum => "sum" | .str => "str"
def mN : Mt → Str
  | .append => "append" | .extend => "extend" | .index => "index" | .count => "count" | .pop => "pop" | .reverse => "reverse" | .setdefault => "setdefault" | .get => "get" | .split => "split" | .find => "find"
def mOk : Mt → Bool
  | .append => true | .extend => true | .pop => true | .reverse => true | .index => true | _ => false
def dOk : Mt → Bool
  | .setdefault => true | .get => true | _ => false
def tN : Ty → Str
  | .int => "int" | .bool => "bool" | .str => "str" | .tuple => "tuple" | .list => "list"
def bopC : Bop → Operator → Bool
  | .add, .Add => true | .sub, .Sub => true | .mul, .Mult => true | .fdiv, .FloorDiv => true | .mod, .Mod => true | .pow, .Pow => true | _, _ => false
def copC : Cop → CmpOp → Bool
  | .eq, .Eq => true | .ne, .NotEq => true | .lt, .Lt => true | .le, .LtE => true | .gt, .Gt => true | .ge, .GtE => true | .isin, .In => true | .notin, .NotIn => true | _, _ => false
/-- neither a set's display, a slice, a starred one, nor a call without arguments -/
def plainX : Expr → Bool
  | .Set .. => false
  | .Slice .. => false
  | .Starred .. => false
  | .Call (.Name _ _) [] [] _ => false
  | _ => true
def Exs.len : Exs → Nat
  | .nil => 0
  | .cons _ r => r.len + 1
def tgC (T : Tab) (sc : Scope) : List Nat → List Expr → Bool
  | [], [] => true
  | i :: r, .Name x _ :: es => decide (T.N[i]? = some x) && locC sc x && tgC T sc r es
  | _, _ => false
def tgtC (T : Tab) (sc : Scope) : Tg → Expr → Bool
  | .one i, .Name x _ => decide (T.N[i]? = some x) && locC sc x
  | .many is, .Tuple es _ _ => tgC T sc is es
  | _, _ => false
def tgSlots : Tg → List Nat
  | .one i => [i]
  | .many is => is
def callC (sc : Scope) (x y : Str) : Bool := decide (x = y) && gloC sc y && nameC y

mutual
def chkE (T : Tab) (sc : Scope) : Ex → Expr → Bool
  | .var i, .Name x _ => decide (T.N[i]? = some x) && visC sc x && nameC x
  | .glob x, .Name y _ => callC sc x y
  | .int i, .Constant (.int j) _ _ => decide (i = j)
  | .bl i, .Constant (.bool j) _ _ => decide (i = j)
  | .str i, .Constant (.str j) _ _ => decide (i = j)
  | .non, .Constant .none _ _ => true
  | .bin o a b, .BinOp pa po pb _ => bopC o po && chkE T sc a pa && chkE T sc b pb
  | .neg a, .UnaryOp .USub pa _ => chkE T sc a pa
  | .not a, .UnaryOp .Not pa _ => chkE T sc a pa
  | .cmp o a b, .Compare pa [po] [pb] _ => copC o po && chkE T sc a pa && chkE T sc b pb && plainX pb
  | .isN a, .Compare pa [.Is] [.Constant .none _ _] _ => chkE T sc a pa
  | .notN a, .Compare pa [.IsNot] [.Constant .none _ _] _ => chkE T sc a pa
  | .chain o p a b c, .Compare pa [po, pp] [pb, pc] _ => copC o po && copC p pp && chkE T sc a pa && chkE T sc b pb && chkE T sc c pc && plainX pb && plainX pc
  | .and a b, .BoolOp .And [pa, pb] _ => chkE T sc a pa && chkE T sc b pb
  | .and a b, .BoolOp .And (pa :: pb :: pc :: r) pos => chkE T sc a pa && chkE T sc b (.BoolOp .And (pb :: pc :: r) pos)
  | .or a b, .BoolOp .Or [pa, pb] _ => chkE T sc a pa && chkE T sc b pb
  | .or a b, .BoolOp .Or (pa :: pb :: pc :: r) pos => chkE T sc a pa && chkE T sc b (.BoolOp .Or (pb :: pc :: r) pos)
  | .tup es, .Tuple pes _ _ => chkEs T sc es pes && decide (es.len ≤ 1000)
  | .lst es, .List pes _ => chkEs T sc es pes && decide (es.len ≤ 1000)
  | .dict0, .Dict [] [] _ => true
  | .dict1 k v, .Dict [some pk] [pv] _ => chkE T sc k pk && chkE T sc v pv
  | .sub a i, .Subscript pa pi _ => chkE T sc a pa && chkE T sc i pi && plainX pi
  | .slice a lo hi, .Subscript pa (.Slice plo phi none _) _ => chkE T sc a pa && chkO T sc lo plo && chkO T sc hi phi
  | .fld a f, .Attribute pa g _ => decide (f = g) && chkE T sc a pa && plainX pa
  | .call f es, .Call (.Name x _) (pe :: pes) [] _ => decide (T.fns.lookup x = some f) && gloC sc x && nameC x && chkEs T sc es (pe :: pes)
  | .new c es, .Call (.Name x _) (pe :: pes) [] _ => decide (T.cls.lookup x = some c) && gloC sc x && nameC x && chkEs T sc es (pe :: pes)
  | .blt b es, .Call (.Name x _) (pe :: pes) [] _ => decide (b ≠ .dict) && callC sc (bN b) x && chkEs T sc es (pe :: pes)
  | .trng (.cons a .nil), .Call (.Name x _) [.Call (.Name y _) [pa] [] _] [] _ => callC sc "tuple" x && callC sc "range" y && chkE T sc a pa && plainX pa
  | .lrng (.cons a .nil), .Call (.Name x _) [.Call (.Name y _) [pa] [] _] [] _ => callC sc "list" x && callC sc "range" y && chkE T sc a pa && plainX pa
  | .bltc b c, .Call (.Name x _) [pe] [] _ => decide (b ≠ .dict) && callC sc (bN b) x && chkC T sc c pe
  | .isi a t, .Call (.Name x _) [pa, .Name y _] [] _ => callC sc "isinstance" x && callC sc (tN t) y && chkE T sc a pa
  | .meth a m es, .Call (.Attribute pa g apos) pes [] pos => (mOk m || dOk m) && decide (g = mN m) && (apos.endLine == pos.line) && plainX pa && chkE T sc a pa && chkEs T sc es pes && decide (es.len < 20)
  | .umeth a m es, .Call (.Attribute pa g apos) pes [] pos => decide (m ≠ "__init__") && decide (g = m) && (apos.endLine == pos.line) && plainX pa && chkE T sc a pa && chkEs T sc es pes && decide (es.len < 20)
  | .comp c, pe => chkC T sc c pe
  | .drop a, pe => chkE T sc a pe
  | _, _ => false
def chkEs (T : Tab) (sc : Scope) : Exs → List Expr → Bool
  | .nil, [] => true
  | .cons a r, pa :: pr => chkE T sc a pa && plainX pa && chkEs T sc r pr
  | _, _ => false
def chkO (T : Tab) (sc : Scope) : Oe → Option Expr → Bool
  | .none, none => true
  | .some a, some pa => chkE T sc a pa
  | _, _ => false
def chkI (T : Tab) (sc : Scope) : Itr → Expr → Expr → Bool
  | .val a, _, pa => chkE T sc a pa && plainX pa
  | .rng es, _, .Call (.Name x _) pes [] _ => callC sc "range" x && chkEs T sc es pes && decide (1 ≤ es.len ∧ es.len ≤ 3)
  | .enum a, .Tuple _ _ _, .Call (.Name x _) [pa] [] _ => callC sc "enumerate" x && chkE T sc a pa && plainX pa
  | .zip a b, .Tuple _ _ _, .Call (.Name x _) [pa, pb] [] _ => callC sc "zip" x && chkE T sc a pa && chkE T sc b pb && plainX pa && plainX pb
  | _, _, _ => false
def chkC (T : Tab) (sc : Scope) : Cmp → Expr → Bool
  | .mk tg own elt it cond, .ListComp pelt [⟨ptg, pit, ifs, 0⟩] scope _ =>
    blkC T.N sc scope (own.map fun i => (T.N.getD i "", i)) && tgtC T scope tg ptg && (tgSlots tg).all (fun i => decide (i ∈ own)) && chkI T sc it ptg pit && plainX pit && chkE T (relS scope sc) elt pelt && chkIf T (relS scope sc) cond ifs
  | _, _ => false
def chkIf (T : Tab) (sc : Scope) : Oe → List Expr → Bool
  | .none, [] => true
  | .some a, [pa] => chkE T sc a pa
  | _, _ => false
end

/-- a promise over the hand layer's heap -/
def lift (L : Lay) (sp : Spec) : Sp := fun vs H Q E => ∃ (args : List Val) (S : Sto) (Qd : KV) (Ed : Nat → Sto → Prop), RVs L.K H args vs ∧ RS L H S ∧ sp args S Qd Ed ∧ Cont L H S Qd Q ∧
  ∀ x S' H', Stp L H S H' S' → Ed x S' → RS L H' S' → E (.ref (L.ex x)) none H'
def Arity (n : Nat) (sp : Spec) : Prop := ∀ args S Q E, sp args S Q E → args.length = n
theorem lift_len {L : Lay} {n : Nat} {sp : Spec} (a : Arity n sp) (vs : List V) (H : Hp) (Q : VK) (E : XK) (h : lift L sp vs H Q E) : vs.length = n := by
  obtain ⟨args, S, Qd, Ed, r, _, h, _⟩ := h
  rw [← r.length]
  exact a _ _ _ _ h

/-- a def stands under a name -/
structure FnAt (P : Program) (w : World) (K : PySem.W.Frag) (mg : Str → Option Value) (base : Heap) (c : LC) (k : Nat) (x : Str) (sp : Spec) : Prop where
  ex : ∃ (a : Addr) (fd : FuncData) (ps : List Str), FnOk P w K mg base (L2.CX P w) k a fd ps (lift ⟨P, w, K, c.ca, c.ex⟩ sp) ∧ mg x = some (.ref a) ∧ PySem.W.keepIn K (.ref a) = true ∧ Binds K fd ps []
theorem FnAt.mono {P : Program} {w : World} {K : PySem.W.Frag} {mg : Str → Option Value} {base : Heap} {c : LC} {k k' : Nat} {x : Str} {sp : Spec} (h : FnAt P w K mg base c k x sp) (l : k ≤ k') : FnAt P w K mg base c k' x sp := by
  obtain ⟨a, fd, ps, h2, h3⟩ := h.ex
  exact ⟨a, fd, ps, h2.mono l, h3⟩
/-- a method of a class -/
structure MtAt (P : Program) (w : World) (K : PySem.W.Frag) (mg : Str → Option Value) (base : Heap) (c : LC) (k : Nat) (ci : Nat) (m : Str) (sp : Spec) : Prop where
  ex : ∃ (a : Addr) (fd : FuncData) (ps : List Str), FnOk P w K mg base (L2.CX P w) k a fd ps (lift ⟨P, w, K, c.ca, c.ex⟩ sp) ∧ Meth K (c.ca ci) m a ∧ Binds K fd ps []
theorem MtAt.mono {P : Program} {w : World} {K : PySem.W.Frag} {mg : Str → Option Value} {base : Heap} {c : LC} {k k' : Nat} {ci : Nat} {m : Str} {sp : Spec} (h : MtAt P w K mg base c k ci m sp) (l : k ≤ k') : MtAt P w K mg base c k' ci m sp := by
  obtain ⟨a, fd, ps, h2, h3⟩ := h.ex
  exact ⟨a, fd, ps, h2.mono l, h3⟩
/-- a class's making -/
structure NewAt (P : Program) (w : World) (K : PySem.W.Frag) (mg : Str → Option Value) (base : Heap) (c : LC) (k : Nat) (x : Str) (ci : Nat) (sp : Spec) : Prop where
  ex : ∃ (j : Nat) (a : Addr) (fd : FuncData) (ps : List Str), j + 1 = k ∧ FnOk P w K mg base (L2.CX P w) j a fd ps (lift ⟨P, w, K, c.ca, c.ex⟩ sp) ∧ Mk K (c.ca ci) a ∧ Cls K (c.ca ci) ∧ mg x = some (.ref (c.ca ci)) ∧ Binds K fd ps []
theorem NewAt.mono {P : Program} {w : World} {K : PySem.W.Frag} {mg : Str → Option Value} {base : Heap} {c : LC} {k k' : Nat} {x : Str} {ci : Nat} {sp : Spec} (h : NewAt P w K mg base c k x ci sp) (l : k ≤ k') : NewAt P w K mg base c k' x ci sp := by
  obtain ⟨j, a, fd, ps, e, h2, h3⟩ := h.ex
  exact ⟨k' - 1, a, fd, ps, by omega, h2.mono (by omega), h3⟩
/-- an own class of exceptions -/
structure ExAt (K : PySem.W.Frag) (mg : Str → Option Value) (c : LC) (x : Str) (ci : Nat) : Prop where
  ex : ∃ (bmB : List Value) (B newId initId : String), ExcBaseFacts B newId initId bmB ∧ PySem.W.excIn K (c.ex ci) bmB newId = true ∧ mg x = some (.ref (c.ex ci)) ∧ PySem.W.keepIn K (.ref (c.ex ci)) = true ∧
    PySem.W.subIn K (.ref (c.ex ci)) (.type "BaseException") = some true ∧ PySem.W.typeIn K (.ref (c.ex ci)) = some (.type "type")
/-- what a text's names mean -/
structure Nm (P : Program) (w : World) (K : PySem.W.Frag) (mg : Str → Option Value) (base : Heap) (c : LC) (G : Cfg) (T : Tab) (k : Nat) : Prop where
  fns : ∀ x f, T.fns.lookup x = some f → ∃ sp, G.fn f = some sp ∧ FnAt P w K mg base c k x sp
  mts : ∀ ci m sp, G.mt ci m = some sp → m ≠ ("__init__" : Str) → MtAt P w K mg base c k ci m sp
  news : ∀ x ci, T.cls.lookup x = some ci → ∃ sp, G.mt ci "__init__" = some sp ∧ NewAt P w K mg base c k x ci sp
  cvs : ∀ x v, G.cv x = some v → ∃ (u : Value) (vv : V), mg x = some u ∧ RelV vv u ∧ ∀ H, RV K H v vv
  blt : ∀ x : Str, x ∈ [("len" : Str), "all", "any", "tuple", "list", "dict", "sorted", "int", "max", "min", "sum", "str", "isinstance", "range", "enumerate", "zip", "bool"] → mg x = none
  nd : T.N.Nodup
  exs : ∀ x ci, T.exs.lookup x = some ci → ExAt K mg c x ci
  exk : ∀ x ci, T.exs.lookup x = some ci → G.ek ci = true
  exc : ∀ x, G.ek x = true → L2.ExcC K (c.ex x)
  exm : ∀ x y, G.ek x = true → G.ek y = true → PySem.W.exmOne K (.ref (c.ex x)) (.ref (c.ex y)) = some (G.sub x y)
  kit : ∀ x y, G.ek x = true → G.ek y = true → PySem.W.kitOne K (.ref (c.ex x)) (.ref (c.ex y)) = some (G.sub x y)
  kitV : ∀ x, G.ek x = true → PySem.W.kitOne K (.ref (c.ex x)) (.type "ValueError") = some (G.sub x 99)
  vale : mg "ValueError" = none
  fls : ∀ ci f, G.fl ci f = true → Cls K (c.ca ci) ∧ NoAttr K (c.ca ci) f

structure XOk (X : Cx) (c : LC) (G : Cfg) (T : Tab) (k : Nat) (sc : Scope) : Prop where
  nm : Nm X.prog X.w X.K X.mg X.base c G T k
  room : Room k X.A
  calm : X.calm = true
  N : X.N = T.N
  sc : X.env.scope = sc
end DL

set_option autoImplicit true
set_option Elab.async false
set_option linter.all false
set_option maxRecDepth 100000
set_option maxHeartbeats 2000000
/-! Own layer, part 5: each construct. -/
namespace DL
open PySem PySem.Spec PyProof.Rows L2

/-! ### facts of forms -/
theorem plain_star {e : Expr} (h : plainX e = true) (es : List Expr) (env : PySem.Env) : starEach (e :: es) env = (false, eval e env) :: starEach es env := by
  cases e <;> first | rfl | cases h
theorem plain_mark {e : Expr} (h : plainX e = true) (op : CmpOp) : behindInMarks op e = false := by
  cases e <;> first | rfl | cases h
theorem plain_ix {e : Expr} (h : plainX e = true) : PlainIx e := by
  intro o i
  cases e <;> first | rfl | cases h
theorem plain_attr {e : Expr} (h : plainX e = true) (f : Str) (env : PySem.Env) : attributeBase e f env (eval e env) = eval e env := by
  cases e with
  | Call fn args kws pos =>
    cases fn with
    | Name id p =>
      cases args with
      | nil =>
        cases kws with
        | nil => cases h
        | cons _ _ => rfl
      | cons _ _ => rfl
    | _ => rfl
  | _ => rfl
theorem plain_fold {e : Expr} (h : plainX e = true) (env : PySem.Env) (x : Value) : foldedSetIterable e env x = pure x := by
  cases e <;> first | rfl | cases h
theorem back_plain {pos : Pos} : ∀ {l : List (Bool × Sem Value)}, (∀ p ∈ l, p.1 = false) → (backTo pos l).any (·.1) = false
  | [], _ => rfl
  | p :: r, h => by
    have h1 := h p (by simp)
    have h2 := back_plain (pos := pos) (l := r) fun q hq => h q (by simp [hq])
    show (p.1 || (backTo pos r).any (·.1)) = false
    rw [h1, h2]
    rfl
theorem PE.imp {X : Cx} {e : Expr} {t t' : TE} (h : PE X e t) (hh : ∀ σ H Q, t' σ H Q → t σ H Q) : PE X e t' := ⟨fun pins s σ H Q I q => h.run pins s σ H Q I (hh _ _ _ q)⟩
theorem PT.imp {X : Cx} {e : Expr} {t t' : TT} (h : PT X e t) (hh : ∀ σ H Q, t' σ H Q → t σ H Q) : PT X e t' := ⟨fun pins s σ H Q I q => h.run pins s σ H Q I (hh _ _ _ q)⟩
theorem PW.imp {X : Cx} {e : Expr} {t t' : TT} (h : PW X e t) (hh : ∀ σ H Q, t' σ H Q → t σ H Q) : PW X e t' := ⟨fun wh pins s σ H Q I q => h.run wh pins s σ H Q I (hh _ _ _ q)⟩
theorem PA.imp {X : Cx} {e : List Expr} {t t' : TA} (h : PA X e t) (hh : ∀ σ H Q, t' σ H Q → t σ H Q) : PA X e t' := ⟨fun pos pins s σ H Q I q => h.run pos pins s σ H Q I (hh _ _ _ q)⟩

/-- what is wanted of a refusal -/
def XW (L : Lay) (W : WX) (E : Nat → Sto → Prop) (σ : L2.St) (H : Hp) (S : Sto) : Prop := ∀ x S' H', Stp L H S H' S' → E x S' → RS L H' S' → W (.ref (L.ex x)) none σ H'
theorem XW.step {L : Lay} {W : WX} {E : Nat → Sto → Prop} {σ : L2.St} {H H' : Hp} {S S' : Sto} (h : XW L W E σ H S) (st : Stp L H S H' S') : XW L W E σ H' S' := fun x S2 H2 st2 e r => h x S2 H2 (st.trans st2) e r
theorem Cont.step {L : Lay} {H H' : Hp} {S S' : Sto} {Qd : KV} {Q : VK} (h : Cont L H S Qd Q) (st : Stp L H S H' S') : Cont L H' S' Qd Q := fun v S2 u H2 st2 q r rv => h v S2 u H2 (st.trans st2) q r rv
def tE (L : Lay) (W : WX) (E : Nat → Sto → Prop) (f : Env → Sto → KV → Prop) : TE := fun σ H Q => ∃ e S Qd, RE L.K H e σ ∧ RS L H S ∧ f e S Qd ∧ Cont L H S Qd Q ∧ XW L W E σ H S
def tT (L : Lay) (W : WX) (E : Nat → Sto → Prop) (f : Env → Sto → KV → Prop) : TT := fun σ H Q => tE L W E f σ H fun x H1 => ∃ b, x = .bl b ∧ Q b H1
def tA (L : Lay) (W : WX) (E : Nat → Sto → Prop) (n : Nat) (f : Env → Sto → (List Val → Sto → Prop) → Prop) : TA := fun σ H Q => ∃ e S Qd, RE L.K H e σ ∧ RS L H S ∧ f e S Qd ∧
  (∀ vs S' us H', Stp L H S H' S' → Qd vs S' → RS L H' S' → RVs L.K H' vs us → vs.length = n → Q us H') ∧ XW L W E σ H S

section
variable {X : Cx} {c : LC} {W : WX} {E : Nat → Sto → Prop} {G : Cfg} {pos : Pos}
theorem q_bin {o : Bop} {po : Operator} {pa pb : Expr} {a b : Ex} (ho : OpR X (binaryOp po) (rv2 (lay X c) (wBin o))) (ha : PE X pa (tE (lay X c) W E (wE G E a))) (hb : PE X pb (tE (lay X c) W E (wE G E b))) :
    PE X (.BinOp pa po pb pos) (tE (lay X c) W E (wE G E (.bin o a b))) := by
  refine PE.imp (pe_op ho ha hb) fun σ H Q h => ?_
  obtain ⟨e, S, Qd, he, hs, hf, k, xw⟩ := h
  simp only [wE] at hf
  refine ⟨e, S, _, he, hs, hf, fun v S1 u H1 st q hs1 rv => ?_, xw⟩
  refine ⟨e, S1, _, he.mono st.tp, hs1, q, fun v2 S2 u2 H2 st2 q2 hs2 rv2' => ?_, xw.step st⟩
  exact ⟨v, v2, S2, Qd, RV.mono st2.tp _ _ rv, rv2', hs2, q2, (k.step st).step st2⟩
theorem q_cmp {o : Cop} {po : CmpOp} {pa pb : Expr} {a b : Ex} (ho : OpR X (compareOp po) (rv2 (lay X c) (wCmp o))) (ha : PE X pa (tE (lay X c) W E (wE G E a))) (hb : PE X pb (tE (lay X c) W E (wE G E b))) (hm : plainX pb = true) :
    PE X (.Compare pa [po] [pb] pos) (tE (lay X c) W E (wE G E (.cmp o a b))) := by
  refine PE.imp (pe_cmpR ho ha hb (plain_mark hm po)) fun σ H Q h => ?_
  obtain ⟨e, S, Qd, he, hs, hf, k, xw⟩ := h
  simp only [wE] at hf
  refine ⟨e, S, _, he, hs, hf, fun v S1 u H1 st q hs1 rv => ?_, xw⟩
  refine ⟨e, S1, _, he.mono st.tp, hs1, q, fun v2 S2 u2 H2 st2 q2 hs2 rv2' => ?_, xw.step st⟩
  exact ⟨v, v2, S2, Qd, RV.mono st2.tp _ _ rv, rv2', hs2, q2, (k.step st).step st2⟩
theorem t_cmp {o : Cop} {po : CmpOp} {pa pb : Expr} {a b : Ex} (ho : OpR X (compareOp po) (rv2 (lay X c) (wCmp o))) (ha : PE X pa (tE (lay X c) W E (wE G E a))) (hb : PE X pb (tE (lay X c) W E (wE G E b))) (hm : plainX pb = true) :
    PT X (.Compare pa [po] [pb] pos) (tT (lay X c) W E (wE G E (.cmp o a b))) := by
  refine PT.imp (pt_cmpR ho ha hb (plain_mark hm po)) fun σ H Q h => ?_
  obtain ⟨e, S, Qd, he, hs, hf, k, xw⟩ := h
  simp only [wE] at hf
  refine ⟨e, S, _, he, hs, hf, fun v S1 u H1 st q hs1 rv => ?_, xw⟩
  refine ⟨e, S1, _, he.mono st.tp, hs1, q, fun v2 S2 u2 H2 st2 q2 hs2 rv2' => ?_, xw.step st⟩
  exact ⟨v, v2, S2, Qd, RV.mono st2.tp _ _ rv, rv2', hs2, q2, (k.step st).step st2⟩
theorem q_sub {pa pb : Expr} {a b : Ex} (hr : IxR X (rv2 (lay X c) wSub)) (ha : PE X pa (tE (lay X c) W E (wE G E a))) (hb : PE X pb (tE (lay X c) W E (wE G E b))) (hm : plainX pb = true) :
    PE X (.Subscript pa pb pos) (tE (lay X c) W E (wE G E (.sub a b))) := by
  refine PE.imp (pe_ix hr ha hb (plain_ix hm)) fun σ H Q h => ?_
  obtain ⟨e, S, Qd, he, hs, hf, k, xw⟩ := h
  simp only [wE] at hf
  refine ⟨e, S, _, he, hs, hf, fun v S1 u H1 st q hs1 rv => ?_, xw⟩
  refine ⟨e, S1, _, he.mono st.tp, hs1, q, fun v2 S2 u2 H2 st2 q2 hs2 rv2' => ?_, xw.step st⟩
  exact ⟨v, v2, S2, Qd, RV.mono st2.tp _ _ rv, rv2', hs2, q2, (k.step st).step st2⟩
theorem q_neg {pa : Expr} {a : Ex} (ha : PE X pa (tE (lay X c) W E (wE G E a))) : PE X (.UnaryOp .USub pa pos) (tE (lay X c) W E (wE G E (.neg a))) := by
  refine PE.imp (pe_un un_neg ha) fun σ H Q h => ?_
  obtain ⟨e, S, Qd, he, hs, hf, k, xw⟩ := h
  simp only [wE] at hf
  refine ⟨e, S, _, he, hs, hf, fun v S1 u H1 st q hs1 rv => ?_, xw⟩
  cases v with
  | int i =>
    cases rv
    exact ⟨i, rfl, (k.step st).here q hs1 rfl⟩
  | _ => exact q.elim
theorem q_not {pa : Expr} {a : Ex} (ha : PE X pa (tE (lay X c) W E (wE G E a))) : PE X (.UnaryOp .Not pa pos) (tE (lay X c) W E (wE G E (.not a))) := by
  refine PE.imp (pe_not ha) fun σ H Q h => ?_
  obtain ⟨e, S, Qd, he, hs, hf, k, xw⟩ := h
  simp only [wE] at hf
  refine ⟨e, S, _, he, hs, hf, fun v S1 u H1 st q hs1 rv => ?_, xw⟩
  obtain ⟨b, rfl, q⟩ := withB_some q
  cases rv
  exact ⟨b, rfl, (k.step st).here q hs1 rfl⟩
theorem t_not {pa : Expr} {a : Ex} (ha : PT X pa (tT (lay X c) W E (wE G E a))) : PT X (.UnaryOp .Not pa pos) (tT (lay X c) W E (wE G E (.not a))) := by
  refine PT.imp (pt_not ha) fun σ H Q h => ?_
  obtain ⟨e, S, Qd, he, hs, hf, k, xw⟩ := h
  simp only [wE] at hf
  refine ⟨e, S, _, he, hs, hf, fun v S1 u H1 st q hs1 rv => ?_, xw⟩
  obtain ⟨b, rfl, q⟩ := withB_some q
  cases rv
  obtain ⟨d, e2, r⟩ := (k.step st).here q hs1 rfl
  cases e2
  exact ⟨b, rfl, r⟩
theorem q_isN {pa : Expr} {a : Ex} {j pos'} (ha : PE X pa (tE (lay X c) W E (wE G E a))) : PE X (.Compare pa [.Is] [.Constant .none j pos'] pos) (tE (lay X c) W E (wE G E (.isN a))) := by
  refine PE.imp (pe_cmp (pc_isN ha)) fun σ H Q h => ?_
  obtain ⟨e, S, Qd, he, hs, hf, k, xw⟩ := h
  simp only [wE] at hf
  refine ⟨e, S, _, he, hs, hf, fun v S1 u H1 st q hs1 rv => ?_, xw⟩
  cases v with
  | non => cases rv; exact (k.step st).here (v := .bl true) q hs1 rfl
  | bl _ => cases rv; exact (k.step st).here (v := .bl false) q hs1 rfl
  | int _ => cases rv; exact (k.step st).here (v := .bl false) q hs1 rfl
  | str _ => cases rv; exact (k.step st).here (v := .bl false) q hs1 rfl
  | tup _ => obtain ⟨_, _, rfl, _⟩ := rv; exact (k.step st).here (v := .bl false) q hs1 rfl
  | ref _ => cases rv; exact (k.step st).here (v := .bl false) q hs1 rfl
  | lst _ => obtain ⟨_, _, rfl, _⟩ := rv; exact (k.step st).here (v := .bl false) q hs1 rfl
theorem q_notN {pa : Expr} {a : Ex} {j pos'} (ha : PE X pa (tE (lay X c) W E (wE G E a))) : PE X (.Compare pa [.IsNot] [.Constant .none j pos'] pos) (tE (lay X c) W E (wE G E (.notN a))) := by
  refine PE.imp (pe_cmp (pc_notN ha)) fun σ H Q h => ?_
  obtain ⟨e, S, Qd, he, hs, hf, k, xw⟩ := h
  simp only [wE] at hf
  refine ⟨e, S, _, he, hs, hf, fun v S1 u H1 st q hs1 rv => ?_, xw⟩
  cases v with
  | non => cases rv; exact (k.step st).here (v := .bl false) q hs1 rfl
  | bl _ => cases rv; exact (k.step st).here (v := .bl true) q hs1 rfl
  | int _ => cases rv; exact (k.step st).here (v := .bl true) q hs1 rfl
  | str _ => cases rv; exact (k.step st).here (v := .bl true) q hs1 rfl
  | tup _ => obtain ⟨_, _, rfl, _⟩ := rv; exact (k.step st).here (v := .bl true) q hs1 rfl
  | ref _ => cases rv; exact (k.step st).here (v := .bl true) q hs1 rfl
  | lst _ => obtain ⟨_, _, rfl, _⟩ := rv; exact (k.step st).here (v := .bl true) q hs1 rfl
/-- a value that is a truth value, as a test -/
theorem t_val {pe : Expr} {a : Ex} (h : PE X pe (tE (lay X c) W E (wE G E a))) (he : ∀ whole, isTrue pe X.env whole = (do let v ← whole; standAt pe.pos; holding [v] (truthy v))) : PT X pe (tT (lay X c) W E (wE G E a)) :=
  PT.imp (pt_val h he) fun σ H Q h => h
theorem t_cmp1 {pa pb : Expr} {op : CmpOp} {t : TE} {a : Ex} (h : PC X op pa pb t) (h1 : behindInMarks op pb = false) (hh : ∀ σ H Q, tE (lay X c) W E (wE G E a) σ H Q → t σ H Q) : PT X (.Compare pa [op] [pb] pos) (tT (lay X c) W E (wE G E a)) :=
  PT.imp (pt_cmp h h1) fun σ H Q q => hh σ H _ q
theorem q_and {pa pb : Expr} {r : List Expr} {a b : Ex} (ha : PE X pa (tE (lay X c) W E (wE G E a))) (hb : PE X (.BoolOp .And (pb :: r) pos) (tE (lay X c) W E (wE G E b))) : PE X (.BoolOp .And (pa :: pb :: r) pos) (tE (lay X c) W E (wE G E (.and a b))) := by
  refine PE.imp (pe_and ha hb) fun σ H Q h => ?_
  obtain ⟨e, S, Qd, he, hs, hf, k, xw⟩ := h
  simp only [wE] at hf
  refine ⟨e, S, _, he, hs, hf, fun v S1 u H1 st q hs1 rv => ?_, xw⟩
  obtain ⟨d, rfl, q1, q2⟩ := withB_some q
  cases rv
  refine ⟨d, rfl, ?_⟩
  cases d with
  | true => rw [if_pos rfl]; exact ⟨e, S1, Qd, he.mono st.tp, hs1, q1 rfl, k.step st, xw.step st⟩
  | false => rw [if_neg Bool.false_ne_true]; exact (k.step st).here (q2 rfl) hs1 rfl
theorem q_or {pa pb : Expr} {r : List Expr} {a b : Ex} (ha : PE X pa (tE (lay X c) W E (wE G E a))) (hb : PE X (.BoolOp .Or (pb :: r) pos) (tE (lay X c) W E (wE G E b))) : PE X (.BoolOp .Or (pa :: pb :: r) pos) (tE (lay X c) W E (wE G E (.or a b))) := by
  refine PE.imp (pe_or ha hb) fun σ H Q h => ?_
  obtain ⟨e, S, Qd, he, hs, hf, k, xw⟩ := h
  simp only [wE] at hf
  refine ⟨e, S, _, he, hs, hf, fun v S1 u H1 st q hs1 rv => ?_, xw⟩
  obtain ⟨d, rfl, q1, q2⟩ := withB_some q
  cases rv
  refine ⟨d, rfl, ?_⟩
  cases d with
  | true => rw [if_pos rfl]; exact (k.step st).here (q1 rfl) hs1 rfl
  | false => rw [if_neg Bool.false_ne_true]; exact ⟨e, S1, Qd, he.mono st.tp, hs1, q2 rfl, k.step st, xw.step st⟩
theorem t_and {pa pb : Expr} {r : List Expr} {a b : Ex} (ha : PT X pa (tT (lay X c) W E (wE G E a))) (hb : PW X (.BoolOp .And (pb :: r) pos) (tT (lay X c) W E (wE G E b))) : PW X (.BoolOp .And (pa :: pb :: r) pos) (tT (lay X c) W E (wE G E (.and a b))) := by
  refine PW.imp (pw_and ha hb) fun σ H Q h => ?_
  obtain ⟨e, S, Qd, he, hs, hf, k, xw⟩ := h
  simp only [wE] at hf
  refine ⟨e, S, _, he, hs, hf, fun v S1 u H1 st q hs1 rv => ?_, xw⟩
  obtain ⟨d, rfl, q1, q2⟩ := withB_some q
  cases rv
  refine ⟨d, rfl, ?_⟩
  cases d with
  | true => rw [if_pos rfl]; exact ⟨e, S1, Qd, he.mono st.tp, hs1, q1 rfl, k.step st, xw.step st⟩
  | false =>
    rw [if_neg Bool.false_ne_true]
    obtain ⟨d, e2, r⟩ := (k.step st).here (q2 rfl) hs1 rfl
    cases e2
    exact r
theorem t_or {pa pb : Expr} {r : List Expr} {a b : Ex} (ha : PT X pa (tT (lay X c) W E (wE G E a))) (hb : PW X (.BoolOp .Or (pb :: r) pos) (tT (lay X c) W E (wE G E b))) : PW X (.BoolOp .Or (pa :: pb :: r) pos) (tT (lay X c) W E (wE G E (.or a b))) := by
  refine PW.imp (pw_or ha hb) fun σ H Q h => ?_
  obtain ⟨e, S, Qd, he, hs, hf, k, xw⟩ := h
  simp only [wE] at hf
  refine ⟨e, S, _, he, hs, hf, fun v S1 u H1 st q hs1 rv => ?_, xw⟩
  obtain ⟨d, rfl, q1, q2⟩ := withB_some q
  cases rv
  refine ⟨d, rfl, ?_⟩
  cases d with
  | false => rw [if_neg Bool.false_ne_true]; exact ⟨e, S1, Qd, he.mono st.tp, hs1, q2 rfl, k.step st, xw.step st⟩
  | true =>
    rw [if_pos rfl]
    obtain ⟨d, e2, r⟩ := (k.step st).here (q1 rfl) hs1 rfl
    cases e2
    exact r
theorem q_chain {o p : Cop} {po pp : CmpOp} {pa pb pc : Expr} {a b d : Ex} (ho : OpR X (compareOp po) (rv2 (lay X c) (wCmp o))) (hp : OpR X (compareOp pp) (rv2 (lay X c) (wCmp p))) (ha : PE X pa (tE (lay X c) W E (wE G E a))) (hb : PE X pb (tE (lay X c) W E (wE G E b)))
    (hc : PE X pc (tE (lay X c) W E (wE G E d))) (hm : plainX pb = true) (hm2 : plainX pc = true) : PE X (.Compare pa [po, pp] [pb, pc] pos) (tE (lay X c) W E (wE G E (.chain o p a b d))) := by
  refine PE.imp (pe_chain ho hp ha hb hc (by first | exact plain_mark hm _ | exact plain_mark hm2 _)) fun σ H Q h => ?_
  obtain ⟨e, S, Qd, he, hs, hf, k, xw⟩ := h
  simp only [wE] at hf
  refine ⟨e, S, _, he, hs, hf, fun v S1 u H1 st q hs1 rv => ?_, xw⟩
  refine ⟨e, S1, _, he.mono st.tp, hs1, q, fun v2 S2 u2 H2 st2 q2 hs2 rv2' => ?_, xw.step st⟩
  refine ⟨v, v2, S2, _, RV.mono st2.tp _ _ rv, rv2', hs2, q2, fun v3 S3 u3 H3 st3 q3 hs3 rv3 => ?_⟩
  obtain ⟨z, rfl, q4, q5⟩ := withB_some q3
  cases rv3
  refine ⟨z, rfl, ?_⟩
  have st13 := (st.trans st2).trans st3
  cases z with
  | true =>
    rw [if_pos rfl]
    refine ⟨e, S3, _, he.mono st13.tp, hs3, q4 rfl, fun v4 S4 u4 H4 st4 q6 hs4 rv4 => ?_, xw.step st13⟩
    exact ⟨v2, v4, S4, Qd, RV.mono (st3.trans st4).tp _ _ rv2', rv4, hs4, q6, (k.step st13).step st4⟩
  | false =>
    rw [if_neg Bool.false_ne_true]
    exact (k.step st13).here (q5 rfl) hs3 rfl
theorem q_var {i : Nat} {x : Str} (hN : X.N[i]? = some x) (hv : Vis X.env.scope x) (hd : (x == ("__debug__" : Str)) = false) (hcd : (x == ("__classdict__" : Str)) = false) : PE X (.Name x pos) (tE (lay X c) W E (wE G E (.var i))) := by
  refine PE.imp (pe_var hN hv hd hcd) fun σ H Q h => ?_
  obtain ⟨e, S, Qd, he, hs, hf, k, xw⟩ := h
  simp only [wE] at hf
  obtain ⟨v, e1, q⟩ := withO_some hf
  obtain ⟨u, e2, rv⟩ := he.get e1
  exact ⟨u, e2, k.here q hs rv⟩
theorem q_const {v : Val} {u : V} {pe : Expr} {a : Ex} (h : PE X pe (tC u)) (rv : ∀ H, RV X.K H v u) (hw : ∀ e S Q, wE G E a e S Q → Q v S) : PE X pe (tE (lay X c) W E (wE G E a)) := by
  refine PE.imp h fun σ H Q h => ?_
  obtain ⟨e, S, Qd, he, hs, hf, k, xw⟩ := h
  exact k.here (hw _ _ _ hf) hs (rv H)
theorem q_fld {pa : Expr} {a : Ex} {f : Str} (ha : PE X pa (tE (lay X c) W E (wE G E a))) (hm : plainX pa = true) : PE X (.Attribute pa f pos) (tE (lay X c) W E (wE G E (.fld a f))) := by
  refine PE.imp (pe_fld ha (plain_attr hm f X.env)) fun σ H Q h => ?_
  obtain ⟨e, S, Qd, he, hs, hf, k, xw⟩ := h
  simp only [wE] at hf
  refine ⟨e, S, _, he, hs, hf, fun v S1 u H1 st q hs1 rv => ?_, xw⟩
  cases v with
  | ref p =>
    cases rv
    cases e1 : S1 p with
    | none => simp only [e1] at q
    | some o =>
      cases o with
      | ins ci fs =>
        simp only [e1] at q
        obtain ⟨w, e2, q⟩ := withO_some q
        obtain ⟨dx, gs, h1, h2, h3⟩ := hs1 p _ e1
        have look : ∀ {fs : List (Str × Val)} {gs : List (Str × V)}, Paired (fun (p : Str × Val) (q : Str × V) => p.1 = q.1 ∧ NoAttr X.K (c.ca ci) p.1 ∧ RV X.K H1 p.2 q.2) fs gs → fs.lookup f = some w → ∃ u, gs.lookup f = some u ∧ NoAttr X.K (c.ca ci) f ∧ RV X.K H1 w u := by
          intro fs gs r
          induction r with
          | nil => intro z; cases z
          | @cons p q ps qs hq t ih =>
            intro z
            obtain ⟨p1, p2⟩ := p
            obtain ⟨q1, q2⟩ := q
            obtain ⟨z1, z2, z3⟩ := hq
            have z1' : p1 = q1 := z1
            subst z1'
            simp only [List.lookup_cons] at z ⊢
            cases y : f == p1 with
            | true =>
              simp only [y] at z
              cases z
              have : f = p1 := by simpa using y
              subst this
              exact ⟨q2, rfl, z2, z3⟩
            | false =>
              simp only [y] at z
              exact ih z
        obtain ⟨u, e3, na, ru⟩ := look h3 e2
        exact ⟨p, c.ca ci, dx, gs, u, rfl, h1, h2, na, e3, (k.step st).here q hs1 ru⟩
      | lst xs => simp only [e1] at q
      | dct kvs t => simp only [e1] at q
  | _ => exact q.elim
theorem q_drop {pe : Expr} {a : Ex} (ha : PE X pe (tE (lay X c) W E (wE G E a))) : PE X pe (tE (lay X c) W E (wE G E (.drop a))) := by
  refine PE.imp ha fun σ H Q h => ?_
  obtain ⟨e, S, Qd, he, hs, hf, k, xw⟩ := h
  simp only [wE] at hf
  refine ⟨e, S, _, he, hs, hf, fun v S1 u H1 st q hs1 rv => ?_, xw⟩
  refine k v _ u H1 ⟨st.tp, st.more, fun a ha => st.dom a fun z => ha ?_, st.frm⟩ q (hs1.sub keep_sub) rv
  unfold keep
  split
  · exact z
  · rfl
end
end DL

set_option autoImplicit true
set_option Elab.async false
set_option linter.all false
set_option maxRecDepth 100000
set_option maxHeartbeats 2000000
/-! Own layer, part 6: argument lists, displays, slices, calls. -/
namespace DL
open PySem PySem.Spec PyProof.Rows L2
section
variable {X : Cx} {c : LC} {W : WX} {E : Nat → Sto → Prop} {G : Cfg} {pos : Pos}
theorem a_nil : PA X [] (tA (lay X c) W E 0 (wEs G E .nil)) := by
  refine PA.imp pa_nil fun σ H Q h => ?_
  obtain ⟨e, S, Qd, he, hs, hf, k, xw⟩ := h
  simp only [wEs] at hf
  exact k [] S [] H .refl hf hs rfl rfl
theorem a_cons {pa : Expr} {pr : List Expr} {a : Ex} {r : Exs} {n : Nat} (ha : PE X pa (tE (lay X c) W E (wE G E a))) (hr : PA X pr (tA (lay X c) W E n (wEs G E r))) (hm : plainX pa = true) : PA X (pa :: pr) (tA (lay X c) W E (n + 1) (wEs G E (.cons a r))) := by
  refine PA.imp (pa_cons ha hr (plain_star hm pr X.env)) fun σ H Q h => ?_
  obtain ⟨e, S, Qd, he, hs, hf, k, xw⟩ := h
  simp only [wEs] at hf
  refine ⟨e, S, _, he, hs, hf, fun v S1 u H1 st q hs1 rv => ?_, xw⟩
  refine ⟨e, S1, _, he.mono st.tp, hs1, q, fun vs S2 us H2 st2 q2 hs2 rvs hl => ?_, xw.step st⟩
  exact k (v :: vs) S2 (u :: us) H2 (st.trans st2) q2 hs2 ⟨u, us, rfl, RV.mono st2.tp _ _ rv, rvs⟩ (by simp [hl])
theorem q_tup {pes : List Expr} {es : Exs} {n x1 : Nat} (h : PA X pes (tA (lay X c) W E n (wEs G E es))) (hn : n ≤ 1000) : PE X (.Tuple pes x1 pos) (tE (lay X c) W E (wE G E (.tup es))) := by
  refine PE.imp (pe_tup h) fun σ H Q h => ?_
  obtain ⟨e, S, Qd, he, hs, hf, k, xw⟩ := h
  simp only [wE] at hf
  refine ⟨e, S, _, he, hs, hf, fun vs S1 us H1 st q hs1 rvs hl => ⟨?_, fun p np => (k.step st).tup q hs1 rvs np⟩, xw⟩
  rw [← rvs.length, hl, sizeLine_eq]
  omega
theorem q_lst {pes : List Expr} {es : Exs} {n : Nat} (h : PA X pes (tA (lay X c) W E n (wEs G E es))) (hn : n ≤ 1000) : PE X (.List pes pos) (tE (lay X c) W E (wE G E (.lst es))) := by
  refine PE.imp (pe_lst h) fun σ H Q h => ?_
  obtain ⟨e, S, Qd, he, hs, hf, k, xw⟩ := h
  simp only [wE] at hf
  refine ⟨e, S, _, he, hs, hf, fun vs S1 us H1 st q hs1 rvs hl => ⟨?_, fun p np => (k.step st).lst q hs1 rvs np⟩, xw⟩
  rw [← rvs.length, hl, sizeLine_eq]
  omega
/-- a part of a slice -/
def tO (L : Lay) (W : WX) (E : Nat → Sto → Prop) (f : Env → Sto → (Option Int → Sto → Prop) → Prop) : TO := fun σ H Q => ∃ e S Qd, RE L.K H e σ ∧ RS L H S ∧ f e S Qd ∧ (∀ o S' H', Stp L H S H' S' → Qd o S' → RS L H' S' → Q o H') ∧ XW L W E σ H S
theorem PO.imp {X : Cx} {e : Option Expr} {t t' : TO} (h : PO X e t) (hh : ∀ σ H Q, t' σ H Q → t σ H Q) : PO X e t' := ⟨fun pins s σ H Q I q => h.run pins s σ H Q I (hh _ _ _ q)⟩
theorem o_none : PO X none (tO (lay X c) W E (wO G E .none)) := by
  refine PO.imp po_none fun σ H Q h => ?_
  obtain ⟨e, S, Qd, he, hs, hf, k, xw⟩ := h
  simp only [wO] at hf
  exact k none S H .refl hf hs
theorem o_some {pa : Expr} {a : Ex} (ha : PE X pa (tE (lay X c) W E (wE G E a))) : PO X (some pa) (tO (lay X c) W E (wO G E (.some a))) := by
  refine PO.imp (po_some ha) fun σ H Q h => ?_
  obtain ⟨e, S, Qd, he, hs, hf, k, xw⟩ := h
  simp only [wO] at hf
  refine ⟨e, S, _, he, hs, hf, fun v S1 u H1 st q hs1 rv => ?_, xw⟩
  cases v with
  | int i => cases rv; exact ⟨i, rfl, k (some i) S1 H1 st q hs1⟩
  | _ => exact q.elim
theorem q_slice {pa : Expr} {plo phi : Option Expr} {a : Ex} {lo hi : Oe} {p2 : Pos} (ha : PE X pa (tE (lay X c) W E (wE G E a))) (hl : PO X plo (tO (lay X c) W E (wO G E lo))) (hh : PO X phi (tO (lay X c) W E (wO G E hi))) :
    PE X (.Subscript pa (.Slice plo phi none p2) pos) (tE (lay X c) W E (wE G E (.slice a lo hi))) := by
  refine PE.imp (pe_slice (s_slice (c := c)) ha hl hh) fun σ H Q h => ?_
  obtain ⟨e, S, Qd, he, hs, hf, k, xw⟩ := h
  simp only [wE] at hf
  refine ⟨e, S, _, he, hs, hf, fun v S1 u H1 st q hs1 rv => ?_, xw⟩
  refine ⟨e, S1, _, he.mono st.tp, hs1, q, fun o S2 H2 st2 q2 hs2 => ?_, xw.step st⟩
  refine ⟨e, S2, _, he.mono (st.trans st2).tp, hs2, q2, fun o2 S3 H3 st3 q3 hs3 => ?_, (xw.step st).step st2⟩
  exact ⟨v, S3, Qd, RV.mono (st2.trans st3).tp _ _ rv, hs3, q3, ((k.step st).step st2).step st3⟩

/-! ### calls -/
theorem q_call {f n : Nat} {es : Exs} {x : Str} {p : Pos} {pe : Expr} {pes : List Expr} {T : Tab} {k : Nat} {sc : Scope} (O : XOk X c G T k sc) (tk : Takes X W) (hx : T.fns.lookup x = some f) (hg : Gl X x) (hd : (x == ("__debug__" : Str)) = false)
    (h : PA X (pe :: pes) (tA (lay X c) W E n (wEs G E es))) (hm : plainX pe = true) (hpl : (backTo pos (starEach pes X.env)).any (·.1) = false) : PE X (.Call (.Name x p) (pe :: pes) [] pos) (tE (lay X c) W E (wE G E (.call f es))) := by
  obtain ⟨sp, hG, FA⟩ := O.nm.fns x f hx
  obtain ⟨a, fd, ps, F, hmg, hk, hb⟩ := FA.ex
  refine PE.imp (pe_callS F O.room hg hmg hk hb (fun σ => passAt tk σ) h hd (plain_star hm pes X.env) hpl) fun σ H Q h => ?_
  obtain ⟨e, S, Qd, he, hs, hf, k, xw⟩ := h
  simp only [wE, hG] at hf
  refine ⟨e, S, _, he, hs, hf, fun vs S1 us H1 st q hs1 rvs hl => ?_, xw⟩
  exact ⟨vs, S1, Qd, E, rvs, hs1, q, k.step st, xw.step st⟩
/-- a new instance -/
theorem q_new {ci n : Nat} {es : Exs} {x : Str} {p : Pos} {pe : Expr} {pes : List Expr} {T : Tab} {k : Nat} {sc : Scope} (O : XOk X c G T k sc) (hx : T.cls.lookup x = some ci) (hg : Gl X x) (hd : (x == ("__debug__" : Str)) = false)
    (h : PA X (pe :: pes) (tA (lay X c) W E n (wEs G E es))) (hm : plainX pe = true) (hpl : (backTo pos (starEach pes X.env)).any (·.1) = false) : PE X (.Call (.Name x p) (pe :: pes) [] pos) (tE (lay X c) W E (wE G E (.new ci es))) := by
  obtain ⟨sp, hG, NA⟩ := O.nm.news x ci hx
  obtain ⟨j, a, fd, ps, hj, F, M, cl, hmg, hb⟩ := NA.ex
  refine PE.imp (pe_make M F (by rw [hj]; exact O.room) hg hmg hb .nil passL h hd (plain_star hm pes X.env) hpl) fun σ H Q h => ?_
  obtain ⟨e, S, Qd, he, hs, hf, k, xw⟩ := h
  simp only [wE, hG] at hf
  refine ⟨e, S, _, he, hs, hf, fun vs S1 us H1 st q hs1 rvs hln => ?_, xw⟩
  intro p dx np nd ne
  have t1 : Tp X.K H1 (upd H1 dx (.own p)) := Tp.fresh nd
  have np' : upd H1 dx (.own p) p = none := by rw [upd_ne (Ne.symm ne)]; exact np
  have t2 : Tp X.K (upd H1 dx (.own p)) (upd (upd H1 dx (.own p)) p (.ins (c.ca ci) dx [])) := Tp.fresh np'
  have st1 : Stp (lay X c) H1 S1 (upd H1 dx (.own p)) S1 := Stp.new nd
  have st2 : Stp (lay X c) (upd H1 dx (.own p)) S1 (upd (upd H1 dx (.own p)) p (.ins (c.ca ci) dx [])) (up S1 p (.ins ci [])) := Stp.alloc np'
  have hs2 : RS (lay X c) (upd (upd H1 dx (.own p)) p (.ins (c.ca ci) dx [])) (up S1 p (.ins ci [])) := RS.upd (hs1.new nd) t2 ⟨dx, [], upd_same, cl, .nil⟩
  have hq := q p (RS.off hs1 np)
  rw [List.append_nil]
  refine ⟨.ref p :: vs, up S1 p (.ins ci []), _, noE, ⟨_, _, rfl, rfl, RVs.mono (st1.trans st2).tp _ _ rvs⟩, hs2, hq, fun v S3 u H3 st3 q3 hs3 rv3 => ?_, fun _ _ _ _ z => z.elim⟩
  cases v with
  | non => cases rv3; exact ⟨rfl, ((k.step st).step (st1.trans st2)).step st3 |>.here q3 hs3 rfl⟩
  | _ => exact q3.elim
/-! ### built-ins -/
theorem boot_b : ∀ b : Bt, bootBuiltins (bN b) = some (bf b)
  | .len => by decide +kernel
  | .all => by decide +kernel
  | .any => by decide +kernel
  | .tuple => by decide +kernel
  | .list => by decide +kernel
  | .dict => by decide +kernel
  | .sorted => by decide +kernel
  | .int => by decide +kernel
  | .max1 => by decide +kernel
  | .max2 => by decide +kernel
  | .min1 => by decide +kernel
  | .min2 => by decide +kernel
  | .sum => by decide +kernel
  | .str => by decide +kernel
theorem bN_mem (b : Bt) : bN b ∈ [("len" : Str), "all", "any", "tuple", "list", "dict", "sorted", "int", "max", "min", "sum", "str", "isinstance", "range", "enumerate", "zip", "bool"] := by
  cases b <;> simp [bN]
theorem nmg {T : Tab} {k : Nat} {sc : Scope} (O : XOk X c G T k sc) (b : Bt) : X.mg (bN b) = none := O.nm.blt _ (bN_mem b)
theorem pe_callBf {b : Bt} {x : Str} {p : Pos} {e : Expr} {es : List Expr} {t : TA} {r : List V → Hp → VK → Prop} (hc : CallR X (bf b) r) (hx : x = bN b) (hg : Gl X x) (hm : X.mg x = none) (ha : PA X (e :: es) t) (hn : x ≠ "__name__") (hdb : (x == ("__debug__" : Str)) = false)
    (he : starEach (e :: es) X.env = (false, eval e X.env) :: starEach es X.env) (hpl : (backTo pos (starEach es X.env)).any (·.1) = false) : PE X (.Call (.Name x p) (e :: es) [] pos) (tCB r t) := by
  subst hx
  have hv := boot_b b
  cases b <;> first
    | exact pe_callB hc hg hm hv ha hn hdb he hpl
    | exact pe_callTy hc hg hm hv ha hn hdb he hpl
theorem q_blt {b : Bt} {n : Nat} {es : Exs} {x : Str} {p : Pos} {pe : Expr} {pes : List Expr} {T : Tab} {k : Nat} {sc : Scope} (O : XOk X c G T k sc) (hb : b ≠ .dict) (hx : x = bN b) (hg : Gl X x) (hn : x ≠ "__name__") (hd : (x == ("__debug__" : Str)) = false)
    (h : PA X (pe :: pes) (tA (lay X c) W E n (wEs G E es))) (hm : plainX pe = true) (hpl : (backTo pos (starEach pes X.env)).any (·.1) = false) : PE X (.Call (.Name x p) (pe :: pes) [] pos) (tE (lay X c) W E (wE G E (.blt b es))) := by
  refine PE.imp (pe_callBf (b_vals (c := c) O.calm b hb) hx hg (by rw [hx]; exact nmg O b) h hn hd (plain_star hm pes X.env) hpl) fun σ H Q h => ?_
  obtain ⟨e, S, Qd, he, hs, hf, k, xw⟩ := h
  simp only [wE] at hf
  refine ⟨e, S, _, he, hs, hf, fun vs S1 us H1 st q hs1 rvs hl => ?_, xw⟩
  exact ⟨vs, S1, Qd, rvs, hs1, q, k.step st⟩
theorem q_isi {a : Ex} {t : Ty} {x y : Str} {p p2 : Pos} {pa : Expr} {T : Tab} {k : Nat} {sc : Scope} (O : XOk X c G T k sc) (hx : x = "isinstance") (hy : y = tN t) (hg : Gl X x) (hg2 : Gl X y)
    (ha : PE X pa (tE (lay X c) W E (wE G E a))) (hst : starEach [pa, .Name y p2] X.env = (false, eval pa X.env) :: starEach [.Name y p2] X.env) : PE X (.Call (.Name x p) [pa, .Name y p2] [] pos) (tE (lay X c) W E (wE G E (.isi a t))) := by
  subst hx
  have hv : bootBuiltins y = some (.type (tyN t)) := by subst hy; cases t <;> decide +kernel
  have hm : X.mg y = none := O.nm.blt _ (by subst hy; cases t <;> simp [tN])
  have hn : y ≠ "__name__" := by subst hy; cases t <;> decide
  have hd : (y == ("__debug__" : Str)) = false := by subst hy; cases t <;> decide
  have hy : PE X (.Name y p2) (tC (.ty (tyN t))) := pe_bltn hg2 hm hv rfl hn hd
  refine PE.imp (pe_callB (b_isi (c := c) t) hg (O.nm.blt _ (by simp)) (by decide +kernel) (pa_cons ha (pa_cons hy pa_nil) hst) (by decide) (by decide) hst rfl) fun σ H Q h => ?_
  obtain ⟨e, S, Qd, he, hs, hf, k, xw⟩ := h
  simp only [wE] at hf
  refine ⟨e, S, _, he, hs, hf, fun v S1 u H1 st q hs1 rv => ?_, xw⟩
  exact ⟨u, v, S1, Qd, rfl, rv, hs1, q.1, q.2, k.step st⟩
end
end DL

set_option autoImplicit true
set_option Elab.async false
set_option linter.all false
set_option maxRecDepth 100000
set_option maxHeartbeats 2000000
/-! Own layer, part 7: methods. -/
namespace DL
open PySem PySem.Spec PyProof.Rows L2
section
variable {X : Cx} {c : LC} {W : WX} {E : Nat → Sto → Prop} {G : Cfg} {pos : Pos}
/-- a built-in type's method is to be found at a value -/
def TyIs (X : Cx) (T : String) (x : V) (H : Hp) : Prop := ∀ (pins : List (Addr × Obj)) (σ : L2.St) (s : Shared) (v : Value), Inv X pins σ H s → RelV x v → s.TypeIs v T ∧ ∀ a, v = .ref a → ∃ ob, s.heap.get? a = some ob ∧ ob.dict = none
/-- the method that is found -/
def Found (X : Cx) (name : Str) (x : V) (H : Hp) (r : V → List V → Hp → VK → Prop) : Prop := ∃ (T id : String), PlainAttrs T ∧ Slot T name id ∧ typeOf (.builtin id) = pure (.type "method_descriptor") ∧ MtR X id r ∧ TyIs X T x H
def tBMd (X : Cx) (name : Str) (to : TE) (t : TA) : TE := fun σ H Q => to σ H fun x H1 => ∃ r, Found X name x H1 r ∧ t σ H1 fun xs H2 => r x xs H2 Q
def tBMd0 (X : Cx) (name : Str) (to : TE) : TE := fun σ H Q => to σ H fun x H1 => ∃ r, Found X name x H1 r ∧ r x [] H1 Q
theorem pe_bmD {o e : Expr} {es : List Expr} {to : TE} {t : TA} {name : Str} {apos cpos : Pos} (ho : PE X o to) (ha : PA X (e :: es) t) (he : plainX e = true)
    (hbase : attributeBase o name X.env (eval o X.env) = eval o X.env)
    (hfew : ((backTo cpos (starEach (e :: es) X.env)).all (fun x => !x.1) && (backToKw cpos (keywordEach [] X.env)).all (fun x => x.1.isSome)
      && decide ((e :: es).length + ([] : List Keyword).length + (if ([] : List Keyword).isEmpty then 0 else 1) < 30)) = true)
    (hline : (apos.endLine == cpos.line) = true) (hplain : (backTo cpos (starEach es X.env)).any (·.1) = false) :
    PE X (.Call (.Attribute o name apos) (e :: es) [] cpos) (tBMd X name to t) := by
  refine ⟨fun pins s σ H Q I h => ?_⟩
  refine wpAny_Call_method_late hbase hfew hline rfl (thn (ho.run pins s σ H _ I h) fun v s1 ⟨x, H1, I1, r1, r, ⟨T, id, pa, slot, hty, hm, ty⟩, q1⟩ => ?_)
  obtain ⟨h1, h2⟩ := ty pins σ s1 v I1 r1
  refine ⟨T, id, pa, slot, hty, h1, h2, ?_⟩
  have hA := ha.run cpos pins s1 σ H1 _ I1 q1
  rw [plain_star he] at hA ⊢
  refine Calls.callWith_builtin (by show (false || (backTo cpos (starEach es X.env)).any (·.1)) = false; rw [hplain] <;> rfl) (Calls.evalArgs_plain ?_)
  exact thn hA fun us s2 ⟨vs, H2, I2, r2, q2⟩ => hm pins s2 σ H2 x vs v us Q I2 r1 r2 q2
theorem pe_bmD0 {o : Expr} {to : TE} {name : Str} {apos cpos : Pos} (ho : PE X o to)
    (hbase : attributeBase o name X.env (eval o X.env) = eval o X.env) (hline : (apos.endLine == cpos.line) = true) :
    PE X (.Call (.Attribute o name apos) [] [] cpos) (tBMd0 X name to) := by
  refine ⟨fun pins s σ H Q I h => ?_⟩
  refine wpAny_Call_method0_late hbase hline (thn (ho.run pins s σ H _ I h) fun v s1 ⟨x, H1, I1, r1, r, ⟨T, id, pa, slot, hty, hm, ty⟩, q1⟩ => ?_)
  obtain ⟨h1, h2⟩ := ty pins σ s1 v I1 r1
  exact ⟨T, id, pa, slot, hty, h1, h2, Calls.callWith_builtin rfl (PySem.evalArgs_none (hm pins s1 σ H1 x [] v [] Q I1 r1 .nil q1))⟩
theorem ty_list {p : Addr} {H : Hp} {us : List V} (h : H p = some (.lst us)) : TyIs X "list" (.ref p) H := fun pins σ s v I r => tyV_is I r (.inl ⟨rfl, us, SqL.of h⟩)
theorem ty_dict {p : Addr} {H : Hp} {es : Array DictEntry} {t : Nat} (h : H p = some (dctO p es t)) : TyIs X "dict" (.ref p) H := fun pins σ s v I r => by
  cases r
  obtain ⟨o, e1, e2, e3⟩ := raw_of I h
  refine ⟨(raw_of I h).typeIs, fun a e => ?_⟩
  cases e
  exact ⟨o, e1, e2.2.1⟩
/-- the method of a list -/
theorem m_list (hu : X.A.units + 70 < cLine) : ∀ m : Mt, mOk m = true → ∃ id, Slot "list" (mN m) id ∧ typeOf (.builtin id) = pure (.type "method_descriptor") ∧ MtR X id (rvm (lay X c) m)
  | .append, _ => ⟨_, PySem.F.slot_list_append, PySem.F.type_list_append, m_append⟩
  | .extend, _ => ⟨_, PySem.F.slot_list_extend, PySem.F.type_list_extend, m_extend⟩
  | .pop, _ => ⟨_, PySem.F.slot_list_pop, PySem.F.type_list_pop, m_pop⟩
  | .reverse, _ => ⟨_, PySem.F.slot_list_reverse, PySem.F.type_list_reverse, m_reverse⟩
  | .index, _ => ⟨_, PySem.F.slot_list_index, PySem.F.type_list_index, m_index hu⟩
  | .count, h => by cases h
  | .setdefault, h => by cases h
  | .get, h => by cases h
  | .split, h => by cases h
  | .find, h => by cases h
theorem recv_list : ∀ {m : Mt} {v : Val} {S : Sto}, mOk m = true → recv m v S = true → ∃ p xs, v = .ref p ∧ S p = some (.lst xs) := by
  intro m v S h q
  cases v with
  | ref p =>
    cases e : S p with
    | none => cases m <;> first | (simp [recv, e] at q; done) | (cases h; done)
    | some o =>
      cases o with
      | lst xs => exact ⟨p, xs, rfl, e⟩
      | dct kvs t => cases m <;> first | (simp [recv, e] at q; done) | (cases h; done)
      | ins ci fs => cases m <;> first | (simp [recv, e] at q; done) | (cases h; done)
  | _ => cases m <;> first | (simp [recv] at q; done) | (cases h; done)
theorem few_args {es : List Expr} {cpos : Pos} (hl : es.length < 20) (h : (backTo cpos (starEach es X.env)).any (·.1) = false) :
    ((backTo cpos (starEach es X.env)).all (fun x => !x.1) && (backToKw cpos (keywordEach [] X.env)).all (fun x => x.1.isSome)
      && decide (es.length + ([] : List Keyword).length + (if ([] : List Keyword).isEmpty then 0 else 1) < 30)) = true := by
  have e1 : (backTo cpos (starEach es X.env)).all (fun x => !x.1) = true := by
    rw [List.all_eq_true]
    intro x hx
    rw [List.any_eq_false] at h
    have := h x hx
    simpa using this
  rw [e1]
  simp [keywordEach, backToKw]
  omega
theorem m_dict (hu : X.A.units + 10 < cLine) : ∀ m : Mt, dOk m = true → ∃ id, Slot "dict" (mN m) id ∧ typeOf (.builtin id) = pure (.type "method_descriptor") ∧ MtR X id (rvm (lay X c) m)
  | .setdefault, _ => ⟨_, PySem.F.slot_dict_setdefault, PySem.F.type_dict_setdefault, m_setdefault hu⟩
  | .get, _ => ⟨_, PySem.F.slot_dict_get, PySem.F.type_dict_get, m_get hu⟩
  | .append, h => by cases h
  | .extend, h => by cases h
  | .pop, h => by cases h
  | .reverse, h => by cases h
  | .index, h => by cases h
  | .count, h => by cases h
  | .split, h => by cases h
  | .find, h => by cases h
theorem recv_dict : ∀ {m : Mt} {v : Val} {S : Sto}, dOk m = true → recv m v S = true → ∃ p kvs t, v = .ref p ∧ S p = some (.dct kvs t) := by
  intro m v S h q
  cases v with
  | ref p =>
    cases e : S p with
    | none => cases m <;> first | (simp [recv, e] at q; done) | (cases h; done)
    | some o =>
      cases o with
      | dct kvs t => exact ⟨p, kvs, t, rfl, e⟩
      | lst xs => cases m <;> first | (simp [recv, e] at q; done) | (cases h; done)
      | ins c fs => cases m <;> first | (simp [recv, e] at q; done) | (cases h; done)
  | _ => cases m <;> first | (simp [recv] at q; done) | (cases h; done)
/-- what is found of a receiver -/
theorem recv_found {m : Mt} {v : Val} {u : V} {S : Sto} {H : Hp} (hu : X.A.units + 70 < cLine) (hm : (mOk m || dOk m) = true) (h : recv m v S = true) (hs : RS (lay X c) H S) (rv : RV X.K H v u) : Found X (mN m) u H (rvm (lay X c) m) := by
  cases e : mOk m with
  | true =>
    obtain ⟨p, xs, rfl, ep⟩ := recv_list e h
    cases rv
    obtain ⟨us, hl, hr⟩ := hs p _ ep
    obtain ⟨id, s1, s2, s3⟩ := m_list (X := X) (c := c) hu m e
    exact ⟨"list", id, PySem.F.plainAttrs_list, s1, s2, s3, ty_list hl⟩
  | false =>
    rw [e, Bool.false_or] at hm
    obtain ⟨p, kvs, t, rfl, ep⟩ := recv_dict hm h
    cases rv
    obtain ⟨es, h1, h2, h3, h4, h5⟩ := hs p _ ep
    obtain ⟨id, s1, s2, s3⟩ := m_dict (X := X) (c := c) (by omega) m hm
    exact ⟨"dict", id, PySem.F.plainAttrs_dict, s1, s2, s3, ty_dict h1⟩
theorem q_meth {a : Ex} {m : Mt} {n : Nat} {es : Exs} {pa pe : Expr} {pes : List Expr} {apos : Pos} (hu : X.A.units + 70 < cLine) (hm : (mOk m || dOk m) = true) (ha : PE X pa (tE (lay X c) W E (wE G E a))) (h : PA X (pe :: pes) (tA (lay X c) W E n (wEs G E es)))
    (hp : plainX pa = true) (hpe : plainX pe = true) (hl : (pe :: pes).length < 20) (hline : (apos.endLine == pos.line) = true) (hpl : (backTo pos (starEach pes X.env)).any (·.1) = false) :
    PE X (.Call (.Attribute pa (mN m) apos) (pe :: pes) [] pos) (tE (lay X c) W E (wE G E (.meth a m es))) := by
  have hpl' : (backTo pos (starEach (pe :: pes) X.env)).any (·.1) = false := by rw [plain_star hpe]; exact hpl
  refine PE.imp (pe_bmD ha h hpe (plain_attr hp _ X.env) (few_args hl hpl') hline hpl) fun σ H Q h => ?_
  obtain ⟨e, S, Qd, he, hs, hf, k, xw⟩ := h
  simp only [wE] at hf
  refine ⟨e, S, _, he, hs, hf, fun v S1 u H1 st q hs1 rv => ?_, xw⟩
  obtain ⟨rc, q⟩ := q
  refine ⟨_, recv_found hu hm rc hs1 rv, ?_⟩
  refine ⟨e, S1, _, he.mono st.tp, hs1, q, fun vs S2 us2 H2 st2 q2 hs2 rvs _ => ?_, xw.step st⟩
  exact ⟨v, vs, S2, Qd, RV.mono st2.tp _ _ rv, rvs, hs2, q2, (k.step st).step st2⟩
theorem q_meth0 {a : Ex} {m : Mt} {pa : Expr} {apos : Pos} (hu : X.A.units + 70 < cLine) (hm : (mOk m || dOk m) = true) (ha : PE X pa (tE (lay X c) W E (wE G E a))) (hp : plainX pa = true) (hline : (apos.endLine == pos.line) = true) :
    PE X (.Call (.Attribute pa (mN m) apos) [] [] pos) (tE (lay X c) W E (wE G E (.meth a m .nil))) := by
  refine PE.imp (pe_bmD0 ha (plain_attr hp _ X.env) hline) fun σ H Q h => ?_
  obtain ⟨e, S, Qd, he, hs, hf, k, xw⟩ := h
  simp only [wE, wEs] at hf
  refine ⟨e, S, _, he, hs, hf, fun v S1 u H1 st q hs1 rv => ?_, xw⟩
  obtain ⟨rc, q⟩ := q
  exact ⟨_, recv_found hu hm rc hs1 rv, v, [], S1, Qd, rv, rfl, hs1, q, k.step st⟩

/-- a method of an own class, whichever -/
def OwnM (X : Cx) (m : Str) (k : Nat) (x : V) (H : Hp) (sp : Sp) : Prop := ∃ (a C dx f : Addr) (fs : List (Str × V)) (fd : FuncData) (ps : List Str), x = .ref a ∧ H a = some (.ins C dx fs) ∧ Cls X.K C ∧ Meth X.K C m f ∧
  FnOk X.prog X.w X.K X.mg X.base (L2.CX X.prog X.w) k f fd ps sp ∧ Binds X.K fd ps [] ∧ fs.lookup m = none
def tMethD (X : Cx) (m : Str) (k : Nat) (ta : TE) (t : TA) : TE := fun σ H Q => ta σ H fun x H1 => ∃ sp, OwnM X m k x H1 sp ∧ t σ H1 fun vs H2 => sp (x :: vs) H2 Q E0
def tMethD0 (X : Cx) (m : Str) (k : Nat) (ta : TE) : TE := fun σ H Q => ta σ H fun x H1 => ∃ sp, OwnM X m k x H1 sp ∧ sp [x] H1 Q E0
theorem call_meth_eq {o : Expr} {m : Str} {apos : Pos} {es : List Expr} (hb : attributeBase o m X.env (eval o X.env) = eval o X.env) (hline : (apos.endLine == pos.line) = true) (hpl : (backTo pos (starEach es X.env)).any (·.1) = false) (hl : es.length < 20) :
    eval (.Call (.Attribute o m apos) es [] pos) X.env = (do
      let ov ← eval o X.env
      standAt apos.atName
      let (f, first) ← holding [ov] (getMethod ov m (do return (← importBound o X.env).getD true))
      callWith pos f first (backTo pos (starEach es X.env)) (backToKw pos (keywordEach [] X.env))) := by
  rw [arm_eval_Call, hb]
  have hf : methodCallForm (es.length + ([] : List Keyword).length) (backTo pos (starEach es X.env)) (backToKw pos (keywordEach [] X.env)) = true := by
    have := few_args (X := X) (cpos := pos) hl hpl
    unfold methodCallForm
    simpa [keywordEach, backToKw] using this
  unfold methodCall
  rw [hf]
  unfold calleeOf methodCallPos
  simp only [hline, Bool.not_true, Bool.false_or, if_true]
  rfl
theorem pe_methD {o e : Expr} {m : Str} {apos : Pos} {es : List Expr} {k : Nat} {ta : TE} {t : TA} (he : PE X o ta) (hr : Room k X.A) (ha : PA X (e :: es) t) (hb : attributeBase o m X.env (eval o X.env) = eval o X.env) (hline : (apos.endLine == pos.line) = true)
    (hpl : (backTo pos (starEach es X.env)).any (·.1) = false) (hl : (e :: es).length < 20) (hpe : plainX e = true) : PE X (.Call (.Attribute o m apos) (e :: es) [] pos) (tMethD X m k ta t) := by
  refine ⟨fun pins s σ H Q I h => ?_⟩
  have hpl' : (backTo pos (starEach (e :: es) X.env)).any (·.1) = false := by rw [plain_star hpe]; exact hpl
  refine PySem.W.methodCall_KW (thn (he.run pins s σ H _ I h) fun u s1 ⟨x, H1, I1, rx, sp, ⟨a, C, dx, f, fs, fd, ps, ex, ea, c, hm, F, hbi, l⟩, q⟩ => ?_) (call_meth_eq hb hline hpl' hl)
  subst ex
  obtain rfl : u = Value.ref a := rx
  refine getmeth_ok I1 ea c hm l ?_
  refine PySem.W.callWith_K (first := [.ref a]) (h₀ := X.base) I.ok.mod.kin hm.kp (thn (ha.run pos pins s1 σ H1 _ I1 q) fun us s2 ⟨vs, H2, I2, r, q2⟩ => ⟨I2.kIn, ?_⟩) (plain_star hpe es X.env) hpl
  exact run_fn (us := .ref a :: us) (vs := .ref a :: vs) F hr hbi .nil passL I2 (.cons rfl r) (by rw [List.append_nil]; exact q2)
theorem pe_methD0 {o : Expr} {m : Str} {apos : Pos} {k : Nat} {ta : TE} (he : PE X o ta) (hr : Room k X.A) (hb : attributeBase o m X.env (eval o X.env) = eval o X.env) (hline : (apos.endLine == pos.line) = true) :
    PE X (.Call (.Attribute o m apos) [] [] pos) (tMethD0 X m k ta) := by
  refine ⟨fun pins s σ H Q I h => ?_⟩
  refine PySem.W.methodCall_KW (thn (he.run pins s σ H _ I h) fun u s1 ⟨x, H1, I1, rx, sp, ⟨a, C, dx, f, fs, fd, ps, ex, ea, c, hm, F, hbi, l⟩, q⟩ => ?_) (call_meth_eq hb hline rfl (by decide))
  subst ex
  obtain rfl : u = Value.ref a := rx
  refine getmeth_ok I1 ea c hm l ?_
  exact PySem.W.callWith_K0 (first := [.ref a]) I1.kIn hm.kp (run_fn (us := [.ref a]) (vs := [.ref a]) F hr hbi .nil passL I1 (.cons rfl .nil) (by rw [List.append_nil]; exact q))
theorem own_found {T : Tab} {k : Nat} {sc : Scope} {p : Addr} {ci : Nat} {fs : List (Str × Val)} {m : Str} {sp : Spec} {S : Sto} {H : Hp} (O : XOk X c G T k sc) (hG : G.mt ci m = some sp) (hm : m ≠ ("__init__" : Str)) (hs : RS (lay X c) H S) (e : S p = some (.ins ci fs)) (l : fs.lookup m = none) :
    OwnM X m k (.ref p) H (lift (lay X c) sp) := by
  obtain ⟨a, fd, ps, F, hM, hb⟩ := (O.nm.mts ci m sp hG hm).ex
  obtain ⟨dx, gs, h1, h2, h3⟩ := hs p _ e
  refine ⟨p, c.ca ci, dx, a, gs, fd, ps, rfl, h1, h2, hM, F, hb, ?_⟩
  clear e h1
  induction h3 with
  | nil => rfl
  | @cons p q ps qs hq t ih =>
    obtain ⟨p1, p2⟩ := p
    obtain ⟨q1, q2⟩ := q
    have z1 : p1 = q1 := hq.1
    subst z1
    simp only [List.lookup_cons] at l ⊢
    cases y : m == p1 with
    | true => simp only [y] at l; cases l
    | false => simp only [y] at l; exact ih l
theorem q_umeth {a : Ex} {m : Str} {n : Nat} {es : Exs} {pa pe : Expr} {pes : List Expr} {apos : Pos} {T : Tab} {k : Nat} {sc : Scope} (O : XOk X c G T k sc) (hm : m ≠ ("__init__" : Str)) (ha : PE X pa (tE (lay X c) W E (wE G E a))) (h : PA X (pe :: pes) (tA (lay X c) W E n (wEs G E es)))
    (hp : plainX pa = true) (hpe : plainX pe = true) (hl : (pe :: pes).length < 20) (hline : (apos.endLine == pos.line) = true) (hpl : (backTo pos (starEach pes X.env)).any (·.1) = false) :
    PE X (.Call (.Attribute pa m apos) (pe :: pes) [] pos) (tE (lay X c) W E (wE G E (.umeth a m es))) := by
  refine PE.imp (pe_methD ha O.room h (plain_attr hp _ X.env) hline hpl hl hpe) fun σ H Q h => ?_
  obtain ⟨e, S, Qd, he, hs, hf, k, xw⟩ := h
  simp only [wE] at hf
  refine ⟨e, S, _, he, hs, hf, fun v S1 u H1 st q hs1 rv => ?_, xw⟩
  cases v with
  | ref p =>
    cases rv
    cases e1 : S1 p with
    | none => simp only [e1] at q
    | some o =>
      cases o with
      | ins ci fs =>
        simp only [e1] at q
        obtain ⟨l, q⟩ := q
        obtain ⟨sp, hG, q⟩ := withO_some q
        refine ⟨_, own_found O hG hm hs1 e1 l, ?_⟩
        refine ⟨e, S1, _, he.mono st.tp, hs1, q, fun vs S2 us2 H2 st2 q2 hs2 rvs _ => ?_, xw.step st⟩
        exact ⟨.ref p :: vs, S2, Qd, noE, ⟨_, _, rfl, rfl, rvs⟩, hs2, q2, (k.step st).step st2, fun _ _ _ _ z => z.elim⟩
      | lst xs => simp only [e1] at q
      | dct kvs t => simp only [e1] at q
  | _ => exact q.elim
theorem q_umeth0 {a : Ex} {m : Str} {pa : Expr} {apos : Pos} {T : Tab} {k : Nat} {sc : Scope} (O : XOk X c G T k sc) (hm : m ≠ ("__init__" : Str)) (ha : PE X pa (tE (lay X c) W E (wE G E a)))
    (hp : plainX pa = true) (hline : (apos.endLine == pos.line) = true) : PE X (.Call (.Attribute pa m apos) [] [] pos) (tE (lay X c) W E (wE G E (.umeth a m .nil))) := by
  refine PE.imp (pe_methD0 ha O.room (plain_attr hp _ X.env) hline) fun σ H Q h => ?_
  obtain ⟨e, S, Qd, he, hs, hf, k, xw⟩ := h
  simp only [wE, wEs] at hf
  refine ⟨e, S, _, he, hs, hf, fun v S1 u H1 st q hs1 rv => ?_, xw⟩
  cases v with
  | ref p =>
    cases rv
    cases e1 : S1 p with
    | none => simp only [e1] at q
    | some o =>
      cases o with
      | ins ci fs =>
        simp only [e1] at q
        obtain ⟨l, q⟩ := q
        obtain ⟨sp, hG, q⟩ := withO_some q
        exact ⟨_, own_found O hG hm hs1 e1 l, [.ref p], S1, Qd, noE, ⟨_, _, rfl, rfl, rfl⟩, hs1, q, k.step st, fun _ _ _ _ z => z.elim⟩
      | lst xs => simp only [e1] at q
      | dct kvs t => simp only [e1] at q
  | _ => exact q.elim
end
end DL

set_option autoImplicit true
set_option Elab.async false
set_option linter.all false
set_option maxRecDepth 100000
set_option maxHeartbeats 2000000
/-! Own layer, part 8: targets, what is walked, comprehensions. -/
namespace DL
open PySem PySem.Spec PyProof.Rows L2

/-! ### targets -/
def gMany : List Nat → TGs
  | [] => gNil
  | i :: r => gCons (gName i) (gMany r)
def gT (K : PySem.W.Frag) : Tg → TG
  | .one i => gName i
  | .many is => gTup K is.length (gMany is)
theorem wipe_set_in {v : Option V} : ∀ {vs : List Nat} {σ : L2.St} {i : Nat}, i ∈ vs → wipe (σ.set i v) vs = wipe σ vs
  | [], _, _, h => by simp at h
  | j :: vs, σ, i, h => by
    show (wipe (σ.set i v) vs).set j none = (wipe σ vs).set j none
    by_cases e : i = j
    · subst e
      have key : ∀ (vs : List Nat) (σ : L2.St), (wipe (σ.set i v) vs).set i none = (wipe σ vs).set i none := by
        intro vs
        induction vs with
        | nil => intro σ; show (σ.set i v).set i none = σ.set i none; rw [List.set_set]
        | cons k vs ih =>
          intro σ
          show ((wipe (σ.set i v) vs).set k none).set i none = ((wipe σ vs).set k none).set i none
          by_cases e2 : k = i
          · subst e2; rw [List.set_set, List.set_set]; exact ih σ
          · rw [List.set_comm _ _ e2, List.set_comm _ _ e2, ih σ]
      exact key vs σ
    · have h' : i ∈ vs := by
        rcases List.mem_cons.mp h with z | z
        · exact absurd z e
        · exact z
      rw [wipe_set_in h']
theorem many_ok {K : PySem.W.Frag} {H : Hp} {Q : L2.St → Hp → Prop} : ∀ {is : List Nat} {vs : List Val} {us : List V} {e e' : Env} {σ : L2.St}, bindMany e is vs = some e' → RVs K H vs us → RE K H e σ →
    (∀ σ', RE K H e' σ' → (∀ ws : List Nat, (∀ i ∈ is, i ∈ ws) → wipe σ' ws = wipe σ ws) → Q σ' H) → gMany is us σ H Q
  | [], [], us, e, e', σ, h, r, re, k => by
    cases r
    have h' : some e = some e' := h
    cases h'
    exact ⟨rfl, k σ re fun _ _ => rfl⟩
  | [], _ :: _, _, _, _, _, h, _, _, _ => by cases h
  | _ :: _, [], _, _, _, _, h, _, _, _ => by cases h
  | i :: is, v :: vs, us, e, e', σ, h, r, re, k => by
    obtain ⟨u, us', rfl, r1, r2⟩ := r
    refine ⟨u, us', rfl, ?_⟩
    refine many_ok (e := e.set i (some v)) (e' := e') h r2 (re.set i r1) fun σ' re' hw => k σ' re' fun ws hin => ?_
    rw [hw ws fun j hj => hin j (List.mem_cons_of_mem _ hj)]
    exact wipe_set_in (hin i (by simp))
theorem many_len : ∀ {is : List Nat} {vs : List Val} {e e' : Env}, bindMany e is vs = some e' → vs.length = is.length
  | [], [], _, _, _ => rfl
  | [], _ :: _, _, _, h => by cases h
  | _ :: _, [], _, _, h => by cases h
  | i :: is, v :: vs, e, e', h => by
    have h' : bindMany (e.set i (some v)) is vs = some e' := h
    simp [many_len h']
theorem gT_ok {K : PySem.W.Frag} {H : Hp} {Q : L2.St → Hp → Prop} {tg : Tg} {v : Val} {u : V} {e e' : Env} {σ : L2.St} (h : bindT tg e v = some e') (r : RV K H v u) (re : RE K H e σ)
    (k : ∀ σ', RE K H e' σ' → (∀ ws : List Nat, (∀ i ∈ tgSlots tg, i ∈ ws) → wipe σ' ws = wipe σ ws) → Q σ' H) : gT K tg u σ H Q := by
  cases tg with
  | one i =>
    have h' : some (e.set i (some v)) = some e' := h
    cases h'
    exact k _ (re.set i r) fun ws hin => wipe_set_in (hin i (by simp [tgSlots]))
  | many is =>
    cases v with
    | tup vs =>
      obtain ⟨a, us, rfl, hq, hr⟩ := r
      have h' : bindMany e is vs = some e' := h
      exact ⟨a, us, rfl, hq, by rw [← hr.length]; exact many_len h', many_ok h' hr re k⟩
    | _ => cases h
/-- names in a row are targets -/
theorem gs_ok {X : Cx} {T : Tab} {sc : Scope} (hN : X.N.Nodup) (eN : X.N = T.N) (hl : ∀ x, locC sc x = true → Loc X.env.scope x ∧ (X.fn x = true ∨ X.env.scope.names.lookup x = some .local)) :
    ∀ {is : List Nat} {es : List Expr}, tgC T sc is es = true → PGs X es (gMany is) ∧ (assignEach es X.env).length = is.length ∧ (assignEach es X.env).findIdx? (·.1) = none
  | [], [], _ => ⟨pgs_nil, rfl, rfl⟩
  | i :: is, .Name x p :: es, h => by
    have h' : ((decide (T.N[i]? = some x) && locC sc x) && tgC T sc is es) = true := h
    rw [Bool.and_eq_true, Bool.and_eq_true] at h'
    obtain ⟨⟨h1, h2⟩, h3⟩ := h'
    obtain ⟨g, gl, gf⟩ := gs_ok hN eN hl (is := is) (es := es) h3
    obtain ⟨l1, l2⟩ := hl x h2
    refine ⟨pgs_cons (pg_name hN (by rw [eN]; exact of_decide_eq_true h1) l1 l2) g (by rfl), ?_, ?_⟩
    · show (assignEach es X.env).length + 1 = is.length + 1
      rw [gl]
    · show List.findIdx? (fun x => x.1) ((false, assign (.Name x p) X.env) :: assignEach es X.env) = none
      rw [List.findIdx?_cons, gf]
      rfl
  | [], _ :: _, h => by simp [tgC] at h
  | _ :: _, [], h => by simp [tgC] at h
  | i :: is, e :: es, h => by
    cases e <;> first | (simp [tgC] at h; done) | skip
    rename_i x p
    have h' : ((decide (T.N[i]? = some x) && locC sc x) && tgC T sc is es) = true := h
    rw [Bool.and_eq_true, Bool.and_eq_true] at h'
    obtain ⟨⟨h1, h2⟩, h3⟩ := h'
    obtain ⟨g, gl, gf⟩ := gs_ok hN eN hl (is := is) (es := es) h3
    obtain ⟨l1, l2⟩ := hl x h2
    refine ⟨pgs_cons (pg_name hN (by rw [eN]; exact of_decide_eq_true h1) l1 l2) g (by rfl), ?_, ?_⟩
    · show (assignEach es X.env).length + 1 = is.length + 1
      rw [gl]
    · show List.findIdx? (fun x => x.1) ((false, assign (.Name x p) X.env) :: assignEach es X.env) = none
      rw [List.findIdx?_cons, gf]
      rfl
theorem g_ok {X : Cx} {T : Tab} {sc : Scope} (hN : X.N.Nodup) (eN : X.N = T.N) (hc : X.calm = true) (hl : ∀ x, locC sc x = true → Loc X.env.scope x ∧ (X.fn x = true ∨ X.env.scope.names.lookup x = some .local)) {tg : Tg} {e : Expr}
    (h : tgtC T sc tg e = true) : PG X e (gT X.K tg) := by
  cases tg with
  | one i =>
    cases e <;> first | (simp [tgtC] at h; done) | skip
    rename_i x p
    have h' : (decide (T.N[i]? = some x) && locC sc x) = true := h
    rw [Bool.and_eq_true] at h'
    obtain ⟨l1, l2⟩ := hl x h'.2
    exact pg_name hN (by rw [eN]; exact of_decide_eq_true h'.1) l1 l2
  | many is =>
    cases e <;> first | (simp [tgtC] at h; done) | skip
    rename_i es k p
    have h' : tgC T sc is es = true := h
    obtain ⟨g, gl, gf⟩ := gs_ok hN eN hl h'
    exact pg_tup hc g gl gf
end DL

set_option autoImplicit true
set_option Elab.async false
set_option linter.all false
set_option maxRecDepth 100000
set_option maxHeartbeats 2000000
/-! Own layer, part 9: what is walked. -/
namespace DL
open PySem PySem.Spec PyProof.Rows L2
structure WalkV (L : Lay) (H1 : Hp) (J : It) (xs : List Val) (grd : Sto → Prop) : Prop where
  small : xs.length ≤ sizeLine
  go : ∀ i H S, i < xs.length → Tp L.K H1 H → RS L H S → grd S → J.go i H
  stop : ∀ H S, Tp L.K H1 H → RS L H S → grd S → J.stop xs.length H
  yld : ∀ i H S x H', i < xs.length → Tp L.K H1 H → RS L H S → grd S → J.yld i H x H' → ∃ v, xs[i]? = some v ∧ RV L.K H' v x ∧ Stp L H S H' S ∧ RS L H' S ∧ ∀ b, H b ≠ none → H' b = H b
def tI (L : Lay) (W : WX) (E : Nat → Sto → Prop) (f : Env → Sto → (List Val → (Sto → Prop) → Sto → Prop) → Prop) : TI := fun σ H R => ∃ e S K, RE L.K H e σ ∧ RS L H S ∧ f e S K ∧
  (∀ xs grd S' H' J, Stp L H S H' S' → K xs grd S' → RS L H' S' → WalkV L H' J xs grd → R J H') ∧ XW L W E σ H S
theorem PI.imp {X : Cx} {tg it : Expr} {t t' : TI} (h : PI X tg it t) (hh : ∀ σ H R, t' σ H R → t σ H R) : PI X tg it t' := ⟨fun pins s σ H R I q => h.run pins s σ H R I (hh _ _ _ q)⟩
section
variable {L : Lay} {H1 : Hp}
theorem wv_list {a : Addr} {xs : List Val} (hz : xs.length ≤ sizeLine) : WalkV L H1 (Itl L.K a) xs (fun S => S a = some (.lst xs)) where
  small := hz
  go := fun i H S hi _ rs g => by
    obtain ⟨us, h1, h2⟩ := rs a _ g
    have hi' : i < us.length := by rw [← h2.length]; exact hi
    exact ⟨us, us[i], SqL.of h1, by simp [hi']⟩
  stop := fun H S _ rs g => by
    obtain ⟨us, h1, h2⟩ := rs a _ g
    exact ⟨us, SqL.of h1, by rw [← h2.length]; exact Nat.le_refl _⟩
  yld := fun i H S x H' hi _ rs g y => by
    obtain ⟨us, h1, h2⟩ := rs a _ g
    obtain ⟨rfl, y⟩ := y
    obtain ⟨v, e, r⟩ := h2.getr (y us (SqL.of h1))
    exact ⟨v, e, r, .refl, rs, fun _ _ => rfl⟩
theorem wv_tup {a : Addr} {xs : List Val} {us : List V} (hq : SqT L.K H1 a us) (hr : RVs L.K H1 xs us) (hz : xs.length ≤ sizeLine) : WalkV L H1 (Itt L.K a) xs (fun _ => True) where
  small := hz
  go := fun i H S hi t rs g => by
    have hi' : i < us.length := by rw [← hr.length]; exact hi
    exact ⟨us, us[i], t.1 _ _ hq, by simp [hi']⟩
  stop := fun H S t rs g => ⟨us, t.1 _ _ hq, by rw [← hr.length]; exact Nat.le_refl _⟩
  yld := fun i H S x H' hi t rs g y => by
    obtain ⟨rfl, y⟩ := y
    obtain ⟨v, e, r⟩ := hr.getr (y us (t.1 _ _ hq))
    exact ⟨v, e, RV.mono t _ _ r, .refl, rs, fun _ _ => rfl⟩
theorem range_get (lo : Int) (n : Nat) (st : Int) (i : Nat) (h : i < n) : (rangeL lo n st)[i]? = some (.int (lo + (i : Int) * st)) := by
  unfold rangeL
  rw [List.getElem?_map, List.getElem?_range h]
  rfl
theorem range_len (lo : Int) (n : Nat) (st : Int) : (rangeL lo n st).length = n := by
  unfold rangeL
  rw [List.length_map, List.length_range]
theorem wv_rng {lo : Int} {n : Nat} (hz : n ≤ sizeLine) : WalkV L H1 (L2.Itr lo n) (rangeL lo n 1) (fun _ => True) where
  small := by rw [range_len]; exact hz
  go := fun i H S hi t rs g => by rw [range_len] at hi; exact hi
  stop := fun H S t rs g => by rw [range_len]; exact Nat.le_refl _
  yld := fun i H S x H' hi t rs g y => by
    rw [range_len] at hi
    obtain ⟨rfl, rfl⟩ := y
    exact ⟨_, range_get _ _ _ _ hi, by rw [Int.mul_one]; rfl, .refl, rs, fun _ _ => rfl⟩
theorem wv_rngC {lo c : Int} {n : Nat} (hz : n ≤ sizeLine) : WalkV L H1 (Itc lo c n) (rangeL lo n c) (fun _ => True) where
  small := by rw [range_len]; exact hz
  go := fun i H S hi t rs g => by rw [range_len] at hi; exact hi
  stop := fun H S t rs g => by rw [range_len]; exact Nat.le_refl _
  yld := fun i H S x H' hi t rs g y => by
    rw [range_len] at hi
    obtain ⟨rfl, rfl⟩ := y
    exact ⟨_, range_get _ _ _ _ hi, rfl, .refl, rs, fun _ _ => rfl⟩
theorem wv_str {z : Str} (hz : z.cps.size ≤ sizeLine) : WalkV L H1 (Its z) (z.cps.toList.map fun c => .str ⟨#[c]⟩) (fun _ => True) where
  small := by simpa using hz
  go := fun i H S hi t rs g => by
    have hi' : i < z.cps.size := by simpa using hi
    exact hi'
  stop := fun H S t rs g => by
    have h : z.cps.size ≤ (z.cps.toList.map fun c => Val.str ⟨#[c]⟩).length := by simp
    exact h
  yld := fun i H S x H' hi t rs g y => by
    obtain ⟨rfl, c, e, rfl⟩ := y
    exact ⟨.str ⟨#[c]⟩, by rw [List.getElem?_map, Array.getElem?_toList, e]; rfl, rfl, .refl, rs, fun _ _ => rfl⟩
/-- a new pair -/
theorem pair_new {H : Hp} {S : Sto} {T : Addr} {v w : Val} {x y : V} (rs : RS L H S) (n : H T = none) (rv : RV L.K H v x) (rw' : RV L.K H w y) :
    RV L.K (upd H T (.tup [x, y])) (.tup [v, w]) (.ref T) ∧ Stp L H S (upd H T (.tup [x, y])) S ∧ RS L (upd H T (.tup [x, y])) S ∧ ∀ b, H b ≠ none → upd H T (.tup [x, y]) b = H b := by
  have t : Tp L.K H (upd H T (.tup [x, y])) := Tp.fresh n
  exact ⟨⟨T, [x, y], rfl, SqT.of upd_same, x, [y], rfl, RV.mono t _ _ rv, y, [], rfl, RV.mono t _ _ rw', rfl⟩, Stp.new n, rs.new n, fun b hb => upd_ne fun e => hb (by rw [e]; exact n)⟩
theorem enum_len : ∀ (n : Nat) (xs : List Val), (enumL n xs).length = xs.length
  | _, [] => rfl
  | n, x :: xs => by
    show (enumL (n + 1) xs).length + 1 = xs.length + 1
    rw [enum_len (n + 1) xs]
theorem enum_get : ∀ (n : Nat) (xs : List Val) (i : Nat) (v : Val), xs[i]? = some v → (enumL n xs)[i]? = some (.tup [.int ((n + i : Nat) : Int), v])
  | _, [], _, _, h => by simp at h
  | n, x :: xs, 0, v, h => by
    simp at h
    subst h
    rfl
  | n, x :: xs, i + 1, v, h => by
    have := enum_get (n + 1) xs i v (by simpa using h)
    show (enumL (n + 1) xs)[i]? = _
    rw [this, show n + 1 + i = n + (i + 1) by omega]
theorem wv_enum {a : Addr} {xs : List Val} (hz : xs.length ≤ sizeLine) : WalkV L H1 (Ite L.K a) (enumL 0 xs) (fun S => S a = some (.lst xs)) where
  small := by rw [enum_len]; exact hz
  go := fun i H S hi _ rs g => by
    rw [enum_len] at hi
    obtain ⟨us, h1, h2⟩ := rs a _ g
    have hi' : i < us.length := by rw [← h2.length]; exact hi
    exact ⟨us, us[i], SqL.of h1, by simp [hi']⟩
  stop := fun H S _ rs g => by
    rw [enum_len]
    obtain ⟨us, h1, h2⟩ := rs a _ g
    exact ⟨us, SqL.of h1, by rw [← h2.length]; exact Nat.le_refl _⟩
  yld := fun i H S x H' hi _ rs g y => by
    obtain ⟨us, h1, h2⟩ := rs a _ g
    obtain ⟨T, z, rfl, n, rfl, y⟩ := y
    obtain ⟨v, e, r⟩ := h2.getr (y us (SqL.of h1))
    obtain ⟨q1, q2, q3, q4⟩ := pair_new (v := .int (i : Nat)) (x := .int (i : Nat)) rs n rfl r
    exact ⟨_, by rw [enum_get 0 xs i v e, Nat.zero_add], q1, q2, q3, q4⟩
theorem zip_len : ∀ (xs ys : List Val), (zipL xs ys).length = min xs.length ys.length
  | [], _ => by simp [zipL]
  | _ :: _, [] => by simp [zipL]
  | x :: xs, y :: ys => by
    show (zipL xs ys).length + 1 = _
    rw [zip_len xs ys]
    simp
theorem zip_get : ∀ (xs ys : List Val) (i : Nat) (v w : Val), xs[i]? = some v → ys[i]? = some w → (zipL xs ys)[i]? = some (.tup [v, w])
  | [], _, _, _, _, h, _ => by simp at h
  | _ :: _, [], _, _, _, _, h => by simp at h
  | x :: xs, y :: ys, 0, v, w, h, h' => by
    simp at h h'
    subst h h'
    rfl
  | x :: xs, y :: ys, i + 1, v, w, h, h' => by
    show (zipL xs ys)[i]? = _
    exact zip_get xs ys i v w (by simpa using h) (by simpa using h')
theorem wv_zip {a b : Addr} {xs ys : List Val} (hz : xs.length ≤ sizeLine) : WalkV L H1 (Itz L.K a b) (zipL xs ys) (fun S => S a = some (.lst xs) ∧ S b = some (.lst ys)) where
  small := by rw [zip_len]; omega
  go := fun i H S hi _ rs g => by
    rw [zip_len] at hi
    obtain ⟨us, h1, h2⟩ := rs a _ g.1
    obtain ⟨ws, h3, h4⟩ := rs b _ g.2
    have l1 := h2.length
    have l2 := h4.length
    exact ⟨us, ws, us[i]'(by omega), ws[i]'(by omega), SqL.of h1, SqL.of h3, by simp, by simp⟩
  stop := fun H S _ rs g => by
    rw [zip_len]
    obtain ⟨us, h1, h2⟩ := rs a _ g.1
    obtain ⟨ws, h3, h4⟩ := rs b _ g.2
    have l1 := h2.length
    have l2 := h4.length
    exact ⟨us, ws, SqL.of h1, SqL.of h3, by omega⟩
  yld := fun i H S x H' hi _ rs g y => by
    obtain ⟨us, h1, h2⟩ := rs a _ g.1
    obtain ⟨ws, h3, h4⟩ := rs b _ g.2
    obtain ⟨T, z, z2, rfl, n, rfl, y1, y2⟩ := y
    obtain ⟨v, e, r⟩ := h2.getr (y1 us (SqL.of h1))
    obtain ⟨w, e2, r2⟩ := h4.getr (y2 ws (SqL.of h3))
    obtain ⟨q1, q2, q3, q4⟩ := pair_new rs n r r2
    exact ⟨_, zip_get _ _ _ _ _ e e2, q1, q2, q3, q4⟩
theorem wv_zipT {a b : Addr} {xs ys : List Val} {us ws : List V} (ha : SqT L.K H1 a us) (ra : RVs L.K H1 xs us) (hb : SqT L.K H1 b ws) (rb : RVs L.K H1 ys ws) (hz : xs.length ≤ sizeLine) : WalkV L H1 (RZ.ItzT L.K a b) (zipL xs ys) (fun _ => True) where
  small := by rw [zip_len]; omega
  go := fun i H S hi t rs g => by
    rw [zip_len] at hi
    have l1 := ra.length
    have l2 := rb.length
    exact ⟨us, ws, us[i]'(by omega), ws[i]'(by omega), t.1 _ _ ha, t.1 _ _ hb, by simp, by simp⟩
  stop := fun H S t rs g => by
    rw [zip_len]
    have l1 := ra.length
    have l2 := rb.length
    exact ⟨us, ws, t.1 _ _ ha, t.1 _ _ hb, by omega⟩
  yld := fun i H S x H' hi t rs g y => by
    obtain ⟨T, z, z2, rfl, n, rfl, y1, y2⟩ := y
    obtain ⟨v, e, r⟩ := ra.getr (y1 us (t.1 _ _ ha))
    obtain ⟨w, e2, r2⟩ := rb.getr (y2 ws (t.1 _ _ hb))
    obtain ⟨q1, q2, q3, q4⟩ := pair_new rs n (RV.mono t _ _ r) (RV.mono t _ _ r2)
    exact ⟨_, zip_get _ _ _ _ _ e e2, q1, q2, q3, q4⟩
end
/-! ### a dict's keys -/
def Itd' (P : Program) (w : World) (a : Addr) (n t : Nat) : It :=
  ⟨fun i H => i < n ∧ ∃ es, H a = some (dctO a es t) ∧ es.size = n ∧ ∃ e x, es[i]? = some e ∧ RelV x e.key,
   fun i H x H' => H' = H ∧ ∀ es, H a = some (dctO a es t) → ∃ e, es[i]? = some e ∧ RelV x e.key,
   fun i H => n ≤ i ∧ ∃ es, H a = some (dctO a es t) ∧ es.size = n⟩
theorem raw_eq {h : Heap} {a : Addr} {es es' : Array DictEntry} {t t' : Nat} (x : h.DictRaw a es t) (y : h.DictRaw a es' t') : es = es' := by
  obtain ⟨o, e1, _, d1⟩ := x
  obtain ⟨o', e2, _, d2⟩ := y
  rw [e1] at e2
  cases e2
  rw [d1] at d2
  cases d2
  rfl
theorem turn_dct {P : Program} {w : World} {K : PySem.W.Frag} {tg : Expr} (a it : Addr) (n t : Nat) : Turn P w K tg (Itd' P w a n t) [it] it (fun i h => h.IsKeyIter it a i n t) where
  mem := by simp
  obj := fun i h st b hb => by
    have e : b = it := by simpa using hb
    subst e
    obtain ⟨o, e, c, d⟩ := st
    exact ⟨o, e, fun v z => by rw [d] at z; cases z⟩
  keep := fun i h h' st k => by
    obtain ⟨o, e, c, d⟩ := st
    exact ⟨o, k it (by simp) _ e, c, d⟩
  item := by
    intro X hP hw hK hc i pins s σ H E I hf st hg
    subst hP hw hK
    obtain ⟨hi, es, hd, hn, e, x, he, rx⟩ := hg
    obtain ⟨f0, f1, f2, f3, f4, f5⟩ := hf it (by simp)
    have hm := raw_of I hd
    subst hn
    refine wpAny_pyNext_keys_item_raw st hm hi fun h' st' sb => ?_
    have I1 : Inv X pins σ H { s with heap := h' } := I.turned (t' := s.toks) (fun b o hb e => (sb.2 b hb).trans e) f0 f1 f3 f4 f5
    obtain ⟨o, e1, c1, d1⟩ := id st'
    have e2 : es[i] = e := by
      rw [Array.getElem?_eq_getElem hi] at he
      exact Option.some.inj he
    exact ⟨es[i].key, rfl, go_of (s := { s with heap := h' }) e1 c1 d1 (by decide) ⟨x, H, I1, by rw [e2]; exact rx, ⟨rfl, fun es' h' => by
      rw [← raw_eq hm (raw_of I h')]
      exact ⟨e, he, rx⟩⟩, st', fun b hb => (hf b hb).1⟩⟩
  done := by
    intro X hP hw hK hc i pins s σ H E I hf st hg
    subst hP hw hK
    obtain ⟨hi, es, hd, hn⟩ := hg
    obtain ⟨f0, f1, f2, f3, f4, f5⟩ := hf it (by simp)
    have hm := raw_of I hd
    subst hn
    exact wpAny_pyNext_keys_end_raw (I.ok.hd hc) st hm hi fun h' eb => ⟨rfl, I.turned (t' := s.toks) (fun b o hb e => eb b o hb e) f0 f1 f3 f4 f5⟩
  self := fun _ _ _ _ _ st h => wpAny_pyIter_keyiter st h
theorem leaf_at {L : Lay} {H : Hp} {kvs : List (Val × Val)} {es : Array DictEntry} {lvs : List (Key × Value)} (d : LeafD L (mixE L.P L.w) H kvs es lvs) {i : Nat} {p : Val × Val} (h : kvs[i]? = some p) : ∃ e x, es[i]? = some e ∧ RelV x e.key ∧ RV L.K H p.1 x := by
  have hp : ∃ q, lvs[i]? = some q ∧ keyOf p.1 = some q.1 := by
    have go : ∀ {kvs : List (Val × Val)} {lvs : List (Key × Value)} {i : Nat}, Paired (fun (p : Val × Val) (q : Key × Value) => keyOf p.1 = some q.1 ∧ ∃ u, RV L.K H p.2 u ∧ RelV u q.2) kvs lvs → kvs[i]? = some p → ∃ q, lvs[i]? = some q ∧ keyOf p.1 = some q.1 := by
      intro kvs lvs i r
      induction r generalizing i with
      | nil => intro z; simp at z
      | @cons a b as bs hab t ih =>
        intro z
        cases i with
        | zero => simp at z; subst z; exact ⟨b, rfl, hab.1⟩
        | succ j => exact ih (by simpa using z)
    exact go d.rep h
  obtain ⟨q, e1, e2⟩ := hp
  have hes : ∃ e, es.toList[i]? = some e ∧ keyIs q.1 e.key = true := by
    have go : ∀ {es : List DictEntry} {lvs : List (Key × Value)} {i : Nat}, Pairs (mixKind L.P L.w) es lvs → lvs[i]? = some q → ∃ e, es[i]? = some e ∧ keyIs q.1 e.key = true := by
      intro es lvs i r
      induction r generalizing i with
      | nil => intro z; simp at z
      | @cons e kv es' kvs' h1 h2 t ih =>
        intro z
        cases i with
        | zero => simp at z; subst z; exact ⟨e, rfl, h1⟩
        | succ j => exact ih (by simpa using z)
    exact go d.prs e1
  obtain ⟨e, e3, e4⟩ := hes
  refine ⟨e, ?_⟩
  obtain ⟨p1, p2⟩ := p
  obtain ⟨q1, q2⟩ := q
  have e5 : es[i]? = some e := by rw [← Array.getElem?_toList]; exact e3
  cases p1 with
  | int j =>
    cases e2
    obtain ⟨t, ht⟩ := Value.isInt_shape (k := j) (v := e.key) e4
    exact ⟨.int j, e5, ⟨t, ht⟩, rfl⟩
  | str x =>
    cases e2
    obtain ⟨t, ht⟩ := Value.isStrOf_shape (x := x) (v := e.key) e4
    exact ⟨.str x, e5, ⟨t, ht⟩, rfl⟩
  | _ => cases e2
theorem tupd_at {L : Lay} {H : Hp} {kvs : List (Val × Val)} {es : Array DictEntry} {xs : List (NestedKey × Addr × Value)} (d : TupD L H kvs es xs) {i : Nat} {p : Val × Val} (h : kvs[i]? = some p) : ∃ e x, es[i]? = some e ∧ RelV x e.key ∧ RV L.K H p.1 x := by
  have hp : ∃ q, xs[i]? = some q ∧ RV L.K H p.1 (.ref q.2.1) := by
    have go : ∀ {kvs : List (Val × Val)} {xs : List (NestedKey × Addr × Value)} {i : Nat}, Paired (TupR L H) kvs xs → kvs[i]? = some p → ∃ q, xs[i]? = some q ∧ RV L.K H p.1 (.ref q.2.1) := by
      intro kvs xs i r
      induction r generalizing i with
      | nil => intro z; simp at z
      | @cons a b as bs hab t ih =>
        intro z
        cases i with
        | zero => simp at z; subst z; exact ⟨b, rfl, hab.2.2.2.2.1⟩
        | succ j => exact ih (by simpa using z)
    exact go d.rep h
  obtain ⟨q, e1, e2⟩ := hp
  refine ⟨entryOfKey (nestedKind L.P L.w) q, .ref q.2.1, ?_, rfl, e2⟩
  rw [← Array.getElem?_toList, d.ents, List.getElem?_map, e1]
  rfl
theorem wv_dct {L : Lay} {H1 : Hp} {a : Addr} {kvs : List (Val × Val)} {t : Nat} (ok : keysOk kvs = true) (hz : kvs.length ≤ sizeLine) : WalkV L H1 (Itd' L.P L.w a kvs.length t) (kvs.map (·.1)) (fun S => S a = some (.dct kvs t)) := by
  have key : ∀ {H : Hp} {S : Sto}, RS L H S → S a = some (.dct kvs t) → ∃ es, H a = some (dctO a es t) ∧ es.size = kvs.length ∧ ∀ (i : Nat) (p : Val × Val), kvs[i]? = some p → ∃ (e : DictEntry) (x : V), es[i]? = some e ∧ RelV x e.key ∧ RV L.K H p.1 x := by
    intro H S rs g
    obtain ⟨es, h1, h2, h3, h4, h5⟩ := rs a _ g
    refine ⟨es, h1, h4, fun i p hp => ?_⟩
    rcases h5 with ⟨b, lvs, h5⟩ | ⟨xs, h5⟩
    · cases b with
      | true => exact leaf_at h5 hp
      | false =>
        exfalso
        cases kvs with
        | nil => simp at hp
        | cons q r =>
          obtain ⟨q1, q2⟩ := q
          have z := h5.rep
          cases z with
          | cons z _ =>
            have z1 : kcl q1 = 1 := (leafE L.P L.w).ecl z.1
            have ok' : (kcl q1 != 1) = true := ok
            rw [z1] at ok'
            cases ok'
    · exact tupd_at h5 hp
  refine ⟨by rw [List.length_map]; exact hz, fun i H S hi _ rs g => ?_, fun H S _ rs g => ?_, fun i H S x H' hi _ rs g y => ?_⟩
  · rw [List.length_map] at hi
    obtain ⟨es, h1, h2, h3⟩ := key rs g
    obtain ⟨e, x, e1, e2, _⟩ := h3 i kvs[i] (by simp [hi])
    exact ⟨hi, es, h1, h2, e, x, e1, e2⟩
  · rw [List.length_map]
    obtain ⟨es, h1, h2, h3⟩ := key rs g
    exact ⟨Nat.le_refl _, es, h1, h2⟩
  · rw [List.length_map] at hi
    obtain ⟨es, h1, h2, h3⟩ := key rs g
    obtain ⟨rfl, y⟩ := y
    obtain ⟨e, z, e1, e2, e3⟩ := h3 i kvs[i] (by simp [hi])
    obtain ⟨e', e4, e5⟩ := y es h1
    rw [e1] at e4
    cases e4
    have : z = x := e2.inj e5
    subst this
    exact ⟨kvs[i].1, by simp [hi], e3, .refl, rs, fun _ _ => rfl⟩
end DL

set_option autoImplicit true
set_option Elab.async false
set_option linter.all false
set_option maxRecDepth 100000
set_option maxHeartbeats 4000000
/-! Own layer, part 9b: enumerate over tuples and texts. -/
namespace DL
open PySem PySem.Spec PyProof.Rows L2

/-- enumerate of one argument begins, told by how that is walked -/
theorem enum_new1 {v : Value} {o : Obj} {Hd : Heap → Prop} (B : Begins v o Hd) :
    Meets (Builtin.«enumerate.__new__» ⟨[.type "enumerate", v], []⟩) (fun _ R s => Hd s.heap ∧
      R (.ok (.ret (.ref (s.heap.push o).objs.size))) { s with heap := (s.heap.push o).push { cls := .type "enumerate", data := .fields #[.none, .bool false, .ref s.heap.objs.size, rawInt 0, .none, .none] } }) :=
  .of_wp fun prog w A R s h => by
    obtain ⟨hp, g, d, tk, os⟩ := s
    obtain ⟨hh, h⟩ := h
    have hsub := sub_enumerate
    have q1 : ∀ {A' : Around} {E Q : Value → Shared → Prop}, Q (.ref hp.objs.size) ⟨hp.push o, g, d, tk, os⟩ → wpAny (model prog w) A' (pyIter v) Q E ⟨hp, g, d, tk, os⟩ := fun q => B.iter _ _ _ _ ⟨hp, g, d, tk, os⟩ _ hh q
    wp_walk using q1
    refine wpAny_stack_any fun st => wpAny_pure ?_
    split
    · rename_i c _ _ _ _ _
      cases (c == Value.type "enumerate") <;> (wp_walk using q1; exact ⟨_, rfl, h⟩)
    · wp_walk using q1
      exact ⟨_, rfl, h⟩
theorem enum_begin1 {prog : Program} {w : World} {A : Around} {E : Value → Shared → Prop} {s : Shared} {v : Value} {o : Obj} {Hd : Heap → Prop} {Q : Value → Shared → Prop} (B : Begins v o Hd) (hh : Hd s.heap)
    (h : ∀ h', IsEnum h' (s.heap.objs.size + 1) s.heap.objs.size 0 .none → h'.get? s.heap.objs.size = some o → (∀ b ob, s.heap.get? b = some ob → h'.get? b = some ob) → Q (.ref (s.heap.objs.size + 1)) { s with heap := h' }) :
    wpAny (model prog w) A (call (.type "enumerate") [v]) Q E s := by
  refine callType_new F.called_enumerate (by decide) (F.typeCall_enumerate_1 _) (F.newCall_enumerate_1 _) (fun obj => F.args_object_init_2 obj _) F.entry_enumerate_new (enum_new1 B) ⟨hh, ?_⟩
  have e1 : (s.heap.push o).objs.size = s.heap.objs.size + 1 := Heap.size_push ..
  have e2 : IsEnum ((s.heap.push o).push { cls := .type "enumerate", data := .fields #[.none, .bool false, .ref s.heap.objs.size, rawInt 0, .none, .none] }) (s.heap.objs.size + 1) s.heap.objs.size 0 .none := by
    rw [← e1]
    exact Heap.get?_push_size _ rfl
  show _ ∧ _
  rw [e1]
  exact ⟨⟨_, e2, rfl⟩, h _ e2 (Heap.get?_push_of_some _ (Heap.get?_push_size _ B.free)) fun b ob q => Heap.get?_push_of_some _ (Heap.get?_push_of_some _ q)⟩

/-- the tuple at a, each item in a new pair -/
def IteT (K : PySem.W.Frag) (a : Addr) : It where
  go i H := ∃ (us : List V) (x : V), SqT K H a us ∧ us[i]? = some x
  yld i H v H' := ∃ T x, v = .ref T ∧ H T = none ∧ H' = upd H T (.tup [.int (i : Nat), x]) ∧ ∀ us, SqT K H a us → us[i]? = some x
  stop i H := ∃ us : List V, SqT K H a us ∧ us.length = i
/-- the text's signs, each in a new pair -/
def IteS (z : Str) : It where
  go i _ := i < z.cps.size
  yld i H v H' := ∃ T c, v = .ref T ∧ H T = none ∧ H' = upd H T (.tup [.int (i : Nat), .str ⟨#[c]⟩]) ∧ z.cps[i]? = some c
  stop i _ := z.cps.size = i
section
variable {P : Program} {w : World} {K : PySem.W.Frag} {elts : List Expr} {kk : Nat} {tpos : Pos}
/-- one pair of an enumerate -/
theorem enum_pair {X : Cx} {pins : List (Addr × Obj)} {s : Shared} {σ : L2.St} {H : Hp} {E : Value → Shared → Prop} {e it : Addr} {fp : List Addr} {n i : Nat} {old : Value} {Pv : Nat → Value → Prop} {St : Nat → Heap → Prop}
    (I : Inv X pins σ H s) (D : Draws X.prog X.w X.A.in1 it fp n Pv St) (he : IsEnum s.heap e it ((i : Nat) : Int) old) (hst : St i s.heap) (hi : i < n) (hne : e ≠ it) (hef : e ∉ fp) (hif : it ∈ fp) (hf : ∀ b ∈ [e, it], FpOk X pins H b)
    {J : It} {tn : Nat → Heap → Prop} (hy : ∀ u, Pv i u → ∃ x : V, RelV x u ∧ ∀ T, H T = none → J.yld i H (.ref T) (upd H T (.tup [.int (i : Nat), x])))
    (htn : ∀ h' old', IsEnum h' e it (((i + 1 : Nat)) : Int) old' → St (i + 1) h' → tn (i + 1) h') :
    wpAny (model X.prog X.w) X.A (pyNext (.ref e)) (fun r s1 => ∃ u, r = some u ∧
      wpAny (model X.prog X.w) X.A (letOwnedTupleGo (.Tuple elts kk tpos) (.ref e) u) (fun _ s2 => ∃ x H', Inv X pins σ H' s2 ∧ RelV x u ∧ J.yld i H x H' ∧ tn (i + 1) s2.heap ∧ ∀ b ∈ [e, it], H' b = none) E s1) E s := by
  have hel : e < s.heap.objs.size := Heap.lt_size he
  have hil : it < s.heap.objs.size := by
    obtain ⟨_, q⟩ := D.live _ _ hst
    exact Heap.lt_size q
  have old2 : ∀ b ∈ [e, it], b < s.heap.objs.size := fun b hb => by
    simp only [List.mem_cons, List.not_mem_nil, or_false] at hb
    rcases hb with z | z
    · rw [z]; exact hel
    · rw [z]; exact hil
  refine wpAny_pyNext_enum_itemD D he hst hi hne hef fun u h' tk hu ho hst' hT hsz hk => ?_
  obtain ⟨x, rx, yx⟩ := hy u hu
  refine ⟨_, rfl, wpAny_letOwnedTupleGo_enum (s := { s with heap := h', toks := tk + 1 }) ho fun h'' he' sb => ?_⟩
  have hT2 : h''.get? s.heap.objs.size = some { cls := .type "tuple", data := .seq #[.int i tk, u] } := (sb.2 _ (Nat.ne_of_gt hel)).trans hT
  have new : ObjOk X.prog X.w (upd H s.heap.objs.size (.tup [.int (i : Nat), x])) h'' s.heap.objs.size (.tup [.int (i : Nat), x]) :=
    ⟨by show 2 ≤ sizeLine; decide, [.int i tk, u], .cons ⟨_, rfl⟩ (.cons rx .nil), ⟨_, hT2, rfl, _, rfl⟩⟩
  have I1 : Inv X pins σ (upd H s.heap.objs.size (.tup [.int (i : Nat), x])) { s with heap := h'', toks := tk + 1 } :=
    I.turnedNew (ch := [e, it]) (fun b ob hb q => (sb.2 b fun z => hb (by rw [z]; simp)).trans (hk b ob (fun z => hb (by rw [z]; simp)) (fun z => hb (by rw [z]; simp)) q)) hf (Nat.le_refl _) new
  refine ⟨.ref s.heap.objs.size, _, I1, rfl, yx _ (I.hok.fresh (Nat.le_refl _)), htn h'' u ?_ ?_, fun b hb => ?_⟩
  · rw [show ((i + 1 : Nat) : Int) = (i : Int) + 1 by omega]
    exact he'
  · exact D.frame _ _ _ hst' fun b hb o q => (sb.2 b fun z => hef (z ▸ hb)).trans q
  · rw [upd_ne (Nat.ne_of_lt (old2 b hb))]
    exact (hf b hb).1
theorem turn_enumT (a e it : Addr) : Turn P w K (.Tuple elts kk tpos) (IteT K a) [e, it] e (fun i h => (∃ old, IsEnum h e it ((i : Nat) : Int) old) ∧ h.IsTupleIter it a i ∧ e ≠ it) where
  mem := by simp
  obj := fun i h st b hb => by
    obtain ⟨⟨old, he⟩, ⟨o, ho, _, hd⟩, _⟩ := st
    simp only [List.mem_cons, List.not_mem_nil, or_false] at hb
    rcases hb with z | z
    · refine ⟨_, (show h.get? b = _ from z ▸ he), fun v q => ?_⟩
      cases q
    · exact ⟨o, by rw [z]; exact ho, fun v q => by rw [hd] at q; cases q⟩
  keep := fun i h h' st k => by
    obtain ⟨⟨old, he⟩, hi, hne⟩ := st
    exact ⟨⟨old, k e (by simp) _ he⟩, hi.at fun o q => k it (by simp) o q, hne⟩
  item := by
    intro X hP hw hK hc i pins s σ H E I hf st hg
    subst hP hw hK
    obtain ⟨⟨old, he⟩, hit, hne⟩ := st
    obtain ⟨us, x, hq, hx⟩ := hg
    obtain ⟨its, rv, p, hz⟩ := I.tuple hq
    have pt : s.heap.IsTuple a its.toArray := p
    have hai : a ≠ it := fun z => by
      obtain ⟨o1, e1, c1, _⟩ := pt
      obtain ⟨o2, e2, c2, _⟩ := hit
      rw [z, e2] at e1
      cases e1
      rw [c2] at c1
      exact absurd (Value.type.inj c1) (by decide)
    have hae : a ≠ e := fun z => by
      obtain ⟨o1, e1, c1, _⟩ := pt
      rw [z, show s.heap.get? e = some _ from he] at e1
      cases e1
      exact absurd (Value.type.inj c1) (by decide)
    have hl := rv.length
    have hi : i < its.toArray.size := by
      have := (List.getElem?_eq_some_iff.mp hx).1
      simp
      omega
    refine enum_pair (J := IteT X.K a) (tn := fun i h => (∃ old, IsEnum h e it ((i : Nat) : Int) old) ∧ h.IsTupleIter it a i ∧ e ≠ it) I (Draws.tuple (A := X.A.in1) (I.ok.hd hc) it a hai its.toArray) he ⟨hit, pt⟩ hi hne (by simp [hne, Ne.symm hae]) (by simp) hf (fun u hu => ?_) fun h' old' he' hs' => ⟨⟨old', he'⟩, hs'.1, hne⟩
    obtain ⟨u', hu', ru⟩ := rv.get hx
    have : u = u' := by
      have h1 : its[i]? = some u := by simpa using hu
      rw [hu'] at h1
      exact (Option.some.inj h1).symm
    subst this
    exact ⟨x, ru, fun T nT => ⟨T, x, rfl, nT, rfl, fun ys hy => by rw [I.tuple_inj hy hq]; exact hx⟩⟩
  done := by
    intro X hP hw hK hc i pins s σ H E I hf st hg
    subst hP hw hK
    obtain ⟨⟨old, he⟩, hit, hne⟩ := st
    obtain ⟨us, hq, hx⟩ := hg
    obtain ⟨its, rv, p, hz⟩ := I.tuple hq
    have pt : s.heap.IsTuple a its.toArray := p
    obtain ⟨f0, f1, f2, f3, f4, f5⟩ := hf it (by simp)
    have hl := rv.length
    have hai : a ≠ it := fun z => by
      obtain ⟨o1, e1, c1, _⟩ := pt
      obtain ⟨o2, e2, c2, _⟩ := hit
      rw [z, e2] at e1
      cases e1
      rw [c2] at c1
      exact absurd (Value.type.inj c1) (by decide)
    have hsz : its.toArray.size = i := by
      simp
      omega
    exact wpAny_pyNext_enum_endD (Draws.tuple (A := X.A.in1) (I.ok.hd hc) it a hai its.toArray) he (by rw [hsz]; exact ⟨hit, pt⟩) fun h' eb => ⟨rfl, I.turned (t' := s.toks) (fun b o hb q => eb b o hb q) f0 f1 f3 f4 f5⟩
  self := fun A i s Q E st h => by
    obtain ⟨⟨_, he⟩, _⟩ := st
    exact wpAny_pyIter_enum he h
theorem turn_enumS (z : Str) (t : Tok) (e it : Addr) : Turn P w K (.Tuple elts kk tpos) (IteS z) [e, it] e (fun i h => (∃ old, IsEnum h e it ((i : Nat) : Int) old) ∧ h.IsStrIter it (strIterType z) z t i ∧ e ≠ it) where
  mem := by simp
  obj := fun i h st b hb => by
    obtain ⟨⟨old, he⟩, ⟨o, ho, _, hd⟩, _⟩ := st
    simp only [List.mem_cons, List.not_mem_nil, or_false] at hb
    rcases hb with z | z
    · refine ⟨_, (show h.get? b = _ from z ▸ he), fun v q => ?_⟩
      cases q
    · exact ⟨o, by rw [z]; exact ho, fun v q => by rw [hd] at q; cases q⟩
  keep := fun i h h' st k => by
    obtain ⟨⟨old, he⟩, ⟨o, ho, r⟩, hne⟩ := st
    exact ⟨⟨old, k e (by simp) _ he⟩, ⟨o, k it (by simp) o ho, r⟩, hne⟩
  item := by
    intro X hP hw hK hc i pins s σ H E I hf st hg
    subst hP hw hK
    obtain ⟨⟨old, he⟩, hit, hne⟩ := st
    refine enum_pair (J := IteS z) (tn := fun i h => (∃ old, IsEnum h e it ((i : Nat) : Int) old) ∧ h.IsStrIter it (strIterType z) z t i ∧ e ≠ it) I (Draws.text (A := X.A.in1) (I.ok.hd hc) it z t) he hit hg hne (by simp [hne]) (by simp) hf (fun u hu => ?_) fun h' old' he' hs' => ⟨⟨old', he'⟩, hs', hne⟩
    obtain ⟨c, t', hcx, rfl⟩ := hu
    exact ⟨.str ⟨#[c]⟩, ⟨t', rfl⟩, fun T nT => ⟨T, c, rfl, nT, rfl, hcx⟩⟩
  done := by
    intro X hP hw hK hc i pins s σ H E I hf st hg
    subst hP hw hK
    obtain ⟨⟨old, he⟩, hit, hne⟩ := st
    obtain ⟨f0, f1, f2, f3, f4, f5⟩ := hf it (by simp)
    have hsz : z.cps.size = i := hg
    exact wpAny_pyNext_enum_endD (Draws.text (A := X.A.in1) (I.ok.hd hc) it z t) he (by rw [hsz]; exact hit) fun h' eb => ⟨rfl, I.turned (t' := s.toks) (fun b o hb q => eb b o hb q) f0 f1 f3 f4 f5⟩
  self := fun A i s Q E st h => by
    obtain ⟨⟨_, he⟩, _⟩ := st
    exact wpAny_pyIter_enum he h
end
/-- enumerate of a list, a tuple, a text -/
def iEnumD (K : PySem.W.Frag) (ta : TA) : TI := fun σ H R => ta σ H fun vs H1 => (∃ a xs, vs = [.ref a] ∧ SqL K H1 a xs ∧ R (Ite K a) H1) ∨ (∃ a xs, vs = [.ref a] ∧ SqT K H1 a xs ∧ R (IteT K a) H1) ∨ ∃ z, vs = [.str z] ∧ R (IteS z) H1
theorem pi_enumD {X : Cx} {e : Expr} {ta : TA} {p pos tpos : Pos} {elts : List Expr} {kk : Nat} (hg : Gl X "enumerate") (hm : X.mg "enumerate" = none) (ha : PA X [e] ta) (hs : starEach [e] X.env = [(false, eval e X.env)]) :
    PI X (.Tuple elts kk tpos) (.Call (.Name "enumerate" p) [e] [] pos) (iEnumD X.K ta) := by
  refine ⟨fun pins s σ H R I h => Call_ (ld_blt I hg hm boot_enumerate (PyProof.Rows.callWith_type1 (thn (ha.run pos pins s σ H _ I h) fun us s1 ⟨vs, H1, I1, r1, q1⟩ => ?_) hs rfl))⟩
  have two : ∀ {h' : Heap} (b : Addr), b ∈ [s1.heap.objs.size + 1, s1.heap.objs.size] → FpOk X pins H1 b := fun b hb => by
    simp only [List.mem_cons, List.not_mem_nil, or_false] at hb
    have hle : s1.heap.objs.size ≤ b := by
      rcases hb with z | z
      · rw [z]; exact Nat.le_succ _
      · rw [z]; exact Nat.le_refl _
    exact I1.fpOk hle (I1.hok.fresh hle)
  rcases q1 with ⟨a, xs, rfl, hq, q⟩ | ⟨a, xs, rfl, hq, q⟩ | ⟨z, rfl, q⟩
  · obtain ⟨u, rfl, ru⟩ := vals1 r1
    obtain rfl : u = Value.ref a := ru
    obtain ⟨its, rv, pl, hz⟩ := I1.list hq
    refine enum_begin1 (begins_list a its.toArray) pl.isList fun h' he hit hk => wpAny_pyIter_enum he ?_
    exact ⟨_, [_, _], _, _, H1, rfl, I1.kept (t' := s1.toks) hk, turn_enum a _ _, ⟨⟨.none, he⟩, ⟨_, hit, rfl, rfl⟩, Nat.succ_ne_self _⟩, two (h' := h'), q⟩
  · obtain ⟨u, rfl, ru⟩ := vals1 r1
    obtain rfl : u = Value.ref a := ru
    obtain ⟨its, rv, pl, hz⟩ := I1.tuple hq
    refine enum_begin1 (begins_tuple a its.toArray) pl fun h' he hit hk => wpAny_pyIter_enum he ?_
    exact ⟨_, [_, _], _, _, H1, rfl, I1.kept (t' := s1.toks) hk, turn_enumT a _ _, ⟨⟨.none, he⟩, ⟨_, hit, rfl, rfl⟩, Nat.succ_ne_self _⟩, two (h' := h'), q⟩
  · obtain ⟨u, rfl, t, rfl⟩ := vals1 r1
    refine enum_begin1 (begins_text z t) trivial fun h' he hit hk => wpAny_pyIter_enum he ?_
    exact ⟨_, [_, _], _, _, H1, rfl, I1.kept (t' := s1.toks) hk, turn_enumS z t _ _, ⟨⟨.none, he⟩, ⟨_, hit, rfl, rfl⟩, Nat.succ_ne_self _⟩, two (h' := h'), q⟩
section
variable {L : Lay} {H1 : Hp}
theorem wv_enumT {a : Addr} {xs : List Val} {us : List V} (hq : SqT L.K H1 a us) (hr : RVs L.K H1 xs us) (hz : xs.length ≤ sizeLine) : WalkV L H1 (IteT L.K a) (enumL 0 xs) (fun _ => True) where
  small := by rw [enum_len]; exact hz
  go := fun i H S hi t rs g => by
    rw [enum_len, hr.length] at hi
    exact ⟨us, us[i], t.1 _ _ hq, by simp [hi]⟩
  stop := fun H S t rs g => by
    rw [enum_len]
    exact ⟨us, t.1 _ _ hq, hr.length.symm⟩
  yld := fun i H S x H' hi t rs g y => by
    obtain ⟨T, z, rfl, n, rfl, y⟩ := y
    obtain ⟨v, e, r⟩ := (RVs.mono t _ _ hr).getr (y us (t.1 _ _ hq))
    obtain ⟨q1, q2, q3, q4⟩ := pair_new (v := .int (i : Nat)) (x := .int (i : Nat)) rs n rfl r
    exact ⟨_, by rw [enum_get 0 xs i v e, Nat.zero_add], q1, q2, q3, q4⟩
theorem wv_enumS {z : Str} (hz : z.cps.size ≤ sizeLine) : WalkV L H1 (IteS z) (enumL 0 (z.cps.toList.map fun c => .str ⟨#[c]⟩)) (fun _ => True) where
  small := by rw [enum_len]; simpa using hz
  go := fun i H S hi t rs g => by
    rw [enum_len] at hi
    have hi' : i < z.cps.size := by simpa using hi
    exact hi'
  stop := fun H S t rs g => by
    rw [enum_len]
    show z.cps.size = _
    simp
  yld := fun i H S x H' hi t rs g y => by
    obtain ⟨T, c, rfl, n, rfl, y⟩ := y
    obtain ⟨q1, q2, q3, q4⟩ := pair_new (L := L) (v := .int (i : Nat)) (x := .int (i : Nat)) (w := .str ⟨#[c]⟩) (y := .str ⟨#[c]⟩) rs n rfl rfl
    exact ⟨_, by rw [enum_get 0 _ i (.str ⟨#[c]⟩) (by rw [List.getElem?_map, Array.getElem?_toList, y]; rfl), Nat.zero_add], q1, q2, q3, q4⟩
end
end DL

set_option autoImplicit true
set_option Elab.async false
set_option linter.all false
set_option maxRecDepth 100000
set_option maxHeartbeats 2000000
/-! Own layer, part 10: iterations and comprehensions. -/
namespace DL
open PySem PySem.Spec PyProof.Rows L2
section
variable {X : Cx} {c : LC} {W : WX} {E : Nat → Sto → Prop} {G : Cfg} {pos : Pos} {tg : Expr}
theorem i_val {pa : Expr} {a : Ex} (ha : PE X pa (tE (lay X c) W E (wE G E a))) : PI X tg pa (tI (lay X c) W E (wI G E (.val a))) := by
  refine ⟨fun pins s σ H R I h => ?_⟩
  obtain ⟨e, S, K, he, hs, hf, k, xw⟩ := h
  simp only [wI] at hf
  refine thn (ha.run pins s σ H (fun u H1 => ∃ v S1, Stp (lay X c) H S H1 S1 ∧ RS (lay X c) H1 S1 ∧ RV X.K H1 v u ∧ withO (iterOf v S1) fun p => K p.1 p.2 S1) I
    ⟨e, S, _, he, hs, hf, fun v S1 u H1 st q hs1 rv => ⟨v, S1, st, hs1, rv, q⟩, xw⟩) fun val s1 ⟨u, H1, I1, r1, v, S1, st, hs1, rv, q⟩ => ?_
  obtain ⟨⟨xs, grd⟩, e1, q⟩ := withO_some q
  cases v with
  | tup ys =>
    obtain ⟨p, us, rfl, hq, hr⟩ := rv
    cases r1
    have e2 : some (ys, fun _ => True) = some (xs, grd) := e1
    cases e2
    obtain ⟨its, rvv, pl, hz⟩ := I1.tuple hq
    exact wpAny_pyIter_tuple (show s1.heap.IsTuple p its.toArray from pl) (pi_one (tk := s1.toks) I1 _ (turn_tuple p _) ⟨_, Heap.get?_push_size _ rfl, rfl, rfl⟩ (k _ _ _ _ _ st q hs1 (wv_tup hq hr (by rw [hr.length]; exact hz))))
  | str z =>
    cases rv
    obtain ⟨t, rfl⟩ := r1
    unfold iterOf at e1
    by_cases hz : z.cps.size ≤ line
    · simp only [if_pos hz] at e1
      cases e1
      have hz' : z.cps.size ≤ sizeLine := by rw [← line_eq]; exact hz
      cases ha : z.cps.all (· < 128)
      · exact wpAny_pyIter_wide ha (pi_one (tk := s1.toks) I1 _ (turn_str _ z t "str_iterator" (.inr rfl)) ⟨_, Heap.get?_push_size _ rfl, rfl, rfl⟩ (k _ _ _ _ _ st q hs1 (wv_str hz')))
      · exact wpAny_pyIter_ascii ha (pi_one (tk := s1.toks) I1 _ (turn_str _ z t "str_ascii_iterator" (.inl rfl)) ⟨_, Heap.get?_push_size _ rfl, rfl, rfl⟩ (k _ _ _ _ _ st q hs1 (wv_str hz')))
    · simp only [if_neg hz] at e1
      cases e1
  | ref p =>
    have eu : u = .ref p := rv
    subst eu
    cases r1
    cases ep : S1 p with
    | none => simp only [iterOf, ep] at e1; cases e1
    | some o =>
      cases o with
      | lst ys =>
        simp only [iterOf, ep] at e1
        cases e1
        obtain ⟨us, hl, hr⟩ := hs1 p _ ep
        obtain ⟨its, rvv, pl, hz⟩ := I1.list (SqL.of hl)
        exact wpAny_pyIter_list pl.isList (pi_one (tk := s1.toks) I1 _ (turn_list p _) ⟨_, Heap.get?_push_size _ rfl, rfl, rfl⟩ (k _ _ _ _ _ st q hs1 (wv_list (by rw [hr.length]; exact hz))))
      | dct kvs t =>
        simp only [iterOf, ep] at e1
        cases ok : keysOk kvs with
        | false => rw [ok] at e1; cases e1
        | true =>
          rw [ok] at e1
          cases e1
          obtain ⟨es, h1, h2, h3, h4, h5⟩ := hs1 p _ ep
          refine wpAny_pyIter_dict_raw h2 (raw_of I1 h1) (pi_one (tk := s1.toks) I1 _ (turn_dct (w := X.w) p _ kvs.length t) ⟨_, Heap.get?_push_size _ rfl, rfl, ?_⟩ (k _ _ _ _ _ st q hs1 (wv_dct ok h3)))
          rw [h4]
          rfl
      | ins ci fs => simp only [iterOf, ep] at e1; cases e1
  | _ => cases e1
theorem i_rng1 {pa : Expr} {es : Exs} {p : Pos} {T : Tab} {k : Nat} {sc : Scope} (O : XOk X c G T k sc) (hg : Gl X "range") (h : PA X [pa] (tA (lay X c) W E 1 (wEs G E es))) (hp : plainX pa = true) : PI X tg (.Call (.Name "range" p) [pa] [] pos) (tI (lay X c) W E (wI G E (.rng es))) := by
  refine PI.imp (pi_range1 hg (O.nm.blt _ (by simp)) h (by rw [plain_star hp]; rfl)) fun σ H R h => ?_
  obtain ⟨e, S, K, he, hs, hf, k, xw⟩ := h
  simp only [wI] at hf
  refine ⟨e, S, _, he, hs, hf, fun vs S1 us H1 st q hs1 rvs hl => ?_, xw⟩
  cases vs with
  | nil => cases hl
  | cons v r =>
    cases r with
    | cons _ _ => simp at hl
    | nil =>
      obtain ⟨u, rfl, ru⟩ := rvs.one
      cases v with
      | int n =>
        cases ru
        obtain ⟨q1, q2, q3⟩ := q
        exact ⟨n, rfl, by omega, by omega, k _ _ _ _ _ st q3 hs1 (wv_rng (by rw [sizeLine_eq]; omega))⟩
      | _ => exact q.elim
theorem i_rng2 {pa pb : Expr} {es : Exs} {p : Pos} {T : Tab} {k : Nat} {sc : Scope} (O : XOk X c G T k sc) (hg : Gl X "range") (h : PA X [pa, pb] (tA (lay X c) W E 2 (wEs G E es))) (hp : plainX pa = true) (hp2 : plainX pb = true) : PI X tg (.Call (.Name "range" p) [pa, pb] [] pos) (tI (lay X c) W E (wI G E (.rng es))) := by
  refine PI.imp (pi_range2 hg (O.nm.blt _ (by simp)) h (by rw [plain_star hp, plain_star hp2]; rfl) (by rw [plain_star hp2]; rfl)) fun σ H R h => ?_
  obtain ⟨e, S, K, he, hs, hf, k, xw⟩ := h
  simp only [wI] at hf
  refine ⟨e, S, _, he, hs, hf, fun vs S1 us H1 st q hs1 rvs hl => ?_, xw⟩
  cases vs with
  | nil => cases hl
  | cons v r =>
    cases r with
    | nil => simp at hl
    | cons w r =>
      cases r with
      | cons _ _ => simp at hl
      | nil =>
        obtain ⟨u, u2, rfl, ru, ru2⟩ := rvs.two
        cases v with
        | int n =>
          cases w with
          | int m =>
            cases ru; cases ru2
            obtain ⟨q1, q3⟩ := q
            exact ⟨n, m, rfl, ⟨by omega, by omega, by omega, by omega⟩, k _ _ _ _ _ st q3 hs1 (wv_rng (by rw [sizeLine_eq]; omega))⟩
          | _ => exact q.elim
        | _ => cases w <;> exact q.elim
theorem i_rng3 {pa pb pc : Expr} {es : Exs} {p : Pos} {T : Tab} {k : Nat} {sc : Scope} (O : XOk X c G T k sc) (hg : Gl X "range") (h : PA X [pa, pb, pc] (tA (lay X c) W E 3 (wEs G E es))) (hp : plainX pa = true) (hp2 : plainX pb = true) (hp3 : plainX pc = true) :
    PI X tg (.Call (.Name "range" p) [pa, pb, pc] [] pos) (tI (lay X c) W E (wI G E (.rng es))) := by
  refine PI.imp (pi_range3 hg (O.nm.blt _ (by simp)) h (by rw [plain_star hp]) (by rw [plain_star hp2, plain_star hp3]; rfl)) fun σ H R h => ?_
  obtain ⟨e, S, K, he, hs, hf, k, xw⟩ := h
  simp only [wI] at hf
  refine ⟨e, S, _, he, hs, hf, fun vs S1 us H1 st q hs1 rvs hl => ?_, xw⟩
  cases vs with
  | nil => cases hl
  | cons v r =>
    cases r with
    | nil => simp at hl
    | cons w r =>
      cases r with
      | nil => simp at hl
      | cons z r =>
        cases r with
        | cons _ _ => simp at hl
        | nil =>
          obtain ⟨u, us', rfl, ru, rr⟩ := rvs
          obtain ⟨u2, u3, rfl, ru2, ru3⟩ := RVs.two rr
          cases v with
          | int n =>
            cases w with
            | int m =>
              cases z with
              | int j =>
                cases ru; cases ru2; cases ru3
                obtain ⟨q0, q1, q3⟩ := q
                subst q0
                exact ⟨n, m, -1, (n - m).toNat, rfl, RgC.neg (by omega) (by omega) (by omega) (by omega), k _ _ _ _ _ st q3 hs1 (wv_rngC (by rw [sizeLine_eq]; omega))⟩
              | _ => exact q.elim
            | _ => cases z <;> exact q.elim
          | _ => cases w <;> cases z <;> exact q.elim
/-- lists and tuples are not too long -/
def Short (K : PySem.W.Frag) (H : Hp) : Prop := (∀ a us, H a = some (.lst us) → us.length ≤ sizeLine) ∧ ∀ a us, SqT K H a us → us.length ≤ sizeLine
theorem PE.big {e : Expr} {t : TE} (h : PE X e t) : PE X e (fun σ H Q => t σ H fun u H' => Short X.K H' → Q u H') := ⟨fun pins s σ H Q I q => by
  refine thn (h.run pins s σ H _ I q) fun v s' ⟨u, H', I', r, q'⟩ => ⟨u, H', I', r, q' ⟨fun a us e => ?_, fun a us e => ?_⟩⟩
  · obtain ⟨_, _, _, z⟩ := I'.list (SqL.of e)
    exact z
  · obtain ⟨_, _, _, z⟩ := I'.tuple e
    exact z⟩
theorem i_enum {pa : Expr} {a : Ex} {p tpos : Pos} {elts : List Expr} {kk : Nat} {T : Tab} {k : Nat} {sc : Scope} (O : XOk X c G T k sc) (hg : Gl X "enumerate") (ha : PE X pa (tE (lay X c) W E (wE G E a))) (hp : plainX pa = true) :
    PI X (.Tuple elts kk tpos) (.Call (.Name "enumerate" p) [pa] [] pos) (tI (lay X c) W E (wI G E (.enum a))) := by
  refine PI.imp (pi_enumD hg (O.nm.blt _ (by simp)) (pa_cons (PE.big ha) pa_nil (plain_star hp [] X.env)) (by rw [plain_star hp]; rfl)) fun σ H R h => ?_
  obtain ⟨e, S, K, he, hs, hf, k, xw⟩ := h
  simp only [wI] at hf
  refine ⟨e, S, _, he, hs, hf, fun v S1 u H1 st q hs1 rv big => ?_, xw⟩
  obtain ⟨⟨xs, grd⟩, e1, q⟩ := withO_some q
  cases v with
  | ref p =>
    have eu : u = .ref p := rv
    subst eu
    cases ep : S1 p with
    | none => simp only [listOf, ep] at e1; cases e1
    | some o =>
      cases o with
      | lst ys =>
        simp only [listOf, ep] at e1
        cases e1
        obtain ⟨us, hl, hr⟩ := hs1 p _ ep
        exact .inl ⟨p, us, rfl, SqL.of hl, k _ _ _ _ _ st q hs1 (wv_enum (by rw [hr.length]; exact big.1 _ _ hl))⟩
      | dct kvs t => simp only [listOf, ep] at e1; cases e1
      | ins ci fs => simp only [listOf, ep] at e1; cases e1
  | tup ys =>
    obtain ⟨p, us, rfl, hq, hr⟩ := rv
    cases e1
    exact .inr (.inl ⟨p, us, rfl, hq, k _ _ _ _ _ st q hs1 (wv_enumT hq hr (by rw [hr.length]; exact big.2 _ _ hq))⟩)
  | str z =>
    have eu : u = .str z := rv
    subst eu
    unfold listOf at e1
    by_cases hz : z.cps.size ≤ line
    · simp only [if_pos hz] at e1
      cases e1
      exact .inr (.inr ⟨z, rfl, k _ _ _ _ _ st q hs1 (wv_enumS (by rw [← line_eq]; exact hz))⟩)
    · simp only [if_neg hz] at e1
      cases e1
  | _ => cases e1
theorem i_zip {pa pb : Expr} {a b : Ex} {p tpos : Pos} {elts : List Expr} {kk : Nat} {T : Tab} {k : Nat} {sc : Scope} (O : XOk X c G T k sc) (hg : Gl X "zip") (ha : PE X pa (tE (lay X c) W E (wE G E a))) (hb : PE X pb (tE (lay X c) W E (wE G E b))) (hp : plainX pa = true) (hp2 : plainX pb = true) :
    PI X (.Tuple elts kk tpos) (.Call (.Name "zip" p) [pa, pb] [] pos) (tI (lay X c) W E (wI G E (.zip a b))) := by
  refine PI.imp (RZ.pi_zipA hg (O.nm.blt _ (by simp)) (pa_cons ha (pa_cons (PE.big hb) pa_nil (plain_star hp2 [] X.env)) (plain_star hp _ X.env)) (plain_star hp _ X.env) (by rw [plain_star hp2]; rfl)) fun σ H R h => ?_
  obtain ⟨e, S, K, he, hs, hf, k, xw⟩ := h
  simp only [wI] at hf
  refine ⟨e, S, _, he, hs, hf, fun v S1 u H1 st q hs1 rv => ?_, xw⟩
  refine ⟨e, S1, _, he.mono st.tp, hs1, q, fun w S2 u2 H2 st2 q hs2 rw' big => ?_, xw.step st⟩
  obtain ⟨⟨xs, grd⟩, e1, q⟩ := withO_some q
  have rv := RV.mono st2.tp _ _ rv
  have st3 := st.trans st2
  cases v with
  | ref pp =>
    have eu : u = .ref pp := rv
    subst eu
    cases w with
    | ref qq =>
      have eu : u2 = .ref qq := rw'
      subst eu
      cases ep : S2 pp with
      | none => simp only [zipOf, ep] at e1; cases e1
      | some o =>
        cases o with
        | lst ys =>
          cases eq : S2 qq with
          | none => simp only [zipOf, ep, eq] at e1; cases e1
          | some o2 =>
            cases o2 with
            | lst zs =>
              simp only [zipOf, ep, eq] at e1
              cases e1
              obtain ⟨us, hl, hr⟩ := hs2 pp _ ep
              obtain ⟨ws, hl2, hr2⟩ := hs2 qq _ eq
              exact ⟨pp, qq, us, ws, rfl, .inl ⟨SqL.of hl, SqL.of hl2, k _ _ _ _ _ st3 q hs2 (wv_zip (by rw [hr.length]; exact big.1 _ _ hl))⟩⟩
            | dct kvs t => simp only [zipOf, ep, eq] at e1; cases e1
            | ins ci fs => simp only [zipOf, ep, eq] at e1; cases e1
        | dct kvs t => simp only [zipOf, ep] at e1; cases e1
        | ins ci fs => simp only [zipOf, ep] at e1; cases e1
    | _ => cases e1
  | tup ys =>
    cases w with
    | tup zs =>
      obtain ⟨pp, us, rfl, hl, hr⟩ := rv
      obtain ⟨qq, ws, rfl, hl2, hr2⟩ := rw'
      have e2 : some (zipL ys zs, fun _ => True) = some (xs, grd) := e1
      cases e2
      exact ⟨pp, qq, us, ws, rfl, .inr ⟨hl, hl2, k _ _ _ _ _ st3 q hs2 (wv_zipT hl hr hl2 hr2 (by rw [hr.length]; exact big.2 _ _ hl))⟩⟩
    | _ => cases e1
  | _ => cases w <;> cases e1

/-! ### comprehensions -/
/-- the new list's place and items -/
def tC (L : Lay) (W : WX) (E : Nat → Sto → Prop) (f : Env → Sto → (List Val → Sto → Prop) → Prop) : TE := fun σ H Q => ∃ e S K, RE L.K H e σ ∧ RS L H S ∧ f e S K ∧
  (∀ D us vs S' H', Stp L H S H' S' → K vs S' → RS L H' S' → H' D = some (.lst us) → RVs L.K H' vs us → S' D = none → vs.length ≤ sizeLine → H D = none → Q (.ref D) H') ∧ XW L W E σ H S
def noW : WX := fun _ _ _ _ => False
/-- the test of a comprehension -/
def tF (L : Lay) (f : Env → Sto → (Bool → Sto → Prop) → Prop) : TT := fun σ H Q => ∃ e S Qd, RE L.K H e σ ∧ RS L H S ∧ f e S Qd ∧ ∀ b S' H', Stp L H S H' S' → Qd b S' → RS L H' S' → Q b H'
theorem xw_no {L : Lay} {σ : L2.St} {H : Hp} {S : Sto} : XW L noW noE σ H S := fun _ _ _ _ z _ => z.elim
/-- one turn -/
def turnW (G : Cfg) (tg : Tg) (own : List Nat) (e : Env) (elt : Ex) (cond : Oe) : Val → Sto → (Option Val → Sto → Prop) → Prop :=
  fun x S2 k => withO (bindT tg (wipeE e own) x) fun e' => wIf G cond e' S2 fun b S3 => (b = true → wE G noE elt e' S3 fun v S4 => k (some v) S4) ∧ (b = false → k none S3)
/-- the turns of a comprehension over the hand layer's -/
theorem q_turns {own : List Nat} {J : It} {D : Addr} {L : Lay} {G : Cfg} {elt : Ex} {cond : Oe} {grd : Sto → Prop} {K : List Val → Sto → Prop} {xs : List Val} {e : Env} {σ : L2.St} {H1 : Hp} {S1 : Sto} {Q : VK} {tg : Tg}
    (wv : WalkV L H1 J xs grd) (nD : H1 D = none) (hs : RS L H1 S1) (he : RE L.K H1 e σ) (hin : ∀ i ∈ tgSlots tg, i ∈ own)
    (hw : wTurns (turnW G tg own e elt cond) grd K xs [] S1)
    (hd : ∀ us vs S' H', Stp L H1 S1 H' S' → K vs S' → RS L H' S' → H' D = some (.lst us) → RVs L.K H' vs us → S' D = none → vs.length ≤ sizeLine → Q (.ref D) H') :
    ∃ W : Nat → Nat → Hp → Prop, (∃ m, W 0 m (upd H1 D (.lst []))) ∧ ∀ i m H, W i m H →
      (J.stop i H ∧ Q (.ref D) H) ∨ (J.go i H ∧ ∃ Nx : Hp → Prop, (∀ H', Nx H' → ∃ m', m' < m ∧ W (i + 1) m' H') ∧ ∀ x H', J.yld i H x H' → gT L.K tg x (wipe σ own) H' fun σ2 H2 => wipe σ2 own = wipe σ own ∧ tF L (wIf G cond) σ2 H2 fun b H3 =>
        if b = true then tE L noW noE (wE G noE elt) σ2 H3 fun y H4 => ∃ acc, H4 D = some (.lst acc) ∧ acc.length < sizeLine ∧ Nx (upd H4 D (.lst (acc ++ [y]))) else Nx H3) := by
  refine ⟨fun i m H => ∃ (acc : List Val) (us : List V) (S : Sto), m = xs.length - i ∧ i ≤ xs.length ∧ acc.length ≤ i ∧ H D = some (.lst us) ∧ RVs L.K H acc us ∧ RS L H S ∧ Stp L H1 S1 H S ∧ S D = none ∧ wTurns (turnW G tg own e elt cond) grd K (xs.drop i) acc S,
    ⟨xs.length, [], [], S1, by simp, Nat.zero_le _, Nat.zero_le _, upd_same, rfl, hs.new nD, Stp.new nD, RS.off hs nD, by simpa using hw⟩, ?_⟩
  rintro i m H ⟨acc, us, S, rfl, hi, hl, hD, hr, rs, st, sD, hw⟩
  by_cases hlt : i < xs.length
  · have ed : xs.drop i = xs[i] :: xs.drop (i + 1) := List.drop_eq_getElem_cons hlt
    rw [ed] at hw
    obtain ⟨g, hw⟩ := hw
    obtain ⟨e', eb, hw⟩ := withO_some hw
    refine .inr ⟨wv.go i H S hlt st.tp rs g, fun H' => ∃ (acc : List Val) (us : List V) (S : Sto), acc.length ≤ i + 1 ∧ H' D = some (.lst us) ∧ RVs L.K H' acc us ∧ RS L H' S ∧ Stp L H1 S1 H' S ∧ S D = none ∧ wTurns (turnW G tg own e elt cond) grd K (xs.drop (i + 1)) acc S, ?_, fun x H' y => ?_⟩
    · rintro H' ⟨acc', us', S', h1, h2, h3, h4, h5, h6, h7⟩
      exact ⟨xs.length - (i + 1), by omega, acc', us', S', rfl, by omega, h1, h2, h3, h4, h5, h6, h7⟩
    · obtain ⟨v, e1, rv, st', rs', kp⟩ := wv.yld i H S x H' hlt st.tp rs g y
      have ev : v = xs[i] := by
        rw [List.getElem?_eq_getElem hlt] at e1
        exact (Option.some.inj e1).symm
      subst ev
      have hD' : H' D = some (.lst us) := by rw [kp D (by rw [hD]; exact fun z => by cases z)]; exact hD
      have small := wv.small
      have st1 : Stp L H1 S1 H' S := st.trans st'
      refine gT_ok eb rv ((he.mono st1.tp).wipe own) fun σ2 re2 wz => ⟨?_, ?_⟩
      · have key : ∀ l : List Nat, ∀ τ : L2.St, wipe (wipe τ l) l = wipe τ l := by
          intro l
          induction l with
          | nil => intro τ; rfl
          | cons k l ih =>
            intro τ
            show (wipe ((wipe τ l).set k none) l).set k none = (wipe τ l).set k none
            have : ∀ (m : List Nat) (ρ : L2.St), (wipe (ρ.set k none) m).set k none = (wipe ρ m).set k none := by
              intro m
              induction m with
              | nil => intro ρ; show (ρ.set k none).set k none = ρ.set k none; rw [List.set_set]
              | cons j m ihm =>
                intro ρ
                show ((wipe (ρ.set k none) m).set j none).set k none = ((wipe ρ m).set j none).set k none
                by_cases e2 : j = k
                · subst e2; rw [List.set_set, List.set_set]; exact ihm ρ
                · rw [List.set_comm _ _ e2, List.set_comm _ _ e2, ihm ρ]
            rw [this, ih]
        rw [wz own hin, key]
      · refine ⟨e', S, _, re2, rs', hw, fun b S3 H3 st3 q3 rs3 => ?_⟩
        have hD3 : H3 D = some (.lst us) := st3.frm D _ hD' sD
        have sD3 : S3 D = none := st3.off hD' sD
        cases b with
        | true =>
          refine iteT ?_
          refine ⟨e', S3, _, re2.mono st3.tp, rs3, q3.1 rfl, fun w S4 y4 H4 st4 q4 rs4 rw4 => ?_, xw_no⟩
          have hD4 : H4 D = some (.lst us) := st4.frm D _ hD3 sD3
          have sD4 : S4 D = none := st4.off hD3 sD3
          have hr4 : RVs L.K H4 acc us := RVs.mono ((st'.trans st3).trans st4).tp _ _ hr
          have t5 : Tp L.K H4 (upd H4 D (.lst (us ++ [y4]))) := Tp.write hD4 (fun _ e => by cases e) (fun _ _ e => by cases e)
          refine ⟨us, hD4, by rw [← hr.length]; omega, acc ++ [w], us ++ [y4], S4, by simp; omega, upd_same, RVs.mono t5 _ _ (RVs.append hr4 (RVs.of1 rw4)), ?_, ?_, sD4, q4⟩
          · exact fun a o q => (rs4 a o q).mono t5 (upd_ne fun z => by subst z; rw [sD4] at q; cases q)
          · have st5 : Stp L H1 S1 H4 S4 := (st1.trans st3).trans st4
            refine ⟨st5.tp.trans t5, fun a h => ?_, st5.dom, fun a u h n => ?_⟩
            · by_cases z : a = D
              · subst z; rw [upd_same]; exact fun z => by cases z
              · rw [upd_ne z]; exact st5.more a h
            · rw [upd_ne (ne_of_none h nD)]; exact st5.frm a u h n
        | false =>
          refine iteF ?_
          refine ⟨acc, us, S3, by omega, hD3, RVs.mono (st'.trans st3).tp _ _ hr, rs3, st1.trans st3, sD3, ?_⟩
          have := q3.2 rfl
          simpa using this
  · have e : i = xs.length := by omega
    subst e
    rw [List.drop_length] at hw
    exact .inl ⟨wv.stop H S st.tp rs hw.1, hd us acc S H st hw.2 rs hD hr sD (Nat.le_trans hl wv.small)⟩
end
theorem q_comp {X : Cx} {c : LC} {W : WX} {E : Nat → Sto → Prop} {G : Cfg} {pos : Pos} {tg : Tg} {own : List Nat} {elt : Ex} {it : Itr} {cond : Oe} {ptg pit pelt : Expr} {ifs : List Expr} {scope : Scope} (hc : X.calm = true) (hN : X.N.Nodup) {N : List Str} {ow : List (Str × Nat)}
    (hi : PI X ptg pit (tI (lay X c) W E (wI G E it))) (ok : BlkOk X.N X.env.scope scope ow) (how : ow.map (·.2) = own)
    (hg : ∀ (s : Shared) (H : Hp) (C : Addr) (cl : List (Str × Addr)) (fp : List Addr), PG (X.blk s H scope (compEnvC scope cl C X.env) fp) ptg (gT X.K tg))
    (ht : ∀ (s : Shared) (H : Hp) (C : Addr) (cl : List (Str × Addr)) (fp : List Addr), PTs (X.blk s H scope (compEnvC scope cl C X.env) fp) ifs (tF (lay X c) (wIf G cond)))
    (he : ∀ (s : Shared) (H : Hp) (C : Addr) (cl : List (Str × Addr)) (fp : List Addr), PE (X.blk s H scope (compEnvC scope cl C X.env) fp) pelt (tE (lay X c) noW noE (wE G noE elt)))
    (hp : plainX pit = true) (hin : ∀ i ∈ tgSlots tg, i ∈ own) : PE X (.ListComp pelt [⟨ptg, pit, ifs, 0⟩] scope pos) (tC (lay X c) W E (wC G E (.mk tg own elt it cond))) := by
  refine PE.imp (pe_lc hc hN hi ok hg ht he (fun x => plain_fold hp X.env x)) fun σ H Q h => ?_
  obtain ⟨e, S, K, re, hs, hf, k, xw⟩ := h
  simp only [wC] at hf
  refine ⟨e, S, _, re, hs, hf, fun xs grd S1 H1 J st q hs1 wv D nD => ?_, xw⟩
  rw [how]
  have nD0 : H D = none := by
    cases e0 : H D with
    | none => rfl
    | some o => exact absurd nD (st.more D (by rw [e0]; exact fun z => by cases z))
  exact q_turns wv nD hs1 (re.mono st.tp) hin q fun us vs S' H' st' kv rs' hD hr sD hl => k D us vs S' H' (st.trans st') kv rs' hD hr sD hl nD0
end DL

set_option autoImplicit true
set_option Elab.async false
set_option linter.all false
set_option maxRecDepth 100000
set_option maxHeartbeats 2000000
/-! Own layer, part 10b: displays of dicts. -/
namespace DL
open PySem PySem.Spec PyProof.Rows L2
section
variable {X : Cx} {c : LC} {W : WX} {E : Nat → Sto → Prop} {G : Cfg} {pos : Pos}
theorem rs_dict0 {L : Lay} {H : Hp} {S : Sto} {p : Addr} (rs : RS L H S) (h : H p = some (dctO p #[] 0)) (hp : (p == sysModules) = false) : RS L H (up S p (.dct [] 0)) := fun a o q => by
  by_cases e : a = p
  · subst e
    rw [up_same] at q
    cases q
    exact rd_empty h hp
  · rw [up_ne e] at q
    exact rs a o q
theorem q_dict0 : PE X (.Dict [] [] pos) (tE (lay X c) W E (wE G E .dict0)) := by
  refine PE.imp pe_dict0 fun σ H Q h p np hp => ?_
  obtain ⟨e, S, Qd, he, hs, hf, k, xw⟩ := h
  simp only [wE] at hf
  exact k (.ref p) (up S p (.dct [] 0)) (.ref p) _ (Stp.alloc np) (hf p 0 (RS.off hs np)) (rs_dict0 (hs.new np) upd_same hp) rfl
theorem q_dict1 {pk pv : Expr} {a b : Ex} (hu : X.A.units + 10 < cLine) (ha : PE X pk (tE (lay X c) W E (wE G E a))) (hb : PE X pv (tE (lay X c) W E (wE G E b))) : PE X (.Dict [some pk] [pv] pos) (tE (lay X c) W E (wE G E (.dict1 a b))) := by
  refine ⟨fun pins s σ H Q I h => dict1_walk ?_⟩
  obtain ⟨e, S, Qd, he, hs, hf, k, xw⟩ := h
  simp only [wE] at hf
  have np : H s.heap.objs.size = none := I.hok.fresh (Nat.le_refl _)
  have hp : (s.heap.objs.size == sysModules) = false := beq_eq_false_iff_ne.mpr (Ne.symm (Nat.ne_of_lt I.big))
  have I1 := I.laid (a := s.heap.objs.size) (o := dctO s.heap.objs.size #[] 0) (h' := s.heap.push { cls := .type "dict", data := .dict #[] }) (t' := s.toks) (fun _ _ q => Heap.get?_push_of_some _ q) (Nat.le_refl _) (raw_empty s.heap)
  generalize s.heap.objs.size = p at np hp I1 ⊢
  have st0 : Stp (lay X c) H S (upd H p (dctO p #[] 0)) S := Stp.new np
  have sp : S p = none := RS.off hs np
  refine thn (ha.run pins _ σ _ (fun u H1 => ∃ x S1, Stp (lay X c) (upd H p (dctO p #[] 0)) S H1 S1 ∧ RS (lay X c) H1 S1 ∧ RV X.K H1 x u ∧ wE G E b e S1 fun y S2 => kindOk [] x = true ∧ ∀ p t, S2 p = none → Qd (.ref p) (up S2 p (.dct [(x, y)] t))) I1
    ⟨e, S, _, he.mono st0.tp, hs.new np, hf, fun v S1 u H1 st q rs1 rv => ⟨v, S1, st, rs1, rv, q⟩, xw.step st0⟩) fun uv s1 ⟨u, H1, J1, ru, x, S1, st1, rs1, rx, q1⟩ => ?_
  have st01 := st0.trans st1
  refine thn (hb.run pins _ σ _ (fun u2 H2 => ∃ y S2, Stp (lay X c) H1 S1 H2 S2 ∧ RS (lay X c) H2 S2 ∧ RV X.K H2 y u2 ∧ kindOk [] x = true ∧ ∀ p t, S2 p = none → Qd (.ref p) (up S2 p (.dct [(x, y)] t))) J1
    ⟨e, S1, _, he.mono st01.tp, rs1, q1, fun v S2 u H2 st q rs2 rv => ⟨v, S2, st, rs2, rv, q⟩, xw.step st01⟩) fun uv2 s2 ⟨u2, H2, J2, ru2, y, S2, st2, rs2, ry, ok, q2⟩ => ?_
  have st02 := st1.trans st2
  have h2 : H2 p = some (dctO p #[] 0) := st02.frm p _ upd_same sp
  have sp2 : S2 p = none := st02.off upd_same sp
  have stp : Stp (lay X c) H S H2 (up S2 p (.dct [] 0)) := by
    have z := st0.trans st02
    refine ⟨z.tp, z.more, fun a ha => ?_, z.frm⟩
    by_cases e1 : a = p
    · rw [e1]; exact .inr np
    · rw [up_ne e1] at ha
      exact z.dom a ha
  refine thn (dct_dset (c := c) (S := up S2 p (.dct [] 0)) (k := x) (v := y) hu J2 (rs_dict0 rs2 h2 hp) up_same ok (RV.mono st2.tp _ _ rx) ru ry ru2 (by show 0 < line; unfold line; decide)
    (Q := fun _ s3 => ∃ H3 t', Inv X pins σ H3 s3 ∧ Stp (lay X c) H2 (up S2 p (.dct [] 0)) H3 (up (up S2 p (.dct [] 0)) p (.dct (dput [] x y) t')) ∧ RS (lay X c) H3 (up (up S2 p (.dct [] 0)) p (.dct (dput [] x y) t'))) fun s' H' t' J st rs' => ⟨H', t', J, st, rs'⟩) fun _ s3 ⟨H3, t', J3, st3, rs3⟩ => ?_
  have e3 : up (up S2 p (.dct [] 0)) p (.dct (dput [] x y) t') = up S2 p (.dct [(x, y)] t') := by
    funext a
    unfold up
    split <;> rfl
  rw [e3] at st3 rs3
  exact ⟨.ref p, H3, J3, rfl, k _ _ _ _ (stp.trans st3) (q2 p t' sp2) rs3 rfl⟩
theorem rvs_rg {K : PySem.W.Frag} {H : Hp} (lo : Int) : ∀ (l : List Nat), RVs K H (l.map fun (k : Nat) => Val.int (lo + (k : Int) * 1)) (l.map fun i => V.int (lo + (i : Nat)))
  | [] => rfl
  | i :: r => ⟨_, _, rfl, (by
    show V.int (lo + (i : Int)) = V.int (lo + (i : Int) * 1)
    rw [Int.mul_one]), rvs_rg lo r⟩
theorem rvs_range {K : PySem.W.Frag} {H : Hp} (n : Int) : RVs K H (rangeL 0 n.toNat 1) (rgV 0 n) := by
  unfold rangeL rgV
  rw [Int.sub_zero]
  exact rvs_rg 0 _
theorem q_trng {pa : Expr} {a : Ex} {p p2 pos2 : Pos} {T : Tab} {k : Nat} {sc : Scope} (O : XOk X c G T k sc) (hg : Gl X "tuple") (hg2 : Gl X "range") (ha : PE X pa (tE (lay X c) W E (wE G E a))) (hp : plainX pa = true) :
    PE X (.Call (.Name "tuple" p) [.Call (.Name "range" p2) [pa] [] pos2] [] pos) (tE (lay X c) W E (wE G E (.trng (.cons a .nil)))) := by
  refine PE.imp (pe_tupRg O.calm hg (O.nm.blt _ (by simp)) (prg_1 hg2 (O.nm.blt _ (by simp)) ha (plain_star hp [] X.env))) fun σ H Q h => ?_
  obtain ⟨e, S, Qd, he, hs, hf, k, xw⟩ := h
  simp only [wE, wEs] at hf
  refine ⟨e, S, _, he, hs, hf, fun v S1 u H1 st q hs1 rv => ?_, xw⟩
  cases v with
  | int n =>
    cases rv
    obtain ⟨q1, q2, _, q3⟩ := q
    exact ⟨n, rfl, ⟨by omega, by omega, by omega, by omega, by omega⟩, fun p np => (k.step st).tup q3 hs1 (rvs_range n) np⟩
  | _ => exact q.elim
theorem q_lrng {pa : Expr} {a : Ex} {p p2 pos2 : Pos} {T : Tab} {k : Nat} {sc : Scope} (O : XOk X c G T k sc) (hg : Gl X "list") (hg2 : Gl X "range") (ha : PE X pa (tE (lay X c) W E (wE G E a))) (hp : plainX pa = true) :
    PE X (.Call (.Name "list" p) [.Call (.Name "range" p2) [pa] [] pos2] [] pos) (tE (lay X c) W E (wE G E (.lrng (.cons a .nil)))) := by
  refine PE.imp (pe_listRg O.calm hg (O.nm.blt _ (by simp)) (prg_1 hg2 (O.nm.blt _ (by simp)) ha (plain_star hp [] X.env))) fun σ H Q h => ?_
  obtain ⟨e, S, Qd, he, hs, hf, k, xw⟩ := h
  simp only [wE, wEs] at hf
  refine ⟨e, S, _, he, hs, hf, fun v S1 u H1 st q hs1 rv => ?_, xw⟩
  cases v with
  | int n =>
    cases rv
    obtain ⟨q1, q2, _, q3⟩ := q
    exact ⟨n, rfl, ⟨by omega, by omega, by omega, by omega, by omega⟩, fun p np => (k.step st).lst q3 hs1 (rvs_range n) np⟩
  | _ => exact q.elim
end
end DL

set_option autoImplicit true
set_option Elab.async false
set_option linter.all false
set_option maxRecDepth 100000
set_option maxHeartbeats 8000000
/-! Own layer, part 11: every expression. -/
namespace DL
open PySem PySem.Spec PyProof.Rows L2

theorem vis_of {sc : Scope} {x : Str} (h : visC sc x = true) : Vis sc x := by
  unfold visC at h
  split at h <;> first | exact .inl (by assumption) | exact .inr (.inl (by assumption)) | exact .inr (.inr (by assumption)) | cases h
theorem loc_of {sc : Scope} {x : Str} (h : locC sc x = true) : sc.names.lookup x = some .local ∨ sc.names.lookup x = some .cell := by
  unfold locC at h
  split at h <;> first | exact .inl (by assumption) | exact .inr (by assumption) | cases h
theorem glo_of {sc : Scope} {x : Str} (h : gloC sc x = true) : sc.names.lookup x = some .globalImplicit := by
  unfold gloC at h
  split at h
  · assumption
  · cases h
theorem name_of {x : Str} (h : nameC x = true) : (x == ("__debug__" : Str)) = false ∧ (x == ("__classdict__" : Str)) = false ∧ x ≠ "__name__" := by
  unfold nameC at h
  simp only [Bool.and_eq_true, Bool.not_eq_true', decide_eq_true_eq, decide_eq_false_iff_not] at h
  exact ⟨h.1.1, h.1.2, h.2⟩
theorem call_of {sc : Scope} {x y : Str} (h : callC sc x y = true) : y = x ∧ sc.names.lookup y = some .globalImplicit ∧ (y == ("__debug__" : Str)) = false ∧ y ≠ "__name__" := by
  unfold callC at h
  rw [Bool.and_eq_true, Bool.and_eq_true] at h
  obtain ⟨⟨h1, h2⟩, h3⟩ := h
  obtain ⟨n1, n2, n3⟩ := name_of h3
  exact ⟨(of_decide_eq_true h1).symm, glo_of h2, n1, n3⟩
/-- the arguments are plain -/
def allPlain : List Expr → Bool
  | [] => true
  | e :: r => plainX e && allPlain r
theorem es_plain {T : Tab} {sc : Scope} : ∀ {es : Exs} {ps : List Expr}, chkEs T sc es ps = true → allPlain ps = true ∧ ps.length = es.len
  | .nil, [], _ => ⟨rfl, rfl⟩
  | .nil, _ :: _, h => by simp [chkEs] at h
  | .cons _ _, [], h => by simp [chkEs] at h
  | .cons a r, p :: ps, h => by
    simp only [chkEs, Bool.and_eq_true] at h
    obtain ⟨i1, i2⟩ := es_plain h.2
    exact ⟨by simp [allPlain, h.1.2, i1], by simp [Exs.len, i2]⟩
theorem star_plain (env : PySem.Env) : ∀ {ps : List Expr}, allPlain ps = true → ∀ p ∈ starEach ps env, p.1 = false
  | [], _, p, hp => by simp [starEach] at hp
  | e :: r, h, p, hp => by
    simp only [allPlain, Bool.and_eq_true] at h
    rw [plain_star h.1] at hp
    rcases List.mem_cons.mp hp with z | z
    · rw [z]
    · exact star_plain env h.2 p z
theorem XOk.blk {X : Cx} {c : LC} {G : Cfg} {T : Tab} {k : Nat} {sc : Scope} (O : XOk X c G T k sc) (s : Shared) (H : Hp) (scope : Scope) (C : Addr) (cl : List (Str × Addr)) (fp : List Addr) : XOk (X.blk s H scope (compEnvC scope cl C X.env) fp) c G T k (relS scope sc) :=
  ⟨O.nm, O.room, O.calm, O.N, by rw [← O.sc]; rfl⟩
theorem blk_loc {X : Cx} {s : Shared} {H : Hp} {scope : Scope} {C : Addr} {cl : List (Str × Addr)} {fp : List Addr} : ∀ x, locC scope x = true →
    Loc (X.blk s H scope (compEnvC scope cl C X.env) fp).env.scope x ∧ ((X.blk s H scope (compEnvC scope cl C X.env) fp).fn x = true ∨ (X.blk s H scope (compEnvC scope cl C X.env) fp).env.scope.names.lookup x = some .local) := by
  intro x h
  rcases loc_of h with z | z
  · have q : (relS scope X.env.scope).names.lookup x = some .local := lookup_relS_keep (by decide) z
    exact ⟨.inl q, .inr q⟩
  · have q : (relS scope X.env.scope).names.lookup x = some .cell := lookup_relS_keep (by decide) z
    exact ⟨.inr q, .inl (by show (scope.names.lookup x == some .cell) = true; rw [z]; rfl)⟩
theorem own_snd (N : List Str) (own : List Nat) : (own.map fun i => (N.getD i "", i)).map (·.2) = own := by
  rw [List.map_map]
  conv => rhs; rw [← List.map_id own]
  rfl
/-- all of a def's facts in one -/
abbrev Snd (x : Ex) : Prop := ∀ (X : Cx) (c : LC) (G : Cfg) (T : Tab) (k : Nat) (sc : Scope) (W : WX) (E : Nat → Sto → Prop) (pe : Expr), XOk X c G T k sc → Takes X W → chkE T sc x pe = true → PE X pe (tE (lay X c) W E (wE G E x))
abbrev SndT (x : Ex) : Prop := ∀ (X : Cx) (c : LC) (G : Cfg) (T : Tab) (k : Nat) (sc : Scope) (W : WX) (E : Nat → Sto → Prop) (pe : Expr), XOk X c G T k sc → Takes X W → chkE T sc x pe = true → PT X pe (tT (lay X c) W E (wE G E x))
abbrev SndEs (x : Exs) : Prop := ∀ (X : Cx) (c : LC) (G : Cfg) (T : Tab) (k : Nat) (sc : Scope) (W : WX) (E : Nat → Sto → Prop) (pes : List Expr), XOk X c G T k sc → Takes X W → chkEs T sc x pes = true → PA X pes (tA (lay X c) W E x.len (wEs G E x))
abbrev SndO (x : Oe) : Prop := ∀ (X : Cx) (c : LC) (G : Cfg) (T : Tab) (k : Nat) (sc : Scope) (W : WX) (E : Nat → Sto → Prop) (pe : Option Expr), XOk X c G T k sc → Takes X W → chkO T sc x pe = true → PO X pe (tO (lay X c) W E (wO G E x))
abbrev SndI (x : Itr) : Prop := ∀ (X : Cx) (c : LC) (G : Cfg) (T : Tab) (k : Nat) (sc : Scope) (W : WX) (E : Nat → Sto → Prop) (tg pe : Expr), XOk X c G T k sc → Takes X W → chkI T sc x tg pe = true → PI X tg pe (tI (lay X c) W E (wI G E x))
abbrev SndC (x : Cmp) : Prop := ∀ (X : Cx) (c : LC) (G : Cfg) (T : Tab) (k : Nat) (sc : Scope) (W : WX) (E : Nat → Sto → Prop) (pe : Expr), XOk X c G T k sc → Takes X W → chkC T sc x pe = true → PE X pe (tC (lay X c) W E (wC G E x))
abbrev SndF (x : Oe) : Prop := ∀ (X : Cx) (c : LC) (G : Cfg) (T : Tab) (k : Nat) (sc : Scope) (ifs : List Expr), XOk X c G T k sc → Takes X noW → chkIf T sc x ifs = true → PTs X ifs (tF (lay X c) (wIf G x))

theorem d_bin {o : Bop} {a b : Ex} (ha : Snd a) (hb : Snd b) : Snd (.bin o a b) := by
  intro X c G T k sc W E pe O tk h
  cases pe with
  | BinOp pa po pb pos =>
    simp only [chkE, Bool.and_eq_true] at h
    have qa := ha X c G T k sc W E pa O tk h.1.2
    have qb := hb X c G T k sc W E pb O tk h.2
    have ho := h.1.1
    cases o <;> cases po <;> first | cases ho | skip
    · exact q_bin o_add qa qb
    · exact q_bin o_sub qa qb
    · exact q_bin o_mul qa qb
    · exact q_bin o_fdiv qa qb
    · exact q_bin o_mod qa qb
    · exact q_bin o_pow qa qb
  | _ => simp [chkE] at h
theorem un120 {X : Cx} {k : Nat} (r : Room k X.A) : X.A.units + 120 < cLine := by
  have := r.un
  omega
theorem cmp_rule {X : Cx} {c : LC} {o : Cop} {po : CmpOp} (hu : X.A.units + 120 < cLine) (h : copC o po = true) : OpR X (compareOp po) (rv2 (lay X c) (wCmp o)) := by
  cases o <;> cases po <;> first | cases h | skip
  · exact o_eq hu
  · exact o_ne hu
  · exact o_lt hu
  · exact o_le
  · exact o_gt
  · exact o_ge
  · exact o_in hu
  · exact o_notin hu
theorem d_cmp {o : Cop} {a b : Ex} (ha : Snd a) (hb : Snd b) : Snd (.cmp o a b) ∧ SndT (.cmp o a b) := by
  constructor
  · intro X c G T k sc W E pe O tk h
    cases pe with
    | Compare pa ops cs pos =>
      match ops, cs, h with
      | [po], [pb], h =>
        simp only [chkE, Bool.and_eq_true] at h
        exact q_cmp (cmp_rule (un120 O.room) h.1.1.1) (ha X c G T k sc W E pa O tk h.1.1.2) (hb X c G T k sc W E pb O tk h.1.2) h.2
      | [], _, h => simp [chkE] at h
      | [_], [], h => simp [chkE] at h
      | [_], _ :: _ :: _, h => simp [chkE] at h
      | _ :: _ :: _, _, h => simp [chkE] at h
    | _ => simp [chkE] at h
  · intro X c G T k sc W E pe O tk h
    cases pe with
    | Compare pa ops cs pos =>
      match ops, cs, h with
      | [po], [pb], h =>
        simp only [chkE, Bool.and_eq_true] at h
        exact t_cmp (cmp_rule (un120 O.room) h.1.1.1) (ha X c G T k sc W E pa O tk h.1.1.2) (hb X c G T k sc W E pb O tk h.1.2) h.2
      | [], _, h => simp [chkE] at h
      | [_], [], h => simp [chkE] at h
      | [_], _ :: _ :: _, h => simp [chkE] at h
      | _ :: _ :: _, _, h => simp [chkE] at h
    | _ => simp [chkE] at h

theorem gl_of {X : Cx} {c : LC} {G : Cfg} {T : Tab} {k : Nat} {sc : Scope} (O : XOk X c G T k sc) {x : Str} (h : sc.names.lookup x = some .globalImplicit) : Gl X x := by
  rw [← O.sc] at h
  exact h
theorem d_var {i : Nat} : Snd (.var i) ∧ SndT (.var i) := by
  have key : Snd (.var i) := by
    intro X c G T k sc W E pe O tk h
    unfold chkE at h; split at h <;> first | contradiction | skip
    rename_i i' x pos heq
    cases heq
    simp only [Bool.and_eq_true, decide_eq_true_eq] at h
    obtain ⟨n1, n2, n3⟩ := name_of h.2
    exact q_var (by rw [O.N]; exact h.1.1) (by rw [O.sc]; exact vis_of h.1.2) n1 n2
  refine ⟨key, ?_⟩
  intro X c G T k sc W E pe O tk h
  have q := key X c G T k sc W E pe O tk h
  unfold chkE at h; split at h <;> first | contradiction | skip
  exact t_val q fun _ => rfl
theorem d_glob {x : Str} : Snd (.glob x) ∧ SndT (.glob x) := by
  have key : Snd (.glob x) := by
    intro X c G T k sc W E pe O tk h
    unfold chkE at h; split at h <;> first | contradiction | skip
    rename_i x' y pos heq
    cases heq
    obtain ⟨rfl, h1, h2, h3⟩ := call_of h
    refine ⟨fun pins s σ H Q I hh => ?_⟩
    obtain ⟨e, S, Qd, he, hs, hf, k, xw⟩ := hh
    simp only [wE] at hf
    obtain ⟨v, e1, q⟩ := withO_some hf
    obtain ⟨u, vv, e2, r, rv⟩ := O.nm.cvs _ _ e1
    exact (pe_glob (gl_of O h1) e2 r h2).run pins s σ H Q I (k.here q hs (rv H))
  refine ⟨key, ?_⟩
  intro X c G T k sc W E pe O tk h
  have q := key X c G T k sc W E pe O tk h
  unfold chkE at h; split at h <;> first | contradiction | skip
  exact t_val q fun _ => rfl
theorem d_int {i : Int} : Snd (.int i) ∧ SndT (.int i) := by
  have key : Snd (.int i) := by
    intro X c G T k sc W E pe O tk h
    unfold chkE at h; split at h <;> first | contradiction | skip
    rename_i i' j y pos heq
    cases heq
    cases of_decide_eq_true h
    exact q_const (v := .int i) pe_int (fun _ => rfl) fun _ _ _ q => by simpa only [wE] using q
  refine ⟨key, ?_⟩
  intro X c G T k sc W E pe O tk h
  have q := key X c G T k sc W E pe O tk h
  unfold chkE at h; split at h <;> first | contradiction | skip
  exact t_val q fun _ => rfl
theorem d_bl {i : Bool} : Snd (.bl i) ∧ SndT (.bl i) := by
  have key : Snd (.bl i) := by
    intro X c G T k sc W E pe O tk h
    unfold chkE at h; split at h <;> first | contradiction | skip
    rename_i i' j y pos heq
    cases heq
    cases of_decide_eq_true h
    exact q_const (v := .bl i) pe_bl (fun _ => rfl) fun _ _ _ q => by simpa only [wE] using q
  refine ⟨key, ?_⟩
  intro X c G T k sc W E pe O tk h
  have q := key X c G T k sc W E pe O tk h
  unfold chkE at h; split at h <;> first | contradiction | skip
  exact t_val q fun _ => rfl
theorem d_str {i : Str} : Snd (.str i) ∧ SndT (.str i) := by
  have key : Snd (.str i) := by
    intro X c G T k sc W E pe O tk h
    unfold chkE at h; split at h <;> first | contradiction | skip
    rename_i i' j y pos heq
    cases heq
    cases of_decide_eq_true h
    exact q_const (v := .str i) pe_str (fun _ => rfl) fun _ _ _ q => by simpa only [wE] using q
  refine ⟨key, ?_⟩
  intro X c G T k sc W E pe O tk h
  have q := key X c G T k sc W E pe O tk h
  unfold chkE at h; split at h <;> first | contradiction | skip
  exact t_val q fun _ => rfl
theorem d_non : Snd .non ∧ SndT .non := by
  have key : Snd .non := by
    intro X c G T k sc W E pe O tk h
    unfold chkE at h; split at h <;> first | contradiction | skip
    exact q_const (v := .non) pe_non (fun _ => rfl) fun _ _ _ q => by simpa only [wE] using q
  refine ⟨key, ?_⟩
  intro X c G T k sc W E pe O tk h
  have q := key X c G T k sc W E pe O tk h
  unfold chkE at h; split at h <;> first | contradiction | skip
  exact t_val q fun _ => rfl
theorem d_bin' {o : Bop} {a b : Ex} (ha : Snd a) (hb : Snd b) : Snd (.bin o a b) ∧ SndT (.bin o a b) := by
  refine ⟨d_bin ha hb, ?_⟩
  intro X c G T k sc W E pe O tk h
  have q := d_bin ha hb X c G T k sc W E pe O tk h
  unfold chkE at h; split at h <;> first | contradiction | skip
  exact t_val q fun _ => rfl
theorem d_neg {a : Ex} (ha : Snd a) : Snd (.neg a) ∧ SndT (.neg a) := by
  have key : Snd (.neg a) := by
    intro X c G T k sc W E pe O tk h
    unfold chkE at h; split at h <;> first | contradiction | skip
    rename_i a' pa pos heq
    cases heq
    exact q_neg (ha X c G T k sc W E pa O tk h)
  refine ⟨key, ?_⟩
  intro X c G T k sc W E pe O tk h
  have q := key X c G T k sc W E pe O tk h
  unfold chkE at h; split at h <;> first | contradiction | skip
  exact t_val q fun _ => rfl
theorem d_not {a : Ex} (ha : Snd a ∧ SndT a) : Snd (.not a) ∧ SndT (.not a) := by
  constructor
  · intro X c G T k sc W E pe O tk h
    unfold chkE at h; split at h <;> first | contradiction | skip
    rename_i a' pa pos heq
    cases heq
    exact q_not (ha.1 X c G T k sc W E pa O tk h)
  · intro X c G T k sc W E pe O tk h
    unfold chkE at h; split at h <;> first | contradiction | skip
    rename_i a' pa pos heq
    cases heq
    exact t_not (ha.2 X c G T k sc W E pa O tk h)
theorem d_isN {a : Ex} (ha : Snd a) : Snd (.isN a) ∧ SndT (.isN a) := by
  constructor
  · intro X c G T k sc W E pe O tk h
    unfold chkE at h; split at h <;> first | contradiction | skip
    rename_i a' pa j p2 pos heq
    cases heq
    exact q_isN (ha X c G T k sc W E pa O tk h)
  · intro X c G T k sc W E pe O tk h
    unfold chkE at h; split at h <;> first | contradiction | skip
    rename_i a' pa j p2 pos heq
    cases heq
    refine t_cmp1 (pc_isN (ha X c G T k sc W E pa O tk h)) rfl fun σ H Q hh => ?_
    obtain ⟨e, S, Qd, he, hs, hf, k, xw⟩ := hh
    simp only [wE] at hf
    refine ⟨e, S, _, he, hs, hf, fun v S1 u H1 st q hs1 rv => ?_, xw⟩
    cases v with
    | non => cases rv; exact (k.step st).here (v := .bl true) q hs1 rfl
    | bl _ => cases rv; exact (k.step st).here (v := .bl false) q hs1 rfl
    | int _ => cases rv; exact (k.step st).here (v := .bl false) q hs1 rfl
    | str _ => cases rv; exact (k.step st).here (v := .bl false) q hs1 rfl
    | tup _ => obtain ⟨_, _, rfl, _⟩ := rv; exact (k.step st).here (v := .bl false) q hs1 rfl
    | ref _ => cases rv; exact (k.step st).here (v := .bl false) q hs1 rfl
    | lst _ => obtain ⟨_, _, rfl, _⟩ := rv; exact (k.step st).here (v := .bl false) q hs1 rfl
theorem d_notN {a : Ex} (ha : Snd a) : Snd (.notN a) ∧ SndT (.notN a) := by
  constructor
  · intro X c G T k sc W E pe O tk h
    unfold chkE at h; split at h <;> first | contradiction | skip
    rename_i a' pa j p2 pos heq
    cases heq
    exact q_notN (ha X c G T k sc W E pa O tk h)
  · intro X c G T k sc W E pe O tk h
    unfold chkE at h; split at h <;> first | contradiction | skip
    rename_i a' pa j p2 pos heq
    cases heq
    refine t_cmp1 (pc_notN (ha X c G T k sc W E pa O tk h)) rfl fun σ H Q hh => ?_
    obtain ⟨e, S, Qd, he, hs, hf, k, xw⟩ := hh
    simp only [wE] at hf
    refine ⟨e, S, _, he, hs, hf, fun v S1 u H1 st q hs1 rv => ?_, xw⟩
    cases v with
    | non => cases rv; exact (k.step st).here (v := .bl false) q hs1 rfl
    | bl _ => cases rv; exact (k.step st).here (v := .bl true) q hs1 rfl
    | int _ => cases rv; exact (k.step st).here (v := .bl true) q hs1 rfl
    | str _ => cases rv; exact (k.step st).here (v := .bl true) q hs1 rfl
    | tup _ => obtain ⟨_, _, rfl, _⟩ := rv; exact (k.step st).here (v := .bl true) q hs1 rfl
    | ref _ => cases rv; exact (k.step st).here (v := .bl true) q hs1 rfl
    | lst _ => obtain ⟨_, _, rfl, _⟩ := rv; exact (k.step st).here (v := .bl true) q hs1 rfl
theorem plain_last {op op2 : CmpOp} {b d : Expr} (h : plainX b = true) (h2 : plainX d = true) : lastMarks [op, op2] [b, d] = false := by
  first | exact plain_mark h2 _ | exact plain_mark h _
theorem chain_in {X : Cx} {c : LC} {W : WX} {E : Nat → Sto → Prop} {G : Cfg} {o p : Cop} {a b d : Ex} {σ : L2.St} {H : Hp} {Q : VK} (h : tE (lay X c) W E (wE G E (.chain o p a b d)) σ H Q) :
    tChain (rv2 (lay X c) (wCmp o)) (rv2 (lay X c) (wCmp p)) (tE (lay X c) W E (wE G E a)) (tE (lay X c) W E (wE G E b)) (tE (lay X c) W E (wE G E d)) σ H Q := by
  obtain ⟨e, S, Qd, he, hs, hf, k, xw⟩ := h
  simp only [wE] at hf
  refine ⟨e, S, _, he, hs, hf, fun v S1 u H1 st q hs1 rv => ?_, xw⟩
  refine ⟨e, S1, _, he.mono st.tp, hs1, q, fun v2 S2 u2 H2 st2 q2 hs2 rv2' => ?_, xw.step st⟩
  refine ⟨v, v2, S2, _, RV.mono st2.tp _ _ rv, rv2', hs2, q2, fun v3 S3 u3 H3 st3 q3 hs3 rv3 => ?_⟩
  obtain ⟨z, rfl, q4, q5⟩ := withB_some q3
  cases rv3
  refine ⟨z, rfl, ?_⟩
  have st13 := (st.trans st2).trans st3
  cases z with
  | true =>
    rw [if_pos rfl]
    refine ⟨e, S3, _, he.mono st13.tp, hs3, q4 rfl, fun v4 S4 u4 H4 st4 q6 hs4 rv4 => ?_, xw.step st13⟩
    exact ⟨v2, v4, S4, Qd, RV.mono (st3.trans st4).tp _ _ rv2', rv4, hs4, q6, (k.step st13).step st4⟩
  | false =>
    rw [if_neg Bool.false_ne_true]
    exact (k.step st13).here (q5 rfl) hs3 rfl
theorem d_chain {o p : Cop} {a b d : Ex} (ha : Snd a) (hb : Snd b) (hd : Snd d) : Snd (.chain o p a b d) ∧ SndT (.chain o p a b d) := by
  constructor
  · intro X c G T k sc W E pe O tk h
    unfold chkE at h; split at h <;> first | contradiction | skip
    rename_i o' p' a' b' d' pa po pp pb pd pos heq
    cases heq
    simp only [Bool.and_eq_true] at h
    exact q_chain (cmp_rule (un120 O.room) h.1.1.1.1.1.1) (cmp_rule (un120 O.room) h.1.1.1.1.1.2) (ha X c G T k sc W E pa O tk h.1.1.1.1.2) (hb X c G T k sc W E pb O tk h.1.1.1.2) (hd X c G T k sc W E pd O tk h.1.1.2) h.1.2 h.2
  · intro X c G T k sc W E pe O tk h
    unfold chkE at h; split at h <;> first | contradiction | skip
    rename_i o' p' a' b' d' pa po pp pb pd pos heq
    cases heq
    simp only [Bool.and_eq_true] at h
    refine PT.imp (pt_chain (cmp_rule (c := c) (un120 O.room) h.1.1.1.1.1.1) (cmp_rule (c := c) (un120 O.room) h.1.1.1.1.1.2) (ha X c G T k sc W E pa O tk h.1.1.1.1.2) (hb X c G T k sc W E pb O tk h.1.1.1.2) (hd X c G T k sc W E pd O tk h.1.1.2) (plain_last h.1.2 h.2)) fun σ H Q hh => ?_
    exact chain_in hh
end DL

set_option autoImplicit true
set_option Elab.async false
set_option linter.all false
set_option maxRecDepth 100000
set_option maxHeartbeats 8000000
/-! Own layer, part 12: every expression, the rest. -/
namespace DL
open PySem PySem.Spec PyProof.Rows L2

/-- a conjunction as a test within another -/
abbrev SndW (x : Ex) : Prop := ∀ (X : Cx) (c : LC) (G : Cfg) (T : Tab) (k : Nat) (sc : Scope) (W : WX) (E : Nat → Sto → Prop) (op : PySem.BoolOp) (r : List Expr) (pos : Pos), XOk X c G T k sc → Takes X W → chkE T sc x (.BoolOp op r pos) = true → PW X (.BoolOp op r pos) (tT (lay X c) W E (wE G E x))
theorem sw_no {x : Ex} (h : ∀ T sc op r pos, chkE T sc x (.BoolOp op r pos) = false) : SndW x := fun X c G T k sc W E op r pos _ _ q => by
  rw [h] at q
  cases q
theorem d_and {a b : Ex} (ha : Snd a ∧ SndT a) (hb : Snd b ∧ SndT b ∧ SndW b) : Snd (.and a b) ∧ SndT (.and a b) ∧ SndW (.and a b) := by
  have key : SndW (.and a b) := by
    intro X c G T k sc W E op r pos O tk h
    unfold chkE at h; split at h <;> first | contradiction | skip
    · rename_i a' b' pa pb pos' heq heq2
      cases heq
      cases heq2
      simp only [Bool.and_eq_true] at h
      exact t_and (ha.2 X c G T k sc W E pa O tk h.1) (pw_and1 (hb.2.1 X c G T k sc W E pb O tk h.2))
    · rename_i a' b' pa pb pc r' pos' heq heq2
      cases heq
      cases heq2
      simp only [Bool.and_eq_true] at h
      exact t_and (ha.2 X c G T k sc W E pa O tk h.1) (hb.2.2 X c G T k sc W E .And _ pos O tk h.2)
  refine ⟨?_, ?_, key⟩
  · intro X c G T k sc W E pe O tk h
    unfold chkE at h; split at h <;> first | contradiction | skip
    · rename_i a' b' pa pb pos' heq
      cases heq
      simp only [Bool.and_eq_true] at h
      exact q_and (ha.1 X c G T k sc W E pa O tk h.1) (pe_one (hb.1 X c G T k sc W E pb O tk h.2))
    · rename_i a' b' pa pb pc r' pos' heq
      cases heq
      simp only [Bool.and_eq_true] at h
      exact q_and (ha.1 X c G T k sc W E pa O tk h.1) (hb.1 X c G T k sc W E _ O tk h.2)
  · intro X c G T k sc W E pe O tk h
    cases pe with
    | BoolOp op r pos => exact (key X c G T k sc W E op r pos O tk h).pt
    | _ => simp [chkE] at h
theorem d_or {a b : Ex} (ha : Snd a ∧ SndT a) (hb : Snd b ∧ SndT b ∧ SndW b) : Snd (.or a b) ∧ SndT (.or a b) ∧ SndW (.or a b) := by
  have key : SndW (.or a b) := by
    intro X c G T k sc W E op r pos O tk h
    unfold chkE at h; split at h <;> first | contradiction | skip
    · rename_i a' b' pa pb pos' heq heq2
      cases heq
      cases heq2
      simp only [Bool.and_eq_true] at h
      exact t_or (ha.2 X c G T k sc W E pa O tk h.1) (pw_or1 (hb.2.1 X c G T k sc W E pb O tk h.2))
    · rename_i a' b' pa pb pc r' pos' heq heq2
      cases heq
      cases heq2
      simp only [Bool.and_eq_true] at h
      exact t_or (ha.2 X c G T k sc W E pa O tk h.1) (hb.2.2 X c G T k sc W E .Or _ pos O tk h.2)
  refine ⟨?_, ?_, key⟩
  · intro X c G T k sc W E pe O tk h
    unfold chkE at h; split at h <;> first | contradiction | skip
    · rename_i a' b' pa pb pos' heq
      cases heq
      simp only [Bool.and_eq_true] at h
      exact q_or (ha.1 X c G T k sc W E pa O tk h.1) (pe_one (hb.1 X c G T k sc W E pb O tk h.2))
    · rename_i a' b' pa pb pc r' pos' heq
      cases heq
      simp only [Bool.and_eq_true] at h
      exact q_or (ha.1 X c G T k sc W E pa O tk h.1) (hb.1 X c G T k sc W E _ O tk h.2)
  · intro X c G T k sc W E pe O tk h
    cases pe with
    | BoolOp op r pos => exact (key X c G T k sc W E op r pos O tk h).pt
    | _ => simp [chkE] at h
theorem d_tup {es : Exs} (he : SndEs es) : Snd (.tup es) ∧ SndT (.tup es) := by
  have key : Snd (.tup es) := by
    intro X c G T k sc W E pe O tk h
    unfold chkE at h; split at h <;> first | contradiction | skip
    rename_i es' pes z pos heq
    cases heq
    simp only [Bool.and_eq_true, decide_eq_true_eq] at h
    exact q_tup (he X c G T k sc W E pes O tk h.1) h.2
  refine ⟨key, ?_⟩
  intro X c G T k sc W E pe O tk h
  have q := key X c G T k sc W E pe O tk h
  unfold chkE at h; split at h <;> first | contradiction | skip
  exact t_val q fun _ => rfl
theorem d_lst {es : Exs} (he : SndEs es) : Snd (.lst es) ∧ SndT (.lst es) := by
  have key : Snd (.lst es) := by
    intro X c G T k sc W E pe O tk h
    unfold chkE at h; split at h <;> first | contradiction | skip
    rename_i es' pes pos heq
    cases heq
    simp only [Bool.and_eq_true, decide_eq_true_eq] at h
    exact q_lst (he X c G T k sc W E pes O tk h.1) h.2
  refine ⟨key, ?_⟩
  intro X c G T k sc W E pe O tk h
  have q := key X c G T k sc W E pe O tk h
  unfold chkE at h; split at h <;> first | contradiction | skip
  exact t_val q fun _ => rfl
theorem d_sub {a b : Ex} (ha : Snd a) (hb : Snd b) : Snd (.sub a b) ∧ SndT (.sub a b) := by
  have key : Snd (.sub a b) := by
    intro X c G T k sc W E pe O tk h
    unfold chkE at h; split at h <;> first | contradiction | skip
    rename_i a' b' pa pb pos heq
    cases heq
    simp only [Bool.and_eq_true] at h
    exact q_sub (i_sub (un120 O.room)) (ha X c G T k sc W E pa O tk h.1.1) (hb X c G T k sc W E pb O tk h.1.2) h.2
  refine ⟨key, ?_⟩
  intro X c G T k sc W E pe O tk h
  have q := key X c G T k sc W E pe O tk h
  unfold chkE at h; split at h <;> first | contradiction | skip
  exact t_val q fun _ => rfl
theorem d_slice {a : Ex} {lo hi : Oe} (ha : Snd a) (hl : SndO lo) (hh : SndO hi) : Snd (.slice a lo hi) ∧ SndT (.slice a lo hi) := by
  have key : Snd (.slice a lo hi) := by
    intro X c G T k sc W E pe O tk h
    unfold chkE at h; split at h <;> first | contradiction | skip
    rename_i a' lo' hi' pa plo phi p2 pos heq
    cases heq
    simp only [Bool.and_eq_true] at h
    exact q_slice (ha X c G T k sc W E pa O tk h.1.1) (hl X c G T k sc W E plo O tk h.1.2) (hh X c G T k sc W E phi O tk h.2)
  refine ⟨key, ?_⟩
  intro X c G T k sc W E pe O tk h
  have q := key X c G T k sc W E pe O tk h
  unfold chkE at h; split at h <;> first | contradiction | skip
  exact t_val q fun _ => rfl
theorem d_fld {a : Ex} {f : Str} (ha : Snd a) : Snd (.fld a f) ∧ SndT (.fld a f) := by
  have key : Snd (.fld a f) := by
    intro X c G T k sc W E pe O tk h
    unfold chkE at h; split at h <;> first | contradiction | skip
    rename_i a' f' pa g pos heq
    cases heq
    simp only [Bool.and_eq_true, decide_eq_true_eq] at h
    obtain ⟨⟨rfl, h1⟩, h2⟩ := h
    exact q_fld (ha X c G T k sc W E pa O tk h1) h2
  refine ⟨key, ?_⟩
  intro X c G T k sc W E pe O tk h
  have q := key X c G T k sc W E pe O tk h
  unfold chkE at h; split at h <;> first | contradiction | skip
  exact t_val q fun _ => rfl
theorem plain_row {X : Cx} {T : Tab} {sc : Scope} {es : Exs} {pe : Expr} {pes : List Expr} (pos : Pos) (h : chkEs T sc es (pe :: pes) = true) : plainX pe = true ∧ (backTo pos (starEach pes X.env)).any (·.1) = false := by
  have h1 := (es_plain h).1
  simp only [allPlain, Bool.and_eq_true] at h1
  exact ⟨h1.1, back_plain (star_plain X.env h1.2)⟩
theorem d_call {f : Nat} {es : Exs} (he : SndEs es) : Snd (.call f es) ∧ SndT (.call f es) := by
  have key : Snd (.call f es) := by
    intro X c G T k sc W E pe O tk h
    unfold chkE at h; split at h <;> first | contradiction | skip
    rename_i f' es' x p pe pes pos heq
    cases heq
    simp only [Bool.and_eq_true, decide_eq_true_eq] at h
    obtain ⟨⟨⟨h1, h2⟩, h3⟩, h4⟩ := h
    obtain ⟨p1, p2⟩ := plain_row (X := X) pos h4
    exact q_call O tk h1 (gl_of O (glo_of h2)) (name_of h3).1 (he X c G T k sc W E _ O tk h4) p1 p2
  refine ⟨key, ?_⟩
  intro X c G T k sc W E pe O tk h
  have q := key X c G T k sc W E pe O tk h
  unfold chkE at h; split at h <;> first | contradiction | skip
  exact t_val q fun _ => rfl
theorem d_new {f : Nat} {es : Exs} (he : SndEs es) : Snd (.new f es) ∧ SndT (.new f es) := by
  have key : Snd (.new f es) := by
    intro X c G T k sc W E pe O tk h
    unfold chkE at h; split at h <;> first | contradiction | skip
    rename_i f' es' x p pe pes pos heq
    cases heq
    simp only [Bool.and_eq_true, decide_eq_true_eq] at h
    obtain ⟨⟨⟨h1, h2⟩, h3⟩, h4⟩ := h
    obtain ⟨p1, p2⟩ := plain_row (X := X) pos h4
    exact q_new O h1 (gl_of O (glo_of h2)) (name_of h3).1 (he X c G T k sc W E _ O tk h4) p1 p2
  refine ⟨key, ?_⟩
  intro X c G T k sc W E pe O tk h
  have q := key X c G T k sc W E pe O tk h
  unfold chkE at h; split at h <;> first | contradiction | skip
  exact t_val q fun _ => rfl
theorem d_blt {b : Bt} {es : Exs} (he : SndEs es) : Snd (.blt b es) ∧ SndT (.blt b es) := by
  have key : Snd (.blt b es) := by
    intro X c G T k sc W E pe O tk h
    unfold chkE at h; split at h <;> first | contradiction | skip
    rename_i f' es' x p pe pes pos heq
    cases heq
    simp only [Bool.and_eq_true, decide_eq_true_eq] at h
    obtain ⟨⟨h1, h2⟩, h4⟩ := h
    obtain ⟨p1, p2⟩ := plain_row (X := X) pos h4
    obtain ⟨e, h5, h6, h7⟩ := call_of h2
    exact q_blt O h1 e (gl_of O h5) h7 h6 (he X c G T k sc W E _ O tk h4) p1 p2
  refine ⟨key, ?_⟩
  intro X c G T k sc W E pe O tk h
  have q := key X c G T k sc W E pe O tk h
  unfold chkE at h; split at h <;> first | contradiction | skip
  exact t_val q fun _ => rfl
theorem comp_plain {T : Tab} {sc : Scope} {cm : Cmp} {pe : Expr} (h : chkC T sc cm pe = true) : plainX pe = true := by
  unfold chkC at h
  split at h
  · rfl
  · cases h
theorem d_bltc {b : Bt} {cm : Cmp} (he : SndC cm) : Snd (.bltc b cm) ∧ SndT (.bltc b cm) := by
  have key : Snd (.bltc b cm) := by
    intro X c G T k sc W E pe O tk h
    unfold chkE at h; split at h <;> first | contradiction | skip
    rename_i b' cm' x p pe pos heq
    cases heq
    simp only [Bool.and_eq_true, decide_eq_true_eq] at h
    obtain ⟨⟨h1, h2⟩, h4⟩ := h
    obtain ⟨e, h5, h6, h7⟩ := call_of h2
    have hm := comp_plain h4
    refine PE.imp (pe_callBf (b_list (c := c) O.calm b h1) e (gl_of O h5) (by rw [e]; exact nmg O b) (pa_cons (he X c G T k sc W E pe O tk h4) pa_nil (plain_star hm [] X.env)) h7 h6 (plain_star hm [] X.env) rfl) fun σ H Q hh => ?_
    obtain ⟨e, S, Qd, he, hs, hf, k, xw⟩ := hh
    simp only [wE] at hf
    refine ⟨e, S, _, he, hs, hf, fun D us vs S1 H1 st q hs1 hD hr sD hl _ => ?_, xw⟩
    exact ⟨D, us, vs, S1, Qd, rfl, hD, hr, hs1, q, k.step st⟩
  refine ⟨key, ?_⟩
  intro X c G T k sc W E pe O tk h
  have q := key X c G T k sc W E pe O tk h
  unfold chkE at h; split at h <;> first | contradiction | skip
  exact t_val q fun _ => rfl
theorem chk_star {T : Tab} {sc : Scope} {a : Ex} {pa : Expr} (h : chkE T sc a pa = true) (es : List Expr) (env : PySem.Env) : starEach (pa :: es) env = (false, eval pa env) :: starEach es env := by
  cases pa <;> first | rfl | skip
  exfalso
  revert h
  induction a using Ex.rec (motive_2 := fun _ => True) (motive_3 := fun _ => True) (motive_4 := fun _ => True) (motive_5 := fun _ => True) <;> simp_all [chkE, chkC]
end DL

set_option autoImplicit true
set_option Elab.async false
set_option linter.all false
set_option maxRecDepth 100000
set_option maxHeartbeats 8000000
/-! Own layer, part 13: every expression, the end. -/
namespace DL
open PySem PySem.Spec PyProof.Rows L2
theorem un70 {X : Cx} {k : Nat} (r : Room k X.A) : X.A.units + 70 < cLine := by
  have := un120 r
  omega
theorem un10 {X : Cx} {k : Nat} (r : Room k X.A) : X.A.units + 10 < cLine := by
  have := r.un
  omega
theorem d_dict0 : Snd .dict0 ∧ SndT .dict0 := by
  have key : Snd .dict0 := by
    intro X c G T k sc W E pe O tk h
    unfold chkE at h; split at h <;> first | contradiction | skip
    exact q_dict0
  refine ⟨key, ?_⟩
  intro X c G T k sc W E pe O tk h
  have q := key X c G T k sc W E pe O tk h
  unfold chkE at h; split at h <;> first | contradiction | skip
  exact t_val q fun _ => rfl
theorem d_dict1 {a b : Ex} (ha : Snd a) (hb : Snd b) : Snd (.dict1 a b) ∧ SndT (.dict1 a b) := by
  have key : Snd (.dict1 a b) := by
    intro X c G T k sc W E pe O tk h
    unfold chkE at h; split at h <;> first | contradiction | skip
    rename_i a' b' pk pv pos heq
    cases heq
    simp only [Bool.and_eq_true] at h
    exact q_dict1 (un10 O.room) (ha X c G T k sc W E pk O tk h.1) (hb X c G T k sc W E pv O tk h.2)
  refine ⟨key, ?_⟩
  intro X c G T k sc W E pe O tk h
  have q := key X c G T k sc W E pe O tk h
  unfold chkE at h; split at h <;> first | contradiction | skip
  exact t_val q fun _ => rfl
theorem d_trng {es : Exs} (he : ∀ a, es = .cons a .nil → Snd a) : Snd (.trng es) ∧ SndT (.trng es) := by
  have key : Snd (.trng es) := by
    intro X c G T k sc W E pe O tk h
    unfold chkE at h; split at h <;> first | contradiction | skip
    rename_i a' x p y p2 pa pos2 pos heq
    cases heq
    simp only [Bool.and_eq_true] at h
    obtain ⟨⟨⟨h1, h2⟩, h3⟩, h4⟩ := h
    obtain ⟨rfl, g1, _⟩ := call_of h1
    obtain ⟨rfl, g2, _⟩ := call_of h2
    exact q_trng O (gl_of O g1) (gl_of O g2) (he _ rfl X c G T k sc W E pa O tk h3) h4
  refine ⟨key, ?_⟩
  intro X c G T k sc W E pe O tk h
  have q := key X c G T k sc W E pe O tk h
  unfold chkE at h; split at h <;> first | contradiction | skip
  exact t_val q fun _ => rfl
theorem d_lrng {es : Exs} (he : ∀ a, es = .cons a .nil → Snd a) : Snd (.lrng es) ∧ SndT (.lrng es) := by
  have key : Snd (.lrng es) := by
    intro X c G T k sc W E pe O tk h
    unfold chkE at h; split at h <;> first | contradiction | skip
    rename_i a' x p y p2 pa pos2 pos heq
    cases heq
    simp only [Bool.and_eq_true] at h
    obtain ⟨⟨⟨h1, h2⟩, h3⟩, h4⟩ := h
    obtain ⟨rfl, g1, _⟩ := call_of h1
    obtain ⟨rfl, g2, _⟩ := call_of h2
    exact q_lrng O (gl_of O g1) (gl_of O g2) (he _ rfl X c G T k sc W E pa O tk h3) h4
  refine ⟨key, ?_⟩
  intro X c G T k sc W E pe O tk h
  have q := key X c G T k sc W E pe O tk h
  unfold chkE at h; split at h <;> first | contradiction | skip
  exact t_val q fun _ => rfl
theorem d_isi {a : Ex} {t : Ty} (ha : Snd a) : Snd (.isi a t) ∧ SndT (.isi a t) := by
  have key : Snd (.isi a t) := by
    intro X c G T k sc W E pe O tk h
    unfold chkE at h; split at h <;> first | contradiction | skip
    rename_i a' t' x p pa y p2 pos heq
    cases heq
    simp only [Bool.and_eq_true] at h
    obtain ⟨⟨h1, h2⟩, h3⟩ := h
    obtain ⟨e1, g1, _⟩ := call_of h1
    obtain ⟨e2, g2, _⟩ := call_of h2
    exact q_isi O e1 e2 (gl_of O g1) (gl_of O g2) (ha X c G T k sc W E pa O tk h3) (chk_star h3 _ _)
  refine ⟨key, ?_⟩
  intro X c G T k sc W E pe O tk h
  have q := key X c G T k sc W E pe O tk h
  unfold chkE at h; split at h <;> first | contradiction | skip
  exact t_val q fun _ => rfl
theorem d_meth {a : Ex} {m : Mt} {es : Exs} (ha : Snd a) (he : SndEs es) : Snd (.meth a m es) ∧ SndT (.meth a m es) := by
  have key : Snd (.meth a m es) := by
    intro X c G T k sc W E pe O tk h
    unfold chkE at h; split at h <;> first | contradiction | skip
    rename_i a' m' es' pa g apos pes pos heq
    cases heq
    simp only [Bool.and_eq_true, decide_eq_true_eq] at h
    obtain ⟨⟨⟨⟨⟨⟨h1, rfl⟩, h3⟩, h4⟩, h5⟩, h6⟩, h7⟩ := h
    cases pes with
    | nil =>
      cases es with
      | nil => exact q_meth0 (un70 O.room) h1 (ha X c G T k sc W E pa O tk h5) h4 h3
      | cons _ _ => simp [chkEs] at h6
    | cons q qs =>
      obtain ⟨p1, p2⟩ := plain_row (X := X) pos h6
      exact q_meth (un70 O.room) h1 (ha X c G T k sc W E pa O tk h5) (he X c G T k sc W E _ O tk h6) h4 p1 (by rw [(es_plain h6).2]; exact h7) h3 p2
  refine ⟨key, ?_⟩
  intro X c G T k sc W E pe O tk h
  have q := key X c G T k sc W E pe O tk h
  unfold chkE at h; split at h <;> first | contradiction | skip
  exact t_val q fun _ => rfl
theorem d_umeth {a : Ex} {m : Str} {es : Exs} (ha : Snd a) (he : SndEs es) : Snd (.umeth a m es) ∧ SndT (.umeth a m es) := by
  have key : Snd (.umeth a m es) := by
    intro X c G T k sc W E pe O tk h
    unfold chkE at h; split at h <;> first | contradiction | skip
    rename_i a' m' es' pa g apos pes pos heq
    cases heq
    simp only [Bool.and_eq_true, decide_eq_true_eq] at h
    obtain ⟨⟨⟨⟨⟨⟨h1, rfl⟩, h3⟩, h4⟩, h5⟩, h6⟩, h7⟩ := h
    replace h1 : _ := h1
    cases pes with
    | nil =>
      cases es with
      | nil => exact q_umeth0 O h1 (ha X c G T k sc W E pa O tk h5) h4 h3
      | cons _ _ => simp [chkEs] at h6
    | cons q qs =>
      obtain ⟨p1, p2⟩ := plain_row (X := X) pos h6
      exact q_umeth O h1 (ha X c G T k sc W E pa O tk h5) (he X c G T k sc W E _ O tk h6) h4 p1 (by rw [(es_plain h6).2]; exact h7) h3 p2
  refine ⟨key, ?_⟩
  intro X c G T k sc W E pe O tk h
  have q := key X c G T k sc W E pe O tk h
  unfold chkE at h; split at h <;> first | contradiction | skip
  exact t_val q fun _ => rfl
theorem chk_comp {T : Tab} {sc : Scope} {cm : Cmp} {pe : Expr} (h : chkE T sc (.comp cm) pe = true) : chkC T sc cm pe = true := by
  simp only [chkE] at h
  exact h
theorem d_comp {cm : Cmp} (hc : SndC cm) : Snd (.comp cm) ∧ SndT (.comp cm) := by
  have key : Snd (.comp cm) := by
    intro X c G T k sc W E pe O tk h
    refine PE.imp (hc X c G T k sc W E pe O tk (chk_comp h)) fun σ H Q hh => ?_
    obtain ⟨e, S, Qd, he, hs, hf, k, xw⟩ := hh
    simp only [wE] at hf
    refine ⟨e, S, _, he, hs, hf, fun D us vs S1 H1 st q hs1 hD hr sD hl nD => ?_, xw⟩
    refine k (.ref D) (up S1 D (.lst vs)) (.ref D) H1 ⟨st.tp, st.more, fun a ha => ?_, st.frm⟩ (q D sD) (fun a o q => ?_) rfl
    · by_cases z : a = D
      · subst z
        exact .inr nD
      · exact st.dom a (by rw [up_ne z] at ha; exact ha)
    · by_cases z : a = D
      · subst z
        rw [up_same] at q
        cases q
        exact ⟨us, hD, hr⟩
      · rw [up_ne z] at q
        exact hs1 a o q
  refine ⟨key, ?_⟩
  intro X c G T k sc W E pe O tk h
  have q := key X c G T k sc W E pe O tk h
  have h' := chk_comp h
  unfold chkC at h'
  split at h'
  · exact t_val q fun _ => rfl
  · cases h'
theorem t_drop {X : Cx} {c : LC} {W : WX} {E : Nat → Sto → Prop} {G : Cfg} {σ : L2.St} {H : Hp} {Q : VK} {a : Ex} (h : tE (lay X c) W E (wE G E (.drop a)) σ H Q) : tE (lay X c) W E (wE G E a) σ H Q := by
  obtain ⟨e, S, Qd, he, hs, hf, k, xw⟩ := h
  simp only [wE] at hf
  refine ⟨e, S, _, he, hs, hf, fun v S1 u H1 st q hs1 rv => ?_, xw⟩
  refine k v _ u H1 ⟨st.tp, st.more, fun a ha => st.dom a fun z => ha ?_, st.frm⟩ q (hs1.sub keep_sub) rv
  unfold keep
  split
  · exact z
  · rfl
theorem d_drop {a : Ex} (ha : Snd a ∧ SndT a ∧ SndW a) : Snd (.drop a) ∧ SndT (.drop a) ∧ SndW (.drop a) := by
  refine ⟨?_, ?_, ?_⟩
  · intro X c G T k sc W E pe O tk h
    simp only [chkE] at h
    exact q_drop (ha.1 X c G T k sc W E pe O tk h)
  · intro X c G T k sc W E pe O tk h
    simp only [chkE] at h
    exact PT.imp (ha.2.1 X c G T k sc W E pe O tk h) fun σ H Q hh => t_drop hh
  · intro X c G T k sc W E op r pos O tk h
    simp only [chkE] at h
    exact PW.imp (ha.2.2 X c G T k sc W E op r pos O tk h) fun σ H Q hh => t_drop hh

/-! ### lists, parts, walks, comprehensions -/
theorem d_nil : SndEs .nil := by
  intro X c G T k sc W E pes O tk h
  cases pes with
  | nil => exact a_nil
  | cons _ _ => simp [chkEs] at h
theorem d_cons {a : Ex} {r : Exs} (ha : Snd a) (hr : SndEs r) : SndEs (.cons a r) := by
  intro X c G T k sc W E pes O tk h
  cases pes with
  | nil => simp [chkEs] at h
  | cons p ps =>
    simp only [chkEs, Bool.and_eq_true] at h
    exact a_cons (ha X c G T k sc W E p O tk h.1.1) (hr X c G T k sc W E ps O tk h.2) h.1.2
theorem d_onone : SndO .none := by
  intro X c G T k sc W E pe O tk h
  cases pe with
  | none => exact o_none
  | some _ => simp [chkO] at h
theorem d_osome {a : Ex} (ha : Snd a) : SndO (.some a) := by
  intro X c G T k sc W E pe O tk h
  cases pe with
  | none => simp [chkO] at h
  | some p =>
    simp only [chkO] at h
    exact o_some (ha X c G T k sc W E p O tk h)
theorem d_ival {a : Ex} (ha : Snd a) : SndI (.val a) := by
  intro X c G T k sc W E tg pe O tk h
  simp only [chkI, Bool.and_eq_true] at h
  exact i_val (ha X c G T k sc W E pe O tk h.1)
theorem d_irng {es : Exs} (he : SndEs es) : SndI (.rng es) := by
  intro X c G T k sc W E tg pe O tk h
  unfold chkI at h; split at h <;> first | contradiction | skip
  rename_i es' tg' x p pes pos heq
  cases heq
  simp only [Bool.and_eq_true, decide_eq_true_eq] at h
  obtain ⟨⟨h1, h2⟩, h3⟩ := h
  obtain ⟨rfl, g1, _⟩ := call_of h1
  obtain ⟨ap, al⟩ := es_plain h2
  have q := he X c G T k sc W E pes O tk h2
  match pes, ap, al, h2, q with
  | [], _, al, _, _ => simp at al; omega
  | [pa], ap, al, h2, q =>
    rw [← al] at q
    simp only [allPlain, Bool.and_eq_true] at ap
    exact i_rng1 O (gl_of O g1) q ap.1
  | [pa, pb], ap, al, h2, q =>
    rw [← al] at q
    simp only [allPlain, Bool.and_eq_true] at ap
    exact i_rng2 O (gl_of O g1) q ap.1 ap.2.1
  | [pa, pb, pc], ap, al, h2, q =>
    rw [← al] at q
    simp only [allPlain, Bool.and_eq_true] at ap
    exact i_rng3 O (gl_of O g1) q ap.1 ap.2.1 ap.2.2.1
  | _ :: _ :: _ :: _ :: _, _, al, _, _ => simp at al; omega
theorem d_ienum {a : Ex} (ha : Snd a) : SndI (.enum a) := by
  intro X c G T k sc W E tg pe O tk h
  unfold chkI at h; split at h <;> first | contradiction | skip
  rename_i a' t1 t2 t3 x p pa pos heq
  cases heq
  simp only [Bool.and_eq_true] at h
  obtain ⟨rfl, g1, _⟩ := call_of h.1.1
  exact i_enum O (gl_of O g1) (ha X c G T k sc W E pa O tk h.1.2) h.2
theorem d_izip {a b : Ex} (ha : Snd a) (hb : Snd b) : SndI (.zip a b) := by
  intro X c G T k sc W E tg pe O tk h
  unfold chkI at h; split at h <;> first | contradiction | skip
  rename_i a' b' t1 t2 t3 x p pa pb pos heq
  cases heq
  simp only [Bool.and_eq_true] at h
  obtain ⟨rfl, g1, _⟩ := call_of h.1.1.1.1
  exact i_zip O (gl_of O g1) (ha X c G T k sc W E pa O tk h.1.1.1.2) (hb X c G T k sc W E pb O tk h.1.1.2) h.1.2 h.2
theorem no_takes {X : Cx} : Takes X noW := fun _ _ x => by
  obtain ⟨_, _, _, _, _, _, _, _, _, _, _, _, _, _, _, _, z⟩ := x
  exact z.elim
theorem d_fnone : SndF .none := by
  intro X c G T k sc ifs O tk h
  cases ifs with
  | nil =>
    refine ⟨fun pins s σ H Q I hh => pts_nil.run pins s σ H Q I ?_⟩
    obtain ⟨e, S, Qd, he, hs, hf, k⟩ := hh
    simp only [wIf] at hf
    exact k true S H .refl hf hs
  | cons _ _ => simp [chkIf] at h
theorem d_fsome {a : Ex} (ha : SndT a) : SndF (.some a) := by
  intro X c G T k sc ifs O tk h
  match ifs, h with
  | [], h => simp [chkIf] at h
  | [p], h =>
    simp only [chkIf] at h
    refine ⟨fun pins s σ H Q I hh => (pts_one (ha X c G T k sc noW noE p O tk h)).run pins s σ H Q I ?_⟩
    obtain ⟨e, S, Qd, he, hs, hf, k⟩ := hh
    simp only [wIf] at hf
    refine ⟨e, S, _, he, hs, hf, fun v S1 u H1 st q hs1 rv => ?_, xw_no⟩
    obtain ⟨b, rfl, q⟩ := withB_some q
    cases rv
    exact ⟨b, rfl, k b S1 H1 st q hs1⟩
  | _ :: _ :: _, h => simp [chkIf] at h
theorem d_mk {tg : Tg} {own : List Nat} {elt : Ex} {it : Itr} {cond : Oe} (he : Snd elt) (hi : SndI it) (hf : SndF cond) : SndC (.mk tg own elt it cond) := by
  intro X c G T k sc W E pe O tk h
  unfold chkC at h; split at h <;> first | contradiction | skip
  rename_i tg' own' elt' it' cond' pelt ptg pit ifs scope pos heq
  cases heq
  simp only [Bool.and_eq_true, List.all_eq_true, decide_eq_true_eq] at h
  obtain ⟨⟨⟨⟨⟨⟨h1, h2⟩, h3⟩, h4⟩, h5⟩, h6⟩, h7⟩ := h
  have hN : X.N.Nodup := by rw [O.N]; exact O.nm.nd
  refine q_comp (N := T.N) O.calm hN (hi X c G T k sc W E ptg pit O tk h4) (blkOk_by (own := own.map fun i => (T.N.getD i "", i)) (by rw [O.N, O.sc]; exact h1)) (own_snd _ _) (fun s H C cl fp => ?_) (fun s H C cl fp => ?_) (fun s H C cl fp => ?_) h5 h3
  · exact g_ok (X := X.blk s H scope (compEnvC scope cl C X.env) fp) (T := T) (sc := scope) hN O.N O.calm blk_loc h2
  · exact hf _ c G T k _ ifs (O.blk s H scope C cl fp) no_takes h7
  · exact he _ c G T k _ noW noE pelt (O.blk s H scope C cl fp) no_takes h6
end DL

set_option autoImplicit true
set_option Elab.async false
set_option linter.all false
set_option maxRecDepth 100000
set_option maxHeartbeats 8000000
/-! Own layer, part 14: every expression. -/
namespace DL
open PySem PySem.Spec PyProof.Rows L2
theorem and3 {a b c : Prop} (h : a ∧ b) (w : c) : a ∧ b ∧ c := ⟨h.1, h.2, w⟩
mutual
theorem snd : (x : Ex) → Snd x ∧ SndT x ∧ SndW x
  | .var i => and3 d_var (sw_no (by intros; simp [chkE]))
  | .glob x => and3 d_glob (sw_no (by intros; simp [chkE]))
  | .int i => and3 d_int (sw_no (by intros; simp [chkE]))
  | .bl b => and3 d_bl (sw_no (by intros; simp [chkE]))
  | .non => and3 d_non (sw_no (by intros; simp [chkE]))
  | .str x => and3 d_str (sw_no (by intros; simp [chkE]))
  | .bin o a b => and3 (d_bin' (snd a).1 (snd b).1) (sw_no (by intros; simp [chkE]))
  | .neg a => and3 (d_neg (snd a).1) (sw_no (by intros; simp [chkE]))
  | .not a => and3 (d_not ⟨(snd a).1, (snd a).2.1⟩) (sw_no (by intros; simp [chkE]))
  | .cmp o a b => and3 (d_cmp (snd a).1 (snd b).1) (sw_no (by intros; simp [chkE]))
  | .isN a => and3 (d_isN (snd a).1) (sw_no (by intros; simp [chkE]))
  | .notN a => and3 (d_notN (snd a).1) (sw_no (by intros; simp [chkE]))
  | .chain o p a b d => and3 (d_chain (snd a).1 (snd b).1 (snd d).1) (sw_no (by intros; simp [chkE]))
  | .and a b => d_and ⟨(snd a).1, (snd a).2.1⟩ (snd b)
  | .or a b => d_or ⟨(snd a).1, (snd a).2.1⟩ (snd b)
  | .tup es => and3 (d_tup (sndEs es)) (sw_no (by intros; simp [chkE]))
  | .lst es => and3 (d_lst (sndEs es)) (sw_no (by intros; simp [chkE]))
  | .dict0 => and3 d_dict0 (sw_no (by intros; simp [chkE]))
  | .dict1 a b => and3 (d_dict1 (snd a).1 (snd b).1) (sw_no (by intros; simp [chkE]))
  | .sub a b => and3 (d_sub (snd a).1 (snd b).1) (sw_no (by intros; simp [chkE]))
  | .slice a lo hi => and3 (d_slice (snd a).1 (sndO lo) (sndO hi)) (sw_no (by intros; simp [chkE]))
  | .fld a f => and3 (d_fld (snd a).1) (sw_no (by intros; simp [chkE]))
  | .call f es => and3 (d_call (sndEs es)) (sw_no (by intros; simp [chkE]))
  | .new f es => and3 (d_new (sndEs es)) (sw_no (by intros; simp [chkE]))
  | .blt b es => and3 (d_blt (sndEs es)) (sw_no (by intros; simp [chkE]))
  | .bltc b cm => and3 (d_bltc (sndC cm)) (sw_no (by intros; simp [chkE]))
  | .isi a t => and3 (d_isi (snd a).1) (sw_no (by intros; simp [chkE]))
  | .meth a m es => and3 (d_meth (snd a).1 (sndEs es)) (sw_no (by intros; simp [chkE]))
  | .umeth a m es => and3 (d_umeth (snd a).1 (sndEs es)) (sw_no (by intros; simp [chkE]))
  | .comp cm => and3 (d_comp (sndC cm)) (sw_no (by intros; simp [chkE, chkC]))
  | .lzip _ _ => ⟨fun X c G T k sc W E pe O tk h => by simp [chkE] at h, fun X c G T k sc W E pe O tk h => by simp [chkE] at h, sw_no (by intros; simp [chkE])⟩
  | .lrng (.cons a .nil) => and3 (d_lrng fun b e => by cases e; exact (snd a).1) (sw_no (by intros; simp [chkE]))
  | .lrng .nil => ⟨fun X c G T k sc W E pe O tk h => by simp [chkE] at h, fun X c G T k sc W E pe O tk h => by simp [chkE] at h, sw_no (by intros; simp [chkE])⟩
  | .lrng (.cons _ (.cons _ _)) => ⟨fun X c G T k sc W E pe O tk h => by simp [chkE] at h, fun X c G T k sc W E pe O tk h => by simp [chkE] at h, sw_no (by intros; simp [chkE])⟩
  | .trng (.cons a .nil) => and3 (d_trng fun b e => by cases e; exact (snd a).1) (sw_no (by intros; simp [chkE]))
  | .trng .nil => ⟨fun X c G T k sc W E pe O tk h => by simp [chkE] at h, fun X c G T k sc W E pe O tk h => by simp [chkE] at h, sw_no (by intros; simp [chkE])⟩
  | .trng (.cons _ (.cons _ _)) => ⟨fun X c G T k sc W E pe O tk h => by simp [chkE] at h, fun X c G T k sc W E pe O tk h => by simp [chkE] at h, sw_no (by intros; simp [chkE])⟩
  | .drop a => d_drop (snd a)
theorem sndEs : (x : Exs) → SndEs x
  | .nil => d_nil
  | .cons a r => d_cons (snd a).1 (sndEs r)
theorem sndO : (x : Oe) → SndO x
  | .none => d_onone
  | .some a => d_osome (snd a).1
theorem sndI : (x : Itr) → SndI x
  | .val a => d_ival (snd a).1
  | .rng es => d_irng (sndEs es)
  | .enum a => d_ienum (snd a).1
  | .zip a b => d_izip (snd a).1 (snd b).1
theorem sndC : (x : Cmp) → SndC x
  | .mk tg own elt it cond => d_mk (snd elt).1 (sndI it) (sndF cond)
theorem sndF : (x : Oe) → SndF x
  | .none => d_fnone
  | .some a => d_fsome (snd a).2.1
end
end DL

set_option autoImplicit true
set_option Elab.async false
set_option linter.all false
set_option maxRecDepth 100000
set_option maxHeartbeats 8000000
/-! Own layer, part 15: statements. -/
namespace DL
open PySem PySem.Spec PyProof.Rows L2

/-- a list comprehension -/
def isLC : Expr → Bool
  | .ListComp .. => true
  | .SetComp .. => true
  | .DictComp .. => true
  | _ => false
def isTp : Expr → Bool
  | .Tuple .. => true
  | _ => false
/-- name = [..] on one line, the name a local -/
def swapC (sc : Scope) (x : Str) (p : Pos) : Expr → Bool
  | .ListComp _ _ scope pos => (match sc.names.lookup x with
      | some .local => true
      | _ => false) && (p.line == pos.line) && !(scope.names.any fun y => y.1 == x && (y.2 == .local || y.2 == .cell))
  | _ => false
/-- isinstance(e, C), e the name at slot n; 99: ValueError -/
def isC (T : Tab) (sc : Scope) (n y : Nat) : Expr → Bool
  | .Call (.Name f _) [.Name m _, .Name z _] [] _ => callC sc "isinstance" f && decide (T.N[n]? = some m) && visC sc m && nameC m && (if y = 99 then callC sc "ValueError" z else decide (T.exs.lookup z = some y) && gloC sc z && nameC z)
  | _ => false
def atomC (T : Tab) (sc : Scope) (n : Nat) : Nat × Bool → Expr → Bool
  | (y, true), e => isC T sc n y e
  | (y, false), .UnaryOp .Not e _ => isC T sc n y e
  | _, _ => false
def atomsC (T : Tab) (sc : Scope) (n : Nat) : List (Nat × Bool) → List Expr → Bool
  | [p], [e] => atomC T sc n p e
  | p :: q :: r, e :: es => atomC T sc n p e && atomsC T sc n (q :: r) es
  | _, _ => false
def chkH (T : Tab) (sc : Scope) : Hd → Option Nat → List Stmt → Bool
  | .conj cs, some n, [.Return (some (.BoolOp .And es _)) _] => atomsC T sc n cs es
  | .conj [p], some n, [.Return (some e) _] => atomC T sc n p e
  | .text z cs, some n, [.Return (some (.BinOp (.Constant (.str d) _ _) .Mult (.Call (.Name f _) [.BoolOp .And es _] [] _) _)) _] => decide (z = d) && decide (z.length ≤ 1000) && callC sc "int" f && atomsC T sc n cs es
  | .bl b, _, [.Return (some (.Constant (.bool d) _ _)) _] => decide (b = d)
  | .non, _, [.Return (some (.Constant .none _ _)) _] => true
  | .str b, _, [.Return (some (.Constant (.str d) _ _)) _] => decide (b = d)
  | _, _, _ => false
/-- a name of these is no plain local one -/
def farC (sc : Scope) (es : List Expr) : Bool := es.any fun e => match e with
  | .Name x _ => !decide (sc.names.lookup x = some .local)
  | _ => true
/-- a, b = .., .. as two names on one line, not both written values -/
def parC (x y : Str) (px py : Pos) (pa pb : Expr) : Bool := (py.line == px.line) && !([pa, pb].all (foldedForSure 8)) && !([pa, pb].all (constantsAlone 8)) && !(y == x)
mutual
def chkS (T : Tab) (sc : Scope) : Sm → Stmt → Bool
  | .asg i e, .Assign [.Name x p] pe _ => decide (T.N[i]? = some x) && locC sc x && (if swapC sc x p pe then (match e with
      | .comp c => chkC T sc c pe
      | _ => false) else !isLC pe || !(match sc.names.lookup x with
      | some .local => true
      | _ => false)) && chkE T sc e pe
  | .asgs is e, .Assign [.Tuple es _ _] pe _ => tgC T sc is es && chkE T sc e pe && (!isTp pe || farC sc es)
  | .par i j a b, .Assign [.Tuple [.Name x px, .Name y py] _ _] (.Tuple [pa, pb] _ _) _ => decide (T.N[i]? = some x) && decide (T.N[j]? = some y) && decide (i ≠ j) && decide (sc.names.lookup x = some .local) && decide (sc.names.lookup y = some .local) && chkE T sc a pa && chkE T sc b pb && plainX pa && plainX pb &&
      parC x y px py pa pb
  | .setI a i e, .Assign [.Subscript pa pi _] pe _ => chkE T sc a pa && chkE T sc i pi && chkE T sc e pe && plainX pi
  | .setF a f e, .Assign [.Attribute pa g _] pe _ => decide (f = g) && chkE T sc a pa && chkE T sc e pe
  | .expr e, .Expr pe _ => chkE T sc e pe && !isLC pe
  | .ret e, .Return (some pe) _ => chkE T sc e pe
  | .ret0, .Return none _ => true
  | .pass, .Pass _ => true
  | .pass, .Expr (.Constant (.str _) _ _) _ => true
  | .ite c a b, .If pc pa pb _ => chkE T sc c pc && chkSs T sc a pa && chkSs T sc b pb
  | .while c b, .While pc pb [] _ => chkE T sc c pc && chkSs T sc b pb
  | .for tg it b, .For ptg pit pb [] _ => tgtC T sc tg ptg && chkI T sc it ptg pit && plainX pit && chkSs T sc b pb
  | .try1 b c n h, .Try pb [.ExceptHandler (some (.Name x _)) m suite _] [] [] _ => decide (T.exs.lookup x = some c) && gloC sc x && nameC x && chkSs T sc b pb && chkH T sc h n suite && (match n, m with
      | some i, some y => decide (T.N[i]? = some y) && decide (sc.names.lookup y = some .local)
      | none, none => true
      | _, _ => false)
  | .raise c _, .Raise (some (.Call (.Name x _) [.Constant (.str _) _ _] [] _)) none _ => decide (T.exs.lookup x = some c) && gloC sc x && nameC x
  | _, _ => false
def chkSs (T : Tab) (sc : Scope) : Sms → List Stmt → Bool
  | .nil, [] => true
  | .cons s r, p :: ps => chkS T sc s p && chkSs T sc r ps
  | _, _ => false
end

/-- what a def's body stands in -/
structure SOk (X : Cx) (c : LC) (G : Cfg) (T : Tab) (k : Nat) (sc : Scope) (W : WX) : Prop where
  x : XOk X c G T k sc
  tk : Takes X W
  own : PassesOwn (model X.prog X.w) X.A X.env X.xe
  fn : ∀ y, X.fn y = true
  kind : X.env.scope.kind = .function
  own0 : X.stack = X.env :: X.outer ∧ X.env.frame = some X.env.locals
def XWA (L : Lay) (W : WX) (E : Nat → Sto → Prop) (H : Hp) (S : Sto) : Prop := ∀ x S' H' σ, Stp L H S H' S' → E x S' → RS L H' S' → W (.ref (L.ex x)) none σ H'
theorem XWA.step {L : Lay} {W : WX} {E : Nat → Sto → Prop} {H H' : Hp} {S S' : Sto} (h : XWA L W E H S) (st : Stp L H S H' S') : XWA L W E H' S' := fun x S2 H2 σ st2 e r => h x S2 H2 σ (st.trans st2) e r
theorem XWA.at {L : Lay} {W : WX} {E : Nat → Sto → Prop} {H : Hp} {S : Sto} (h : XWA L W E H S) (σ : L2.St) : XW L W E σ H S := fun x S2 H2 st2 e r => h x S2 H2 σ st2 e r
/-- what is wanted behind a statement -/
def NxA (L : Lay) (H : Hp) (S : Sto) (nx : Env → Sto → Prop) (Q : L2.St → Hp → Prop) : Prop := ∀ e' S' σ' H', Stp L H S H' S' → nx e' S' → RE L.K H' e' σ' → RS L H' S' → Q σ' H'
theorem NxA.step {L : Lay} {H H' : Hp} {S S' : Sto} {nx : Env → Sto → Prop} {Q : L2.St → Hp → Prop} (h : NxA L H S nx Q) (st : Stp L H S H' S') : NxA L H' S' nx Q := fun e2 S2 σ2 H2 st2 n re rs => h e2 S2 σ2 H2 (st.trans st2) n re rs
def tS (L : Lay) (W : WX) (E : Nat → Sto → Prop) (f : KV → (Env → Sto → Prop) → Env → Sto → Prop) : TS := fun D σ H => ∃ e S rt nx, RE L.K H e σ ∧ RS L H S ∧ f rt nx e S ∧ NxA L H S nx D.nx ∧ Cont L H S rt D.rt ∧ XWA L W E H S
theorem PS.imp {X : Cx} {st : Stmt} {t t' : TS} (h : PS X st t) (hh : ∀ D σ H, t' D σ H → t D σ H) : PS X st t' := ⟨fun pins s σ H D I q => h.run pins s σ H D I (hh _ _ _ q)⟩
theorem PSs.imp {X : Cx} {st : List Stmt} {t t' : TS} (h : PSs X st t) (hh : ∀ D σ H, t' D σ H → t D σ H) : PSs X st t' := ⟨fun pins s σ H D I q => h.run pins s σ H D I (hh _ _ _ q)⟩

abbrev SndS (x : Sm) : Prop := ∀ (X : Cx) (c : LC) (G : Cfg) (T : Tab) (k : Nat) (sc : Scope) (W : WX) (E : Nat → Sto → Prop) (p : Stmt), SOk X c G T k sc W → chkS T sc x p = true → PS X p (tS (lay X c) W E (fun rt nx e S => wS G E rt x nx e S))
abbrev SndSs (x : Sms) : Prop := ∀ (X : Cx) (c : LC) (G : Cfg) (T : Tab) (k : Nat) (sc : Scope) (W : WX) (E : Nat → Sto → Prop) (p : List Stmt), SOk X c G T k sc W → chkSs T sc x p = true → PSs X p (tS (lay X c) W E (fun rt nx e S => wSs G E rt x nx e S))

theorem sw_plain {pe : Expr} (h : isLC pe = false) (t : Option Expr) (l : Nat) (env : PySem.Env) : swapsWith pe t l env = pure false := by
  cases pe <;> first | rfl | cases h
theorem sw_far {pe t : Expr} (ht : ∀ x p, t ≠ .Name x p) (l : Nat) (env : PySem.Env) : swapsWith pe (some t) l env = pure false := by
  cases t with
  | Name x p => exact absurd rfl (ht _ _)
  | _ => cases pe <;> exact rfl
theorem sw_off {x : Str} {p : Pos} {pe : Expr} (l : Nat) {env : PySem.Env} (h : isLC pe = false ∨ env.scope.names.lookup x ≠ some .local) : swapsWith pe (some (.Name x p)) l env = pure false := by
  rcases h with h | h
  · exact sw_plain h _ _ _
  · have hk : (env.kindOf x == some .local) = false := by
      have : env.kindOf x ≠ some .local := h
      simpa using this
    cases pe <;> first
      | rfl
      | (unfold swapsWith; simp only [hk, Bool.and_false, Bool.false_and] <;> rfl)

/-! ### each -/
section
variable {X : Cx} {c : LC} {W : WX} {E : Nat → Sto → Prop} {G : Cfg} {T : Tab} {k : Nat} {sc : Scope}
theorem tS_in {L : Lay} {W : WX} {E : Nat → Sto → Prop} {f : Env → Sto → KV → Prop} {e : Env} {S : Sto} {Qd : KV} {σ : L2.St} {H : Hp} {Q : VK} (re : RE L.K H e σ) (rs : RS L H S) (h : f e S Qd) (k : Cont L H S Qd Q) (x : XWA L W E H S) : tE L W E f σ H Q :=
  ⟨e, S, Qd, re, rs, h, k, x.at σ⟩
theorem loc_def (O : SOk X c G T k sc W) {x : Str} (h : locC sc x = true) : Loc X.env.scope x := by
  rw [O.x.sc]
  exact loc_of h
theorem s_asg {i : Nat} {e : Ex} : SndS (.asg i e) := by
  intro X c G T k sc W E p O h
  unfold chkS at h; split at h <;> first | contradiction | skip
  rename_i i' e' x px pe pos heq
  cases heq
  simp only [Bool.and_eq_true, decide_eq_true_eq] at h
  obtain ⟨⟨⟨h1, h2⟩, h3⟩, h4⟩ := h
  have hN : X.N.Nodup := by rw [O.x.N]; exact O.x.nm.nd
  have hi : X.N[i]? = some x := by rw [O.x.N]; exact h1
  by_cases sw : swapC sc x px pe = true
  · rw [if_pos sw] at h3
    cases e with
    | comp cm =>
      simp only at h3
      unfold chkC at h3; split at h3 <;> first | contradiction | skip
      rename_i tg own elt it cond pelt ptg pit ifs scope pos2
      simp only [Bool.and_eq_true, List.all_eq_true, decide_eq_true_eq] at h3
      obtain ⟨⟨⟨⟨⟨⟨h1', h2'⟩, h3'⟩, h4'⟩, h5'⟩, h6'⟩, h7'⟩ := h3
      unfold swapC at sw
      simp only [Bool.and_eq_true, Bool.not_eq_true'] at sw
      obtain ⟨⟨sw1, sw2⟩, sw3⟩ := sw
      have hl : X.env.scope.names.lookup x = some .local := by
        rw [O.x.sc]
        split at sw1
        · assumption
        · cases sw1
      refine PS.imp (ps_setLc (wi := tI (lay X c) W E (wI G E it)) (g := gT X.K tg) (tt := tF (lay X c) (wIf G cond)) (te := tE (lay X c) noW noE (wE G noE elt)) (own := own.map fun i => (T.N.getD i "", i)) O.x.calm hN hi hl (sw_true O.kind hl sw2 sw3) ((sndI it) X c G T k sc W E ptg pit O.x O.tk h4') (blkOk_by (own := own.map fun i => (T.N.getD i "", i)) (by rw [O.x.N, O.x.sc]; exact h1'))
        (fun s H C cl fp => g_ok (X := X.blk s H scope (compEnvC scope cl C X.env) fp) (T := T) (sc := scope) hN O.x.N O.x.calm blk_loc h2')
        (fun s H C cl fp => (sndF cond) _ c G T k _ ifs (O.x.blk s H scope C cl fp) no_takes h7') (fun s H C cl fp => (snd elt).1 _ c G T k _ noW noE pelt (O.x.blk s H scope C cl fp) no_takes h6') (fun x => plain_fold h5' X.env x)) fun D σ H hh => ?_
      obtain ⟨e, S, rt, nx, re, rs, hf, hn, hr, xw⟩ := hh
      simp only [wS, wE, wC] at hf
      refine ⟨e, S, _, re, rs, hf, fun xs grd S1 H1 J st q hs1 wv D' nD => ?_, xw.at σ⟩
      rw [own_snd]
      have nD0 : H D' = none := by
        cases e0 : H D' with
        | none => rfl
        | some o => exact absurd nD (st.more D' (by rw [e0]; exact fun z => by cases z))
      refine q_turns (Q := fun x H1 => gName i x σ H1 D.nx) wv nD hs1 (re.mono st.tp) h3' q fun us vs S' H' st' kv rs' hD hr' sD hl' => ?_
      have st2 := st.trans st'
      refine hn (e.set i (some (.ref D'))) (up S' D' (.lst vs)) _ H' ⟨st2.tp, st2.more, fun a ha => ?_, st2.frm⟩ (kv D' sD) ((re.mono st2.tp).set i rfl) (fun a o q => ?_)
      · by_cases z : a = D'
        · subst z
          exact .inr nD0
        · exact st2.dom a (by rw [up_ne z] at ha; exact ha)
      · by_cases z : a = D'
        · subst z
          rw [up_same] at q
          cases q
          exact ⟨us, hD, hr'⟩
        · rw [up_ne z] at q
          exact rs' a o q
    | _ => cases h3
  · rw [if_neg sw] at h3
    have hs : isLC pe = false ∨ X.env.scope.names.lookup x ≠ some .local := by
      rw [O.x.sc]
      rw [Bool.or_eq_true, Bool.not_eq_true', Bool.not_eq_true'] at h3
      rcases h3 with z | z
      · exact .inl z
      · refine .inr fun w => ?_
        rw [w] at z
        cases z
    refine PS.imp (ps_set hN hi (loc_def O h2) ((snd e).1 X c G T k sc W E pe O.x O.tk h4) (sw_off _ hs) (.inl (O.fn x))) fun D σ H hh => ?_
    obtain ⟨e', S, rt, nx, re, rs, hf, hn, hr, xw⟩ := hh
    simp only [wS] at hf
    refine ⟨e', S, _, re, rs, hf, fun v S1 u H1 st q hs1 rv => ?_, xw.at σ⟩
    exact hn _ S1 _ H1 st q ((re.mono st.tp).set i rv) hs1

theorem swapped_far {es : List Expr} {z1 : Nat} {z2 : Pos} {pe : Expr} {env : PySem.Env} (h : farC env.scope es = true) : swappedStores [.Tuple es z1 z2] pe env = pure none := by
  cases pe <;> first | exact rfl | skip
  rename_i vs k2 pt
  have hl : ∀ l : Nat, (es.filterMap fun e => match e with
      | .Name id pos => if (env.kindOf id == some .local && pos.line == l) = true then some id else none
      | _ => none).length < es.length := fun l => by
    rw [List.length_filterMap_lt_length_iff_exists]
    unfold farC at h
    obtain ⟨e, he, q⟩ := List.any_eq_true.mp h
    refine ⟨e, he, ?_⟩
    cases e <;> first | rfl | skip
    rename_i x p
    simp only [Bool.not_eq_true', decide_eq_false_iff_not] at q
    have hk : (env.kindOf x == some .local) = false := by
      have : env.kindOf x ≠ some .local := q
      simpa using this
    simp only [hk, Bool.false_and, Bool.false_eq_true, if_false]
  unfold swappedStores
  have hl2 := hl ((es.head?.map (·.pos.line)).getD 0)
  have e2 : ((es.filterMap fun e => match e with
      | .Name id pos => if (env.kindOf id == some .local && pos.line == (es.head?.map (·.pos.line)).getD 0) = true then some id else none
      | _ => none).length != es.length) = true := by
    simp only [bne_iff_ne, ne_eq]
    omega
  show (if _ then _ else if _ then _ else _) = _
  split
  · rfl
  · split
    · rfl
    · refine if_pos ?_
      rw [Bool.or_eq_true]
      exact .inl e2
theorem s_asgs {is : List Nat} {e : Ex} : SndS (.asgs is e) := by
  intro X c G T k sc W E p O h
  unfold chkS at h; split at h <;> first | contradiction | skip
  rename_i is' e' es z1 z2 pe pos heq
  cases heq
  simp only [Bool.and_eq_true] at h
  obtain ⟨⟨h1, h2⟩, h3⟩ := h
  have hsw : swappedStores [.Tuple es z1 z2] pe X.env = pure none := by
    rw [Bool.or_eq_true, Bool.not_eq_true'] at h3
    rcases h3 with h3 | h3
    · cases pe <;> first | exact rfl | cases h3
    · exact swapped_far (by rw [O.x.sc]; exact h3)
  have hN : X.N.Nodup := by rw [O.x.N]; exact O.x.nm.nd
  have hg := g_ok (X := X) (T := T) (sc := sc) (tg := .many is) (e := .Tuple es z1 z2) hN O.x.N O.x.calm (fun x hx => ⟨loc_def O hx, .inl (O.fn x)⟩) h1
  refine PS.imp (ps_asg ((snd e).1 X c G T k sc W E pe O.x O.tk h2) hg (show swapsWith pe (some (.Tuple es z1 z2)) pos.line X.env = pure false from sw_far (fun x p w => by cases w) _ _) hsw) fun D σ H hh => ?_
  obtain ⟨e', S, rt, nx, re, rs, hf, hn, hr, xw⟩ := hh
  simp only [wS] at hf
  refine ⟨e', S, _, re, rs, hf, fun v S1 u H1 st q hs1 rv => ?_, xw.at σ⟩
  obtain ⟨e2, eb, q⟩ := withO_some q
  exact gT_ok eb rv (re.mono st.tp) fun σ' re' _ => hn e2 S1 σ' H1 st q re' hs1
theorem par_stores {x y : Str} {px py pt : Pos} {pa pb : Expr} {kt k2 : Nat} {pt2 : Pos} {env : PySem.Env} (hk : env.scope.kind = .function) (hx : env.scope.names.lookup x = some .local) (hy : env.scope.names.lookup y = some .local) (h : parC x y px py pa pb = true) (ha : plainX pa = true) (hb : plainX pb = true) :
    swappedStores [.Tuple [.Name x px, .Name y py] kt pt] (.Tuple [pa, pb] k2 pt2) env = pure (some [x, y]) := by
  unfold parC at h
  simp only [Bool.and_eq_true, Bool.not_eq_true'] at h
  obtain ⟨⟨⟨h1, h2⟩, h3⟩, h4⟩ := h
  have kx : env.kindOf x = some .local := hx
  have ky : env.kindOf y = some .local := hy
  have kb : env.blockKind = .function := by unfold Env.blockKind; rw [hk]; rfl
  have h1' : py.line = px.line := by simpa using h1
  have h4n : ¬ y = x := fun z => by rw [z] at h4; simp at h4
  have e1 : (Expr.Name x px).pos = px := rfl
  unfold swappedStores
  simp only [kb, List.length_cons, List.length_nil, bne_self_eq_false, beq_self_eq_true, Bool.true_or, Bool.not_true, Bool.or_self, Bool.false_eq_true, if_false, h2, h3]
  simp [kx, ky, h1', h4n, List.eraseDups_cons, List.filterMap_cons, e1]
  rintro (h | h)
  · clear h3 h2
    cases pa <;> first | (cases ha; done) | (cases h; done)
  · clear h3 h2
    cases pb <;> first | (cases hb; done) | (cases h; done)
theorem s_par {i j : Nat} {a b : Ex} : SndS (.par i j a b) := by
  intro X c G T k sc W E p O h
  unfold chkS at h; split at h <;> first | contradiction | skip
  rename_i i' j' a' b' x px y py z1 z2 pa pb z3 z4 pos heq
  cases heq
  simp only [Bool.and_eq_true, decide_eq_true_eq] at h
  obtain ⟨⟨⟨⟨⟨⟨⟨⟨⟨h1, h2⟩, h3⟩, h4⟩, h5⟩, h6⟩, h7⟩, h8⟩, h9⟩, h10⟩ := h
  have hN : X.N.Nodup := by rw [O.x.N]; exact O.x.nm.nd
  refine PS.imp (ps_par O.x.calm hN (by rw [O.x.N]; exact h1) (by rw [O.x.N]; exact h2) h3 (by rw [O.x.sc]; exact h4) (by rw [O.x.sc]; exact h5) (pa_cons ((snd a).1 X c G T k sc W E pa O.x O.tk h6) (pa_cons ((snd b).1 X c G T k sc W E pb O.x O.tk h7) pa_nil (plain_star h9 [] X.env)) (plain_star h8 [pb] X.env))
    (par_stores O.kind (by rw [O.x.sc]; exact h4) (by rw [O.x.sc]; exact h5) h10 h8 h9)) fun D σ H hh => ?_
  obtain ⟨e', S, rt, nx, re, rs, hf, hn, hr, xw⟩ := hh
  simp only [wS] at hf
  refine ⟨e', S, _, re, rs, hf, fun v S1 u H1 st q hs1 rv => ?_, xw.at σ⟩
  refine ⟨e', S1, _, re.mono st.tp, hs1, q, fun w S2 u2 H2 st2 q2 hs2 rw2 => ?_, (xw.step st).at σ⟩
  exact ⟨u, u2, rfl, hn _ S2 _ H2 (st.trans st2) q2 (((re.mono (st.trans st2).tp).set i (RV.mono st2.tp _ _ rv)).set j rw2) hs2⟩
theorem s_setI {a i e : Ex} : SndS (.setI a i e) := by
  intro X c G T k sc W E p O h
  unfold chkS at h; split at h <;> first | contradiction | skip
  rename_i a' i' e' pa pi z pe pos heq
  cases heq
  simp only [Bool.and_eq_true] at h
  obtain ⟨⟨⟨h1, h2⟩, h3⟩, h4⟩ := h
  have hg : PG X (.Subscript pa pi z) _ := pg_sub ((snd a).1 X c G T k sc W E pa O.x O.tk h1) ((snd i).1 X c G T k sc W E pi O.x O.tk h2) (p_set (c := c) (un120 O.x.room)) (by intro v; cases pi <;> first | exact rfl | cases h4)
  refine PS.imp (ps_asg ((snd e).1 X c G T k sc W E pe O.x O.tk h3) hg (show swapsWith pe (some (.Subscript pa pi z)) pos.line X.env = pure false from sw_far (fun x p w => by cases w) _ _) (by cases pe <;> exact rfl)) fun D σ H hh => ?_
  obtain ⟨e', S, rt, nx, re, rs, hf, hn, hr, xw⟩ := hh
  simp only [wS] at hf
  refine ⟨e', S, _, re, rs, hf, fun v S1 u H1 st q hs1 rv => ?_, xw.at σ⟩
  refine ⟨e', S1, _, re.mono st.tp, hs1, q, fun v2 S2 u2 H2 st2 q2 hs2 rv2 => ?_, (xw.step st).at σ⟩
  refine ⟨e', S2, _, (re.mono st.tp).mono st2.tp, hs2, q2, fun v3 S3 u3 H3 st3 q3 hs3 rv3 => ?_, ((xw.step st).step st2).at σ⟩
  have st13 := (st.trans st2).trans st3
  exact ⟨v2, v3, v, S3, _, RV.mono st3.tp _ _ rv2, rv3, RV.mono (st2.trans st3).tp _ _ rv, hs3, q3, fun S4 H4 st4 q4 hs4 => hn e' S4 σ H4 (st13.trans st4) q4 (re.mono (st13.trans st4).tp) hs4⟩
theorem paired_put {K : PySem.W.Frag} {C : Addr} {H : Hp} {f : Str} {v : Val} {u : V} (na : NoAttr K C f) (r : RV K H v u) : ∀ {fs : List (Str × Val)} {gs : List (Str × V)},
    Paired (fun (p : Str × Val) (q : Str × V) => p.1 = q.1 ∧ NoAttr K C p.1 ∧ RV K H p.2 q.2) fs gs → Paired (fun (p : Str × Val) (q : Str × V) => p.1 = q.1 ∧ NoAttr K C p.1 ∧ RV K H p.2 q.2) (fput f v fs) (putF f u gs) := by
  intro fs gs h
  induction h with
  | nil => exact .cons ⟨rfl, na, r⟩ .nil
  | @cons p q ps qs hq t ih =>
    obtain ⟨p1, p2⟩ := p
    obtain ⟨q1, q2⟩ := q
    obtain ⟨z1, z2, z3⟩ := hq
    have z1' : p1 = q1 := z1
    subst z1'
    unfold fput putF
    by_cases w : p1 = f
    · subst w
      rw [if_pos rfl, if_pos rfl]
      exact .cons ⟨rfl, na, r⟩ t
    · rw [if_neg w, if_neg w]
      exact .cons ⟨rfl, z2, z3⟩ ih
theorem paired_len {A B : Type} {R : A → B → Prop} {xs : List A} {ys : List B} (h : Paired R xs ys) : xs.length = ys.length := by
  induction h with
  | nil => rfl
  | cons _ _ ih => simp [ih]
theorem s_setF {a : Ex} {f : Str} {e : Ex} : SndS (.setF a f e) := by
  intro X c G T k sc W E p O h
  unfold chkS at h; split at h <;> first | contradiction | skip
  rename_i a' f' e' pa g z pe pos heq
  cases heq
  simp only [Bool.and_eq_true, decide_eq_true_eq] at h
  obtain ⟨⟨rfl, h2⟩, h3⟩ := h
  refine PS.imp (ps_fld ((snd a).1 X c G T k sc W E pa O.x O.tk h2) ((snd e).1 X c G T k sc W E pe O.x O.tk h3) (sw_far (fun x p w => by cases w) _ _)) fun D σ H hh => ?_
  obtain ⟨e', S, rt, nx, re, rs, hf, hn, hr, xw⟩ := hh
  simp only [wS] at hf
  refine ⟨e', S, _, re, rs, hf, fun v S1 u H1 st q hs1 rv => ?_, xw.at σ⟩
  refine ⟨e', S1, _, re.mono st.tp, hs1, q, fun v2 S2 u2 H2 st2 q2 hs2 rv2 => ?_, (xw.step st).at σ⟩
  cases v2 with
  | ref p =>
    have eu : u2 = .ref p := rv2
    subst eu
    cases e1 : S2 p with
    | none => simp only [e1] at q2
    | some o =>
      cases o with
      | ins ci fs =>
        simp only [e1] at q2
        obtain ⟨g1, g2, q2⟩ := q2
        obtain ⟨dx, gs, h1, hc, hp⟩ := hs2 p _ e1
        obtain ⟨cl, na⟩ := O.x.nm.fls _ _ g1
        have hl := paired_len hp
        have rv' := RV.mono st2.tp _ _ rv
        refine ⟨p, c.ca ci, dx, gs, rfl, h1, hc, na, by omega, ?_⟩
        have t : Tp X.K H2 (upd H2 p (.ins (c.ca ci) dx (putF f u gs))) := Tp.write h1 (fun _ e => by cases e) (fun _ _ e => by cases e)
        have st3 : Stp (lay X c) H2 S2 (upd H2 p (.ins (c.ca ci) dx (putF f u gs))) (up S2 p (.ins ci (fput f v fs))) := Stp.write h1 (fun _ e => by cases e) (fun _ _ e => by cases e) e1
        have st13 := (st.trans st2).trans st3
        refine hn e' _ σ _ st13 q2 (re.mono st13.tp) (RS.upd hs2 t ⟨dx, _, upd_same, hc, ?_⟩)
        have pp := paired_put (K := X.K) (C := c.ca ci) na rv' hp
        exact Paired.imp pp fun p q ⟨z1, z2, z3⟩ => ⟨z1, z2, RV.mono t _ _ z3⟩
      | lst xs => simp only [e1] at q2
      | dct kvs t => simp only [e1] at q2
  | _ => exact q2.elim
theorem s_expr {e : Ex} : SndS (.expr e) := by
  intro X c G T k sc W E p O h
  unfold chkS at h; split at h <;> first | contradiction | skip
  rename_i e' pe pos heq
  cases heq
  simp only [Bool.and_eq_true, Bool.not_eq_true'] at h
  refine PS.imp (ps_expr ((snd e).1 X c G T k sc W E pe O.x O.tk h.1) (sw_plain h.2 _ _ _)) fun D σ H hh => ?_
  obtain ⟨e', S, rt, nx, re, rs, hf, hn, hr, xw⟩ := hh
  simp only [wS] at hf
  exact ⟨e', S, _, re, rs, hf, fun v S1 u H1 st q hs1 rv => hn e' S1 σ H1 st q (re.mono st.tp) hs1, xw.at σ⟩
theorem s_ret {e : Ex} : SndS (.ret e) := by
  intro X c G T k sc W E p O h
  unfold chkS at h; split at h <;> first | contradiction | skip
  rename_i e' pe pos heq
  cases heq
  refine PS.imp (ps_ret ((snd e).1 X c G T k sc W E pe O.x O.tk h)) fun D σ H hh => ?_
  obtain ⟨e', S, rt, nx, re, rs, hf, hn, hr, xw⟩ := hh
  simp only [wS] at hf
  exact ⟨e', S, _, re, rs, hf, hr, xw.at σ⟩
theorem s_ret0 : SndS .ret0 := by
  intro X c G T k sc W E p O h
  unfold chkS at h; split at h <;> first | contradiction | skip
  refine PS.imp ps_retN fun D σ H hh => ?_
  obtain ⟨e', S, rt, nx, re, rs, hf, hn, hr, xw⟩ := hh
  simp only [wS] at hf
  exact hr.here (v := .non) hf rs rfl
theorem s_pass : SndS .pass := by
  intro X c G T k sc W E p O h
  unfold chkS at h; split at h <;> first | contradiction | skip
  all_goals
    refine PS.imp (by first | exact ps_pass | exact ps_doc) fun D σ H hh => ?_
    obtain ⟨e', S, rt, nx, re, rs, hf, hn, hr, xw⟩ := hh
    simp only [wS] at hf
    exact hn e' S σ H .refl hf re rs
theorem s_ite {e : Ex} {a b : Sms} (ha : SndSs a) (hb : SndSs b) : SndS (.ite e a b) := by
  intro X c G T k sc W E p O h
  unfold chkS at h; split at h <;> first | contradiction | skip
  rename_i e' a' b' pc pa pb pos heq
  cases heq
  simp only [Bool.and_eq_true] at h
  refine PS.imp (ps_if ((snd e).2.1 X c G T k sc W E pc O.x O.tk h.1.1) (ha X c G T k sc W E pa O h.1.2) (hb X c G T k sc W E pb O h.2)) fun D σ H hh => ?_
  obtain ⟨e', S, rt, nx, re, rs, hf, hn, hr, xw⟩ := hh
  simp only [wS] at hf
  refine ⟨e', S, _, re, rs, hf, fun v S1 u H1 st q hs1 rv => ?_, xw.at σ⟩
  obtain ⟨d, rfl, q1, q2⟩ := withB_some q
  cases rv
  refine ⟨d, rfl, ?_⟩
  cases d with
  | true => exact iteT ⟨e', S1, rt, nx, re.mono st.tp, hs1, q1 rfl, hn.step st, hr.step st, xw.step st⟩
  | false => exact iteF ⟨e', S1, rt, nx, re.mono st.tp, hs1, q2 rfl, hn.step st, hr.step st, xw.step st⟩
theorem s_while {e : Ex} {b : Sms} (hb : SndSs b) : SndS (.while e b) := by
  intro X c G T k sc W E p O h
  unfold chkS at h; split at h <;> first | contradiction | skip
  rename_i e' b' pc pb pos heq
  cases heq
  simp only [Bool.and_eq_true] at h
  refine PS.imp (ps_while O.own ((snd e).2.1 X c G T k sc W E pc O.x O.tk h.1) (hb X c G T k sc W E pb O h.2)) fun D σ H hh => ?_
  obtain ⟨e', S, rt, nx, re, rs, hf, hn, hr, xw⟩ := hh
  simp only [wS] at hf
  obtain ⟨V, ⟨m0, v0⟩, turn⟩ := hf
  refine ⟨fun m σ' H' => ∃ e' S', Stp (lay X c) H S H' S' ∧ RE X.K H' e' σ' ∧ RS (lay X c) H' S' ∧ V m e' S', ⟨m0, e', S, .refl, re, rs, v0⟩, ?_⟩
  rintro m σ1 H1 ⟨e1, S1, st, re1, rs1, v1⟩
  refine ⟨e1, S1, _, re1, rs1, turn m e1 S1 v1, fun v S2 u H2 st2 q rs2 rv => ?_, (xw.step st).at σ1⟩
  obtain ⟨d, rfl, q1, q2⟩ := withB_some q
  cases rv
  refine ⟨d, rfl, ?_⟩
  have st12 := st.trans st2
  cases d with
  | true =>
    refine iteT ⟨fun σ' H' => ∃ m', m' < m ∧ ∃ e' S', Stp (lay X c) H S H' S' ∧ RE X.K H' e' σ' ∧ RS (lay X c) H' S' ∧ V m' e' S', fun σ' H' z => z, ?_⟩
    refine ⟨e1, S2, rt, _, re1.mono st2.tp, rs2, q1 rfl, fun e3 S3 σ3 H3 st3 q3 re3 rs3 => ?_, hr.step st12, xw.step st12⟩
    obtain ⟨m', hm, v3⟩ := q3
    exact ⟨m', hm, e3, S3, st12.trans st3, re3, rs3, v3⟩
  | false => exact iteF (hn.step st12 e1 S2 σ1 H2 .refl (q2 rfl) (re1.mono st2.tp) rs2)
theorem s_for {tg : Tg} {it : Itr} {b : Sms} (hb : SndSs b) : SndS (.for tg it b) := by
  intro X c G T k sc W E p O h
  unfold chkS at h; split at h <;> first | contradiction | skip
  rename_i tg' it' b' ptg pit pb pos heq
  cases heq
  simp only [Bool.and_eq_true] at h
  obtain ⟨⟨⟨h1, h2⟩, h3⟩, h4⟩ := h
  have hN : X.N.Nodup := by rw [O.x.N]; exact O.x.nm.nd
  have hg := g_ok (X := X) (T := T) (sc := sc) hN O.x.N O.x.calm (fun x hx => ⟨loc_def O hx, .inl (O.fn x)⟩) h1
  refine PS.imp (ps_for O.own O.x.calm ((sndI it) X c G T k sc W E ptg pit O.x O.tk h2) hg (hb X c G T k sc W E pb O h4) (fun x => plain_fold h3 X.env x)) fun D σ H hh => ?_
  obtain ⟨e', S, rt, nx, re, rs, hf, hn, hr, xw⟩ := hh
  simp only [wS] at hf
  refine ⟨e', S, _, re, rs, hf, fun xs grd S1 H1 J st q rs1 wv => ?_, xw.at σ⟩
  refine ⟨fun i m σ' H' => ∃ e' S', m = xs.length - i ∧ i ≤ xs.length ∧ Stp (lay X c) H1 S1 H' S' ∧ RE X.K H' e' σ' ∧ RS (lay X c) H' S' ∧ wFor tg (fun k e' S' => wSs G E rt b k e' S') grd nx (xs.drop i) e' S', ⟨xs.length, e', S1, by simp, Nat.zero_le _, .refl, re.mono st.tp, rs1, by simpa using q⟩, ?_⟩
  rintro i m σ2 H2 ⟨e2, S2, rfl, hi, st2, re2, rs2, hw⟩
  by_cases hlt : i < xs.length
  · have ed : xs.drop i = xs[i] :: xs.drop (i + 1) := List.drop_eq_getElem_cons hlt
    rw [ed] at hw
    obtain ⟨g, hw⟩ := hw
    obtain ⟨e3, eb, hw⟩ := withO_some hw
    refine .inr ⟨wv.go i H2 S2 hlt st2.tp rs2 g, fun σ' H' => ∃ e' S', Stp (lay X c) H1 S1 H' S' ∧ RE X.K H' e' σ' ∧ RS (lay X c) H' S' ∧ wFor tg (fun k e' S' => wSs G E rt b k e' S') grd nx (xs.drop (i + 1)) e' S', ?_, fun x H3 y => ?_⟩
    · rintro σ' H' ⟨e4, S4, a1, a2, a3, a4⟩
      exact ⟨xs.length - (i + 1), by omega, e4, S4, rfl, hlt, a1, a2, a3, a4⟩
    · obtain ⟨v, e1, rv, st', rs', kp⟩ := wv.yld i H2 S2 x H3 hlt st2.tp rs2 g y
      have ev : v = xs[i] := by
        rw [List.getElem?_eq_getElem hlt] at e1
        exact (Option.some.inj e1).symm
      subst ev
      have st3 := st2.trans st'
      refine gT_ok eb rv (re2.mono st'.tp) fun σ3 re3 _ => ?_
      have st03 := st.trans st3
      exact ⟨e3, S2, rt, _, re3, rs', hw, fun e4 S4 σ4 H4 st4 q4 re4 rs4 => ⟨e4, S4, st3.trans st4, re4, rs4, q4⟩, hr.step st03, xw.step st03⟩
  · have e : i = xs.length := by omega
    subst e
    rw [List.drop_length] at hw
    exact .inl ⟨wv.stop H2 S2 st2.tp rs2 hw.1, hn e2 S2 σ2 H2 (st.trans st2) hw.2 re2 rs2⟩
theorem s_raise {ci : Nat} {x : Str} : SndS (.raise ci x) := by
  intro X c G T k sc W E p O h
  unfold chkS at h; split at h <;> first | contradiction | skip
  rename_i heq
  cases heq
  simp only [Bool.and_eq_true, decide_eq_true_eq] at h
  obtain ⟨⟨h1, h2⟩, h3⟩ := h
  obtain ⟨bmB, B, newId, initId, F, q, gC, kC, bF, tF⟩ := (O.x.nm.exs _ _ h1).ex
  refine PS.imp (ps_raise O.x.calm O.tk (pmk_own F q gC kC (raises_own bF tF) (gl_of O.x (glo_of h2)) (name_of h3).1)) fun D σ H hh => ?_
  obtain ⟨e', S, rt, nx, re, rs, hf, hn, hr, xw⟩ := hh
  simp only [wS] at hf
  exact xw ci S H σ .refl hf rs
theorem s_nil : SndSs .nil := by
  intro X c G T k sc W E p O h
  cases p with
  | nil =>
    refine PSs.imp pss_nil fun D σ H hh => ?_
    obtain ⟨e', S, rt, nx, re, rs, hf, hn, hr, xw⟩ := hh
    simp only [wSs] at hf
    exact hn e' S σ H .refl hf re rs
  | cons _ _ => simp [chkSs] at h
theorem s_cons {s : Sm} {r : Sms} (hs : SndS s) (hr' : SndSs r) : SndSs (.cons s r) := by
  intro X c G T k sc W E p O h
  cases p with
  | nil => simp [chkSs] at h
  | cons p ps =>
    simp only [chkSs, Bool.and_eq_true] at h
    refine PSs.imp (pss_cons (hs X c G T k sc W E p O h.1) (hr' X c G T k sc W E ps O h.2)) fun D σ H hh => ?_
    obtain ⟨e', S, rt, nx, re, rs, hf, hn, hr, xw⟩ := hh
    simp only [wSs] at hf
    exact ⟨e', S, rt, _, re, rs, hf, fun e2 S2 σ2 H2 st q re2 rs2 => ⟨e2, S2, rt, nx, re2, rs2, q, hn.step st, hr.step st, xw.step st⟩, hr, xw⟩
/-! ### try -/
section
variable {X : Cx} {c : LC} {G : Cfg} {T : Tab} {k : Nat} {sc : Scope} {a : Addr} {oe : Obj} {pn : List (Addr × Obj)} {x : Nat}
def tHd (n : Nat) (a : Addr) (b : Bool) : TE := fun σ H Q => σ[n]? = some (some (V.ref a)) ∧ Q (.bl b) H
theorem p_is (O : XOk X c G T k sc) (hx : G.ek x = true) (hz : Zc (.ref (c.ex x)) none oe) (hf : ∃ vs, oe.data = .fields vs) {n y : Nat} {e : Expr} (h : isC T sc n y e = true) : PE (X.suite a ((a, oe) :: pn)) e (tHd n a (G.sub x y)) := by
  unfold isC at h
  split at h <;> first | contradiction | skip
  rename_i f pf m pm z pz pos
  simp only [Bool.and_eq_true, decide_eq_true_eq] at h
  obtain ⟨⟨⟨⟨h1, h2⟩, h3⟩, h4⟩, h5⟩ := h
  obtain ⟨rfl, g1, _⟩ := call_of h1
  obtain ⟨n1, n2, n3⟩ := name_of h4
  have hv : PE (X.suite a ((a, oe) :: pn)) (.Name m pm) (tVar n) := pe_var (by show X.N[n]? = _; rw [O.N]; exact h2) (by show Vis X.env.scope m; rw [O.sc]; exact vis_of h3) n1 n2
  have key : ∀ {v : V} {cv : Value}, PE (X.suite a ((a, oe) :: pn)) (.Name z pz) (L2.tC v) → (∀ u, RelV v u → u = cv) → PySem.W.kitOne X.K (.ref (c.ex x)) cv = some (G.sub x y) →
      PE (X.suite a ((a, oe) :: pn)) (.Call (.Name "isinstance" pf) [.Name m pm, .Name z pz] [] pos) (tHd n a (G.sub x y)) := by
    intro v cv hz2 hr hk
    refine PE.imp (pe_callB (call_isE (O.nm.exc x hx) hz hf) (gl_of O g1) (O.nm.blt _ (by simp)) (by decide +kernel) (pa_cons hv (pa_cons hz2 pa_nil rfl) rfl) (by decide) (by decide) rfl rfl) fun σ H Q hh => ?_
    obtain ⟨h6, h7⟩ := hh
    exact ⟨_, h6, v, cv, _, rfl, hr, hk, h7⟩
  by_cases hy : y = 99
  · rw [if_pos hy] at h5
    subst hy
    obtain ⟨rfl, g2, d2, d3⟩ := call_of h5
    exact key (v := .ty "ValueError") (cv := .type "ValueError") (pe_bltn (v := .ty "ValueError") (u := .type "ValueError") (gl_of O g2) O.nm.vale (by decide +kernel) rfl d3 d2) (fun u r => r) (O.nm.kitV x hx)
  · rw [if_neg hy] at h5
    simp only [Bool.and_eq_true, decide_eq_true_eq] at h5
    obtain ⟨⟨l, g2⟩, d2⟩ := h5
    obtain ⟨bmB, B, newId, initId, F, q, gC, kC, bF, tF⟩ := (O.nm.exs _ _ l).ex
    exact key (v := .ref (c.ex y)) (cv := .ref (c.ex y)) (pe_glob (v := .ref (c.ex y)) (gl_of O (glo_of g2)) gC rfl (name_of d2).1) (fun u r => r) (O.nm.kit x y hx (O.nm.exk _ _ l))
theorem p_atom (O : XOk X c G T k sc) (hx : G.ek x = true) (hz : Zc (.ref (c.ex x)) none oe) (hf : ∃ vs, oe.data = .fields vs) {n : Nat} {p : Nat × Bool} {e : Expr} (h : atomC T sc n p e = true) : PE (X.suite a ((a, oe) :: pn)) e (tHd n a (G.sub x p.1 == p.2)) := by
  unfold atomC at h
  split at h <;> first | contradiction | skip
  · refine PE.imp (p_is O hx hz hf h) fun σ H Q hh => ?_
    obtain ⟨h1, h2⟩ := hh
    exact ⟨h1, by simpa using h2⟩
  · refine PE.imp (pe_not (p_is O hx hz hf h)) fun σ H Q hh => ?_
    obtain ⟨h1, h2⟩ := hh
    exact ⟨h1, _, rfl, by simpa using h2⟩
theorem p_atoms (O : XOk X c G T k sc) (hx : G.ek x = true) (hz : Zc (.ref (c.ex x)) none oe) (hf : ∃ vs, oe.data = .fields vs) {n : Nat} {pos : Pos} : ∀ {cs : List (Nat × Bool)} {es : List Expr}, atomsC T sc n cs es = true →
    PE (X.suite a ((a, oe) :: pn)) (.BoolOp .And es pos) (tHd n a (cs.all fun p => G.sub x p.1 == p.2))
  | [], _, h => by simp [atomsC] at h
  | [p], [], h => by simp [atomsC] at h
  | [p], [e], h => by
    simp only [atomsC] at h
    simp only [List.all_cons, List.all_nil, Bool.and_true]
    exact pe_one (p_atom O hx hz hf h)
  | [p], _ :: _ :: _, h => by simp [atomsC] at h
  | p :: q :: r, [], h => by simp [atomsC] at h
  | p :: q :: r, [e], h => by
    simp only [atomsC, Bool.and_eq_true] at h
    cases r <;> simp [atomsC] at h
  | p :: q :: r, e :: e2 :: es, h => by
    simp only [atomsC, Bool.and_eq_true] at h
    refine PE.imp (pe_and (p_atom O hx hz hf h.1) (p_atoms (cs := q :: r) (es := e2 :: es) O hx hz hf h.2)) fun σ H Q hh => ?_
    obtain ⟨h1, h2⟩ := hh
    refine ⟨h1, _, rfl, ?_⟩
    rw [List.all_cons] at h2
    cases w : (G.sub x p.1 == p.2) with
    | true =>
      rw [w, Bool.true_and] at h2
      exact iteT ⟨h1, h2⟩
    | false =>
      rw [w, Bool.false_and] at h2
      exact iteF h2
/-- a clause's suite, as a reading -/
def tSu (c : LC) (G : Cfg) (h : Hd) (i : Option Nat) (a : Addr) (cls : Value) (d : Option Addr) : TS := fun D σ H => ∃ (x : Nat) (v : V), G.ek x = true ∧ cls = .ref (c.ex x) ∧ d = none ∧ (∀ n, i = some n → ∃ σ0 : L2.St, σ = σ0.set n (some (.ref a))) ∧
  (match h with
    | .conj cs => v = .bl (cs.all fun p => G.sub x p.1 == p.2)
    | .bl b => v = .bl b
    | .non => v = .non
    | .str z => v = .str z
    | .text z cs => v = .str (if (cs.all fun p => G.sub x p.1 == p.2) = true then z else "")
    | _ => False) ∧ D.rt v H
theorem p_suite (O : XOk X c G T k sc) {cls : Value} {d : Option Addr} (hz : Zc cls d oe) (hf : ∃ vs, oe.data = .fields vs) {h : Hd} {i : Option Nat} {su : List Stmt} (hi : ∀ n, i = some n → n < X.N.length) (hc : chkH T sc h i su = true) : PSs (X.suite a ((a, oe) :: pn)) su (tSu c G h i a cls d) := by
  refine ⟨fun pins s σ H D I hh => ?_⟩
  obtain ⟨x, v, hx, rfl, rfl, hs, hv, q⟩ := hh
  have slot : ∀ n, i = some n → σ[n]? = some (some (V.ref a)) := fun n e => by
    obtain ⟨σ0, rfl⟩ := hs n e
    have := I.len
    rw [List.length_set] at this
    rw [List.getElem?_set_self (by rw [this]; exact hi n e)]
  unfold chkH at hc
  split at hc <;> first | contradiction | skip
  · subst hv
    exact (pss_one (ps_ret (p_atoms O hx hz hf hc))).run pins s σ H D I ⟨slot _ rfl, q⟩
  · subst hv
    refine (pss_one (ps_ret (p_atom O hx hz hf hc))).run pins s σ H D I ⟨slot _ rfl, ?_⟩
    simpa using q
  · subst hv
    simp only [Bool.and_eq_true, decide_eq_true_eq] at hc
    obtain ⟨⟨⟨rfl, hzl⟩, h3⟩, h4⟩ := hc
    obtain ⟨rfl, g1, d1, d2⟩ := call_of h3
    refine (pss_one (ps_ret (pe_op op_mulS pe_str (pe_callTy (X := X.suite a ((a, oe) :: pn)) call_int1 (gl_of O g1) (O.nm.blt _ (by simp)) (by decide +kernel) (pa_cons (p_atoms O hx hz hf h4) pa_nil rfl) (by decide) (by decide) rfl rfl)))).run pins s σ H D I ?_
    have fin : ∀ (z : Str) (b : Bool), D.rt (V.str (if b = true then z else "")) H → D.rt (V.str (srep z (if b = true then 1 else 0))) H := by
      intro z b q
      cases b with
      | false => exact q
      | true =>
        have e : srep z 1 = z := by
          obtain ⟨cp⟩ := z
          simp [srep]
        rw [if_pos rfl, e]
        exact q
    have one : ∀ b : Bool, (0 : Int) ≤ (if b = true then 1 else 0) ∧ (if b = true then (1 : Int) else 0) ≤ 1000 := fun b => by cases b <;> decide
    exact ⟨slot _ rfl, .inr ⟨_, rfl, _, _, rfl, rfl, (one _).1, (one _).2, hzl, fin _ _ q⟩⟩
  · subst hv
    cases of_decide_eq_true hc
    exact (pss_one (ps_ret pe_bl)).run pins s σ H D I q
  · subst hv
    exact (pss_one (ps_ret pe_non)).run pins s σ H D I q
  · subst hv
    cases of_decide_eq_true hc
    exact (pss_one (ps_ret pe_str)).run pins s σ H D I q
theorem su_in {L : Lay} {c : LC} {G : Cfg} {h : Hd} {rt : KV} {E : Nat → Sto → Prop} {x : Nat} {i : Option Nat} {a : Addr} {H : Hp} {S : Sto} {D : Ends} {σ : L2.St} {su : List Stmt} {T : Tab} {sc : Scope} (hc : chkH T sc h i su = true) (hk : G.ek x = true) (hw : wH G E rt h x S) (rs : RS L H S) (hr : Cont L H S rt D.rt)
    (hs : ∀ n, i = some n → ∃ σ0 : L2.St, σ = σ0.set n (some (.ref a))) : tSu c G h i a (.ref (c.ex x)) none D σ H := by
  cases h with
  | conj cs => exact ⟨x, _, hk, rfl, rfl, hs, rfl, hr.here (v := .bl _) hw rs rfl⟩
  | bl b => exact ⟨x, _, hk, rfl, rfl, hs, rfl, hr.here (v := .bl _) hw rs rfl⟩
  | non => exact ⟨x, _, hk, rfl, rfl, hs, rfl, hr.here (v := .non) hw rs rfl⟩
  | str z => exact ⟨x, _, hk, rfl, rfl, hs, rfl, hr.here (v := .str _) hw rs rfl⟩
  | text z cs => exact ⟨x, _, hk, rfl, rfl, hs, rfl, hr.here (v := .str _) hw rs rfl⟩
  | raise y => simp [chkH] at hc
end
theorem s_try {b : Sms} {ci : Nat} {n : Option Nat} {h : Hd} (hb : SndSs b) : SndS (.try1 b ci n h) := by
  intro X c G T k sc W E p O hc
  unfold chkS at hc; split at hc <;> first | contradiction | skip
  rename_i b' c' n' h' pb x np m su pos' pos heq
  cases heq
  simp only [Bool.and_eq_true, decide_eq_true_eq] at hc
  obtain ⟨⟨⟨⟨⟨h1, h2⟩, h3⟩, h4⟩, h5⟩, h6⟩ := hc
  obtain ⟨bmB, B, newId, initId, F, q, gC, kC, bF, tF⟩ := (O.x.nm.exs _ _ h1).ex
  have hck := O.x.nm.exk _ _ h1
  have hN : X.N.Nodup := by rw [O.x.N]; exact O.x.nm.nd
  have hnm : Names X x (.ref (c.ex ci)) := ⟨gl_of O.x (glo_of h2), (name_of h3).1, .inl gC⟩
  have hbody : ∀ (W' : WX) (pn : List (Addr × Obj)) (xe : Value → Shared → Prop) (E' : Nat → Sto → Prop), Takes (X.tr pn xe) W' → PassesOwn (model X.prog X.w) X.A X.env xe → PSs (X.tr pn xe) pb (tS (lay X c) W' E' (fun rt nx e S => wSs G E' rt b nx e S)) :=
    fun W' pn xe E' tk own => hb (X.tr pn xe) c G T k sc W' E' pb ⟨⟨O.x.nm, O.x.room, O.x.calm, O.x.N, O.x.sc⟩, tk, own, O.fn, O.kind, O.own0⟩ h4
  have hsne : ∃ b0 sr, su = b0 :: sr := by
    cases su with
    | nil => unfold chkH at h5; split at h5 <;> first | contradiction | skip
    | cons b0 sr => exact ⟨b0, sr, rfl⟩
  obtain ⟨b0, sr, rfl⟩ := hsne
  have tbody : ∀ (W' : WX) (pn : List (Addr × Obj)) (xe : Value → Shared → Prop), Takes (X.tr pn xe) W' → PassesOwn (model X.prog X.w) X.A X.env xe → PSs (X.tr pn xe) pb (fun D σ H => ∃ E', tS (lay X c) W' E' (fun rt nx e S => wSs G E' rt b nx e S) D σ H) :=
    fun W' pn xe tk own => ⟨fun pins s σ H D I ⟨E', hh⟩ => (hbody W' pn xe E' tk own).run pins s σ H D I hh⟩
  cases n with
  | some i =>
    cases m with
    | none => cases h6
    | some y =>
      simp only [Bool.and_eq_true, decide_eq_true_eq] at h6
      have hi : X.N[i]? = some y := by rw [O.x.N]; exact h6.1
      have hlt : i < X.N.length := by
        obtain ⟨w, _⟩ := List.getElem?_eq_some_iff.mp hi
        exact w
      refine PS.imp (ps_try_as (ts := fun a cls d => tSu c G h (some i) a cls d) O.own0.1 O.own0.2 hN hi (by show X.env.scope.names.lookup y = _; rw [O.x.sc]; exact h6.2) hnm O.tk tbody
        (fun a oe cls d pn hz hf => p_suite O.x hz hf (fun n e => by cases e; exact hlt) h5)) fun D σ H hh => ?_
      obtain ⟨e', S, rt, nx, re, rs, hf, hn, hr, xw⟩ := hh
      simp only [wS] at hf
      refine ⟨_, e', S, rt, nx, re, rs, hf, hn, hr, fun x S' H' σ' st q rs' => ?_⟩
      obtain ⟨hk, q1, q2⟩ := q
      refine ⟨G.sub x ci, O.x.nm.exm _ _ hk hck, fun w a na => ?_, fun w => xw x S' H' σ' st (q2 w) rs'⟩
      exact su_in (L := lay X c) h5 hk (q1 w) rs' (hr.step st) fun n e => by cases e; exact ⟨_, rfl⟩
  | none =>
    cases m with
    | some y => cases h6
    | none =>
      refine PS.imp (ps_try_only (ts := fun a cls d => tSu c G h none a cls d) O.own0.1 O.own0.2 hnm O.tk tbody
        (fun a oe cls d pn hz hf => p_suite O.x hz hf (fun n e => by cases e) h5)) fun D σ H hh => ?_
      obtain ⟨e', S, rt, nx, re, rs, hf, hn, hr, xw⟩ := hh
      simp only [wS] at hf
      refine ⟨_, e', S, rt, nx, re, rs, hf, hn, hr, fun x S' H' σ' st q rs' => ?_⟩
      obtain ⟨hk, q1, q2⟩ := q
      refine ⟨G.sub x ci, O.x.nm.exm _ _ hk hck, fun w a na => ?_, fun w => xw x S' H' σ' st (q2 w) rs'⟩
      exact su_in (L := lay X c) h5 hk (q1 w) rs' (hr.step st) fun n e => by cases e
mutual
theorem sndS : (x : Sm) → SndS x
  | .asg i e => s_asg
  | .asgs is e => s_asgs
  | .par i j a b => s_par
  | .setI a i e => s_setI
  | .setF a f e => s_setF
  | .expr e => s_expr
  | .ret e => s_ret
  | .ret0 => s_ret0
  | .pass => s_pass
  | .ite e a b => s_ite (sndSs a) (sndSs b)
  | .while e b => s_while (sndSs b)
  | .for tg it b => s_for (sndSs b)
  | .raise c x => s_raise
  | .try1 b c n h => s_try (sndSs b)
theorem sndSs : (x : Sms) → SndSs x
  | .nil => s_nil
  | .cons s r => s_cons (sndS s) (sndSs r)
end
end
end DL

set_option autoImplicit true
set_option Elab.async false
set_option linter.all false
set_option maxRecDepth 100000
set_option maxHeartbeats 8000000
/-! Own layer, part 16: a def. -/
namespace DL
open PySem PySem.Spec PyProof.Rows L2

/-- a part of a store -/
def Sto.le (S S' : Sto) : Prop := ∀ a o, S a = some o → S' a = some o
theorem Sto.le.refl (S : Sto) : Sto.le S S := fun _ _ h => h
/-- at the entry -/
def startE (n : Nat) (vs : List Val) : Env := vs.map some ++ List.replicate (n - vs.length) none
/-- what stands behind a return: less is told than is there -/
def rtOf (Q : KV) : KV := fun v S' => ∃ S'', Sto.le S'' S' ∧ Q v S''
def exOf (E : Nat → Sto → Prop) : Nat → Sto → Prop := fun x S' => ∃ S'', Sto.le S'' S' ∧ E x S''
theorem re_start {K : PySem.W.Frag} {H : Hp} {n : Nat} : ∀ {args : List Val} {vs : List V}, RVs K H args vs → RE K H (args.map some ++ List.replicate n none) (vs.map some ++ List.replicate n none)
  | [], vs, r => by
    cases r
    refine ⟨by simp, fun i v q => ?_⟩
    simp only [List.map_nil, List.nil_append] at q
    rw [List.getElem?_replicate] at q
    split at q <;> simp at q
  | a :: as, vs, r => by
    obtain ⟨u, us, rfl, r1, r2⟩ := r
    obtain ⟨h1, h2⟩ := re_start (n := n) r2
    refine ⟨by simpa using h1, fun i v q => ?_⟩
    cases i with
    | zero =>
      simp at q
      subst q
      exact ⟨u, by simp, r1⟩
    | succ i => exact h2 i v (by simpa using q)
theorem def_ok {P : Program} {w : World} {K : PySem.W.Frag} {mg : Str → Option Value} {base : Heap} {x qual : Str} {st : Stmt} {f : Addr} {fd : FuncData} {N ps : List Str} {k : Nat} {c : LC} {G : Cfg} {T : Tab} {sp : DL.Spec} {body : Sms}
    (F : Fun K x qual st f fd) (S : FnScope N ps (defScope st)) (nm : Nm P w K mg base c G T k) (hT : T.N = N) (chk : chkSs T (defScope st) body (defBody st) = true) (ar : Arity ps.length sp)
    (h : ∀ args S Q E, sp args S Q E → wSs G (exOf E) (rtOf Q) body (fun _ S' => rtOf Q .non S') (startE N.length args) S) : FnOk P w K mg base (L2.CX P w) (k + 1) f fd ps (lift ⟨P, w, K, c.ca, c.ex⟩ sp) := by
  refine F.okX S (fun vs H Q E hh => lift_len ar vs H Q E hh) (fun cdv A outer s H vs Q E hr hh => ?_)
  have tk : Takes (cxOf (L2.CX P w) P w K mg base N qual (defScope st) f cdv A outer s H E) (fun cls d _ H => E cls d H) := takes_of rfl rfl rfl rfl
  have own : PassesOwn (model P w) (cxOf (L2.CX P w) P w K mg base N qual (defScope st) f cdv A outer s H E).A (cxOf (L2.CX P w) P w K mg base N qual (defScope st) f cdv A outer s H E).env (cxOf (L2.CX P w) P w K mg base N qual (defScope st) f cdv A outer s H E).xe :=
    passes_of (X := cxOf (L2.CX P w) P w K mg base N qual (defScope st) f cdv A outer s H E) (K := fun e s'' => L2.CX P w outer H s E e s'') (E₁ := fun e s'' => L2.CX P w outer H s E e s'') rfl
  have O : SOk (cxOf (L2.CX P w) P w K mg base N qual (defScope st) f cdv A outer s H E) c G T k (defScope st) (fun cls d _ H => E cls d H) := ⟨⟨nm, hr, rfl, hT.symm, rfl⟩, tk, own, fun _ => rfl, S.kind, rfl, rfl⟩
  obtain ⟨args, S0, Qd, Ed, r, rs, hsp, kk, xx⟩ := hh
  refine ⟨_, (sndSs body) _ c G T k (defScope st) _ (exOf Ed) (defBody st) O chk, ?_⟩
  have hl : args.length = vs.length := r.length
  refine ⟨startE N.length args, S0, rtOf Qd, _, ?_, rs, h args S0 Qd Ed hsp, fun e' S' σ' H' st' q re' rs' => ?_, fun v S' u H' st' q rs' rv => ?_, fun y S' H' σ' st' q rs' => ?_⟩
  · unfold startE L2.start
    rw [hl]
    exact re_start r
  · obtain ⟨S'', le, q⟩ := q
    exact kk .non S'' .non H' ⟨st'.tp, st'.more, fun a ha => st'.dom a fun z => ha (by
      cases e0 : S'' a with
      | none => rfl
      | some o => rw [le a o e0] at z; cases z), st'.frm⟩ q (rs'.sub le) rfl
  · obtain ⟨S'', le, q⟩ := q
    exact kk v S'' u H' ⟨st'.tp, st'.more, fun a ha => st'.dom a fun z => ha (by
      cases e0 : S'' a with
      | none => rfl
      | some o => rw [le a o e0] at z; cases z), st'.frm⟩ q (rs'.sub le) rv
  · obtain ⟨S'', le, q⟩ := q
    exact xx y S'' H' ⟨st'.tp, st'.more, fun a ha => st'.dom a fun z => ha (by
      cases e0 : S'' a with
      | none => rfl
      | some o => rw [le a o e0] at z; cases z), st'.frm⟩ q (rs'.sub le)
end DL

set_option autoImplicit true
set_option Elab.async false
set_option linter.all false
set_option maxRecDepth 100000
set_option maxHeartbeats 4000000
/-! Own layer, plain part 1: stores, turns. -/
namespace DL
open PySem

theorem getV_0 (v : Option Val) (e : Env) : getV (v :: e) 0 = v := rfl
theorem getV_s (v : Option Val) (e : Env) (n : Nat) : getV (v :: e) (n + 1) = getV e n := by
  simp [getV]
theorem startE_nil (n : Nat) : startE n [] = List.replicate n none := by simp [startE]
theorem startE_cons (n : Nat) (v : Val) (vs : List Val) : startE (n + 1) (v :: vs) = some v :: startE n vs := by simp [startE]
theorem withO_s {α : Type} (a : α) (k : α → Prop) : withO (some a) k = k a := rfl
theorem withB_b (b : Bool) (k : Bool → Prop) : withB (.bl b) k = k b := rfl
theorem bind_one (i : Nat) (e : Env) (v : Val) : bindT (.one i) e v = some (e.set i (some v)) := by cases v <;> rfl
theorem bind_two (i j : Nat) (e : Env) (v w : Val) : bindT (.many [i, j]) e (.tup [v, w]) = some ((e.set i (some v)).set j (some w)) := rfl
/-- the turns of a body that makes one item and leaves the store -/
theorem turns_map {body : Val → Sto → (Option Val → Sto → Prop) → Prop} {grd : Sto → Prop} {Q : List Val → Sto → Prop} {S : Sto} (f : Val → Val) (g : grd S) : ∀ {xs acc : List Val}, (∀ x ∈ xs, ∀ k : Option Val → Sto → Prop, k (some (f x)) S → body x S k) → Q (acc ++ xs.map f) S → wTurns body grd Q xs acc S
  | [], acc, _, q => ⟨g, by simpa using q⟩
  | x :: xs, acc, h, q => ⟨g, h x (by simp) _ (turns_map f g (fun y hy => h y (by simp [hy])) (by simpa using q))⟩
/-- .. that may leave an item out -/
theorem turns_fil {body : Val → Sto → (Option Val → Sto → Prop) → Prop} {grd : Sto → Prop} {Q : List Val → Sto → Prop} {S : Sto} (f : Val → Option Val) (g : grd S) : ∀ {xs acc : List Val}, (∀ x ∈ xs, ∀ k : Option Val → Sto → Prop, k (f x) S → body x S k) → Q (acc ++ xs.filterMap f) S → wTurns body grd Q xs acc S
  | [], acc, _, q => ⟨g, by simpa using q⟩
  | x :: xs, acc, h, q => ⟨g, h x (by simp) _ (turns_fil f g (fun y hy => h y (by simp [hy])) (by
      cases e : f x with
      | none => simpa [List.filterMap_cons, e] using q
      | some y => simpa [List.filterMap_cons, e] using q))⟩
theorem bls_map (f : α → Bool) (xs : List α) : Val.bls (xs.map fun x => .bl (f x)) = some (xs.map f) := by
  induction xs with
  | nil => rfl
  | cons x xs ih => simp [Val.bls, ih]
theorem ints_map (f : α → Int) (xs : List α) : Val.ints (xs.map fun x => .int (f x)) = some (xs.map f) := by
  induction xs with
  | nil => rfl
  | cons x xs ih => simp [Val.ints, ih]
theorem keep_self (S : Sto) {v : Val} (h : ∀ a, v ≠ .ref a) : keep S S v = S := by
  funext a
  have hr : isRef v a = false := by cases v <;> first | rfl | exact absurd rfl (h _)
  unfold keep
  rw [hr, Bool.or_false]
  cases e : S a <;> simp
theorem keep_up {S S1 : Sto} {p : Addr} {o : Ob} {v : Val} (h : ∀ a, v ≠ .ref a) (n : S p = none) : keep S (up S1 p o) v = keep S S1 v := by
  funext a
  have hr : isRef v a = false := by cases v <;> first | rfl | exact absurd rfl (h _)
  unfold keep
  rw [hr, Bool.or_false]
  by_cases e : a = p
  · subst e
    simp [n]
  · simp [up, e]
theorem atI_nat {α : Type} (xs : List α) (k : Nat) : L2.atI xs (k : Int) = xs[k]? := by
  unfold L2.atI L2.ixN
  by_cases h : k < xs.length
  · simp [h]
  · simp [h]
theorem atI_0 {α : Type} (a : α) (xs : List α) : L2.atI (a :: xs) 0 = some a := atI_nat (a :: xs) 0
theorem atI_1 {α : Type} (a b : α) (xs : List α) : L2.atI (a :: b :: xs) 1 = some b := atI_nat (a :: b :: xs) 1
theorem atI_2 {α : Type} (a b c : α) (xs : List α) : L2.atI (a :: b :: c :: xs) 2 = some c := atI_nat (a :: b :: c :: xs) 2
theorem atI_3 {α : Type} (a b c d : α) (xs : List α) : L2.atI (a :: b :: c :: d :: xs) 3 = some d := atI_nat (a :: b :: c :: d :: xs) 3
theorem tt_and (P R : Prop) : ((true = true → P) ∧ (true = false → R)) = P := by simp
theorem ff_and (P R : Prop) : ((false = true → P) ∧ (false = false → R)) = R := by simp
/-- a statement, what stands behind it out of sight -/
theorem step {G : Cfg} {E : Nat → Sto → Prop} {rt : KV} {s : Sm} {r : Sms} {nx : Env → Sto → Prop} {e : Env} {S : Sto} (h : ∀ K : Env → Sto → Prop, (∀ e' S', wSs G E rt r nx e' S' → K e' S') → wS G E rt s K e S) : wSs G E rt (.cons s r) nx e S := by
  rw [wSs]
  exact h _ fun _ _ z => z
theorem eqv_int (i j : Int) : PyData.eqv (.int i) (.int j) = decide (i = j) := by
  rw [PyData.eqv, Bool.beq_eq_decide_eq]
theorem see_dat {S : Sto} {n : Nat} {v : Val} (h : v.dat = true) : S.see n v = some v := by
  cases n with
  | zero => unfold Sto.see; rw [if_pos h]
  | succ n => unfold Sto.see; rw [if_pos h]
theorem turns_all {body : Val → Sto → (Option Val → Sto → Prop) → Prop} {grd : Sto → Prop} {Q : KV} {S : Sto} {xs : List Val} (f : Val → Bool) (g : grd S) (h : ∀ x ∈ xs, ∀ k : Option Val → Sto → Prop, k (some (.bl (f x))) S → body x S k) (q : Q (.bl (xs.all f)) S) :
    wTurns body grd (fun vs S1 => wBtL .all vs S1 Q) xs [] S := by
  refine turns_map (fun x => .bl (f x)) g h ?_
  simp only [List.nil_append, wBtL, bls_map, withO_s, List.all_map]
  exact q
theorem turns_any {body : Val → Sto → (Option Val → Sto → Prop) → Prop} {grd : Sto → Prop} {Q : KV} {S : Sto} {xs : List Val} (f : Val → Bool) (g : grd S) (h : ∀ x ∈ xs, ∀ k : Option Val → Sto → Prop, k (some (.bl (f x))) S → body x S k) (q : Q (.bl (xs.any f)) S) :
    wTurns body grd (fun vs S1 => wBtL .any vs S1 Q) xs [] S := by
  refine turns_map (fun x => .bl (f x)) g h ?_
  simp only [List.nil_append, wBtL, bls_map, withO_s, List.any_map]
  exact q
theorem range_mem {x : Val} {lo : Int} {n : Nat} {st : Int} (h : x ∈ rangeL lo n st) : ∃ k : Nat, k < n ∧ x = .int (lo + (k : Int) * st) := by
  unfold rangeL at h
  obtain ⟨k, hk, e⟩ := List.mem_map.mp h
  exact ⟨k, List.mem_range.mp hk, e.symm⟩
theorem tup_of {v : Val} {S : Sto} (h : (!tyOf .tuple v S) = false) : ∃ xs, v = .tup xs := by
  cases v <;> simp [tyOf] at h
  exact ⟨_, rfl⟩
theorem tup_of' {v : Val} {S : Sto} (h : tyOf .tuple v S = true) : ∃ xs, v = .tup xs := by
  cases v <;> simp [tyOf] at h
  exact ⟨_, rfl⟩
theorem range0_mem {x : Val} {n : Nat} (h : x ∈ rangeL 0 n 1) : ∃ k : Nat, k < n ∧ x = .int k := by
  obtain ⟨k, hk, e⟩ := range_mem h
  exact ⟨k, hk, by rw [e, Int.mul_one, Int.zero_add]⟩
theorem range0_all (n : Nat) (f : Val → Bool) : (rangeL 0 n 1).all f = (List.range n).all fun k => f (.int k) := by
  unfold rangeL
  rw [List.all_map]
  congr
  funext k
  simp
theorem see_int (S : Sto) (n : Nat) (i : Int) : S.see n (.int i) = some (.int i) := see_dat rfl
theorem see_bl (S : Sto) (n : Nat) (i : Bool) : S.see n (.bl i) = some (.bl i) := see_dat rfl
theorem see_str (S : Sto) (n : Nat) (i : Str) : S.see n (.str i) = some (.str i) := see_dat rfl
theorem see_non (S : Sto) (n : Nat) : S.see n .non = some .non := see_dat rfl
theorem dep_int (i : Int) : Val.dep (.int i) = 0 := rfl
theorem dep_bl (i : Bool) : Val.dep (.bl i) = 0 := rfl
theorem dep_str (i : Str) : Val.dep (.str i) = 0 := rfl
theorem dep_non : Val.dep .non = 0 := rfl
/-- a for, by what holds at each turn (rest: what is still to come) -/
theorem for_inv {tg : Tg} {body : (Env → Sto → Prop) → Env → Sto → Prop} {grd : Sto → Prop} {nx : Env → Sto → Prop} (P : List Val → Env → Sto → Prop)
    (hs : ∀ x rest e S, P (x :: rest) e S → grd S ∧ withO (bindT tg e x) fun e' => ∀ k : Env → Sto → Prop, (∀ e2 S2, P rest e2 S2 → k e2 S2) → body k e' S) (hd : ∀ e S, P [] e S → grd S ∧ nx e S) :
    ∀ (xs : List Val) (e : Env) (S : Sto), P xs e S → wFor tg body grd nx xs e S
  | [], e, S, h => hd e S h
  | x :: rest, e, S, h => by
    obtain ⟨h1, h2⟩ := hs x rest e S h
    refine ⟨h1, ?_⟩
    cases q : bindT tg e x with
    | none => rw [q] at h2; exact h2
    | some e' =>
      rw [q] at h2
      exact h2 _ fun e2 S2 p => for_inv P hs hd rest e2 S2 p
theorem le_off {S S' : Sto} {p : Addr} (h : Sto.le S S') (n : S' p = none) : S p = none := by
  cases e : S p with
  | none => rfl
  | some o => rw [h p o e] at n; cases n
theorem le_write {S S' : Sto} {p : Addr} {o : Ob} (h : Sto.le S S') (n : S p = none) : Sto.le S (up S' p o) := fun a ob q => by
  unfold up
  split
  · rename_i e
    subst e
    rw [n] at q
    cases q
  · exact h a ob q
theorem le_new {S S' : Sto} {p : Addr} {o : Ob} (h : Sto.le S S') (n : S' p = none) : Sto.le S (up S' p o) := le_write h (le_off h n)
theorem le_bump {S S' : Sto} {b : Addr} {o o2 : Ob} (h : Sto.le (up S b o) S') : Sto.le (up S b o2) (up S' b o2) := fun a ob q => by
  unfold up at q ⊢
  split
  · rename_i e
    rw [if_pos e] at q
    exact q
  · rename_i e
    rw [if_neg e] at q
    exact h a ob (by unfold up; rw [if_neg e]; exact q)
theorem Sto.le.trans {S S1 S2 : Sto} (h : Sto.le S S1) (h2 : Sto.le S1 S2) : Sto.le S S2 := fun a o q => h2 a o (h a o q)
theorem up_get {S : Sto} {a b : Addr} {o : Ob} (n : a ≠ b) : up S b o a = S a := if_neg n
theorem up_self {S : Sto} {b : Addr} {o : Ob} (h : S b = some o) : up S b o = S := by
  funext a
  unfold up
  split
  · rename_i e
    rw [e, h]
  · rfl
/-- a comprehension, by what holds at each turn -/
theorem turns_inv {body : Val → Sto → (Option Val → Sto → Prop) → Prop} {grd : Sto → Prop} {Q : List Val → Sto → Prop} (P : List Val → List Val → Sto → Prop)
    (hs : ∀ x rest acc S, P (x :: rest) acc S → grd S ∧ ∀ k : Option Val → Sto → Prop, (∀ r S', P rest (acc ++ r.toList) S' → k r S') → body x S k) (hd : ∀ acc S, P [] acc S → grd S ∧ Q acc S) :
    ∀ (xs acc : List Val) (S : Sto), P xs acc S → wTurns body grd Q xs acc S
  | [], acc, S, h => hd acc S h
  | x :: rest, acc, S, h => by
    obtain ⟨h1, h2⟩ := hs x rest acc S h
    exact ⟨h1, h2 _ fun r S' p => turns_inv P hs hd rest _ S' p⟩
theorem sees_ints {S : Sto} {n : Nat} : ∀ ns : List Int, S.sees n (ns.map .int) = some (ns.map .int) := by
  intro ns
  induction ns with
  | nil => rw [List.map_nil, Sto.sees]
  | cons i ns ih => rw [List.map_cons, Sto.sees, ih, see_int]
theorem see_ints {S : Sto} {n : Nat} {ns : List Int} : S.see (n + 1) (.lst (ns.map .int)) = some (.lst (ns.map .int)) := by
  unfold Sto.see
  rw [if_neg (by simp [Val.dat])]
  simp only [sees_ints]
  rfl
theorem veq_int_list {S : Sto} {a : Addr} {n : Nat} {ns : List Int} (h : S a = some (.lst (ns.map .int))) : S.see (n + 1) (.ref a) = some (.lst (ns.map .int)) := by
  have key : ∀ ns : List Int, S.sees n (ns.map .int) = some (ns.map .int) := by
    intro ns
    induction ns with
    | nil => rw [List.map_nil, Sto.sees]
    | cons i ns ih =>
      rw [List.map_cons, Sto.sees, ih, see_int]
  unfold Sto.see
  rw [if_neg (by simp [Val.dat])]
  simp only [h, key]
  rfl
/-- a for, its body out of sight -/
theorem for_step {G : Cfg} {E : Nat → Sto → Prop} {rt : KV} {tg : Tg} {it : Itr} {b : Sms} {nx : Env → Sto → Prop} {e : Env} {S : Sto}
    (h : ∀ B : (Env → Sto → Prop) → Env → Sto → Prop, (∀ k e' S', wSs G E rt b k e' S' → B k e' S') → wI G E it e S fun xs grd S1 => wFor tg B grd nx xs e S1) : wS G E rt (.for tg it b) nx e S := by
  rw [wS]
  exact h _ fun _ _ _ z => z
theorem while_step {G : Cfg} {E : Nat → Sto → Prop} {rt : KV} {c : Ex} {b : Sms} {nx : Env → Sto → Prop} {e : Env} {S : Sto} (W : Nat → Env → Sto → Prop) (h0 : ∃ m, W m e S)
    (h : ∀ B : (Env → Sto → Prop) → Env → Sto → Prop, (∀ k e' S', wSs G E rt b k e' S' → B k e' S') → ∀ m e S, W m e S → wE G E c e S fun x S1 => withB x fun k => (k = true → B (fun e' S' => ∃ m', m' < m ∧ W m' e' S') e S1) ∧ (k = false → nx e S1)) :
    wS G E rt (.while c b) nx e S := by
  rw [wS]
  exact ⟨W, h0, h _ fun _ _ _ z => z⟩
theorem ite_step {G : Cfg} {E : Nat → Sto → Prop} {rt : KV} {c : Ex} {a b : Sms} {nx : Env → Sto → Prop} {e : Env} {S : Sto}
    (h : ∀ A B : Env → Sto → Prop, (∀ e' S', wSs G E rt a nx e' S' → A e' S') → (∀ e' S', wSs G E rt b nx e' S' → B e' S') → wE G E c e S fun x S1 => withB x fun k => (k = true → A e S1) ∧ (k = false → B e S1)) : wS G E rt (.ite c a b) nx e S := by
  rw [wS]
  exact h _ _ (fun _ _ z => z) fun _ _ z => z
theorem get_up {S : Sto} {a p : Addr} {o o2 : Ob} (h : S a = some o) (n : S p = none) : up S p o2 a = some o := by
  rw [up_get fun z => by rw [z, n] at h; cases h]
  exact h
theorem ne_new {S : Sto} {a p : Addr} {o : Ob} (h : S a = some o) (n : S p = none) : a ≠ p := fun z => by
  rw [z, n] at h
  cases h
end DL

set_option autoImplicit true
set_option Elab.async false
set_option linter.all false
set_option maxRecDepth 100000
set_option maxHeartbeats 4000000
/-! Own layer, plain part 2: halls. -/
namespace DL
open PySem
def n_is_whole : List Str := ["thing"]
def b_is_whole : Sms :=
  (.cons (.ret (.and (.isi (.var 0) .int) (.not (.isi (.var 0) .bool))))
  .nil)

def n_between : List Str := ["thing", "low", "most"]
def b_between : Sms :=
  (.cons (.ret (.and (.call 0 (.cons (.var 0) .nil)) (.chain .le .le (.var 1) (.var 0) (.var 2))))
  .nil)

def n_is_state : List Str := ["thing", "base", "many", "to"]
def b_is_state : Sms :=
  (.cons (.ret (.and (.isi (.var 0) .tuple) (.and (.cmp .eq (.blt .len (.cons (.var 0) .nil)) (.var 1)) (.bltc .all (.mk (.one 3) [3] (.call 1 (.cons (.var 3) (.cons (.int 0) (.cons (.bin .sub (.var 2) (.int 1)) .nil)))) (.val (.var 0)) .none)))))
  .nil)

def n_is_row : List Str := ["thing", "base", "many", "state", "sign", "k"]
def b_is_row (st : Str) : Sms :=
  (.cons (.ite (.or (.not (.isi (.var 0) .tuple)) (.or (.cmp .ne (.blt .len (.cons (.var 0) .nil)) (.int 2)) (.not (.isi (.sub (.var 0) (.int 0)) .tuple))))
    (.cons (.ret (.bl false))
      .nil)
    .nil)
  (.cons (.asg 2 (.blt .len (.cons (.sub (.var 0) (.int 0)) .nil)))
  (.cons (.ite (.or (.not (.chain .le .le (.int 1) (.var 2) (.glob st))) (.not (.bltc .all (.mk (.one 3) [3] (.call 2 (.cons (.var 3) (.cons (.var 1) (.cons (.var 2) .nil)))) (.val (.sub (.var 0) (.int 0))) .none))))
    (.cons (.ret (.bl false))
      .nil)
    .nil)
  (.cons (.ite (.or (.not (.isi (.sub (.var 0) (.int 1)) .tuple)) (.or (.cmp .ne (.blt .len (.cons (.sub (.var 0) (.int 1)) .nil)) (.var 2)) (.not (.bltc .all (.mk (.one 4) [4] (.call 1 (.cons (.var 4) (.cons (.int 0) (.cons (.int 2) .nil)))) (.val (.sub (.var 0) (.int 1))) .none)))))
    (.cons (.ret (.bl false))
      .nil)
    .nil)
  (.cons (.ret (.bltc .all (.mk (.one 5) [5] (.cmp .eq (.sub (.sub (.var 0) (.int 1)) (.sub (.sub (.sub (.var 0) (.int 0)) (.var 5)) (.int 0))) (.sub (.sub (.var 0) (.int 1)) (.var 5))) (.rng (.cons (.var 2) .nil)) .none)))
  .nil)))))

def n_is_hall : List Str := ["thing", "row"]
def b_is_hall : Sms :=
  (.cons (.ite (.or (.not (.isi (.var 0) .tuple)) (.or (.cmp .ne (.blt .len (.cons (.var 0) .nil)) (.int 2)) (.not (.call 1 (.cons (.sub (.var 0) (.int 0)) (.cons (.int 2) (.cons (.int 3) .nil)))))))
    (.cons (.ret (.bl false))
      .nil)
    .nil)
  (.cons (.ret (.and (.isi (.sub (.var 0) (.int 1)) .tuple) (.and (.cmp .le (.blt .len (.cons (.sub (.var 0) (.int 1)) .nil)) (.int 3)) (.bltc .all (.mk (.one 1) [1] (.call 3 (.cons (.var 1) (.cons (.sub (.var 0) (.int 0)) .nil))) (.val (.sub (.var 0) (.int 1))) .none)))))
  .nil))

def n_checked : List Str := ["hall"]
def b_checked : Sms :=
  (.cons (.ite (.not (.call 4 (.cons (.var 0) .nil)))
    (.cons (.raise 1 "NoHall")
      .nil)
    .nil)
  (.cons (.ret (.var 0))
  .nil))

def n_need_row : List Str := ["hall", "row"]
def b_need_row : Sms :=
  (.cons (.expr (.call 5 (.cons (.var 0) .nil)))
  (.cons (.ite (.not (.call 1 (.cons (.var 1) (.cons (.int 0) (.cons (.bin .sub (.blt .len (.cons (.sub (.var 0) (.int 1)) .nil)) (.int 1)) .nil)))))
    (.cons (.raise 5 "NoNumber")
      .nil)
    .nil)
  .nil))

def n_figures_of : List Str := ["base", "number", "made"]
def b_figures_of : Sms :=
  (.cons (.asg 2 (.lst .nil))
  (.cons (.while (.cmp .gt (.var 1) (.int 0))
    (.cons (.expr (.meth (.var 2) .append (.cons (.bin .mod (.var 1) (.var 0)) .nil)))
      (.cons (.asg 1 (.bin .fdiv (.var 1) (.var 0)))
      .nil)))
  (.cons (.ret (.var 2))
  .nil)))

def n_sign_of : List Str := ["base", "row", "place", "state", "figure"]
def b_sign_of : Sms :=
  (.cons (.asg 3 (.int 0))
  (.cons (.for (.one 4) (.val (.call 7 (.cons (.var 0) (.cons (.var 2) .nil))))
    (.cons (.asg 3 (.sub (.sub (.sub (.var 1) (.int 0)) (.var 3)) (.var 4)))
      .nil))
  (.cons (.ret (.sub (.sub (.var 1) (.int 1)) (.var 3)))
  .nil)))

def n_sign_at : List Str := ["hall", "row", "place"]
def b_sign_at : Sms :=
  (.cons (.expr (.call 6 (.cons (.var 0) (.cons (.var 1) .nil))))
  (.cons (.ite (.or (.not (.call 0 (.cons (.var 2) .nil))) (.cmp .lt (.var 2) (.int 0)))
    (.cons (.raise 5 "NoNumber")
      .nil)
    .nil)
  (.cons (.ret (.call 8 (.cons (.sub (.var 0) (.int 0)) (.cons (.sub (.sub (.var 0) (.int 1)) (.var 1)) (.cons (.var 2) .nil)))))
  .nil)))

mutual
/-- lists within stand in the store -/
def kn (S : Sto) : Val → Bool
  | .ref a => match S a with
    | some (.lst _) => true
    | _ => false
  | .tup xs => kns S xs
  | .lst _ => false
  | .non => true
  | .bl _ => true
  | .int _ => true
  | .str _ => true
def kns (S : Sto) : List Val → Bool
  | [] => true
  | x :: xs => kn S x && kns S xs
end
theorem kn_tyKnown {S : Sto} {v : Val} (h : kn S v = true) : tyKnown v S = true := by
  cases v <;> first | rfl | (simp only [kn] at h; cases h) | skip
  rename_i a
  simp only [kn] at h
  simp only [tyKnown]
  exact h
def isWhole : Val → Bool
  | .int _ => true
  | _ => false
def betw (v : Val) (lo hi : Int) : Bool := match v with
  | .int i => decide (lo ≤ i) && decide (i ≤ hi)
  | _ => false
def isState (v : Val) (base many : Int) : Bool := match v with
  | .tup xs => decide ((xs.length : Int) = base) && xs.all (betw · 0 (many - 1))
  | _ => false
def stOf (b : Val) : List Val := match b with
  | .tup xs => xs
  | _ => []
/-- the sign at a state -/
def atV (xs : List Val) (i : Val) : Option Val := match i with
  | .int k => L2.atI xs k
  | _ => none
def signAt (st sg : List Val) (k : Nat) : Bool := match st[k]?, sg[k]? with
  | some (.tup (.int t :: _)), some y => (match sg[t.toNat]? with
    | some z => z.veq y
    | none => false)
  | _, _ => false
def signsOk (st sg : List Val) (many : Nat) : Bool := (List.range many).all fun k => signAt st sg k
def isRow (v : Val) (base : Int) : Bool := match v with
  | .tup [x, y] => (match x with
    | .tup st => decide (1 ≤ st.length ∧ st.length ≤ 8) && st.all (isState · base st.length) && (match y with
      | .tup sg => decide (sg.length = st.length) && sg.all (betw · 0 2) && signsOk st sg st.length
      | _ => false)
    | _ => false)
  | _ => false
def isHall (v : Val) : Bool := match v with
  | .tup [b, y] => betw b 2 3 && (match y with
    | .tup rows => decide (rows.length ≤ 3) && rows.all fun r => match b with
      | .int i => isRow r i
      | _ => false
    | _ => false)
  | _ => false
def rowsN (v : Val) : Nat := match v with
  | .tup [_, .tup rows] => rows.length
  | _ => 0
def sp_is_whole : Spec := fun vs S Q _ => match vs with
  | [v] => tyKnown v S = true ∧ Q (.bl (isWhole v)) S
  | _ => False
def sp_between : Spec := fun vs S Q _ => match vs with
  | [v, .int lo, .int hi] => tyKnown v S = true ∧ Q (.bl (betw v lo hi)) S
  | _ => False
def sp_is_state : Spec := fun vs S Q _ => match vs with
  | [v, .int base, .int many] => kn S v = true ∧ Q (.bl (isState v base many)) S
  | _ => False
def sp_is_row : Spec := fun vs S Q _ => match vs with
  | [v, .int base] => kn S v = true ∧ (2 ≤ base ∧ base ≤ 3) ∧ Q (.bl (isRow v base)) S
  | _ => False
def sp_is_hall : Spec := fun vs S Q _ => match vs with
  | [v] => kn S v = true ∧ Q (.bl (isHall v)) S
  | _ => False
def sp_checked : Spec := fun vs S Q E => match vs with
  | [v] => kn S v = true ∧ (isHall v = true → Q v S) ∧ (isHall v = false → E 1 S)
  | _ => False
def sp_need_row : Spec := fun vs S Q E => match vs with
  | [v, r] => kn S v = true ∧ kn S r = true ∧ (isHall v = true → (betw r 0 (rowsN v - 1) = true → Q .non S) ∧ (betw r 0 (rowsN v - 1) = false → E 5 S)) ∧ (isHall v = false → E 1 S)
  | _ => False
structure HallG (G : Cfg) (st : Str) : Prop where
  f0 : G.fn 0 = some sp_is_whole
  f1 : G.fn 1 = some sp_between
  f2 : G.fn 2 = some sp_is_state
  f3 : G.fn 3 = some sp_is_row
  f4 : G.fn 4 = some sp_is_hall
  f5 : G.fn 5 = some sp_checked
  f6 : G.fn 6 = some sp_need_row
  cs : G.cv st = some (.int 8)
theorem rt_here {Q : KV} {v : Val} {S : Sto} (h : Q v S) : rtOf Q v S := ⟨S, .refl S, h⟩
theorem ex_here {E : Nat → Sto → Prop} {x : Nat} {S : Sto} (h : E x S) : exOf E x S := ⟨S, .refl S, h⟩
abbrev Wk (G : Cfg) (sp : Spec) (N : List Str) (b : Sms) : Prop := ∀ args S Q E, sp args S Q E → wSs G (exOf E) (rtOf Q) b (fun _ S' => rtOf Q .non S') (startE N.length args) S
theorem w_is_whole {G : Cfg} : Wk G sp_is_whole n_is_whole b_is_whole := by
  intro args S Q E h
  unfold sp_is_whole at h
  split at h <;> first | contradiction | skip
  rename_i v
  obtain ⟨h1, h2⟩ := h
  simp only [b_is_whole, n_is_whole, wSs, wS, wE, wEs, wO, wI, wC, wIf, wBin, wSub, startE_cons, startE_nil, List.replicate, getV_0, getV_s, withO_s, withB_b, bind_one, bind_two, List.set_cons_zero, List.set_cons_succ, wipeE, Nat.zero_add, atI_0, atI_1, atI_2, atI_3, see_int, see_bl, see_str, see_non, dep_int, dep_bl, dep_str, dep_non, Nat.zero_min, Nat.min_zero, Nat.zero_le, true_imp_iff, false_imp_iff, Bool.not_false, Bool.not_true, reduceCtorEq, and_true, true_and, List.length_cons, List.length_nil]
  refine ⟨h1, fun a => ⟨h1, rt_here ?_⟩, fun a => rt_here ?_⟩
  · cases v <;> first | exact h2 | (simp [tyOf] at a; done) | (simp [tyOf, isWhole] at *; exact h2)
  · cases v <;> first | exact h2 | (simp [tyOf] at a; done) | (simp [tyOf, isWhole] at *; exact h2)
theorem w_between {G : Cfg} {st : Str} (g : HallG G st) : Wk G sp_between n_between b_between := by
  intro args S Q E h
  unfold sp_between at h
  split at h <;> first | contradiction | skip
  rename_i v lo hi
  obtain ⟨h1, h2⟩ := h
  simp only [b_between, n_between, wSs, wS, wE, wEs, wO, wI, wC, wIf, wBin, wSub, startE_cons, startE_nil, List.replicate, getV_0, getV_s, withO_s, withB_b, bind_one, bind_two, List.set_cons_zero, List.set_cons_succ, wipeE, Nat.zero_add, atI_0, atI_1, atI_2, atI_3, see_int, see_bl, see_str, see_non, dep_int, dep_bl, dep_str, dep_non, Nat.zero_min, Nat.min_zero, Nat.zero_le, true_imp_iff, false_imp_iff, Bool.not_false, Bool.not_true, reduceCtorEq, and_true, true_and, List.length_cons, List.length_nil, g.f0, sp_is_whole]
  refine ⟨h1, fun a => ?_, fun a => rt_here ?_⟩
  · cases v <;> simp [isWhole] at a
    simp only [wCmp, withB_b]
    refine ⟨fun b => rt_here ?_, fun b => rt_here ?_⟩
    · simpa [betw, b] using h2
    · simpa [betw, b] using h2
  · cases v <;> simp_all [isWhole, betw]
theorem kns_mem {S : Sto} : ∀ {xs : List Val} {x : Val}, kns S xs = true → x ∈ xs → kn S x = true
  | y :: ys, x, h, m => by
    simp only [kns, Bool.and_eq_true] at h
    rcases List.mem_cons.mp m with e | e
    · rw [e]; exact h.1
    · exact kns_mem h.2 e
theorem w_is_state {G : Cfg} {st : Str} (g : HallG G st) : Wk G sp_is_state n_is_state b_is_state := by
  intro args S Q E h
  unfold sp_is_state at h
  split at h <;> first | contradiction | skip
  rename_i v base many
  obtain ⟨h1, h2⟩ := h
  simp only [b_is_state, n_is_state, wSs, wS, wE, wEs, wO, wI, wC, wIf, wBin, wSub, startE_cons, startE_nil, List.replicate, getV_0, getV_s, withO_s, withB_b, bind_one, bind_two, List.set_cons_zero, List.set_cons_succ, wipeE, Nat.zero_add, atI_0, atI_1, atI_2, atI_3, see_int, see_bl, see_str, see_non, dep_int, dep_bl, dep_str, dep_non, Nat.zero_min, Nat.min_zero, Nat.zero_le, true_imp_iff, false_imp_iff, Bool.not_false, Bool.not_true, reduceCtorEq, and_true, true_and, List.length_cons, List.length_nil, g.f1, sp_between]
  refine ⟨kn_tyKnown h1, fun a => ?_, fun a => rt_here ?_⟩
  · cases v <;> simp [tyOf] at a
    rename_i xs
    simp only [wBt, wCmp, wSs, wS, wE, wEs, wO, wI, wC, wIf, wBin, wSub, startE_cons, startE_nil, List.replicate, getV_0, getV_s, withO_s, withB_b, bind_one, bind_two, List.set_cons_zero, List.set_cons_succ, wipeE, Nat.zero_add, atI_0, atI_1, atI_2, atI_3, see_int, see_bl, see_str, see_non, dep_int, dep_bl, dep_str, dep_non, Nat.zero_min, Nat.min_zero, Nat.zero_le, true_imp_iff, false_imp_iff, Bool.not_false, Bool.not_true, reduceCtorEq, and_true, true_and, List.length_cons, List.length_nil]
    refine ⟨fun b => ?_, fun b => rt_here ?_⟩
    · simp only [iterOf, withO_s]
      refine turns_map (fun x => .bl (betw x 0 (many - 1))) trivial (fun x hx k hk => ?_) ?_
      · exact ⟨kn_tyKnown (kns_mem h1 hx), hk⟩
      · simp only [List.nil_append, wBtL, bls_map, withO_s]
        refine rt_here ?_
        have e : decide ((xs.length : Int) = base) = true := by
          simpa [Val.veq, Val.py, PyData.eqv] using b
        simpa [isState, e, List.all_map] using h2
    · have e : decide ((xs.length : Int) = base) = false := by
        simpa [Val.veq, Val.py, PyData.eqv] using b
      simpa [isState, e] using h2
  · cases v <;> simp_all [isState, tyOf]

theorem len_ne (n m : Nat) : (Val.int (n : Int)).veq (.int (m : Int)) = decide (n = m) := by
  simp only [Val.veq, Val.py, eqv_int]
  exact decide_eq_decide.mpr (by omega)
theorem int_eq (i j : Int) : (Val.int i).veq (.int j) = decide (i = j) := by
  simp only [Val.veq, Val.py, eqv_int]
theorem betw_int {v : Val} {lo hi : Int} (h : betw v lo hi = true) : ∃ i, v = .int i := by
  cases v <;> simp [betw] at h
  exact ⟨_, rfl⟩
theorem betw_le {i : Int} {lo hi : Int} (h : betw (.int i) lo hi = true) : lo ≤ i ∧ i ≤ hi := by
  simpa [betw] using h
theorem state_head {v : Val} {base many : Int} (hb : 2 ≤ base ∧ base ≤ 3) (h : isState v base many = true) : ∃ t ts, v = .tup (.int t :: ts) ∧ 0 ≤ t ∧ t < many := by
  cases v <;> simp only [isState] at h <;> first | (cases h; done) | skip
  rename_i xs
  rw [Bool.and_eq_true] at h
  obtain ⟨h1, h2⟩ := h
  cases xs with
  | nil =>
    have := of_decide_eq_true h1
    simp at this
    omega
  | cons x xs =>
    simp only [List.all_cons, Bool.and_eq_true] at h2
    obtain ⟨i, rfl⟩ := betw_int h2.1
    obtain ⟨h3, h4⟩ := betw_le h2.1
    exact ⟨i, xs, rfl, h3, by omega⟩
theorem w_is_row {G : Cfg} {st : Str} (g : HallG G st) : Wk G sp_is_row n_is_row (b_is_row st) := by
  intro args S Q E h
  unfold sp_is_row at h
  split at h <;> first | contradiction | skip
  rename_i v base
  obtain ⟨h1, hb, h2⟩ := h
  have no : ∀ {v : Val}, isRow v base = false → Q (.bl (isRow v base)) S → rtOf Q (.bl false) S := fun e q => rt_here (by rw [e] at q; exact q)
  unfold b_is_row
  refine step fun K hK => ?_
  simp only [n_is_row, wSs, wS, wE, wEs, wO, wI, wC, wIf, wBin, wSub, startE_cons, startE_nil, List.replicate, getV_0, getV_s, withO_s, withB_b, bind_one, bind_two, List.set_cons_zero, List.set_cons_succ, wipeE, Nat.zero_add, atI_0, atI_1, atI_2, atI_3, see_int, see_bl, see_str, see_non, dep_int, dep_bl, dep_str, dep_non, Nat.zero_min, Nat.min_zero, Nat.zero_le, true_imp_iff, false_imp_iff, Bool.not_false, Bool.not_true, reduceCtorEq, and_true, true_and, List.length_cons, List.length_nil]
  refine ⟨kn_tyKnown h1, fun a => ?_, fun a => ?_⟩
  · exact no (by cases v <;> first | rfl | (simp [tyOf] at a)) h2
  · cases v <;> simp [tyOf] at a
    rename_i xs
    simp only [wBt, wCmp, wSs, wS, wE, wEs, wO, wI, wC, wIf, wBin, wSub, startE_cons, startE_nil, List.replicate, getV_0, getV_s, withO_s, withB_b, bind_one, bind_two, List.set_cons_zero, List.set_cons_succ, wipeE, Nat.zero_add, atI_0, atI_1, atI_2, atI_3, see_int, see_bl, see_str, see_non, dep_int, dep_bl, dep_str, dep_non, Nat.zero_min, Nat.min_zero, Nat.zero_le, true_imp_iff, false_imp_iff, Bool.not_false, Bool.not_true, reduceCtorEq, and_true, true_and, List.length_cons, List.length_nil]
    refine ⟨fun b => ?_, fun b => ?_⟩
    · refine no ?_ h2
      match xs, b with
      | [], _ => rfl
      | [_], _ => rfl
      | [_, _], b => simp [int_eq] at b
      | _ :: _ :: _ :: _, _ => rfl
    · match xs, b with
      | [], b => simp [int_eq] at b
      | [_], b => simp [int_eq] at b
      | _ :: _ :: _ :: _, b => simp [int_eq] at b; omega
      | [x, y], _ =>
        have kx : kn S x = true := kns_mem h1 (by simp)
        have ky : kn S y = true := kns_mem h1 (by simp)
        refine ⟨kn_tyKnown kx, fun a2 => ?_, fun a2 => ?_⟩
        · refine no ?_ h2
          cases x <;> first | rfl | (simp [tyOf] at a2)
        · obtain ⟨sts, rfl⟩ := tup_of a2
          refine hK _ _ (step fun K2 hK2 => ?_)
          simp only [wSs, wS, wE, wEs, wO, wI, wC, wIf, wBin, wSub, startE_cons, startE_nil, List.replicate, getV_0, getV_s, withO_s, withB_b, bind_one, bind_two, List.set_cons_zero, List.set_cons_succ, wipeE, Nat.zero_add, atI_0, atI_1, atI_2, atI_3, see_int, see_bl, see_str, see_non, dep_int, dep_bl, dep_str, dep_non, Nat.zero_min, Nat.min_zero, Nat.zero_le, true_imp_iff, false_imp_iff, Bool.not_false, Bool.not_true, reduceCtorEq, and_true, true_and, List.length_cons, List.length_nil, wBt, b_is_row] 
          refine hK2 _ _ (step fun K3 hK3 => ?_)
          have fin : (decide (1 ≤ sts.length ∧ sts.length ≤ 8) && sts.all (isState · base sts.length)) = false → rtOf Q (.bl false) S := fun e => no (by simp only [isRow, e, Bool.false_and]) h2
          simp only [wSs, wS, wE, wEs, wO, wI, wC, wIf, wBin, wSub, startE_cons, startE_nil, List.replicate, getV_0, getV_s, withO_s, withB_b, bind_one, bind_two, List.set_cons_zero, List.set_cons_succ, wipeE, Nat.zero_add, atI_0, atI_1, atI_2, atI_3, see_int, see_bl, see_str, see_non, dep_int, dep_bl, dep_str, dep_non, Nat.zero_min, Nat.min_zero, Nat.zero_le, true_imp_iff, false_imp_iff, Bool.not_false, Bool.not_true, reduceCtorEq, and_true, true_and, List.length_cons, List.length_nil, wCmp, g.cs, g.f2, sp_is_state, iterOf]
          refine ⟨fun a3 => ⟨fun a4 => ?_, fun a4 => ?_⟩, fun a3 => ?_⟩
          · refine fin ?_
            simp only [Bool.not_eq_true', decide_eq_false_iff_not] at a4
            rw [Bool.and_eq_false_iff]
            left
            simp
            omega
          · simp only [decide_eq_true_eq, Bool.not_eq_false', decide_eq_true_eq] at a3 a4
            refine turns_all (fun x => isState x base sts.length) trivial (fun z hz k hk => ⟨kns_mem kx hz, hk⟩) ?_
            simp only [wSs, wS, wE, wEs, wO, wI, wC, wIf, wBin, wSub, startE_cons, startE_nil, List.replicate, getV_0, getV_s, withO_s, withB_b, bind_one, bind_two, List.set_cons_zero, List.set_cons_succ, wipeE, Nat.zero_add, atI_0, atI_1, atI_2, atI_3, see_int, see_bl, see_str, see_non, dep_int, dep_bl, dep_str, dep_non, Nat.zero_min, Nat.min_zero, Nat.zero_le, true_imp_iff, false_imp_iff, Bool.not_false, Bool.not_true, reduceCtorEq, and_true, true_and, List.length_cons, List.length_nil]
            refine ⟨fun a5 => fin ?_, fun a5 => ?_⟩
            · rw [Bool.and_eq_false_iff]
              right
              simpa using a5
            · have hst : (decide (1 ≤ sts.length ∧ sts.length ≤ 8) && sts.all (isState · base sts.length)) = true := by
                rw [Bool.and_eq_true]
                exact ⟨by simp; omega, by simpa using a5⟩
              refine hK3 _ _ (step fun K4 hK4 => ?_)
              simp only [wSs, wS, wE, wEs, wO, wI, wC, wIf, wBin, wSub, startE_cons, startE_nil, List.replicate, getV_0, getV_s, withO_s, withB_b, bind_one, bind_two, List.set_cons_zero, List.set_cons_succ, wipeE, Nat.zero_add, atI_0, atI_1, atI_2, atI_3, see_int, see_bl, see_str, see_non, dep_int, dep_bl, dep_str, dep_non, Nat.zero_min, Nat.min_zero, Nat.zero_le, true_imp_iff, false_imp_iff, Bool.not_false, Bool.not_true, reduceCtorEq, and_true, true_and, List.length_cons, List.length_nil]
              refine ⟨kn_tyKnown ky, fun a6 => ?_, fun a6 => ?_⟩
              · refine no ?_ h2
                cases y <;> first | (simp [isRow]; done) | (simp [tyOf] at a6)
              · obtain ⟨sgs, rfl⟩ := tup_of a6
                simp only [wBt, wCmp, wSs, wS, wE, wEs, wO, wI, wC, wIf, wBin, wSub, startE_cons, startE_nil, List.replicate, getV_0, getV_s, withO_s, withB_b, bind_one, bind_two, List.set_cons_zero, List.set_cons_succ, wipeE, Nat.zero_add, atI_0, atI_1, atI_2, atI_3, see_int, see_bl, see_str, see_non, dep_int, dep_bl, dep_str, dep_non, Nat.zero_min, Nat.min_zero, Nat.zero_le, true_imp_iff, false_imp_iff, Bool.not_false, Bool.not_true, reduceCtorEq, and_true, true_and, List.length_cons, List.length_nil, g.f1, sp_between, iterOf]
                refine ⟨fun b2 => ?_, fun b2 => ?_⟩
                · refine no ?_ h2
                  have : sgs.length ≠ sts.length := by simpa [len_ne] using b2
                  simp [isRow, this]
                · have hl : sgs.length = sts.length := by simpa [len_ne] using b2
                  refine turns_all (fun x => betw x 0 2) trivial (fun z hz k hk => ⟨kn_tyKnown (kns_mem ky hz), hk⟩) ?_
                  simp only [wSs, wS, wE, wEs, wO, wI, wC, wIf, wBin, wSub, startE_cons, startE_nil, List.replicate, getV_0, getV_s, withO_s, withB_b, bind_one, bind_two, List.set_cons_zero, List.set_cons_succ, wipeE, Nat.zero_add, atI_0, atI_1, atI_2, atI_3, see_int, see_bl, see_str, see_non, dep_int, dep_bl, dep_str, dep_non, Nat.zero_min, Nat.min_zero, Nat.zero_le, true_imp_iff, false_imp_iff, Bool.not_false, Bool.not_true, reduceCtorEq, and_true, true_and, List.length_cons, List.length_nil]
                  refine ⟨fun a7 => no ?_ h2, fun a7 => hK4 _ _ ?_⟩
                  · have : (sgs.all fun x => betw x 0 2) = false := by simpa using a7
                    simp [isRow, this]
                  · have hsg : (sgs.all fun x => betw x 0 2) = true := by simpa using a7
                    simp only [wSs, wS, wE, wEs, wO, wI, wC, wIf, wBin, wSub, startE_cons, startE_nil, List.replicate, getV_0, getV_s, withO_s, withB_b, bind_one, bind_two, List.set_cons_zero, List.set_cons_succ, wipeE, Nat.zero_add, atI_0, atI_1, atI_2, atI_3, see_int, see_bl, see_str, see_non, dep_int, dep_bl, dep_str, dep_non, Nat.zero_min, Nat.min_zero, Nat.zero_le, true_imp_iff, false_imp_iff, Bool.not_false, Bool.not_true, reduceCtorEq, and_true, true_and, List.length_cons, List.length_nil, wRng]
                    have h8 : sts.length ≤ 8 := by omega
                    refine ⟨by omega, by omega, ?_⟩
                    refine turns_all (fun x => match x with
                      | .int k => signAt sts sgs k.toNat
                      | _ => false) trivial (fun z hz k hk => ?_) ?_
                    · obtain ⟨j, hj, rfl⟩ := range0_mem hz
                      have hj : j < sts.length := by simpa using hj
                      obtain ⟨t, ts, e1, t1, t2⟩ := state_head hb (List.all_eq_true.mp (show (sts.all fun x => isState x base sts.length) = true by simpa using a5) _ (List.getElem_mem hj))
                      have e2 : sts[j]? = some (.tup (.int t :: ts)) := by rw [List.getElem?_eq_getElem hj, e1]
                      obtain ⟨t', rfl⟩ := Int.eq_ofNat_of_zero_le t1
                      have ht' : t' < sgs.length := by omega
                      have e3 : sgs[t']? = some sgs[t'] := List.getElem?_eq_getElem ht'
                      have e4 : sgs[j]? = some sgs[j] := List.getElem?_eq_getElem (by omega)
                      obtain ⟨p, ep⟩ := betw_int (List.all_eq_true.mp hsg _ (List.getElem_mem ht'))
                      obtain ⟨q, eq⟩ := betw_int (List.all_eq_true.mp hsg _ (List.getElem_mem (show j < sgs.length by omega)))
                      simp only [wCmp, atI_nat, e2, e3, e4, ep, eq, wSs, wS, wE, wEs, wO, wI, wC, wIf, wBin, wSub, startE_cons, startE_nil, List.replicate, getV_0, getV_s, withO_s, withB_b, bind_one, bind_two, List.set_cons_zero, List.set_cons_succ, wipeE, Nat.zero_add, atI_0, atI_1, atI_2, atI_3, see_int, see_bl, see_str, see_non, dep_int, dep_bl, dep_str, dep_non, Nat.zero_min, Nat.min_zero, Nat.zero_le, true_imp_iff, false_imp_iff, Bool.not_false, Bool.not_true, reduceCtorEq, and_true, true_and, List.length_cons, List.length_nil]
                      simpa [signAt, e2, e3, e4, ep, eq] using hk
                    · refine rt_here ?_
                      rw [range0_all]
                      have e : isRow (.tup [.tup sts, .tup sgs]) base = ((List.range sts.length).all fun k => signAt sts sgs k) := by
                        simp only [isRow, hst, hl, hsg, signsOk, Bool.true_and, decide_true]
                      rw [e] at h2
                      simpa using h2
          · refine fin ?_
            rw [Bool.and_eq_false_iff]
            left
            simp at a3 ⊢
            omega
theorem w_is_hall {G : Cfg} {st : Str} (g : HallG G st) : Wk G sp_is_hall n_is_hall b_is_hall := by
  intro args S Q E h
  unfold sp_is_hall at h
  split at h <;> first | contradiction | skip
  rename_i v
  obtain ⟨h1, h2⟩ := h
  have no : ∀ {v : Val}, isHall v = false → Q (.bl (isHall v)) S → rtOf Q (.bl false) S := fun e q => rt_here (by rw [e] at q; exact q)
  unfold b_is_hall
  refine step fun K hK => ?_
  simp only [n_is_hall, wSs, wS, wE, wEs, wO, wI, wC, wIf, wBin, wSub, startE_cons, startE_nil, List.replicate, getV_0, getV_s, withO_s, withB_b, bind_one, bind_two, List.set_cons_zero, List.set_cons_succ, wipeE, Nat.zero_add, atI_0, atI_1, atI_2, atI_3, see_int, see_bl, see_str, see_non, dep_int, dep_bl, dep_str, dep_non, Nat.zero_min, Nat.min_zero, Nat.zero_le, true_imp_iff, false_imp_iff, Bool.not_false, Bool.not_true, reduceCtorEq, and_true, true_and, List.length_cons, List.length_nil]
  refine ⟨kn_tyKnown h1, fun a => ?_, fun a => ?_⟩
  · exact no (by cases v <;> first | rfl | (simp [tyOf] at a)) h2
  · obtain ⟨xs, rfl⟩ := tup_of a
    simp only [wBt, wCmp, wSs, wS, wE, wEs, wO, wI, wC, wIf, wBin, wSub, startE_cons, startE_nil, List.replicate, getV_0, getV_s, withO_s, withB_b, bind_one, bind_two, List.set_cons_zero, List.set_cons_succ, wipeE, Nat.zero_add, atI_0, atI_1, atI_2, atI_3, see_int, see_bl, see_str, see_non, dep_int, dep_bl, dep_str, dep_non, Nat.zero_min, Nat.min_zero, Nat.zero_le, true_imp_iff, false_imp_iff, Bool.not_false, Bool.not_true, reduceCtorEq, and_true, true_and, List.length_cons, List.length_nil, g.f1, sp_between]
    refine ⟨fun b => ?_, fun b => ?_⟩
    · refine no ?_ h2
      match xs, b with
      | [], _ => rfl
      | [_], _ => rfl
      | [_, _], b => simp [int_eq] at b
      | _ :: _ :: _ :: _, _ => rfl
    · match xs, b with
      | [], b => simp [int_eq] at b
      | [_], b => simp [int_eq] at b
      | _ :: _ :: _ :: _, b => simp [int_eq] at b; omega
      | [x, y], _ =>
        have kx : kn S x = true := kns_mem h1 (by simp)
        have ky : kn S y = true := kns_mem h1 (by simp)
        simp only [wSs, wS, wE, wEs, wO, wI, wC, wIf, wBin, wSub, startE_cons, startE_nil, List.replicate, getV_0, getV_s, withO_s, withB_b, bind_one, bind_two, List.set_cons_zero, List.set_cons_succ, wipeE, Nat.zero_add, atI_0, atI_1, atI_2, atI_3, see_int, see_bl, see_str, see_non, dep_int, dep_bl, dep_str, dep_non, Nat.zero_min, Nat.min_zero, Nat.zero_le, true_imp_iff, false_imp_iff, Bool.not_false, Bool.not_true, reduceCtorEq, and_true, true_and, List.length_cons, List.length_nil]
        refine ⟨kn_tyKnown kx, fun a2 => ?_, fun a2 => ?_⟩
        · refine no ?_ h2
          have : betw x 2 3 = false := by simpa using a2
          simp [isHall, this]
        · have hx : betw x 2 3 = true := by simpa using a2
          obtain ⟨i, rfl⟩ := betw_int hx
          have hi := betw_le hx
          refine hK _ _ ?_
          simp only [wSs, wS, wE, wEs, wO, wI, wC, wIf, wBin, wSub, startE_cons, startE_nil, List.replicate, getV_0, getV_s, withO_s, withB_b, bind_one, bind_two, List.set_cons_zero, List.set_cons_succ, wipeE, Nat.zero_add, atI_0, atI_1, atI_2, atI_3, see_int, see_bl, see_str, see_non, dep_int, dep_bl, dep_str, dep_non, Nat.zero_min, Nat.min_zero, Nat.zero_le, true_imp_iff, false_imp_iff, Bool.not_false, Bool.not_true, reduceCtorEq, and_true, true_and, List.length_cons, List.length_nil]
          refine ⟨kn_tyKnown ky, fun a3 => ?_, fun a3 => ?_⟩
          · obtain ⟨rows, rfl⟩ := tup_of' a3
            simp only [wBt, wCmp, wSs, wS, wE, wEs, wO, wI, wC, wIf, wBin, wSub, startE_cons, startE_nil, List.replicate, getV_0, getV_s, withO_s, withB_b, bind_one, bind_two, List.set_cons_zero, List.set_cons_succ, wipeE, Nat.zero_add, atI_0, atI_1, atI_2, atI_3, see_int, see_bl, see_str, see_non, dep_int, dep_bl, dep_str, dep_non, Nat.zero_min, Nat.min_zero, Nat.zero_le, true_imp_iff, false_imp_iff, Bool.not_false, Bool.not_true, reduceCtorEq, and_true, true_and, List.length_cons, List.length_nil, iterOf, g.f3, sp_is_row]
            refine ⟨fun a4 => ?_, fun a4 => ?_⟩
            · refine turns_all (fun r => isRow r i) trivial (fun z hz k hk => ⟨kns_mem ky hz, hi, hk⟩) (rt_here ?_)
              have : isHall (.tup [.int i, .tup rows]) = rows.all fun r => isRow r i := by
                have h3 : rows.length ≤ 3 := by
                  have := of_decide_eq_true a4
                  omega
                simp [isHall, hx, h3]
              rw [this] at h2
              exact h2
            · refine no ?_ h2
              have h3 : ¬ rows.length ≤ 3 := by
                have := of_decide_eq_false a4
                omega
              simp [isHall, h3]
          · refine no ?_ h2
            cases y <;> first | (simp [isHall]; done) | (simp [tyOf] at a3)
theorem w_checked {G : Cfg} {st : Str} (g : HallG G st) : Wk G sp_checked n_checked b_checked := by
  intro args S Q E h
  unfold sp_checked at h
  split at h <;> first | contradiction | skip
  rename_i v
  obtain ⟨h1, h2, h3⟩ := h
  unfold b_checked
  refine step fun K hK => ?_
  simp only [n_checked, wSs, wS, wE, wEs, wO, wI, wC, wIf, wBin, wSub, startE_cons, startE_nil, List.replicate, getV_0, getV_s, withO_s, withB_b, bind_one, bind_two, List.set_cons_zero, List.set_cons_succ, wipeE, Nat.zero_add, atI_0, atI_1, atI_2, atI_3, see_int, see_bl, see_str, see_non, dep_int, dep_bl, dep_str, dep_non, Nat.zero_min, Nat.min_zero, Nat.zero_le, true_imp_iff, false_imp_iff, Bool.not_false, Bool.not_true, reduceCtorEq, and_true, true_and, List.length_cons, List.length_nil, g.f4, sp_is_hall]
  refine ⟨h1, fun a => ex_here (h3 (by simpa using a)), fun a => hK _ _ ?_⟩
  simp only [wSs, wS, wE, wEs, wO, wI, wC, wIf, wBin, wSub, startE_cons, startE_nil, List.replicate, getV_0, getV_s, withO_s, withB_b, bind_one, bind_two, List.set_cons_zero, List.set_cons_succ, wipeE, Nat.zero_add, atI_0, atI_1, atI_2, atI_3, see_int, see_bl, see_str, see_non, dep_int, dep_bl, dep_str, dep_non, Nat.zero_min, Nat.min_zero, Nat.zero_le, true_imp_iff, false_imp_iff, Bool.not_false, Bool.not_true, reduceCtorEq, and_true, true_and, List.length_cons, List.length_nil]
  exact rt_here (h2 (by simpa using a))
theorem w_need_row {G : Cfg} {st : Str} (g : HallG G st) : Wk G sp_need_row n_need_row b_need_row := by
  intro args S Q E h
  unfold sp_need_row at h
  split at h <;> first | contradiction | skip
  rename_i v r
  obtain ⟨h1, h2, h3, h4⟩ := h
  unfold b_need_row
  refine step fun K hK => ?_
  simp only [n_need_row, wSs, wS, wE, wEs, wO, wI, wC, wIf, wBin, wSub, startE_cons, startE_nil, List.replicate, getV_0, getV_s, withO_s, withB_b, bind_one, bind_two, List.set_cons_zero, List.set_cons_succ, wipeE, Nat.zero_add, atI_0, atI_1, atI_2, atI_3, see_int, see_bl, see_str, see_non, dep_int, dep_bl, dep_str, dep_non, Nat.zero_min, Nat.min_zero, Nat.zero_le, true_imp_iff, false_imp_iff, Bool.not_false, Bool.not_true, reduceCtorEq, and_true, true_and, List.length_cons, List.length_nil, g.f5, sp_checked]
  refine ⟨h1, fun a => hK _ _ (step fun K2 hK2 => ?_), fun a => ex_here (h4 a)⟩
  obtain ⟨i, rows, rfl⟩ : ∃ i rows, v = .tup [i, .tup rows] := by
    cases v <;> first | (simp [isHall] at a; done) | skip
    rename_i xs
    match xs, a with
    | [x, y], a =>
      cases y <;> first | (simp [isHall] at a; done) | exact ⟨_, _, rfl⟩
  simp only [wSs, wS, wE, wEs, wO, wI, wC, wIf, wBin, wSub, startE_cons, startE_nil, List.replicate, getV_0, getV_s, withO_s, withB_b, bind_one, bind_two, List.set_cons_zero, List.set_cons_succ, wipeE, Nat.zero_add, atI_0, atI_1, atI_2, atI_3, see_int, see_bl, see_str, see_non, dep_int, dep_bl, dep_str, dep_non, Nat.zero_min, Nat.min_zero, Nat.zero_le, true_imp_iff, false_imp_iff, Bool.not_false, Bool.not_true, reduceCtorEq, and_true, true_and, List.length_cons, List.length_nil, wBt, g.f1, sp_between]
  refine ⟨kn_tyKnown h2, fun b => ex_here ((h3 a).2 (by simpa [rowsN] using b)), fun b => hK2 _ _ ?_⟩
  simp only [wSs, wS, wE, wEs, wO, wI, wC, wIf, wBin, wSub, startE_cons, startE_nil, List.replicate, getV_0, getV_s, withO_s, withB_b, bind_one, bind_two, List.set_cons_zero, List.set_cons_succ, wipeE, Nat.zero_add, atI_0, atI_1, atI_2, atI_3, see_int, see_bl, see_str, see_non, dep_int, dep_bl, dep_str, dep_non, Nat.zero_min, Nat.min_zero, Nat.zero_le, true_imp_iff, false_imp_iff, Bool.not_false, Bool.not_true, reduceCtorEq, and_true, true_and, List.length_cons, List.length_nil]
  exact rt_here ((h3 a).1 (by simpa [rowsN] using b))
end DL

set_option autoImplicit true
set_option Elab.async false
set_option linter.all false
set_option maxRecDepth 100000
set_option maxHeartbeats 4000000
/-! Own layer, plain part 3: figures and signs. -/
namespace DL
open PySem
/-- the figures, the least one first -/
def digs (b n : Nat) : List Nat := if h : 2 ≤ b ∧ 0 < n then n % b :: digs b (n / b) else []
termination_by n
decreasing_by exact Nat.div_lt_self h.2 (by omega)
theorem digs_zero (b : Nat) : digs b 0 = [] := by
  rw [digs]
  simp
theorem digs_pos {b n : Nat} (hb : 2 ≤ b) (hn : 0 < n) : digs b n = n % b :: digs b (n / b) := by
  rw [digs, dif_pos ⟨hb, hn⟩]
theorem digs_lt {b : Nat} (hb : 2 ≤ b) : ∀ (n d : Nat), d ∈ digs b n → d < b := by
  intro n
  induction n using Nat.strongRecOn with
  | _ n ih =>
    intro d h
    by_cases hn : 0 < n
    · rw [digs_pos hb hn] at h
      rcases List.mem_cons.mp h with e | e
      · rw [e]; exact Nat.mod_lt _ (by omega)
      · exact ih _ (Nat.div_lt_self hn (by omega)) d e
    · have : n = 0 := by omega
      subst this
      rw [digs_zero] at h
      simp at h
/-- a row: for each state its steps, its sign -/
structure Row where
  steps : List (List Nat)
  signs : List Nat
def natV (n : Nat) : Val := .int n
def Row.val (r : Row) : Val := .tup [.tup (r.steps.map fun s => .tup (s.map natV)), .tup (r.signs.map natV)]
structure Row.Ok (r : Row) (b : Nat) : Prop where
  pos : 1 ≤ r.steps.length
  most : r.steps.length ≤ 8
  wide : ∀ s ∈ r.steps, s.length = b
  to : ∀ s ∈ r.steps, ∀ t ∈ s, t < r.steps.length
  sg : r.signs.length = r.steps.length
  two : ∀ x ∈ r.signs, x ≤ 2
  same : ∀ k (h : k < r.steps.length), ∀ t, r.steps[k].head? = some t → r.signs[t]? = r.signs[k]?
/-- where a row's state goes -/
def Row.go (r : Row) (s d : Nat) : Nat := ((r.steps[s]?.getD [])[d]?).getD 0
def Row.run (r : Row) (s : Nat) (ds : List Nat) : Nat := ds.foldl r.go s
def Row.sign (r : Row) (b n : Nat) : Nat := (r.signs[r.run 0 (digs b n)]?).getD 0
theorem Row.Ok.go {r : Row} {b s d : Nat} (o : r.Ok b) (hs : s < r.steps.length) (hd : d < b) : ∃ st, r.steps[s]? = some st ∧ st[d]? = some (r.go s d) ∧ r.go s d < r.steps.length := by
  have e1 : r.steps[s]? = some r.steps[s] := List.getElem?_eq_getElem hs
  have hw := o.wide _ (List.getElem_mem hs)
  have e2 : r.steps[s][d]? = some (r.steps[s][d]'(by omega)) := List.getElem?_eq_getElem (by omega)
  have e3 : r.go s d = r.steps[s][d]'(by omega) := by simp [Row.go, e1, e2]
  refine ⟨_, e1, by rw [e2, e3], ?_⟩
  rw [e3]
  exact o.to _ (List.getElem_mem hs) _ (List.getElem_mem _)
theorem Row.Ok.run {r : Row} {b : Nat} (o : r.Ok b) : ∀ (ds : List Nat) (s : Nat), s < r.steps.length → (∀ d ∈ ds, d < b) → r.run s ds < r.steps.length
  | [], s, hs, _ => hs
  | d :: ds, s, hs, h => by
    obtain ⟨_, _, _, h3⟩ := o.go hs (h d (by simp))
    exact Row.Ok.run o ds _ h3 fun x hx => h x (by simp [hx])
/-- the numbers of a row of values -/
def natsV : List Val → List Nat
  | [] => []
  | .int i :: r => i.toNat :: natsV r
  | _ :: r => 0 :: natsV r
theorem natsV_eq {xs : List Val} {lo hi : Int} (h0 : 0 ≤ lo) (h : ∀ x ∈ xs, betw x lo hi = true) : xs = (natsV xs).map natV := by
  induction xs with
  | nil => rfl
  | cons x xs ih =>
    obtain ⟨i, rfl⟩ := betw_int (h x (by simp))
    have := betw_le (h (.int i) (by simp))
    simp only [natsV, List.map_cons, natV]
    rw [← ih fun y hy => h y (by simp [hy]), Int.toNat_of_nonneg (by omega)]
theorem natsV_len (xs : List Val) : (natsV xs).length = xs.length := by
  induction xs with
  | nil => rfl
  | cons x xs ih => cases x <;> simp [natsV, ih]
theorem natsV_map (ns : List Nat) : natsV (ns.map natV) = ns := by
  induction ns with
  | nil => rfl
  | cons n ns ih => simp [natsV, natV, ih]
def rowOf (v : Val) : Row := match v with
  | .tup [.tup st, .tup sg] => ⟨st.map fun s => match s with
    | .tup xs => natsV xs
    | _ => [], natsV sg⟩
  | _ => ⟨[], []⟩
theorem betw_nat {n : Nat} {lo hi : Int} : betw (natV n) lo hi = (decide (lo ≤ (n : Int)) && decide ((n : Int) ≤ hi)) := rfl
theorem row_of {v : Val} {b : Nat} (hb : 2 ≤ b) (h : isRow v b = true) : v = (rowOf v).val ∧ (rowOf v).Ok b := by
  cases v <;> simp only [isRow] at h <;> first | (cases h; done) | skip
  rename_i xs
  match xs, h with
  | [x, y], h =>
    simp only at h
    cases x <;> simp only [] at h <;> first | (cases h; done) | skip
    rename_i st
    cases y <;> simp only [Bool.and_false] at h <;> first | (cases h; done) | skip
    rename_i sg
    simp only [Bool.and_eq_true, decide_eq_true_eq, List.all_eq_true] at h
    obtain ⟨⟨h1, h2⟩, ⟨h3, h4⟩, h5⟩ := h
    have hst : ∀ s ∈ st, ∃ ns : List Nat, s = .tup (ns.map natV) ∧ ns.length = b ∧ ∀ t ∈ ns, t < st.length := by
      intro s hs
      have q := h2 s hs
      cases s <;> simp only [isState] at q <;> first | (cases q; done) | skip
      rename_i ts
      simp only [Bool.and_eq_true, decide_eq_true_eq, List.all_eq_true] at q
      have e := natsV_eq (Int.le_refl 0) q.2
      refine ⟨natsV ts, by rw [← e], by rw [natsV_len]; omega, fun t ht => ?_⟩
      have : natV t ∈ ts := by rw [e]; exact List.mem_map.mpr ⟨t, ht, rfl⟩
      have := betw_le (q.2 _ this)
      omega
    have e2 := natsV_eq (Int.le_refl 0) h4
    have e1 : st = (rowOf (.tup [.tup st, .tup sg])).steps.map fun s => .tup (s.map natV) := by
      show st = (st.map _).map _
      rw [List.map_map]
      conv => lhs; rw [← List.map_id st]
      refine List.map_congr_left fun s hs => ?_
      obtain ⟨ns, rfl, _, _⟩ := hst s hs
      show Val.tup (ns.map natV) = .tup ((natsV (ns.map natV)).map natV)
      rw [natsV_map]
    refine ⟨?_, ?_⟩
    · show Val.tup [.tup st, .tup sg] = .tup [.tup _, .tup ((natsV sg).map natV)]
      rw [← e2, ← e1]
    · have hm : ∀ s ∈ (rowOf (.tup [.tup st, .tup sg])).steps, s.length = b ∧ ∀ t ∈ s, t < st.length := by
        intro s hs
        obtain ⟨v, hv, rfl⟩ := List.mem_map.mp hs
        obtain ⟨ns, rfl, h7, h8⟩ := hst v hv
        simp only [natsV_map]
        exact ⟨h7, h8⟩
      have hl : (rowOf (.tup [.tup st, .tup sg])).steps.length = st.length := by simp [rowOf]
      refine ⟨by rw [hl]; omega, by rw [hl]; omega, fun s hs => (hm s hs).1, fun s hs t ht => by rw [hl]; exact (hm s hs).2 t ht, by rw [hl]; simp [rowOf, natsV_len]; omega, fun x hx => ?_, fun k hk t ht => ?_⟩
      · have : natV x ∈ sg := by rw [e2]; exact List.mem_map.mpr ⟨x, hx, rfl⟩
        have := betw_le (h4 _ this)
        omega
      · have hk' : k < st.length := by rw [hl] at hk; exact hk
        have q := List.all_eq_true.mp h5 k (List.mem_range.mpr hk')
        obtain ⟨ns, e3, h7, h8⟩ := hst _ (List.getElem_mem hk')
        have e4 : st[k]? = some (.tup (ns.map natV)) := by rw [List.getElem?_eq_getElem hk', e3]
        have e5 : (rowOf (.tup [.tup st, .tup sg])).steps[k] = ns := by
          simp only [rowOf, List.getElem_map, e3, natsV_map]
        rw [e5] at ht
        cases ns with
        | nil => cases ht
        | cons a as =>
          have : a = t := by simpa using ht
          subst this
          show (natsV sg)[a]? = (natsV sg)[k]?
          have ha : a < (natsV sg).length := by
            rw [natsV_len]
            have := h8 a (by simp)
            omega
          have hk2 : k < (natsV sg).length := by rw [natsV_len]; omega
          unfold signAt at q
          rw [e4] at q
          rw [e2] at q
          simp only [List.getElem?_map, List.map_cons, natV, List.getElem?_eq_getElem ha, List.getElem?_eq_getElem hk2, Option.map_some, Int.toNat_natCast] at q
          rw [List.getElem?_eq_getElem ha, List.getElem?_eq_getElem hk2]
          have := (len_ne _ _).symm.trans q
          simp at this
          rw [this]
end DL

set_option autoImplicit true
set_option Elab.async false
set_option linter.all false
set_option maxRecDepth 100000
set_option maxHeartbeats 4000000
/-! Own layer, plain part 4: figures and signs, the walks. -/
namespace DL
open PySem
def sp_figures_of : Spec := fun vs S Q _ => match vs with
  | [.int b, .int n] => (2 ≤ b ∧ b ≤ 3) ∧ ∃ m : Nat, n = (m : Int) ∧ (digs b.toNat m).length < line ∧ ∀ p, S p = none → Q (.ref p) (up S p (.lst ((digs b.toNat m).map natV)))
  | _ => False
def sp_sign_of : Spec := fun vs S Q _ => match vs with
  | [.int b, r, .int n] => (2 ≤ b ∧ b ≤ 3) ∧ isRow r b = true ∧ ∃ m : Nat, n = (m : Int) ∧ (digs b.toNat m).length < line ∧ Q (natV ((rowOf r).sign b.toNat m)) S
  | _ => False
/-- a hall's base, its rows -/
def baseOf (h : Val) : Nat := match h with
  | .tup [.int b, _] => b.toNat
  | _ => 0
def rowsOf (h : Val) : List Val := match h with
  | .tup [_, .tup rows] => rows
  | _ => []
theorem hall_of {h : Val} (q : isHall h = true) : ∃ (b : Nat) (rows : List Val), h = .tup [.int b, .tup rows] ∧ (2 ≤ b ∧ b ≤ 3) ∧ rows.length ≤ 3 ∧ ∀ r ∈ rows, isRow r b = true := by
  cases h <;> simp only [isHall] at q <;> first | (cases q; done) | skip
  rename_i xs
  match xs, q with
  | [x, y], q =>
    simp only [Bool.and_eq_true] at q
    obtain ⟨q1, q2⟩ := q
    obtain ⟨i, rfl⟩ := betw_int q1
    have := betw_le q1
    obtain ⟨b, rfl⟩ := Int.eq_ofNat_of_zero_le (show 0 ≤ i by omega)
    cases y <;> simp only [] at q2 <;> first | (cases q2; done) | skip
    rename_i rows
    simp only [Bool.and_eq_true, decide_eq_true_eq, List.all_eq_true] at q2
    exact ⟨b, rows, rfl, by omega, q2.1, q2.2⟩
def sp_sign_at : Spec := fun vs S Q E => match vs with
  | [h, r, n] => kn S h = true ∧ kn S r = true ∧ kn S n = true ∧ (isHall h = false → E 1 S) ∧ (isHall h = true → (betw r 0 (rowsN h - 1) = false → E 5 S) ∧
      (betw r 0 (rowsN h - 1) = true → (∀ m : Nat, n = .int m → (digs (baseOf h) m).length < line ∧ ∀ k : Nat, r = .int k → ∀ w, (rowsOf h)[k]? = some w → Q (natV ((rowOf w).sign (baseOf h) m)) S) ∧ ((∀ m : Nat, n ≠ .int m) → E 5 S)))
  | _ => False
structure SignG (G : Cfg) (st : Str) : Prop extends HallG G st where
  f7 : G.fn 7 = some sp_figures_of
  f8 : G.fn 8 = some sp_sign_of
  f9 : G.fn 9 = some sp_sign_at
theorem up_up (S : Sto) (p : Addr) (o o2 : Ob) : up (up S p o) p o2 = up S p o2 := by
  funext a
  unfold up
  split <;> rfl
theorem up_le {S : Sto} {p : Addr} {o : Ob} (n : S p = none) : Sto.le S (up S p o) := fun a ob h => by
  unfold up
  split
  · rename_i e
    subst e
    rw [n] at h
    cases h
  · exact h
theorem w_figures_of {G : Cfg} {st : Str} (g : SignG G st) : Wk G sp_figures_of n_figures_of b_figures_of := by
  intro args S Q E h
  unfold sp_figures_of at h
  split at h <;> first | contradiction | skip
  rename_i b n
  obtain ⟨hb, m, rfl, hl, h2⟩ := h
  obtain ⟨b, rfl⟩ := Int.eq_ofNat_of_zero_le (show 0 ≤ b by omega)
  rw [Int.toNat_natCast] at h2 hl
  unfold b_figures_of
  refine step fun K hK => ?_
  simp only [n_figures_of, wSs, wS, wE, wEs, wO, wI, wC, wIf, wBin, wSub, startE_cons, startE_nil, List.replicate, getV_0, getV_s, withO_s, withB_b, bind_one, bind_two, List.set_cons_zero, List.set_cons_succ, wipeE, Nat.zero_add, atI_0, atI_1, atI_2, atI_3, see_int, see_bl, see_str, see_non, dep_int, dep_bl, dep_str, dep_non, Nat.zero_min, Nat.min_zero, Nat.zero_le, true_imp_iff, false_imp_iff, Bool.not_false, Bool.not_true, reduceCtorEq, and_true, true_and, List.length_cons, List.length_nil]
  intro p hp
  refine hK _ _ (step fun K2 hK2 => ?_)
  simp only [wSs, wS, wE, wEs, wO, wI, wC, wIf, wBin, wSub, startE_cons, startE_nil, List.replicate, getV_0, getV_s, withO_s, withB_b, bind_one, bind_two, List.set_cons_zero, List.set_cons_succ, wipeE, Nat.zero_add, atI_0, atI_1, atI_2, atI_3, see_int, see_bl, see_str, see_non, dep_int, dep_bl, dep_str, dep_non, Nat.zero_min, Nat.min_zero, Nat.zero_le, true_imp_iff, false_imp_iff, Bool.not_false, Bool.not_true, reduceCtorEq, and_true, true_and, List.length_cons, List.length_nil, wCmp]
  refine ⟨fun k e S' => ∃ (j : Nat) (done : List Nat), k = j ∧ done ++ digs b j = digs b m ∧ e = [some (.int b), some (.int j), some (.ref p)] ∧ S' = up S p (.lst (done.map natV)), ⟨m, m, [], rfl, rfl, rfl, rfl⟩, ?_⟩
  rintro k e S' ⟨j, done, rfl, hd, rfl, rfl⟩
  simp only [wSs, wS, wE, wEs, wO, wI, wC, wIf, wBin, wSub, startE_cons, startE_nil, List.replicate, getV_0, getV_s, withO_s, withB_b, bind_one, bind_two, List.set_cons_zero, List.set_cons_succ, wipeE, Nat.zero_add, atI_0, atI_1, atI_2, atI_3, see_int, see_bl, see_str, see_non, dep_int, dep_bl, dep_str, dep_non, Nat.zero_min, Nat.min_zero, Nat.zero_le, true_imp_iff, false_imp_iff, Bool.not_false, Bool.not_true, reduceCtorEq, and_true, true_and, List.length_cons, List.length_nil, wCmp, recv, wMt, up_same]
  refine ⟨fun a => ?_, fun a => hK2 _ _ ?_⟩
  · have hj : 0 < k := by
      have := of_decide_eq_true a
      omega
    rw [digs_pos (by omega) hj] at hd
    have hlen : done.length < line := by
      have := congrArg List.length hd
      simp at this
      omega
    refine ⟨by omega, by simpa using hlen, by omega, by omega, k / b, Nat.div_lt_self hj (by omega), k / b, done ++ [k % b], rfl, by simpa using hd, ?_, ?_⟩
    · simp
    · rw [up_up]
      simp [natV]
  · have hj : k = 0 := by
      have := of_decide_eq_false a
      omega
    subst hj
    rw [digs_zero, List.append_nil] at hd
    subst hd
    simp only [wSs, wS, wE, wEs, wO, wI, wC, wIf, wBin, wSub, startE_cons, startE_nil, List.replicate, getV_0, getV_s, withO_s, withB_b, bind_one, bind_two, List.set_cons_zero, List.set_cons_succ, wipeE, Nat.zero_add, atI_0, atI_1, atI_2, atI_3, see_int, see_bl, see_str, see_non, dep_int, dep_bl, dep_str, dep_non, Nat.zero_min, Nat.min_zero, Nat.zero_le, true_imp_iff, false_imp_iff, Bool.not_false, Bool.not_true, reduceCtorEq, and_true, true_and, List.length_cons, List.length_nil]
    exact rt_here (h2 p hp)
theorem w_sign_of {G : Cfg} {st : Str} (g : SignG G st) : Wk G sp_sign_of n_sign_of b_sign_of := by
  intro args S Q E h
  unfold sp_sign_of at h
  split at h <;> first | contradiction | skip
  rename_i b r n
  obtain ⟨hb, hr, m, rfl, hl, h2⟩ := h
  obtain ⟨b, rfl⟩ := Int.eq_ofNat_of_zero_le (show 0 ≤ b by omega)
  rw [Int.toNat_natCast] at h2 hl
  obtain ⟨er, ok⟩ := row_of (by omega) hr
  generalize rowOf r = R at er ok h2
  subst er
  have hdl := digs_lt (b := b) (by omega) m
  unfold b_sign_of
  refine step fun K hK => ?_
  simp only [n_sign_of, wSs, wS, wE, wEs, wO, wI, wC, wIf, wBin, wSub, startE_cons, startE_nil, List.replicate, getV_0, getV_s, withO_s, withB_b, bind_one, bind_two, List.set_cons_zero, List.set_cons_succ, wipeE, Nat.zero_add, atI_0, atI_1, atI_2, atI_3, see_int, see_bl, see_str, see_non, dep_int, dep_bl, dep_str, dep_non, Nat.zero_min, Nat.min_zero, Nat.zero_le, true_imp_iff, false_imp_iff, Bool.not_false, Bool.not_true, reduceCtorEq, and_true, true_and, List.length_cons, List.length_nil]
  refine hK _ _ (step fun K2 hK2 => ?_)
  simp only [wSs, wS, wE, wEs, wO, wI, wC, wIf, wBin, wSub, startE_cons, startE_nil, List.replicate, getV_0, getV_s, withO_s, withB_b, bind_one, bind_two, List.set_cons_zero, List.set_cons_succ, wipeE, Nat.zero_add, atI_0, atI_1, atI_2, atI_3, see_int, see_bl, see_str, see_non, dep_int, dep_bl, dep_str, dep_non, Nat.zero_min, Nat.min_zero, Nat.zero_le, true_imp_iff, false_imp_iff, Bool.not_false, Bool.not_true, reduceCtorEq, and_true, true_and, List.length_cons, List.length_nil, g.f7, sp_figures_of]
  refine ⟨hb, m, rfl, by simpa using hl, fun p hp => ?_⟩
  simp only [iterOf, up_same, wSs, wS, wE, wEs, wO, wI, wC, wIf, wBin, wSub, startE_cons, startE_nil, List.replicate, getV_0, getV_s, withO_s, withB_b, bind_one, bind_two, List.set_cons_zero, List.set_cons_succ, wipeE, Nat.zero_add, atI_0, atI_1, atI_2, atI_3, see_int, see_bl, see_str, see_non, dep_int, dep_bl, dep_str, dep_non, Nat.zero_min, Nat.min_zero, Nat.zero_le, true_imp_iff, false_imp_iff, Bool.not_false, Bool.not_true, reduceCtorEq, and_true, true_and, List.length_cons, List.length_nil, Int.toNat_natCast]
  refine for_inv (fun rest e S' => ∃ (ds : List Nat) (s : Nat) (e4 : Option Val), rest = ds.map natV ∧ s < R.steps.length ∧ (∀ d ∈ ds, d < b) ∧ R.run s ds = R.run 0 (digs b m) ∧
      e = [some (.int b), some R.val, some (.int m), some (.int s), e4] ∧ S' = up S p (.lst ((digs b m).map natV))) ?_ ?_ _ _ _ ⟨digs b m, 0, none, rfl, ok.pos, hdl, rfl, rfl, rfl⟩
  · rintro x rest e S' ⟨ds, s, e4, hr', hs, hds, hrun, rfl, rfl⟩
    cases ds with
    | nil => cases hr'
    | cons d ds =>
      cases hr'
      refine ⟨up_same, ?_⟩
      simp only [wSs, wS, wE, wEs, wO, wI, wC, wIf, wBin, wSub, startE_cons, startE_nil, List.replicate, getV_0, getV_s, withO_s, withB_b, bind_one, bind_two, List.set_cons_zero, List.set_cons_succ, wipeE, Nat.zero_add, atI_0, atI_1, atI_2, atI_3, see_int, see_bl, see_str, see_non, dep_int, dep_bl, dep_str, dep_non, Nat.zero_min, Nat.min_zero, Nat.zero_le, true_imp_iff, false_imp_iff, Bool.not_false, Bool.not_true, reduceCtorEq, and_true, true_and, List.length_cons, List.length_nil]
      intro k hk
      obtain ⟨st', e1, e2, e3⟩ := ok.go hs (hds d (by simp))
      simp only [wSs, wS, wE, wEs, wO, wI, wC, wIf, wBin, wSub, startE_cons, startE_nil, List.replicate, getV_0, getV_s, withO_s, withB_b, bind_one, bind_two, List.set_cons_zero, List.set_cons_succ, wipeE, Nat.zero_add, atI_0, atI_1, atI_2, atI_3, see_int, see_bl, see_str, see_non, dep_int, dep_bl, dep_str, dep_non, Nat.zero_min, Nat.min_zero, Nat.zero_le, true_imp_iff, false_imp_iff, Bool.not_false, Bool.not_true, reduceCtorEq, and_true, true_and, List.length_cons, List.length_nil, Row.val, natV, atI_nat, List.getElem?_map, e1, e2, Option.map_some]
      refine hk _ _ ⟨ds, R.go s d, some (natV d), rfl, e3, fun x hx => hds x (by simp [hx]), hrun, rfl, rfl⟩
  · rintro e S' ⟨ds, s, e4, hr', hs, hds, hrun, rfl, rfl⟩
    refine ⟨up_same, hK2 _ _ ?_⟩
    cases ds with
    | cons d ds => cases hr'
    | nil =>
      have hs' : s = R.run 0 (digs b m) := hrun
      obtain ⟨i, e5⟩ : ∃ i, R.signs[s]? = some i := ⟨_, List.getElem?_eq_getElem (by rw [ok.sg]; exact hs)⟩
      have e6 : R.sign b m = i := by
        unfold Row.sign
        rw [← hs', e5]
        rfl
      rw [e6] at h2
      simp only [wSs, wS, wE, wEs, wO, wI, wC, wIf, wBin, wSub, startE_cons, startE_nil, List.replicate, getV_0, getV_s, withO_s, withB_b, bind_one, bind_two, List.set_cons_zero, List.set_cons_succ, wipeE, Nat.zero_add, atI_0, atI_1, atI_2, atI_3, see_int, see_bl, see_str, see_non, dep_int, dep_bl, dep_str, dep_non, Nat.zero_min, Nat.min_zero, Nat.zero_le, true_imp_iff, false_imp_iff, Bool.not_false, Bool.not_true, reduceCtorEq, and_true, true_and, List.length_cons, List.length_nil, Row.val, atI_nat, List.getElem?_map, e5, Option.map_some]
      exact ⟨S, up_le hp, h2⟩
theorem w_sign_at {G : Cfg} {st : Str} (g : SignG G st) : Wk G sp_sign_at n_sign_at b_sign_at := by
  intro args S Q E h
  unfold sp_sign_at at h
  split at h <;> first | contradiction | skip
  rename_i hl r n
  obtain ⟨h1, h2, h3, h4, h5⟩ := h
  unfold b_sign_at
  refine step fun K hK => ?_
  simp only [n_sign_at, wSs, wS, wE, wEs, wO, wI, wC, wIf, wBin, wSub, startE_cons, startE_nil, List.replicate, getV_0, getV_s, withO_s, withB_b, bind_one, bind_two, List.set_cons_zero, List.set_cons_succ, wipeE, Nat.zero_add, atI_0, atI_1, atI_2, atI_3, see_int, see_bl, see_str, see_non, dep_int, dep_bl, dep_str, dep_non, Nat.zero_min, Nat.min_zero, Nat.zero_le, true_imp_iff, false_imp_iff, Bool.not_false, Bool.not_true, reduceCtorEq, and_true, true_and, List.length_cons, List.length_nil, g.f6, sp_need_row]
  refine ⟨h1, h2, fun a => ⟨fun b => hK _ _ (step fun K2 hK2 => ?_), fun b => ex_here ((h5 a).1 b)⟩, fun a => ex_here (h4 a)⟩
  obtain ⟨hh1, hh2⟩ := (h5 a).2 b
  simp only [wSs, wS, wE, wEs, wO, wI, wC, wIf, wBin, wSub, startE_cons, startE_nil, List.replicate, getV_0, getV_s, withO_s, withB_b, bind_one, bind_two, List.set_cons_zero, List.set_cons_succ, wipeE, Nat.zero_add, atI_0, atI_1, atI_2, atI_3, see_int, see_bl, see_str, see_non, dep_int, dep_bl, dep_str, dep_non, Nat.zero_min, Nat.min_zero, Nat.zero_le, true_imp_iff, false_imp_iff, Bool.not_false, Bool.not_true, reduceCtorEq, and_true, true_and, List.length_cons, List.length_nil, g.f0, sp_is_whole, wCmp]
  refine ⟨kn_tyKnown h3, fun c => ?_, fun c => ?_⟩
  · refine ex_here (hh2 fun m e => ?_)
    rw [e] at c
    simp [isWhole] at c
  · cases n <;> simp [isWhole] at c
    rename_i n
    simp only [wSs, wS, wE, wEs, wO, wI, wC, wIf, wBin, wSub, startE_cons, startE_nil, List.replicate, getV_0, getV_s, withO_s, withB_b, bind_one, bind_two, List.set_cons_zero, List.set_cons_succ, wipeE, Nat.zero_add, atI_0, atI_1, atI_2, atI_3, see_int, see_bl, see_str, see_non, dep_int, dep_bl, dep_str, dep_non, Nat.zero_min, Nat.min_zero, Nat.zero_le, true_imp_iff, false_imp_iff, Bool.not_false, Bool.not_true, reduceCtorEq, and_true, true_and, List.length_cons, List.length_nil]
    refine ⟨fun d => ex_here (hh2 fun m e => ?_), fun d => hK2 _ _ ?_⟩
    · cases e
      have := of_decide_eq_true d
      omega
    · have d := of_decide_eq_false d
      obtain ⟨m, rfl⟩ := Int.eq_ofNat_of_zero_le (show 0 ≤ n by omega)
      obtain ⟨bb, rows, rfl, hb, hrl, hrow⟩ := hall_of a
      obtain ⟨i, rfl⟩ := betw_int b
      have hi := betw_le b
      obtain ⟨k, rfl⟩ := Int.eq_ofNat_of_zero_le hi.1
      have hk : k < rows.length := by
        have := hi.2
        simp only [rowsN] at this
        omega
      have e1 : rows[k]? = some rows[k] := List.getElem?_eq_getElem hk
      obtain ⟨q1, q2⟩ := hh1 m rfl
      have q3 := q2 k rfl rows[k] e1
      simp only [wSs, wS, wE, wEs, wO, wI, wC, wIf, wBin, wSub, startE_cons, startE_nil, List.replicate, getV_0, getV_s, withO_s, withB_b, bind_one, bind_two, List.set_cons_zero, List.set_cons_succ, wipeE, Nat.zero_add, atI_0, atI_1, atI_2, atI_3, see_int, see_bl, see_str, see_non, dep_int, dep_bl, dep_str, dep_non, Nat.zero_min, Nat.min_zero, Nat.zero_le, true_imp_iff, false_imp_iff, Bool.not_false, Bool.not_true, reduceCtorEq, and_true, true_and, List.length_cons, List.length_nil, atI_nat, e1, g.f8, sp_sign_of]
      refine ⟨by omega, hrow _ (List.getElem_mem hk), m, rfl, by simpa [baseOf] using q1, rt_here ?_⟩
      simpa [baseOf] using q3
end DL

set_option autoImplicit true
set_option Elab.async false
set_option linter.all false
set_option maxRecDepth 100000
set_option maxHeartbeats 4000000
/-! Own layer, plain part 5: what the laws draw. -/
namespace DL
open PySem
def n__law_cell_at : List Str := ["_law_script", "_law_k"]
def b__law_cell_at : Sms :=
  (.cons (.ite (.cmp .lt (.var 1) (.blt .len (.cons (.var 0) .nil)))
    (.cons (.ret (.sub (.var 0) (.var 1)))
      .nil)
    .nil)
  (.cons (.ite (.drop (.cmp .eq (.var 0) (.lst .nil)))
    (.cons (.ret (.int 0))
      .nil)
    .nil)
  (.cons (.ret (.bin .add (.bin .mul (.sub (.var 0) (.bin .mod (.var 1) (.blt .len (.cons (.var 0) .nil)))) (.int 31)) (.var 1)))
  .nil)))

def n__law_mixed : List Str := ["_law_script", "_law_k", "_law_many", "_law_drawn"]
def b__law_mixed : Sms :=
  (.cons (.asg 3 (.bin .mod (.bin .mul (.bin .add (.bin .add (.call 100 (.cons (.var 0) (.cons (.var 1) .nil))) (.bin .mul (.int 7919) (.var 1))) (.int 1)) (.int 48271)) (.int 2147483647)))
  (.cons (.ret (.bin .mod (.bin .mod (.bin .add (.bin .add (.bin .mul (.var 3) (.var 3)) (.bin .mul (.int 7) (.var 3))) (.var 1)) (.int 2147483629)) (.var 2)))
  .nil))

def n__law_next : List Str := ["_law_script", "_law_m", "_law_many"]
def b__law_next : Sms :=
  (.cons (.setI (.var 1) (.int 0) (.bin .add (.sub (.var 1) (.int 0)) (.int 1)))
  (.cons (.ret (.call 101 (.cons (.var 0) (.cons (.sub (.var 1) (.int 0)) (.cons (.var 2) .nil)))))
  .nil))

def n__law_row : List Str := ["_law_script", "_law_m", "_law_base", "_law_most", "_law_many", "_law_k", "_law_signs", "_law_steps", "_law_to", "_law_same", "_law_state", "_law_figure"]
def b__law_row : Sms :=
  (.cons (.asg 4 (.bin .add (.int 1) (.call 102 (.cons (.var 0) (.cons (.var 1) (.cons (.var 3) .nil))))))
  (.cons (.asg 6 (.bltc .tuple (.mk (.one 5) [5] (.call 102 (.cons (.var 0) (.cons (.var 1) (.cons (.int 3) .nil)))) (.rng (.cons (.var 4) .nil)) .none)))
  (.cons (.asg 7 (.lst .nil))
  (.cons (.for (.one 5) (.rng (.cons (.var 4) .nil))
    (.cons (.asg 9 (.comp (.mk (.one 8) [8] (.var 8) (.rng (.cons (.var 4) .nil)) (.some (.cmp .eq (.sub (.var 6) (.var 8)) (.sub (.var 6) (.var 5)))))))
      (.cons (.asg 10 (.lst (.cons (.sub (.var 9) (.call 102 (.cons (.var 0) (.cons (.var 1) (.cons (.blt .len (.cons (.var 9) .nil)) .nil))))) .nil)))
      (.cons (.for (.one 11) (.rng (.cons (.int 1) (.cons (.var 2) .nil)))
        (.cons (.expr (.meth (.var 10) .append (.cons (.call 102 (.cons (.var 0) (.cons (.var 1) (.cons (.var 4) .nil)))) .nil)))
          .nil))
      (.cons (.expr (.meth (.var 7) .append (.cons (.blt .tuple (.cons (.var 10) .nil)) .nil)))
      .nil)))))
  (.cons (.ret (.tup (.cons (.blt .tuple (.cons (.var 7) .nil)) (.cons (.var 6) .nil))))
  .nil)))))

def n__law_hall : List Str := ["_law_script", "_law_m", "_law_most", "_law_base", "_law_k", "_law_rows"]
def b__law_hall : Sms :=
  (.cons (.asg 3 (.bin .add (.int 2) (.bin .fdiv (.call 102 (.cons (.var 0) (.cons (.var 1) (.cons (.int 4) .nil)))) (.int 3))))
  (.cons (.asg 5 (.comp (.mk (.one 4) [4] (.call 103 (.cons (.var 0) (.cons (.var 1) (.cons (.var 3) (.cons (.var 2) .nil))))) (.rng (.cons (.bin .add (.int 1) (.call 102 (.cons (.var 0) (.cons (.var 1) (.cons (.int 2) .nil))))) .nil)) .none)))
  (.cons (.ret (.tup (.cons (.var 3) (.cons (.blt .tuple (.cons (.var 5) .nil)) .nil))))
  .nil)))

def cellAt (ns : List Int) (k : Nat) : Int := if k < ns.length then (ns[k]?).getD 0 else if ns = [] then 0 else (ns[k % ns.length]?).getD 0 * 31 + k
def drawn (ns : List Int) (k : Nat) : Int := (cellAt ns k + 7919 * k + 1) * 48271 % 2147483647
def mixed (ns : List Int) (k : Nat) (many : Int) : Int := (drawn ns k * drawn ns k + 7 * drawn ns k + k) % 2147483629 % many
theorem mixed_in {ns : List Int} {k : Nat} {many : Int} (h : 0 < many) : 0 ≤ mixed ns k many ∧ mixed ns k many < many := ⟨Int.emod_nonneg _ (by omega), Int.emod_lt_of_pos _ h⟩
theorem drawn_in (ns : List Int) (k : Nat) : 0 ≤ drawn ns k ∧ drawn ns k < 2147483647 := ⟨Int.emod_nonneg _ (by decide), Int.emod_lt_of_pos _ (by decide)⟩
def sp_cell_at : Spec := fun vs S Q _ => match vs with
  | [.lst sc, .int k] => ∃ (ns : List Int) (m : Nat), k = m ∧ sc = ns.map .int ∧ Q (.int (cellAt ns m)) S
  | _ => False
def sp_mixed : Spec := fun vs S Q _ => match vs with
  | [.lst sc, .int k, .int many] => ∃ (ns : List Int) (m : Nat), k = m ∧ sc = ns.map .int ∧ 0 < many ∧ Q (.int (mixed ns m many)) S
  | _ => False
def sp_next : Spec := fun vs S Q _ => match vs with
  | [.lst sc, .ref b, .int many] => ∃ (ns : List Int) (m : Nat), sc = ns.map .int ∧ S b = some (.lst [.int m]) ∧ 0 < many ∧ ∀ r : Int, 0 ≤ r → r < many → Q (.int r) (up S b (.lst [.int (m + 1 : Nat)]))
  | _ => False
structure DrawG (G : Cfg) : Prop where
  f100 : G.fn 100 = some sp_cell_at
  f101 : G.fn 101 = some sp_mixed
  f102 : G.fn 102 = some sp_next
theorem ints_at (ns : List Int) (k : Nat) (h : k < ns.length) : (ns.map Val.int)[k]? = some (.int ((ns[k]?).getD 0)) := by
  rw [List.getElem?_map, List.getElem?_eq_getElem h]
  rfl
theorem w_cell_at {G : Cfg} : Wk G sp_cell_at n__law_cell_at b__law_cell_at := by
  intro args S Q E h
  unfold sp_cell_at at h
  split at h <;> first | contradiction | skip
  rename_i sc k
  obtain ⟨ns, m, rfl, rfl, h2⟩ := h
  unfold b__law_cell_at
  refine step fun K hK => ?_
  simp only [n__law_cell_at, wSs, wS, wE, wEs, wO, wI, wC, wIf, wBin, wSub, startE_cons, startE_nil, List.replicate, getV_0, getV_s, withO_s, withB_b, bind_one, bind_two, List.set_cons_zero, List.set_cons_succ, wipeE, Nat.zero_add, atI_0, atI_1, atI_2, atI_3, see_int, see_bl, see_str, see_non, dep_int, dep_bl, dep_str, dep_non, Nat.zero_min, Nat.min_zero, Nat.zero_le, true_imp_iff, false_imp_iff, Bool.not_false, Bool.not_true, reduceCtorEq, and_true, true_and, List.length_cons, List.length_nil, wBt, wCmp, List.length_map]
  refine ⟨fun c => ?_, fun c => hK _ _ (step fun K2 hK2 => ?_)⟩
  · have hk : m < ns.length := by
      have := of_decide_eq_true c
      omega
    rw [atI_nat, ints_at ns m hk]
    simp only [wSs, wS, wE, wEs, wO, wI, wC, wIf, wBin, wSub, startE_cons, startE_nil, List.replicate, getV_0, getV_s, withO_s, withB_b, bind_one, bind_two, List.set_cons_zero, List.set_cons_succ, wipeE, Nat.zero_add, atI_0, atI_1, atI_2, atI_3, see_int, see_bl, see_str, see_non, dep_int, dep_bl, dep_str, dep_non, Nat.zero_min, Nat.min_zero, Nat.zero_le, true_imp_iff, false_imp_iff, Bool.not_false, Bool.not_true, reduceCtorEq, and_true, true_and, List.length_cons, List.length_nil]
    refine rt_here ?_
    have : cellAt ns m = (ns[m]?).getD 0 := if_pos hk
    rw [this] at h2
    exact h2
  · have hk : ¬ m < ns.length := by
      have := of_decide_eq_false c
      omega
    simp only [wSs, wS, wE, wEs, wO, wI, wC, wIf, wBin, wSub, startE_cons, startE_nil, List.replicate, getV_0, getV_s, withO_s, withB_b, bind_one, bind_two, List.set_cons_zero, List.set_cons_succ, wipeE, Nat.zero_add, atI_0, atI_1, atI_2, atI_3, see_int, see_bl, see_str, see_non, dep_int, dep_bl, dep_str, dep_non, Nat.zero_min, Nat.min_zero, Nat.zero_le, true_imp_iff, false_imp_iff, Bool.not_false, Bool.not_true, reduceCtorEq, and_true, true_and, List.length_cons, List.length_nil, wCmp]
    intro p hp
    have e2 : (up S p (.lst [])).see 3 (.ref p) = some (.lst []) := veq_int_list (ns := []) up_same
    have ek : ∀ b : Bool, keep S (up S p (.lst [])) (.bl b) = S := fun b => by rw [keep_up (by simp) hp, keep_self S (by simp)]
    simp only [see_ints, e2, wSs, wS, wE, wEs, wO, wI, wC, wIf, wBin, wSub, startE_cons, startE_nil, List.replicate, getV_0, getV_s, withO_s, withB_b, bind_one, bind_two, List.set_cons_zero, List.set_cons_succ, wipeE, Nat.zero_add, atI_0, atI_1, atI_2, atI_3, see_int, see_bl, see_str, see_non, dep_int, dep_bl, dep_str, dep_non, Nat.zero_min, Nat.min_zero, Nat.zero_le, true_imp_iff, false_imp_iff, Bool.not_false, Bool.not_true, reduceCtorEq, and_true, true_and, List.length_cons, List.length_nil, Val.dep, Val.deps, ek]
    refine ⟨by omega, fun d => ?_, fun d => ?_⟩
    · cases ns with
      | cons i ns => simp [Val.veq, Val.py, Val.pys, PyData.eqv, PyData.eqvAll] at d
      | nil => exact rt_here (by simpa [cellAt] using h2)
    · have hne : ns ≠ [] := by
        intro z
        subst z
        simp [Val.veq, Val.py, Val.pys, PyData.eqv, PyData.eqvAll] at d
      have hl : 0 < ns.length := List.length_pos_iff.mpr hne
      refine hK2 _ _ ?_
      simp only [wSs, wS, wE, wEs, wO, wI, wC, wIf, wBin, wSub, startE_cons, startE_nil, List.replicate, getV_0, getV_s, withO_s, withB_b, bind_one, bind_two, List.set_cons_zero, List.set_cons_succ, wipeE, Nat.zero_add, atI_0, atI_1, atI_2, atI_3, see_int, see_bl, see_str, see_non, dep_int, dep_bl, dep_str, dep_non, Nat.zero_min, Nat.min_zero, Nat.zero_le, true_imp_iff, false_imp_iff, Bool.not_false, Bool.not_true, reduceCtorEq, and_true, true_and, List.length_cons, List.length_nil, wBt, List.length_map]
      have e3 : (m : Int) % (ns.length : Int) = ((m % ns.length : Nat) : Int) := by omega
      refine ⟨by omega, ?_⟩
      rw [e3, atI_nat, ints_at ns _ (Nat.mod_lt _ hl)]
      simp only [wSs, wS, wE, wEs, wO, wI, wC, wIf, wBin, wSub, startE_cons, startE_nil, List.replicate, getV_0, getV_s, withO_s, withB_b, bind_one, bind_two, List.set_cons_zero, List.set_cons_succ, wipeE, Nat.zero_add, atI_0, atI_1, atI_2, atI_3, see_int, see_bl, see_str, see_non, dep_int, dep_bl, dep_str, dep_non, Nat.zero_min, Nat.min_zero, Nat.zero_le, true_imp_iff, false_imp_iff, Bool.not_false, Bool.not_true, reduceCtorEq, and_true, true_and, List.length_cons, List.length_nil]
      refine ⟨.inl (.inr (by omega)), rt_here ?_⟩
      have : cellAt ns m = (ns[m % ns.length]?).getD 0 * 31 + m := by
        unfold cellAt
        rw [if_neg hk, if_neg hne]
      rw [this] at h2
      exact h2
theorem w_mixed {G : Cfg} (g : DrawG G) : Wk G sp_mixed n__law_mixed b__law_mixed := by
  intro args S Q E h
  unfold sp_mixed at h
  split at h <;> first | contradiction | skip
  rename_i sc k many
  obtain ⟨ns, m, rfl, rfl, hm, h2⟩ := h
  unfold b__law_mixed
  refine step fun K hK => ?_
  simp only [n__law_mixed, wSs, wS, wE, wEs, wO, wI, wC, wIf, wBin, wSub, startE_cons, startE_nil, List.replicate, getV_0, getV_s, withO_s, withB_b, bind_one, bind_two, List.set_cons_zero, List.set_cons_succ, wipeE, Nat.zero_add, atI_0, atI_1, atI_2, atI_3, see_int, see_bl, see_str, see_non, dep_int, dep_bl, dep_str, dep_non, Nat.zero_min, Nat.min_zero, Nat.zero_le, true_imp_iff, false_imp_iff, Bool.not_false, Bool.not_true, reduceCtorEq, and_true, true_and, List.length_cons, List.length_nil, g.f100, sp_cell_at]
  refine ⟨ns, m, rfl, rfl, .inl (.inl (by omega)), .inl (.inr (by omega)), by omega, hK _ _ ?_⟩
  have hd := drawn_in ns m
  unfold drawn at hd
  simp only [wSs, wS, wE, wEs, wO, wI, wC, wIf, wBin, wSub, startE_cons, startE_nil, List.replicate, getV_0, getV_s, withO_s, withB_b, bind_one, bind_two, List.set_cons_zero, List.set_cons_succ, wipeE, Nat.zero_add, atI_0, atI_1, atI_2, atI_3, see_int, see_bl, see_str, see_non, dep_int, dep_bl, dep_str, dep_non, Nat.zero_min, Nat.min_zero, Nat.zero_le, true_imp_iff, false_imp_iff, Bool.not_false, Bool.not_true, reduceCtorEq, and_true, true_and, List.length_cons, List.length_nil]
  refine ⟨.inl (.inl (by omega)), .inl (.inl (by omega)), by omega, hm, rt_here h2⟩
theorem w_next {G : Cfg} (g : DrawG G) : Wk G sp_next n__law_next b__law_next := by
  intro args S Q E h
  unfold sp_next at h
  split at h <;> first | contradiction | skip
  rename_i sc b many
  obtain ⟨ns, m, rfl, hb, hm, h2⟩ := h
  unfold b__law_next
  refine step fun K hK => ?_
  have e : L2.ixN 1 0 = some 0 := by decide
  simp only [n__law_next, wSs, wS, wE, wEs, wO, wI, wC, wIf, wBin, wSub, startE_cons, startE_nil, List.replicate, getV_0, getV_s, withO_s, withB_b, bind_one, bind_two, List.set_cons_zero, List.set_cons_succ, wipeE, Nat.zero_add, atI_0, atI_1, atI_2, atI_3, see_int, see_bl, see_str, see_non, dep_int, dep_bl, dep_str, dep_non, Nat.zero_min, Nat.min_zero, Nat.zero_le, true_imp_iff, false_imp_iff, Bool.not_false, Bool.not_true, reduceCtorEq, and_true, true_and, List.length_cons, List.length_nil, hb, wSetI, e]
  refine hK _ _ ?_
  simp only [wSs, wS, wE, wEs, wO, wI, wC, wIf, wBin, wSub, startE_cons, startE_nil, List.replicate, getV_0, getV_s, withO_s, withB_b, bind_one, bind_two, List.set_cons_zero, List.set_cons_succ, wipeE, Nat.zero_add, atI_0, atI_1, atI_2, atI_3, see_int, see_bl, see_str, see_non, dep_int, dep_bl, dep_str, dep_non, Nat.zero_min, Nat.min_zero, Nat.zero_le, true_imp_iff, false_imp_iff, Bool.not_false, Bool.not_true, reduceCtorEq, and_true, true_and, List.length_cons, List.length_nil, up_same, List.set_cons_zero, g.f101, sp_mixed]
  refine ⟨ns, m + 1, by omega, rfl, hm, rt_here ?_⟩
  have := mixed_in (ns := ns) (k := m + 1) hm
  exact h2 _ this.1 this.2
end DL

set_option autoImplicit true
set_option Elab.async false
set_option linter.all false
set_option maxRecDepth 100000
set_option maxHeartbeats 4000000
/-! Own layer, plain part 6: drawn rows and halls. -/
namespace DL
open PySem
theorem rangeL_nat (n : Nat) : rangeL 0 n 1 = (List.range' 0 n).map natV := by
  unfold rangeL natV
  rw [List.range_eq_range']
  refine List.map_congr_left fun k _ => ?_
  simp
theorem rangeL_from (lo n : Nat) : rangeL lo n 1 = (List.range' lo n).map natV := by
  unfold rangeL natV
  rw [List.range_eq_range', show List.range' lo n = (List.range' 0 n).map (lo + ·) by rw [List.map_add_range']; simp, List.map_map]
  refine List.map_congr_left fun k _ => ?_
  simp
def sp_row : Spec := fun vs S Q _ => match vs with
  | [.lst sc, .ref b, .int base, .int most] => ∃ (ns : List Int) (m : Nat), sc = ns.map .int ∧ S b = some (.lst [.int m]) ∧ (2 ≤ base ∧ base ≤ 3) ∧ (1 ≤ most ∧ most ≤ 8) ∧
      ∀ (R : Row) (j : Nat), R.Ok base.toNat → (R.steps.length : Int) ≤ most → Q R.val (up S b (.lst [.int j]))
  | _ => False
def sp_hall : Spec := fun vs S Q _ => match vs with
  | [.lst sc, .ref b, .int most] => ∃ (ns : List Int) (m : Nat), sc = ns.map .int ∧ S b = some (.lst [.int m]) ∧ (1 ≤ most ∧ most ≤ 8) ∧
      ∀ (base : Nat) (Rs : List Row) (j : Nat), (2 ≤ base ∧ base ≤ 3) → (1 ≤ Rs.length ∧ Rs.length ≤ 2) → (∀ R ∈ Rs, R.Ok base ∧ (R.steps.length : Int) ≤ most) → Q (.tup [.int base, .tup (Rs.map Row.val)]) (up S b (.lst [.int j]))
  | _ => False
structure DrawH (G : Cfg) : Prop extends DrawG G where
  f103 : G.fn 103 = some sp_row
  f104 : G.fn 104 = some sp_hall
theorem w_row {G : Cfg} (g : DrawH G) : Wk G sp_row n__law_row b__law_row := by
  intro args S Q E h
  unfold sp_row at h
  split at h <;> first | contradiction | skip
  rename_i sc b base most
  obtain ⟨ns, m, rfl, hb, hbase, hmost, h2⟩ := h
  obtain ⟨base, rfl⟩ := Int.eq_ofNat_of_zero_le (show 0 ≤ base by omega)
  rw [Int.toNat_natCast] at h2
  unfold b__law_row
  refine step fun K hK => ?_
  simp only [n__law_row, wSs, wS, wE, wEs, wO, wI, wC, wIf, wBin, wSub, startE_cons, startE_nil, List.replicate, getV_0, getV_s, withO_s, withB_b, bind_one, bind_two, List.set_cons_zero, List.set_cons_succ, wipeE, Nat.zero_add, atI_0, atI_1, atI_2, atI_3, see_int, see_bl, see_str, see_non, dep_int, dep_bl, dep_str, dep_non, Nat.zero_min, Nat.min_zero, Nat.zero_le, true_imp_iff, false_imp_iff, Bool.not_false, Bool.not_true, reduceCtorEq, and_true, true_and, List.length_cons, List.length_nil, g.f102, sp_next]
  refine ⟨ns, m, rfl, hb, by omega, fun r r0 r1 => hK _ _ (step fun K2 hK2 => ?_)⟩
  obtain ⟨r, rfl⟩ := Int.eq_ofNat_of_zero_le r0
  have hmany : (1 : Int) + (r : Int) = ((r + 1 : Nat) : Int) := by omega
  rw [hmany]
  generalize hM : r + 1 = many
  have hmany1 : 1 ≤ many ∧ (many : Int) ≤ most := by omega
  simp only [wSs, wS, wE, wEs, wO, wI, wC, wIf, wBin, wSub, startE_cons, startE_nil, List.replicate, getV_0, getV_s, withO_s, withB_b, bind_one, bind_two, List.set_cons_zero, List.set_cons_succ, wipeE, Nat.zero_add, atI_0, atI_1, atI_2, atI_3, see_int, see_bl, see_str, see_non, dep_int, dep_bl, dep_str, dep_non, Nat.zero_min, Nat.min_zero, Nat.zero_le, true_imp_iff, false_imp_iff, Bool.not_false, Bool.not_true, reduceCtorEq, and_true, true_and, List.length_cons, List.length_nil, g.f102, sp_next, wRng]
  refine ⟨by omega, by omega, ?_⟩
  rw [Int.toNat_natCast, rangeL_nat]
  refine turns_inv (fun rest acc S' => ∃ (sg : List Nat) (j : Nat), acc = sg.map natV ∧ (∀ x ∈ sg, x ≤ 2) ∧ sg.length + rest.length = many ∧ S' = up S b (.lst [.int j])) ?_ ?_ _ _ _ ⟨[], m + 1, rfl, by simp, by simp, rfl⟩
  · rintro x rest acc S' ⟨sg, j, rfl, h3, h4, rfl⟩
    refine ⟨trivial, fun k hk => ?_⟩
    refine ⟨ns, j, rfl, up_same, by omega, fun z z0 z1 => ?_⟩
    obtain ⟨z, rfl⟩ := Int.eq_ofNat_of_zero_le z0
    rw [up_up]
    refine hk _ _ ⟨sg ++ [z], j + 1, by simp [natV], fun x hx => ?_, by simp at h4 ⊢; omega, rfl⟩
    rcases List.mem_append.mp hx with q | q
    · exact h3 x q
    · simp at q
      omega
  rintro acc S' ⟨sg, j, rfl, h3, h4, rfl⟩
  refine ⟨trivial, ?_⟩
  simp only [wBtL]
  refine hK2 _ _ (step fun K3 hK3 => ?_)
  have h4 : sg.length = many := by simpa using h4
  simp only [wSs, wS, wE, wEs, wO, wI, wC, wIf, wBin, wSub, startE_cons, startE_nil, List.replicate, getV_0, getV_s, withO_s, withB_b, bind_one, bind_two, List.set_cons_zero, List.set_cons_succ, wipeE, Nat.zero_add, atI_0, atI_1, atI_2, atI_3, see_int, see_bl, see_str, see_non, dep_int, dep_bl, dep_str, dep_non, Nat.zero_min, Nat.min_zero, Nat.zero_le, true_imp_iff, false_imp_iff, Bool.not_false, Bool.not_true, reduceCtorEq, and_true, true_and, List.length_cons, List.length_nil]
  intro p hp
  have hpb : b ≠ p := fun z => by rw [← z, DL.up_same] at hp; cases hp
  have hSp : S p = none := by rw [up_get (Ne.symm hpb)] at hp; exact hp
  refine hK3 _ _ (step fun K4 hK4 => for_step fun B hB => ?_)
  simp only [wSs, wS, wE, wEs, wO, wI, wC, wIf, wBin, wSub, startE_cons, startE_nil, List.replicate, getV_0, getV_s, withO_s, withB_b, bind_one, bind_two, List.set_cons_zero, List.set_cons_succ, wipeE, Nat.zero_add, atI_0, atI_1, atI_2, atI_3, see_int, see_bl, see_str, see_non, dep_int, dep_bl, dep_str, dep_non, Nat.zero_min, Nat.min_zero, Nat.zero_le, true_imp_iff, false_imp_iff, Bool.not_false, Bool.not_true, reduceCtorEq, and_true, true_and, List.length_cons, List.length_nil, wRng]
  refine ⟨by omega, by omega, ?_⟩
  rw [Int.toNat_natCast, rangeL_nat]
  -- what holds of the steps so far
  refine for_inv (fun rest e S' => ∃ (k0 c j : Nat) (st : List (List Nat)) (v5 v8 v9 v10 v11 : Option Val), rest = (List.range' k0 c).map natV ∧ k0 + c = many ∧ st.length = k0 ∧
      (∀ s ∈ st, s.length = base ∧ ∀ t ∈ s, t < many) ∧ (∀ k (h : k < st.length), ∀ t, st[k].head? = some t → sg[t]? = sg[k]?) ∧
      Sto.le (up S b (.lst [.int j])) S' ∧ S' p = some (.lst (st.map fun s => .tup (s.map natV))) ∧
      e = [some (.lst (ns.map .int)), some (.ref b), some (.int base), some (.int most), some (.int many), v5, some (.tup (sg.map natV)), some (.ref p), v8, v9, v10, v11]) ?_ ?_ _ _ _
    ⟨0, many, j, [], none, none, none, none, none, rfl, by omega, rfl, by simp, by simp, up_le hp, DL.up_same, rfl⟩
  · rintro x rest e S' ⟨k0, c, j, st, v5, v8, v9, v10, v11, hr, hc, hl, h5, h6, le, hp', rfl⟩
    refine ⟨trivial, ?_⟩
    cases c with
    | zero => simp at hr
    | succ c =>
      rw [List.range'_succ, List.map_cons] at hr
      cases hr
      simp only [bind_one, bind_two, withO_s, List.set_cons_zero, List.set_cons_succ]
      intro k hk
      refine hB _ _ _ (step fun K5 hK5 => ?_)
      simp only [wSs, wS, wE, wEs, wO, wI, wC, wIf, wBin, wSub, startE_cons, startE_nil, List.replicate, getV_0, getV_s, withO_s, withB_b, bind_one, bind_two, List.set_cons_zero, List.set_cons_succ, wipeE, Nat.zero_add, atI_0, atI_1, atI_2, atI_3, see_int, see_bl, see_str, see_non, dep_int, dep_bl, dep_str, dep_non, Nat.zero_min, Nat.min_zero, Nat.zero_le, true_imp_iff, false_imp_iff, Bool.not_false, Bool.not_true, reduceCtorEq, and_true, true_and, List.length_cons, List.length_nil, wRng]
      refine ⟨by omega, by omega, ?_⟩
      rw [Int.toNat_natCast, rangeL_nat]
      have hk0 : k0 < many := by omega
      have e1 : sg[k0]? = some (sg[k0]'(by omega)) := List.getElem?_eq_getElem (by omega)
      refine turns_fil (fun x => match x with
        | .int t => if sg[t.toNat]? = sg[k0]? then some x else none
        | _ => none) trivial (fun x hx k hk => ?_) ?_
      · obtain ⟨t, ht, rfl⟩ := List.mem_map.mp hx
        have ht : t < many := by simpa using ht
        have e2 : sg[t]? = some (sg[t]'(by omega)) := List.getElem?_eq_getElem (by omega)
        simp only [natV, wSs, wS, wE, wEs, wO, wI, wC, wIf, wBin, wSub, startE_cons, startE_nil, List.replicate, getV_0, getV_s, withO_s, withB_b, bind_one, bind_two, List.set_cons_zero, List.set_cons_succ, wipeE, Nat.zero_add, atI_0, atI_1, atI_2, atI_3, see_int, see_bl, see_str, see_non, dep_int, dep_bl, dep_str, dep_non, Nat.zero_min, Nat.min_zero, Nat.zero_le, true_imp_iff, false_imp_iff, Bool.not_false, Bool.not_true, reduceCtorEq, and_true, true_and, List.length_cons, List.length_nil, atI_nat, List.getElem?_map, e1, e2, Option.map_some, wCmp, int_eq] at hk ⊢
        by_cases q : sg[t]'(by omega) = sg[k0]'(by omega)
        · have q' : ((sg[t]'(by omega) : Nat) : Int) = ((sg[k0]'(by omega) : Nat) : Int) := by omega
          simp only [q', decide_true, wSs, wS, wE, wEs, wO, wI, wC, wIf, wBin, wSub, startE_cons, startE_nil, List.replicate, getV_0, getV_s, withO_s, withB_b, bind_one, bind_two, List.set_cons_zero, List.set_cons_succ, wipeE, Nat.zero_add, atI_0, atI_1, atI_2, atI_3, see_int, see_bl, see_str, see_non, dep_int, dep_bl, dep_str, dep_non, Nat.zero_min, Nat.min_zero, Nat.zero_le, true_imp_iff, false_imp_iff, Bool.not_false, Bool.not_true, reduceCtorEq, and_true, true_and, List.length_cons, List.length_nil]
          simpa [e1, e2, q] using hk
        · have q' : ¬ ((sg[t]'(by omega) : Nat) : Int) = ((sg[k0]'(by omega) : Nat) : Int) := by omega
          simp only [q', decide_false, wSs, wS, wE, wEs, wO, wI, wC, wIf, wBin, wSub, startE_cons, startE_nil, List.replicate, getV_0, getV_s, withO_s, withB_b, bind_one, bind_two, List.set_cons_zero, List.set_cons_succ, wipeE, Nat.zero_add, atI_0, atI_1, atI_2, atI_3, see_int, see_bl, see_str, see_non, dep_int, dep_bl, dep_str, dep_non, Nat.zero_min, Nat.min_zero, Nat.zero_le, true_imp_iff, false_imp_iff, Bool.not_false, Bool.not_true, reduceCtorEq, and_true, true_and, List.length_cons, List.length_nil]
          simpa [e1, e2, q] using hk
      · intro p2 hp2
        simp only [List.nil_append]
        -- the states of one sign
        generalize hsame : ((List.range' 0 many).map natV).filterMap (fun x => match x with
          | .int t => if sg[t.toNat]? = sg[k0]? then some x else none
          | _ => none) = same
        have hin : ∀ x ∈ same, ∃ t : Nat, x = natV t ∧ t < many ∧ sg[t]? = sg[k0]? := by
          intro x hx
          rw [← hsame] at hx
          obtain ⟨y, hy, e⟩ := List.mem_filterMap.mp hx
          obtain ⟨t, ht, rfl⟩ := List.mem_map.mp hy
          have ht : t < many := by simpa using ht
          simp only [natV, Int.toNat_natCast] at e
          by_cases q : sg[t]? = sg[k0]?
          · rw [if_pos q] at e
            cases e
            exact ⟨t, rfl, ht, q⟩
          · rw [if_neg q] at e
            cases e
        have hpos : 0 < same.length := by
          refine List.length_pos_of_mem (a := natV k0) ?_
          rw [← hsame]
          refine List.mem_filterMap.mpr ⟨natV k0, List.mem_map.mpr ⟨k0, by simp; omega, rfl⟩, ?_⟩
          simp [natV]
        have hb' : S' b = some (.lst [.int j]) := le _ _ DL.up_same
        have hp2b : b ≠ p2 := fun z => by rw [← z, hb'] at hp2; cases hp2
        have hp2p : p ≠ p2 := fun z => by rw [← z, hp'] at hp2; cases hp2
        refine hK5 _ _ (step fun K6 hK6 => ?_)
        simp only [wSs, wS, wE, wEs, wO, wI, wC, wIf, wBin, wSub, startE_cons, startE_nil, List.replicate, getV_0, getV_s, withO_s, withB_b, bind_one, bind_two, List.set_cons_zero, List.set_cons_succ, wipeE, Nat.zero_add, atI_0, atI_1, atI_2, atI_3, see_int, see_bl, see_str, see_non, dep_int, dep_bl, dep_str, dep_non, Nat.zero_min, Nat.min_zero, Nat.zero_le, true_imp_iff, false_imp_iff, Bool.not_false, Bool.not_true, reduceCtorEq, and_true, true_and, List.length_cons, List.length_nil, wBt, DL.up_same, g.f102, sp_next]
        refine ⟨ns, j, rfl, by rw [up_get hp2b]; exact hb', by omega, fun r2 z0 z1 => ?_⟩
        obtain ⟨r2, rfl⟩ := Int.eq_ofNat_of_zero_le z0
        have hr2 : r2 < same.length := by omega
        obtain ⟨t0, et0, ht0, hsg0⟩ := hin _ (List.getElem_mem hr2)
        simp only [up_get (Ne.symm hp2b), DL.up_same, wSs, wS, wE, wEs, wO, wI, wC, wIf, wBin, wSub, startE_cons, startE_nil, List.replicate, getV_0, getV_s, withO_s, withB_b, bind_one, bind_two, List.set_cons_zero, List.set_cons_succ, wipeE, Nat.zero_add, atI_0, atI_1, atI_2, atI_3, see_int, see_bl, see_str, see_non, dep_int, dep_bl, dep_str, dep_non, Nat.zero_min, Nat.min_zero, Nat.zero_le, true_imp_iff, false_imp_iff, Bool.not_false, Bool.not_true, reduceCtorEq, and_true, true_and, List.length_cons, List.length_nil, atI_nat, List.getElem?_eq_getElem hr2, et0]
        intro p3 hp3
        have le2 : Sto.le (up S b (.lst [.int (j + 1 : Nat)])) (up (up S' p2 (.lst same)) b (.lst [.int (j + 1 : Nat)])) := le_bump (le_new le hp2)
        have hp3b : b ≠ p3 := fun z => by rw [← z, DL.up_same] at hp3; cases hp3
        have hp3p2 : p2 ≠ p3 := fun z => by rw [← z, up_get (Ne.symm hp2b), DL.up_same] at hp3; cases hp3
        have hp3p : p ≠ p3 := fun z => by rw [← z, up_get (Ne.symm hpb), up_get hp2p, hp'] at hp3; cases hp3
        have hp2' : (up (up S' p2 (.lst same)) b (.lst [.int (j + 1 : Nat)])) p = some (.lst (st.map fun s => .tup (s.map natV))) := by rw [up_get (Ne.symm hpb), up_get hp2p, hp']
        generalize up (up S' p2 (.lst same)) b (.lst [.int (j + 1 : Nat)]) = S2 at hp3 le2 hp2'
        refine hK6 _ _ (step fun K7 hK7 => for_step fun B2 hB2 => ?_)
        simp only [wSs, wS, wE, wEs, wO, wI, wC, wIf, wBin, wSub, startE_cons, startE_nil, List.replicate, getV_0, getV_s, withO_s, withB_b, bind_one, bind_two, List.set_cons_zero, List.set_cons_succ, wipeE, Nat.zero_add, atI_0, atI_1, atI_2, atI_3, see_int, see_bl, see_str, see_non, dep_int, dep_bl, dep_str, dep_non, Nat.zero_min, Nat.min_zero, Nat.zero_le, true_imp_iff, false_imp_iff, Bool.not_false, Bool.not_true, reduceCtorEq, and_true, true_and, List.length_cons, List.length_nil, wRng]
        refine ⟨⟨by omega, by omega, by omega, by omega⟩, ?_⟩
        rw [show ((base : Int) - 1).toNat = base - 1 by omega, show rangeL 1 (base - 1) 1 = (List.range' 1 (base - 1)).map natV from rangeL_from 1 (base - 1)]
        refine for_inv (fun rest e S' => ∃ (ts : List Nat) (j : Nat) (v11 : Option Val), ts.length + rest.length = base ∧ (∀ t ∈ ts, t < many) ∧ ts.head? = some t0 ∧
            Sto.le (up S b (.lst [.int j])) S' ∧ S' p = some (.lst (st.map fun s => .tup (s.map natV))) ∧ S' p3 = some (.lst (ts.map natV)) ∧
            e = [some (.lst (ns.map .int)), some (.ref b), some (.int base), some (.int most), some (.int many), some (natV k0), some (.tup (sg.map natV)), some (.ref p), v8, some (.ref p2), some (.ref p3), v11]) ?_ ?_ _ _ _
          ⟨[t0], j + 1, v11, by simp; omega, by simpa using ht0, rfl, le_new le2 hp3, by rw [up_get hp3p]; exact hp2', DL.up_same, rfl⟩
        · rintro x rest e S3 ⟨ts, j3, w11, q1, q2, q3, le3, hq, hq3, rfl⟩
          refine ⟨trivial, ?_⟩
          simp only [bind_one, bind_two, withO_s, List.set_cons_zero, List.set_cons_succ]
          intro k' hk'
          refine hB2 _ _ _ (step fun K8 hK8 => ?_)
          have hb3 : S3 b = some (.lst [.int j3]) := le3 _ _ DL.up_same
          simp only [wSs, wS, wE, wEs, wO, wI, wC, wIf, wBin, wSub, startE_cons, startE_nil, List.replicate, getV_0, getV_s, withO_s, withB_b, bind_one, bind_two, List.set_cons_zero, List.set_cons_succ, wipeE, Nat.zero_add, atI_0, atI_1, atI_2, atI_3, see_int, see_bl, see_str, see_non, dep_int, dep_bl, dep_str, dep_non, Nat.zero_min, Nat.min_zero, Nat.zero_le, true_imp_iff, false_imp_iff, Bool.not_false, Bool.not_true, reduceCtorEq, and_true, true_and, List.length_cons, List.length_nil, recv, hq3, g.f102, sp_next, wMt]
          refine ⟨ns, j3, rfl, hb3, by omega, fun r3 y0 y1 => ?_⟩
          obtain ⟨r3, rfl⟩ := Int.eq_ofNat_of_zero_le y0
          simp only [up_get (Ne.symm hp3b), hq3]
          refine ⟨by simp at q1 ⊢; unfold line; omega, hK8 _ _ ?_⟩
          simp only [wSs, wS, wE, wEs, wO, wI, wC, wIf, wBin, wSub, startE_cons, startE_nil, List.replicate, getV_0, getV_s, withO_s, withB_b, bind_one, bind_two, List.set_cons_zero, List.set_cons_succ, wipeE, Nat.zero_add, atI_0, atI_1, atI_2, atI_3, see_int, see_bl, see_str, see_non, dep_int, dep_bl, dep_str, dep_non, Nat.zero_min, Nat.min_zero, Nat.zero_le, true_imp_iff, false_imp_iff, Bool.not_false, Bool.not_true, reduceCtorEq, and_true, true_and, List.length_cons, List.length_nil]
          refine hk' _ _ ⟨ts ++ [r3], j3 + 1, some x, by simp at q1 ⊢; omega, fun t ht => ?_, by rw [List.head?_append, q3]; rfl, le_write (le_bump le3) ?_, by rw [up_get hp3p, up_get (Ne.symm hpb)]; exact hq, by rw [DL.up_same]; simp [natV], rfl⟩
          · rcases List.mem_append.mp ht with q | q
            · exact q2 t q
            · simp at q
              omega
          · rw [up_get (Ne.symm hp3b)]
            have := le_off le2 hp3
            rw [up_get (Ne.symm hp3b)] at this
            exact this
        · rintro e S3 ⟨ts, j3, w11, q1, q2, q3, le3, hq, hq3, rfl⟩
          refine ⟨trivial, hK7 _ _ (step fun K8 hK8 => ?_)⟩
          simp only [wSs, wS, wE, wEs, wO, wI, wC, wIf, wBin, wSub, startE_cons, startE_nil, List.replicate, getV_0, getV_s, withO_s, withB_b, bind_one, bind_two, List.set_cons_zero, List.set_cons_succ, wipeE, Nat.zero_add, atI_0, atI_1, atI_2, atI_3, see_int, see_bl, see_str, see_non, dep_int, dep_bl, dep_str, dep_non, Nat.zero_min, Nat.min_zero, Nat.zero_le, true_imp_iff, false_imp_iff, Bool.not_false, Bool.not_true, reduceCtorEq, and_true, true_and, List.length_cons, List.length_nil, recv, hq, wBt, hq3, wBtL, wMt]
          have hb3 : S3 b = some (.lst [.int j3]) := le3 _ _ DL.up_same
          refine ⟨by simp; unfold line; omega, hK8 _ _ ?_⟩
          simp only [wSs, wS, wE, wEs, wO, wI, wC, wIf, wBin, wSub, startE_cons, startE_nil, List.replicate, getV_0, getV_s, withO_s, withB_b, bind_one, bind_two, List.set_cons_zero, List.set_cons_succ, wipeE, Nat.zero_add, atI_0, atI_1, atI_2, atI_3, see_int, see_bl, see_str, see_non, dep_int, dep_bl, dep_str, dep_non, Nat.zero_min, Nat.min_zero, Nat.zero_le, true_imp_iff, false_imp_iff, Bool.not_false, Bool.not_true, reduceCtorEq, and_true, true_and, List.length_cons, List.length_nil]
          refine hk _ _ ⟨k0 + 1, c, j3, st ++ [ts], some (natV k0), v8, some (.ref p2), some (.ref p3), w11, rfl, by omega, by simp [hl], fun s hs' => ?_, fun k' h t ht => ?_, le_write le3 ?_, by rw [DL.up_same]; simp, rfl⟩
          · rcases List.mem_append.mp hs' with q | q
            · exact h5 s q
            · simp at q
              subst q
              exact ⟨by simpa using q1, q2⟩
          · by_cases hk' : k' < st.length
            · rw [List.getElem_append_left hk'] at ht
              exact h6 k' hk' t ht
            · have : k' = st.length := by simp at h; omega
              subst this
              rw [List.getElem_append_right (Nat.le_refl _)] at ht
              simp only [Nat.sub_self, List.getElem_cons_zero] at ht
              rw [q3] at ht
              cases ht
              rw [hl]
              exact hsg0
          · rw [up_get (Ne.symm hpb)]
            exact hSp
  · rintro e S' ⟨k0, c, j, st, v5, v8, v9, v10, v11, hr, hc, hl, h5, h6, le, hp', rfl⟩
    refine ⟨trivial, hK4 _ _ ?_⟩
    have hc0 : c = 0 := by
      cases c with
      | zero => rfl
      | succ c => rw [List.range'_succ] at hr; cases hr
    subst hc0
    simp only [wSs, wS, wE, wEs, wO, wI, wC, wIf, wBin, wSub, startE_cons, startE_nil, List.replicate, getV_0, getV_s, withO_s, withB_b, bind_one, bind_two, List.set_cons_zero, List.set_cons_succ, wipeE, Nat.zero_add, atI_0, atI_1, atI_2, atI_3, see_int, see_bl, see_str, see_non, dep_int, dep_bl, dep_str, dep_non, Nat.zero_min, Nat.min_zero, Nat.zero_le, true_imp_iff, false_imp_iff, Bool.not_false, Bool.not_true, reduceCtorEq, and_true, true_and, List.length_cons, List.length_nil, wBt, hp', wBtL]
    refine ⟨_, le, h2 ⟨st, sg⟩ j ⟨by simp only; omega, by simp only; omega, fun s hs' => (h5 s hs').1, fun s hs' t ht => ?_, by simp only; omega, h3, fun k h t ht => h6 k h t ht⟩ (by simp only; omega)⟩
    have := (h5 s hs').2 t ht
    simp only
    omega
theorem w_hall {G : Cfg} (g : DrawH G) : Wk G sp_hall n__law_hall b__law_hall := by
  intro args S Q E h
  unfold sp_hall at h
  split at h <;> first | contradiction | skip
  rename_i sc b most
  obtain ⟨ns, m, rfl, hb, hmost, h2⟩ := h
  unfold b__law_hall
  refine step fun K hK => ?_
  simp only [n__law_hall, wSs, wS, wE, wEs, wO, wI, wC, wIf, wBin, wSub, startE_cons, startE_nil, List.replicate, getV_0, getV_s, withO_s, withB_b, bind_one, bind_two, List.set_cons_zero, List.set_cons_succ, wipeE, Nat.zero_add, atI_0, atI_1, atI_2, atI_3, see_int, see_bl, see_str, see_non, dep_int, dep_bl, dep_str, dep_non, Nat.zero_min, Nat.min_zero, Nat.zero_le, true_imp_iff, false_imp_iff, Bool.not_false, Bool.not_true, reduceCtorEq, and_true, true_and, List.length_cons, List.length_nil, g.f102, sp_next]
  refine ⟨ns, m, rfl, hb, by omega, fun r r0 r1 => ⟨by omega, by omega, hK _ _ (step fun K2 hK2 => ?_)⟩⟩
  obtain ⟨base, hbs⟩ := Int.eq_ofNat_of_zero_le (show 0 ≤ 2 + r / 3 by omega)
  rw [hbs]
  have hbase : 2 ≤ base ∧ base ≤ 3 := by omega
  simp only [wSs, wS, wE, wEs, wO, wI, wC, wIf, wBin, wSub, startE_cons, startE_nil, List.replicate, getV_0, getV_s, withO_s, withB_b, bind_one, bind_two, List.set_cons_zero, List.set_cons_succ, wipeE, Nat.zero_add, atI_0, atI_1, atI_2, atI_3, see_int, see_bl, see_str, see_non, dep_int, dep_bl, dep_str, dep_non, Nat.zero_min, Nat.min_zero, Nat.zero_le, true_imp_iff, false_imp_iff, Bool.not_false, Bool.not_true, reduceCtorEq, and_true, true_and, List.length_cons, List.length_nil, g.f102, sp_next, g.f103, sp_row, wRng]
  refine ⟨ns, m + 1, rfl, DL.up_same, by omega, fun z z0 z1 => ?_⟩
  obtain ⟨z, rfl⟩ := Int.eq_ofNat_of_zero_le z0
  refine ⟨by omega, by omega, ?_⟩
  rw [show (1 + (z : Int)).toNat = z + 1 by omega, rangeL_nat, up_up]
  refine turns_inv (fun rest acc S' => ∃ (Rs : List Row) (j : Nat), acc = Rs.map Row.val ∧ (∀ R ∈ Rs, R.Ok base ∧ (R.steps.length : Int) ≤ most) ∧ Rs.length + rest.length = z + 1 ∧ S' = up S b (.lst [.int j])) ?_ ?_ _ _ _
    ⟨[], m + 1 + 1, rfl, by simp, by simp, rfl⟩
  · rintro x rest acc S' ⟨Rs, j, rfl, h3, h4, rfl⟩
    refine ⟨trivial, fun k hk => ?_⟩
    refine ⟨ns, j, rfl, DL.up_same, by omega, hmost, fun R j2 ok hl => ?_⟩
    rw [up_up]
    refine hk _ _ ⟨Rs ++ [R], j2, by simp, fun R' hR => ?_, by simp at h4 ⊢; omega, rfl⟩
    rcases List.mem_append.mp hR with q | q
    · exact h3 R' q
    · simp at q
      subst q
      exact ⟨by simpa using ok, hl⟩
  · rintro acc S' ⟨Rs, j, rfl, h3, h4, rfl⟩
    refine ⟨trivial, fun p hp => hK2 _ _ ?_⟩
    simp only [wSs, wS, wE, wEs, wO, wI, wC, wIf, wBin, wSub, startE_cons, startE_nil, List.replicate, getV_0, getV_s, withO_s, withB_b, bind_one, bind_two, List.set_cons_zero, List.set_cons_succ, wipeE, Nat.zero_add, atI_0, atI_1, atI_2, atI_3, see_int, see_bl, see_str, see_non, dep_int, dep_bl, dep_str, dep_non, Nat.zero_min, Nat.min_zero, Nat.zero_le, true_imp_iff, false_imp_iff, Bool.not_false, Bool.not_true, reduceCtorEq, and_true, true_and, List.length_cons, List.length_nil, wBt, DL.up_same, wBtL]
    refine ⟨_, up_le hp, h2 base Rs j hbase (by simp at h4; omega) h3⟩
end DL

set_option autoImplicit true
set_option Elab.async false
set_option linter.all false
set_option maxRecDepth 100000
set_option maxHeartbeats 4000000
/-! Own layer, plain part 7: rows as values; what is equal to itself. -/
namespace DL
open PySem
theorem veqs_refl_aux : ∀ (n : Nat) (v : Val), sizeOf v ≤ n → v.dat = true → PyData.eqv v.py v.py = true := by
  intro n
  induction n with
  | zero => intro v h; cases v <;> simp at h
  | succ n ih =>
    intro v h hd
    have key : ∀ xs : List Val, sizeOf xs ≤ n → Val.dats xs = true → PyData.eqvAll (Val.pys xs) (Val.pys xs) = true := by
      intro xs
      induction xs with
      | nil => intro _ _; simp [Val.pys, PyData.eqvAll]
      | cons x xs ihx =>
        intro h1 h2
        simp only [Val.dats, Bool.and_eq_true] at h2
        simp only [List.cons.sizeOf_spec] at h1
        rw [Val.pys, PyData.eqvAll, ih x (by omega) h2.1, ihx (by omega) h2.2]
        rfl
    cases v with
    | tup xs =>
      simp only [Val.tup.sizeOf_spec] at h
      rw [Val.py, PyData.eqv]
      exact key xs (by omega) (by simpa [Val.dat] using hd)
    | lst xs => simp [Val.dat] at hd
    | ref a => simp [Val.dat] at hd
    | int i => rw [Val.py, eqv_int]; simp
    | non => simp [Val.py, PyData.eqv]
    | bl b => simp [Val.py, PyData.eqv]
    | str x => simp [Val.py, PyData.eqv]
theorem veq_refl {v : Val} (h : v.dat = true) : v.veq v = true := veqs_refl_aux _ v (Nat.le_refl _) h
theorem dats_map {α : Type} (f : α → Val) (h : ∀ x, (f x).dat = true) (xs : List α) : Val.dats (xs.map f) = true := by
  induction xs with
  | nil => rfl
  | cons x xs ih => simp [Val.dats, h, ih]
theorem deps_map {α : Type} (f : α → Val) (n : Nat) (h : ∀ x, (f x).dep ≤ n) (xs : List α) : Val.deps (xs.map f) ≤ n := by
  induction xs with
  | nil => simp [Val.deps]
  | cons x xs ih =>
    have := h x
    simp [Val.deps]
    omega
theorem kns_map {α : Type} (S : Sto) (f : α → Val) (h : ∀ x, kn S (f x) = true) (xs : List α) : kns S (xs.map f) = true := by
  induction xs with
  | nil => rfl
  | cons x xs ih => simp [kns, h, ih]
theorem row_dat (R : Row) : R.val.dat = true := by
  simp [Row.val, Val.dat, Val.dats, dats_map, natV]
theorem row_dep (R : Row) : R.val.dep ≤ 3 := by
  have h1 := deps_map natV 0 (fun x => by simp [natV, Val.dep]) R.signs
  have h2 := deps_map (fun s : List Nat => Val.tup (s.map natV)) 1 (fun s => by
    have := deps_map natV 0 (fun x => by simp [natV, Val.dep]) s
    simp only [Val.dep]
    omega) R.steps
  simp only [Row.val, Val.dep, Val.deps]
  omega
theorem row_kn (S : Sto) (R : Row) : kn S R.val = true := by
  simp [Row.val, kn, kns, kns_map, natV]
theorem isRow_val {R : Row} {b : Nat} (hb : 2 ≤ b) (o : R.Ok b) : isRow R.val b = true := by
  have h1 := o.pos
  have h2 := o.most
  have e1 : ((R.steps.map fun s => Val.tup (s.map natV)).all fun v => isState v b R.steps.length) = true := by
    rw [List.all_map, List.all_eq_true]
    intro s hs
    show isState (.tup (s.map natV)) b R.steps.length = true
    simp only [isState, List.length_map, o.wide s hs, decide_true, Bool.true_and, List.all_map, List.all_eq_true]
    intro t ht
    have := o.to s hs t ht
    show betw (natV t) 0 _ = true
    simp [betw_nat]
    omega
  have e2 : ((R.signs.map natV).all fun v => betw v 0 2) = true := by
    rw [List.all_map, List.all_eq_true]
    intro x hx
    have := o.two x hx
    show betw (natV x) 0 2 = true
    simp [betw_nat]
    omega
  have e3 : signsOk (R.steps.map fun s => Val.tup (s.map natV)) (R.signs.map natV) R.steps.length = true := by
    unfold signsOk
    rw [List.all_eq_true]
    intro k hk
    have hk : k < R.steps.length := List.mem_range.mp hk
    have hw := o.wide _ (List.getElem_mem hk)
    have hs := o.same k hk
    have ht := o.to _ (List.getElem_mem hk)
    have e4 : (R.steps.map fun s => Val.tup (s.map natV))[k]? = some (.tup (R.steps[k].map natV)) := by rw [List.getElem?_map, List.getElem?_eq_getElem hk]; rfl
    generalize R.steps[k] = s at hw hs ht e4
    cases s with
    | nil => simp at hw; omega
    | cons t ts =>
      have e5 := hs t rfl
      have hk2 : k < R.signs.length := by rw [o.sg]; exact hk
      have e6 : R.signs[k]? = some R.signs[k] := List.getElem?_eq_getElem hk2
      rw [e6] at e5
      unfold signAt
      rw [e4]
      simp only [List.getElem?_map, e6, List.map_cons, natV, Option.map_some, Int.toNat_natCast, e5]
      exact veq_refl rfl
  have e1' : (R.steps.all fun s => isState (.tup (s.map natV)) b R.steps.length) = true := by
    rw [List.all_map] at e1
    exact e1
  simp only [Row.val, isRow, List.length_map, o.sg, decide_true, Bool.true_and, e2, e3, Bool.and_true, List.all_map]
  rw [Bool.and_eq_true]
  refine ⟨decide_eq_true ⟨h1, h2⟩, ?_⟩
  exact e1'
theorem rowOf_val (R : Row) : rowOf R.val = R := by
  obtain ⟨st, sg⟩ := R
  simp only [rowOf, Row.val, List.map_map, natsV_map]
  congr
  conv => rhs; rw [← List.map_id st]
  refine List.map_congr_left fun s _ => ?_
  simp [natsV_map]
/-- a hall of rows -/
def hallV (b : Nat) (Rs : List Row) : Val := .tup [.int b, .tup (Rs.map Row.val)]
theorem hall_dat (b : Nat) (Rs : List Row) : (hallV b Rs).dat = true := by
  simp [hallV, Val.dat, Val.dats, dats_map, row_dat]
theorem hall_dep (b : Nat) (Rs : List Row) : (hallV b Rs).dep ≤ 5 := by
  have := deps_map Row.val 3 row_dep Rs
  simp only [hallV, Val.dep, Val.deps]
  omega
theorem hall_kn (S : Sto) (b : Nat) (Rs : List Row) : kn S (hallV b Rs) = true := by
  simp [hallV, kn, kns, kns_map, row_kn]
theorem isHall_val {b : Nat} {Rs : List Row} (hb : 2 ≤ b ∧ b ≤ 3) (hl : Rs.length ≤ 3) (h : ∀ R ∈ Rs, R.Ok b) : isHall (hallV b Rs) = true := by
  have e : betw (.int b) 2 3 = true := by simp [betw]; omega
  simp only [hallV, isHall, e, Bool.true_and, List.length_map, decide_eq_true hl, List.all_map, List.all_eq_true]
  exact fun R hR => isRow_val hb.1 (h R hR)
theorem digs_len {b : Nat} (hb : 2 ≤ b) : ∀ (k n : Nat), n < 2 ^ k → (digs b n).length ≤ k
  | 0, n, h => by
    have : n = 0 := by simpa using h
    subst this
    rw [digs_zero]
    simp
  | k + 1, n, h => by
    by_cases hn : 0 < n
    · rw [digs_pos hb hn, List.length_cons]
      have : n / b < 2 ^ k := by
        rw [Nat.div_lt_iff_lt_mul (by omega)]
        have : 2 ^ k * 2 ≤ 2 ^ k * b := Nat.mul_le_mul_left _ hb
        rw [Nat.pow_succ] at h
        omega
      have := digs_len hb k (n / b) this
      omega
    · have : n = 0 := by omega
      subst this
      rw [digs_zero]
      simp
end DL

set_option autoImplicit true
set_option Elab.async false
set_option linter.all false
set_option maxRecDepth 100000
set_option maxHeartbeats 4000000
/-! Own layer, plain part 8: numbered. -/
namespace DL
open PySem
def n_numbered : List Str := ["keys", "known", "made", "key"]
def b_numbered : Sms :=
  (.cons (.asg 1 .dict0)
  (.cons (.asg 2 (.lst .nil))
  (.cons (.for (.one 3) (.val (.var 0))
    (.cons (.expr (.meth (.var 2) .append (.cons (.meth (.var 1) .setdefault (.cons (.var 3) (.cons (.blt .len (.cons (.var 1) .nil)) .nil))) .nil)))
      .nil))
  (.cons (.ret (.tup (.cons (.var 2) (.cons (.blt .len (.cons (.var 1) .nil)) .nil))))
  .nil))))

/-- where a key stands among those that were met -/
def place (k : NestedKey) : List NestedKey → Nat
  | [] => 0
  | a :: r => if a = k then 0 else place k r + 1
def meet (seen : List NestedKey) (k : NestedKey) : List NestedKey := if k ∈ seen then seen else seen ++ [k]
/-- each key's number, in order of the first ones -/
def numb : List NestedKey → List NestedKey → List Nat
  | _, [] => []
  | seen, k :: ks => place k seen :: numb (meet seen k) ks
def seenAll : List NestedKey → List NestedKey → List NestedKey
  | seen, [] => seen
  | seen, k :: ks => seenAll (meet seen k) ks
/-- the dict of those that were met -/
def dctN : Nat → List Val → List (Val × Val)
  | _, [] => []
  | n, k :: ks => (k, natV n) :: dctN (n + 1) ks
theorem place_lt {k : NestedKey} : ∀ {seen : List NestedKey}, k ∈ seen → place k seen < seen.length
  | a :: r, h => by
    unfold place
    split
    · simp
    · rename_i e
      rcases List.mem_cons.mp h with z | z
      · exact absurd z.symm e
      · have := place_lt z
        simp
        omega
theorem place_out {k : NestedKey} : ∀ {seen : List NestedKey}, k ∉ seen → place k seen = seen.length
  | [], _ => rfl
  | a :: r, h => by
    unfold place
    rw [if_neg fun e => h (by rw [e]; simp), place_out fun z => h (by simp [z])]
    rfl
theorem dget_dctN (k : Val) : ∀ (ks : List Val) (n : Nat), dget (dctN n ks) k = if k.nk ∈ ks.map Val.nk then some (natV (n + place k.nk (ks.map Val.nk))) else none
  | [], n => rfl
  | a :: r, n => by
    unfold dctN dget
    by_cases e : a.nk = k.nk
    · simp [e, place]
    · rw [if_neg e, dget_dctN k r (n + 1)]
      have e2 : ¬ k.nk = a.nk := fun z => e z.symm
      simp only [List.map_cons, List.mem_cons, e2, false_or, place, if_neg e]
      split
      · congr 2
        omega
      · rfl
theorem dput_dctN {k : Val} : ∀ (ks : List Val) (n : Nat), k.nk ∉ ks.map Val.nk → dput (dctN n ks) k (natV (n + ks.length)) = dctN n (ks ++ [k])
  | [], n, _ => rfl
  | a :: r, n, h => by
    have e : ¬ a.nk = k.nk := fun z => h (by simp [z])
    show (if a.nk = k.nk then _ else (a, natV n) :: dput (dctN (n + 1) r) k (natV (n + (r.length + 1)))) = _
    rw [if_neg e, show n + (r.length + 1) = n + 1 + r.length by omega, dput_dctN r (n + 1) fun z => h (by simp at z ⊢; exact .inr z)]
    rfl
theorem dctN_len : ∀ (ks : List Val) (n : Nat), (dctN n ks).length = ks.length
  | [], _ => rfl
  | a :: r, n => by simp [dctN, dctN_len r]
/-- what is numbered, and the kind of its keys -/
def sp_numbered : Spec := fun vs S Q _ => match vs with
  | [v] => ∃ (ks : List Val) (grd : Sto → Prop) (c : Nat), seqOf v S = some (ks, grd) ∧ (∀ k ∈ ks, modKey k = true ∧ kcl k = c) ∧ ks.length < line ∧
      ∀ p, S p = none → Q (.tup [.ref p, .int ((seenAll [] (ks.map Val.nk)).length : Nat)]) (up S p (.lst ((numb [] (ks.map Val.nk)).map natV)))
  | _ => False
theorem iter_seq {v : Val} {S S' : Sto} {ks : List Val} {grd : Sto → Prop} (h : seqOf v S = some (ks, grd)) (le : Sto.le S S') : iterOf v S' = some (ks, grd) ∧ ∀ S2, Sto.le S S2 → grd S2 := by
  unfold seqOf at h
  split at h
  · cases h
    exact ⟨rfl, fun _ _ => trivial⟩
  · rename_i a
    split at h
    · rename_i xs e
      cases h
      exact ⟨by simp only [iterOf, le _ _ e], fun S2 l => l _ _ e⟩
    · cases h
  · cases h
theorem kind_dctN {known : List Val} {x : Val} {c : Nat} (h : ∀ k ∈ known, kcl k = c) (hx : modKey x = true ∧ kcl x = c) : kindOk (dctN 0 known) x = true := by
  unfold kindOk
  rw [hx.1, Bool.true_and]
  cases known with
  | nil => rfl
  | cons a r =>
    show (kcl a == kcl x) = true
    rw [h a (by simp), hx.2]
    simp
theorem w_numbered {G : Cfg} : Wk G sp_numbered n_numbered b_numbered := by
  intro args S Q E h
  unfold sp_numbered at h
  split at h <;> first | contradiction | skip
  rename_i v
  obtain ⟨ks, grd, c, hq, hk, hl, h2⟩ := h
  unfold b_numbered
  refine step fun K hK => ?_
  simp only [n_numbered, wSs, wS, wE, wEs, wO, wI, wC, wIf, wBin, wSub, startE_cons, startE_nil, List.replicate, getV_0, getV_s, withO_s, withB_b, bind_one, bind_two, List.set_cons_zero, List.set_cons_succ, wipeE, Nat.zero_add, atI_0, atI_1, atI_2, atI_3, see_int, see_bl, see_str, see_non, dep_int, dep_bl, dep_str, dep_non, Nat.zero_min, Nat.min_zero, Nat.zero_le, true_imp_iff, false_imp_iff, Bool.not_false, Bool.not_true, reduceCtorEq, and_true, true_and, List.length_cons, List.length_nil]
  intro p1 t1 n1
  refine hK _ _ (step fun K2 hK2 => ?_)
  simp only [wSs, wS, wE, wEs, wO, wI, wC, wIf, wBin, wSub, startE_cons, startE_nil, List.replicate, getV_0, getV_s, withO_s, withB_b, bind_one, bind_two, List.set_cons_zero, List.set_cons_succ, wipeE, Nat.zero_add, atI_0, atI_1, atI_2, atI_3, see_int, see_bl, see_str, see_non, dep_int, dep_bl, dep_str, dep_non, Nat.zero_min, Nat.min_zero, Nat.zero_le, true_imp_iff, false_imp_iff, Bool.not_false, Bool.not_true, reduceCtorEq, and_true, true_and, List.length_cons, List.length_nil]
  intro p2 n2
  have le2 : Sto.le S (up (up S p1 (.dct [] t1)) p2 (.lst [])) := le_new (up_le n1) n2
  have k1 := get_up (o2 := .lst []) (DL.up_same (S := S) (a := p1) (o := .dct [] t1)) n2
  have k2 : (up (up S p1 (.dct [] t1)) p2 (.lst [])) p2 = some (.lst []) := DL.up_same
  have np : p1 ≠ p2 := ne_new (DL.up_same (S := S) (a := p1) (o := .dct [] t1)) n2
  have nS2 : S p2 = none := le_off (up_le n1) n2
  generalize up (up S p1 (.dct [] t1)) p2 (.lst []) = S2 at le2 k1 k2
  refine hK2 _ _ (step fun K3 hK3 => for_step fun B hB => ?_)
  obtain ⟨it, hg⟩ := iter_seq hq le2
  simp only [wSs, wS, wE, wEs, wO, wI, wC, wIf, wBin, wSub, startE_cons, startE_nil, List.replicate, getV_0, getV_s, withO_s, withB_b, bind_one, bind_two, List.set_cons_zero, List.set_cons_succ, wipeE, Nat.zero_add, atI_0, atI_1, atI_2, atI_3, see_int, see_bl, see_str, see_non, dep_int, dep_bl, dep_str, dep_non, Nat.zero_min, Nat.min_zero, Nat.zero_le, true_imp_iff, false_imp_iff, Bool.not_false, Bool.not_true, reduceCtorEq, and_true, true_and, List.length_cons, List.length_nil, it]
  refine for_inv (fun rest e S' => ∃ (known : List Val) (made : List Nat) (t : Nat) (v3 : Option Val), Sto.le S S' ∧ S' p1 = some (.dct (dctN 0 known) t) ∧ S' p2 = some (.lst (made.map natV)) ∧ (∀ k ∈ known, kcl k = c) ∧ (∀ k ∈ rest, modKey k = true ∧ kcl k = c) ∧
      made ++ numb (known.map Val.nk) (rest.map Val.nk) = numb [] (ks.map Val.nk) ∧ seenAll (known.map Val.nk) (rest.map Val.nk) = seenAll [] (ks.map Val.nk) ∧ known.length + rest.length ≤ ks.length ∧ made.length + rest.length = ks.length ∧
      e = [some v, some (.ref p1), some (.ref p2), v3]) ?_ ?_ _ _ _ ⟨[], [], t1, none, le2, k1, k2, by simp, hk, rfl, rfl, by simp, by simp, rfl⟩
  · rintro x rest e S' ⟨known, made, t, v3, le, e1, e2, hkn, hr, hm, hs, hl1, hl2, rfl⟩
    refine ⟨hg _ le, ?_⟩
    simp only [bind_one, bind_two, withO_s, List.set_cons_zero, List.set_cons_succ]
    intro k hk'
    refine hB _ _ _ (step fun K4 hK4 => ?_)
    have hx := hr x (by simp)
    have hkd := kind_dctN hkn hx
    have hgt := dget_dctN x known 0
    have np' : p2 ≠ p1 := Ne.symm np
    simp only [List.length_cons] at hl1 hl2
    simp only [wSs, wS, wE, wEs, wO, wI, wC, wIf, wBin, wSub, startE_cons, startE_nil, List.replicate, getV_0, getV_s, withO_s, withB_b, bind_one, bind_two, List.set_cons_zero, List.set_cons_succ, wipeE, Nat.zero_add, atI_0, atI_1, atI_2, atI_3, see_int, see_bl, see_str, see_non, dep_int, dep_bl, dep_str, dep_non, Nat.zero_min, Nat.min_zero, Nat.zero_le, true_imp_iff, false_imp_iff, Bool.not_false, Bool.not_true, reduceCtorEq, and_true, true_and, List.length_cons, List.length_nil, recv, e2, e1, wBt, wMt, hkd, dctN_len, hgt]
    refine ⟨by omega, ?_⟩
    by_cases hin : x.nk ∈ known.map Val.nk
    · rw [if_pos hin]
      intro t2
      simp only [up_get np', e2]
      refine ⟨by simp; omega, hK4 _ _ ?_⟩
      simp only [wSs, wS, wE, wEs, wO, wI, wC, wIf, wBin, wSub, startE_cons, startE_nil, List.replicate, getV_0, getV_s, withO_s, withB_b, bind_one, bind_two, List.set_cons_zero, List.set_cons_succ, wipeE, Nat.zero_add, atI_0, atI_1, atI_2, atI_3, see_int, see_bl, see_str, see_non, dep_int, dep_bl, dep_str, dep_non, Nat.zero_min, Nat.min_zero, Nat.zero_le, true_imp_iff, false_imp_iff, Bool.not_false, Bool.not_true, reduceCtorEq, and_true, true_and, List.length_cons, List.length_nil]
      refine hk' _ _ ⟨known, made ++ [place x.nk (known.map Val.nk)], t2, some x, le_write (le_write le n1) nS2, ?_, ?_, hkn, fun z hz => hr z (by simp [hz]), ?_, ?_, by omega, by simp; omega, rfl⟩
      · rw [up_get np, DL.up_same]
      · rw [DL.up_same]
        simp
      · rw [List.map_cons, numb, meet, if_pos hin] at hm
        simpa using hm
      · rw [List.map_cons, seenAll, meet, if_pos hin] at hs
        exact hs
    · rw [if_neg hin]
      intro t2
      simp only [up_get np', e2]
      refine ⟨by simp; omega, hK4 _ _ ?_⟩
      simp only [wSs, wS, wE, wEs, wO, wI, wC, wIf, wBin, wSub, startE_cons, startE_nil, List.replicate, getV_0, getV_s, withO_s, withB_b, bind_one, bind_two, List.set_cons_zero, List.set_cons_succ, wipeE, Nat.zero_add, atI_0, atI_1, atI_2, atI_3, see_int, see_bl, see_str, see_non, dep_int, dep_bl, dep_str, dep_non, Nat.zero_min, Nat.min_zero, Nat.zero_le, true_imp_iff, false_imp_iff, Bool.not_false, Bool.not_true, reduceCtorEq, and_true, true_and, List.length_cons, List.length_nil]
      have hpl := place_out hin
      rw [List.length_map] at hpl
      have hput := dput_dctN known 0 hin
      rw [Nat.zero_add] at hput
      refine hk' _ _ ⟨known ++ [x], made ++ [known.length], t2, some x, le_write (le_write le n1) nS2, ?_, ?_, fun z hz => ?_, fun z hz => hr z (by simp [hz]), ?_, ?_, by simp; omega, by simp; omega, rfl⟩
      · rw [up_get np, DL.up_same]
        have := hput
        unfold natV at this
        rw [this]
      · rw [DL.up_same]
        simp [natV]
      · rcases List.mem_append.mp hz with q | q
        · exact hkn z q
        · simp at q
          rw [q]
          exact hx.2
      · rw [List.map_cons, numb, meet, if_neg hin, hpl] at hm
        simpa using hm
      · rw [List.map_cons, seenAll, meet, if_neg hin] at hs
        simpa using hs
  · rintro e S' ⟨known, made, t, v3, le, e1, e2, hkn, hr, hm, hs, hl1, hl2, rfl⟩
    refine ⟨hg _ le, hK3 _ _ ?_⟩
    simp only [wSs, wS, wE, wEs, wO, wI, wC, wIf, wBin, wSub, startE_cons, startE_nil, List.replicate, getV_0, getV_s, withO_s, withB_b, bind_one, bind_two, List.set_cons_zero, List.set_cons_succ, wipeE, Nat.zero_add, atI_0, atI_1, atI_2, atI_3, see_int, see_bl, see_str, see_non, dep_int, dep_bl, dep_str, dep_non, Nat.zero_min, Nat.min_zero, Nat.zero_le, true_imp_iff, false_imp_iff, Bool.not_false, Bool.not_true, reduceCtorEq, and_true, true_and, List.length_cons, List.length_nil, wBt, e1, dctN_len]
    have e3 : made = numb [] (ks.map Val.nk) := by simpa [numb] using hm
    have e4 : known.length = (seenAll [] (ks.map Val.nk)).length := by
      rw [← hs]
      simp [seenAll]
    have := h2 p2 nS2
    rw [← e3, ← e4] at this
    refine ⟨up S p2 (.lst (made.map natV)), fun a o ha => ?_, this⟩
    by_cases z : a = p2
    · rw [z, DL.up_same] at ha
      cases ha
      rw [z]
      exact e2
    · rw [up_get z] at ha
      exact le _ _ ha
end DL

set_option autoImplicit true
set_option Elab.async false
set_option linter.all false
set_option maxRecDepth 100000
set_option maxHeartbeats 4000000
/-! Own layer, plain part 9: what numbering keeps. -/
namespace DL
open PySem
theorem place_app {k : NestedKey} : ∀ {l m : List NestedKey}, k ∈ l → place k (l ++ m) = place k l
  | a :: r, m, h => by
    show place k (a :: (r ++ m)) = _
    unfold place
    by_cases e : a = k
    · rw [if_pos e, if_pos e]
    · rw [if_neg e, if_neg e, place_app (by
        rcases List.mem_cons.mp h with z | z
        · exact absurd z.symm e
        · exact z)]
theorem place_inj {k j : NestedKey} : ∀ {l : List NestedKey}, k ∈ l → j ∈ l → place k l = place j l → k = j
  | a :: r, h, h2, e => by
    unfold place at e
    by_cases e1 : a = k
    · by_cases e2 : a = j
      · rw [← e1, e2]
      · rw [if_pos e1, if_neg e2] at e
        omega
    · by_cases e2 : a = j
      · rw [if_neg e1, if_pos e2] at e
        omega
      · rw [if_neg e1, if_neg e2] at e
        refine place_inj (l := r) ?_ ?_ (by omega)
        · rcases List.mem_cons.mp h with z | z
          · exact absurd z.symm e1
          · exact z
        · rcases List.mem_cons.mp h2 with z | z
          · exact absurd z.symm e2
          · exact z
theorem meet_ext (seen : List NestedKey) (k : NestedKey) : ∃ m, meet seen k = seen ++ m := by
  unfold meet
  split
  · exact ⟨[], by simp⟩
  · exact ⟨[k], rfl⟩
theorem meet_mem (seen : List NestedKey) (k : NestedKey) : k ∈ meet seen k := by
  unfold meet
  split
  · assumption
  · simp
theorem seenAll_ext : ∀ (ks seen : List NestedKey), ∃ m, seenAll seen ks = seen ++ m
  | [], seen => ⟨[], by simp [seenAll]⟩
  | k :: ks, seen => by
    obtain ⟨m, e⟩ := meet_ext seen k
    obtain ⟨m2, e2⟩ := seenAll_ext ks (meet seen k)
    exact ⟨m ++ m2, by rw [seenAll, e2, e, List.append_assoc]⟩
theorem seenAll_mem : ∀ (ks seen : List NestedKey) (k : NestedKey), k ∈ seenAll seen ks ↔ k ∈ seen ∨ k ∈ ks
  | [], seen, k => by simp [seenAll]
  | a :: ks, seen, k => by
    rw [seenAll, seenAll_mem ks (meet seen a) k, List.mem_cons]
    have : k ∈ meet seen a ↔ k ∈ seen ∨ k = a := by
      unfold meet
      split
      · rename_i h
        constructor
        · exact .inl
        · rintro (z | z)
          · exact z
          · rw [z]; exact h
      · simp
    rw [this]
    constructor
    · rintro ((z | z) | z)
      · exact .inl z
      · exact .inr (.inl z)
      · exact .inr (.inr z)
    · rintro (z | z | z)
      · exact .inl (.inl z)
      · exact .inl (.inr z)
      · exact .inr z
theorem seenAll_nodup : ∀ (ks seen : List NestedKey), seen.Nodup → (seenAll seen ks).Nodup
  | [], _, h => h
  | a :: ks, seen, h => by
    rw [seenAll]
    refine seenAll_nodup ks _ ?_
    unfold meet
    split
    · exact h
    · rename_i z
      rw [List.nodup_append]
      refine ⟨h, by simp, fun x hx y hy e => ?_⟩
      simp at hy
      subst hy
      exact z (e ▸ hx)
theorem seenAll_len : ∀ (ks seen : List NestedKey), (seenAll seen ks).length ≤ seen.length + ks.length
  | [], seen => by simp [seenAll]
  | a :: ks, seen => by
    have := seenAll_len ks (meet seen a)
    have h2 : (meet seen a).length ≤ seen.length + 1 := by
      unfold meet
      split <;> simp
    rw [seenAll]
    simp
    omega
/-- a key's number is its place among all that are met -/
theorem numb_eq : ∀ (ks seen : List NestedKey), numb seen ks = ks.map fun k => place k (seenAll seen ks)
  | [], _ => rfl
  | k :: ks, seen => by
    rw [numb, List.map_cons, numb_eq ks (meet seen k), seenAll]
    congr 1
    obtain ⟨m, e⟩ := seenAll_ext ks (meet seen k)
    rw [e, place_app (meet_mem seen k)]
    by_cases h : k ∈ seen
    · rw [meet, if_pos h]
    · rw [meet, if_neg h, place_out h]
      have : ∀ l : List NestedKey, k ∉ l → place k (l ++ [k]) = l.length := by
        intro l
        induction l with
        | nil => intro _; simp [place]
        | cons a r ih =>
          intro hn
          show place k (a :: (r ++ [k])) = _
          unfold place
          rw [if_neg fun z => hn (by simp [z]), ih fun z => hn (by simp [z])]
          simp
      exact (this seen h).symm
/-- the numbers of a row of keys -/
def cls (ks : List NestedKey) : List Nat := numb [] ks
def cnt (ks : List NestedKey) : Nat := (seenAll [] ks).length
theorem cls_len (ks : List NestedKey) : (cls ks).length = ks.length := by rw [cls, numb_eq, List.length_map]
theorem cls_get {ks : List NestedKey} {i : Nat} (h : i < ks.length) : (cls ks)[i]? = some (place ks[i] (seenAll [] ks)) := by
  rw [cls, numb_eq, List.getElem?_map, List.getElem?_eq_getElem h]
  rfl
theorem cls_lt {ks : List NestedKey} {c : Nat} (h : c ∈ cls ks) : c < cnt ks := by
  rw [cls, numb_eq] at h
  obtain ⟨k, hk, rfl⟩ := List.mem_map.mp h
  exact place_lt ((seenAll_mem ks [] k).mpr (.inr hk))
theorem cls_same {ks : List NestedKey} {i j : Nat} (hi : i < ks.length) (hj : j < ks.length) : (cls ks)[i]? = (cls ks)[j]? ↔ ks[i] = ks[j] := by
  rw [cls_get hi, cls_get hj]
  constructor
  · intro e
    exact place_inj ((seenAll_mem ks [] _).mpr (.inr (List.getElem_mem hi))) ((seenAll_mem ks [] _).mpr (.inr (List.getElem_mem hj))) (Option.some.inj e)
  · intro e
    rw [e]
theorem cnt_le (ks : List NestedKey) : cnt ks ≤ ks.length := by
  have := seenAll_len ks []
  simpa [cnt] using this
end DL

set_option autoImplicit true
set_option Elab.async false
set_option linter.all false
set_option maxRecDepth 100000
set_option maxHeartbeats 4000000
/-! Own layer, plain part 10: classes made finer. -/
namespace DL
open PySem
theorem meet_len (s : List NestedKey) (k : NestedKey) : (meet s k).length ≤ s.length + 1 := by
  unfold meet
  split <;> simp
theorem cnt_mono : ∀ (ps : List (NestedKey × NestedKey)) (s1 s2 : List NestedKey), s1.length ≤ s2.length → (∀ p ∈ ps, p.2 ∈ s2 → p.1 ∈ s1) → (∀ p ∈ ps, ∀ q ∈ ps, p.2 = q.2 → p.1 = q.1) →
    (seenAll s1 (ps.map (·.1))).length ≤ (seenAll s2 (ps.map (·.2))).length
  | [], s1, s2, h, _, _ => h
  | p :: ps, s1, s2, h, h1, h2 => by
    simp only [List.map_cons, seenAll]
    refine cnt_mono ps _ _ ?_ (fun q hq hm => ?_) fun q hq r hr => h2 q (by simp [hq]) r (by simp [hr])
    · by_cases e : p.2 ∈ s2
      · have := h1 p (by simp) e
        rw [meet, if_pos this, meet, if_pos e]
        exact h
      · have := meet_len s1 p.1
        rw [show (meet s2 p.2).length = s2.length + 1 by rw [meet, if_neg e]; simp]
        omega
    · by_cases e : q.2 ∈ s2
      · obtain ⟨m, em⟩ := meet_ext s1 p.1
        rw [em]
        exact List.mem_append_left _ (h1 q (by simp [hq]) e)
      · have : q.2 = p.2 := by
          unfold meet at hm
          split at hm
          · exact absurd hm e
          · rcases List.mem_append.mp hm with z | z
            · exact absurd z e
            · simpa using z
        rw [h2 q (by simp [hq]) p (by simp) this]
        exact meet_mem _ _
/-- finer keys: as many classes or more -/
theorem cnt_finer {ks js : List NestedKey} (hl : ks.length = js.length) (h : ∀ i (hi : i < ks.length) j (hj : j < ks.length), js[i]'(by omega) = js[j]'(by omega) → ks[i] = ks[j]) : cnt ks ≤ cnt js := by
  have e1 : (ks.zip js).map (·.1) = ks := List.map_fst_zip (by omega)
  have e2 : (ks.zip js).map (·.2) = js := List.map_snd_zip (by omega)
  have := cnt_mono (ks.zip js) [] [] (Nat.le_refl _) (fun _ _ z => by simp at z) fun p hp q hq e => by
    obtain ⟨i, hi, ep⟩ := List.getElem_of_mem hp
    obtain ⟨j, hj, eq⟩ := List.getElem_of_mem hq
    rw [← ep, ← eq] at e ⊢
    simp only [List.getElem_zip] at e ⊢
    simp at hi hj
    exact h i (by omega) j (by omega) e
  rw [e1, e2] at this
  exact this
theorem cnt_gap (d : Nat) : ∀ (ps : List (NestedKey × NestedKey)) (s1 s2 : List NestedKey), s1.length + d ≤ s2.length → (∀ p ∈ ps, p.2 ∈ s2 → p.1 ∈ s1) → (∀ p ∈ ps, ∀ q ∈ ps, p.2 = q.2 → p.1 = q.1) →
    (seenAll s1 (ps.map (·.1))).length + d ≤ (seenAll s2 (ps.map (·.2))).length
  | [], s1, s2, h, _, _ => h
  | p :: ps, s1, s2, h, h1, h2 => by
    simp only [List.map_cons, seenAll]
    refine cnt_gap d ps _ _ ?_ (fun q hq hm => ?_) fun q hq r hr => h2 q (by simp [hq]) r (by simp [hr])
    · by_cases e : p.2 ∈ s2
      · have := h1 p (by simp) e
        rw [meet, if_pos this, meet, if_pos e]
        exact h
      · have := meet_len s1 p.1
        rw [show (meet s2 p.2).length = s2.length + 1 by rw [meet, if_neg e]; simp]
        omega
    · by_cases e : q.2 ∈ s2
      · obtain ⟨m, em⟩ := meet_ext s1 p.1
        rw [em]
        exact List.mem_append_left _ (h1 q (by simp [hq]) e)
      · have : q.2 = p.2 := by
          unfold meet at hm
          split at hm
          · exact absurd hm e
          · rcases List.mem_append.mp hm with z | z
            · exact absurd z e
            · simpa using z
        rw [h2 q (by simp [hq]) p (by simp) this]
        exact meet_mem _ _
/-- as many classes: the same classes -/
theorem cnt_tight : ∀ (ps P : List (NestedKey × NestedKey)), (∀ p ∈ ps ++ P, ∀ q ∈ ps ++ P, p.2 = q.2 → p.1 = q.1) → (P.map (·.1)).Nodup → (seenAll (P.map (·.1)) (ps.map (·.1))).length = (seenAll (P.map (·.2)) (ps.map (·.2))).length →
    ∃ R : List (NestedKey × NestedKey), (R.map (·.1)).Nodup ∧ (∀ p ∈ R, p ∈ ps ++ P) ∧ seenAll (P.map (·.2)) (ps.map (·.2)) = R.map (·.2)
  | [], P, _, nd, _ => ⟨P, nd, fun p hp => by simpa using hp, rfl⟩
  | p :: ps, P, h, nd, hl => by
    simp only [List.map_cons, seenAll] at hl ⊢
    have sub : ∀ q, q ∈ ps ++ P → q ∈ p :: ps ++ P := fun q hq => by simp at hq ⊢; rcases hq with z | z <;> simp [z]
    have h' : ∀ q ∈ ps ++ P, ∀ r ∈ ps ++ P, q.2 = r.2 → q.1 = r.1 := fun q hq r hr => h q (sub q hq) r (sub r hr)
    by_cases e2 : p.2 ∈ P.map (·.2)
    · obtain ⟨q, hq, eq⟩ := List.mem_map.mp e2
      have e1 : p.1 ∈ P.map (·.1) := List.mem_map.mpr ⟨q, hq, h q (by simp [hq]) p (by simp) eq⟩
      rw [meet, if_pos e1, meet, if_pos e2] at hl
      obtain ⟨R, r1, r2, r3⟩ := cnt_tight ps P h' nd hl
      exact ⟨R, r1, fun q hq => sub q (r2 q hq), by rw [meet, if_pos e2]; exact r3⟩
    · by_cases e1 : p.1 ∈ P.map (·.1)
      · exfalso
        have := cnt_gap 1 ps (meet (P.map (·.1)) p.1) (meet (P.map (·.2)) p.2) (by rw [meet, if_pos e1, meet, if_neg e2]; simp) (fun q hq hm => ?_) fun q hq r hr => h q (by simp [hq]) r (by simp [hr])
        · omega
        · rw [meet, if_neg e2] at hm
          rcases List.mem_append.mp hm with z | z
          · obtain ⟨r, hr, er⟩ := List.mem_map.mp z
            rw [meet, if_pos e1, ← h r (by simp [hr]) q (by simp [hq]) er]
            exact List.mem_map.mpr ⟨r, hr, rfl⟩
          · have z : q.2 = p.2 := by simpa using z
            rw [h q (by simp [hq]) p (by simp) z]
            exact meet_mem _ _
      · rw [meet, if_neg e1, meet, if_neg e2] at hl
        have m1 : P.map (·.1) ++ [p.1] = (P ++ [p]).map (·.1) := by simp
        have m2 : P.map (·.2) ++ [p.2] = (P ++ [p]).map (·.2) := by simp
        rw [m1, m2] at hl
        have sub2 : ∀ q, q ∈ ps ++ (P ++ [p]) → q ∈ p :: ps ++ P := fun q hq => by simp at hq ⊢; rcases hq with z | z | z <;> simp [z]
        obtain ⟨R, r1, r2, r3⟩ := cnt_tight ps (P ++ [p]) (fun q hq r hr => h q (sub2 q hq) r (sub2 r hr)) (by
          rw [← m1, List.nodup_append]
          refine ⟨nd, by simp, fun x hx y hy e => ?_⟩
          simp at hy
          subst hy
          exact e1 (e ▸ hx)) hl
        refine ⟨R, r1, fun q hq => sub2 q (r2 q hq), ?_⟩
        rw [meet, if_neg e2, m2]
        exact r3
/-- finer keys that make no more classes make the same -/
theorem cls_tight {ks js : List NestedKey} (hl : ks.length = js.length) (h : ∀ i (hi : i < ks.length) j (hj : j < ks.length), js[i]'(by omega) = js[j]'(by omega) → ks[i] = ks[j]) (hc : cnt ks = cnt js) {i j : Nat} (hi : i < ks.length) (hj : j < ks.length) (e : ks[i] = ks[j]) : js[i]'(by omega) = js[j]'(by omega) := by
  have e1 : (ks.zip js).map (·.1) = ks := List.map_fst_zip (by omega)
  have e2 : (ks.zip js).map (·.2) = js := List.map_snd_zip (by omega)
  have hp : ∀ p ∈ ks.zip js, ∀ q ∈ ks.zip js, p.2 = q.2 → p.1 = q.1 := fun p hp q hq z => by
    obtain ⟨a, ha, ep⟩ := List.getElem_of_mem hp
    obtain ⟨b, hb, eq⟩ := List.getElem_of_mem hq
    rw [← ep, ← eq] at z ⊢
    simp only [List.getElem_zip] at z ⊢
    simp at ha hb
    exact h a (by omega) b (by omega) z
  obtain ⟨R, r1, r2, r3⟩ := cnt_tight (ks.zip js) [] (by simpa using hp) (by simp) (by rw [e1, e2]; exact hc)
  rw [e2] at r3
  have inR : ∀ a (ha : a < ks.length), (ks[a], js[a]'(by omega)) ∈ R := fun a ha => by
    have m : js[a]'(by omega) ∈ R.map (·.2) := by rw [← r3]; exact (seenAll_mem js _ _).mpr (.inr (List.getElem_mem _))
    obtain ⟨q, hq, eq⟩ := List.mem_map.mp m
    have hz : (ks[a], js[a]'(by omega)) ∈ ks.zip js := by
      have : (ks.zip js)[a]'(by simp; omega) = (ks[a], js[a]'(by omega)) := by simp [List.getElem_zip]
      rw [← this]
      exact List.getElem_mem _
    have := hp q (by simpa using r2 q hq) _ hz eq
    have e3 : q = (ks[a], js[a]'(by omega)) := Prod.ext this eq
    rw [← e3]
    exact hq
  have n1 := inR i hi
  have n2 := inR j hj
  rw [e] at n1
  have uniq : ∀ (R : List (NestedKey × NestedKey)), (R.map (·.1)).Nodup → ∀ a b c, (a, b) ∈ R → (a, c) ∈ R → b = c := by
    intro R
    induction R with
    | nil => intro _ a b c h; simp at h
    | cons p R ih =>
      intro nd a b c hb hc
      rw [List.map_cons, List.nodup_cons] at nd
      rcases List.mem_cons.mp hb with z | z <;> rcases List.mem_cons.mp hc with y | y
      · rw [← y] at z
        exact (Prod.mk.inj z).2
      · exact absurd (List.mem_map.mpr ⟨_, y, by rw [← z]⟩) nd.1
      · exact absurd (List.mem_map.mpr ⟨_, z, by rw [← y]⟩) nd.1
      · exact ih nd.2 a b c z y
  exact uniq R r1 _ _ _ n1 n2
end DL

set_option autoImplicit true
set_option Elab.async false
set_option linter.all false
set_option maxRecDepth 100000
set_option maxHeartbeats 4000000
/-! Own layer, plain part 11: the refining of classes. -/
namespace DL
open PySem
/-- a state's key: its class, and those behind its letters -/
def keyK (st : List (List Nat)) (cl : List Nat) (k : Nat) : Val := .tup [natV (cl.getD k 0), .tup (((st[k]?).getD []).map fun to => natV (cl.getD to 0))]
def keysK (st : List (List Nat)) (cl : List Nat) : List NestedKey := (List.range st.length).map fun k => (keyK st cl k).nk
theorem nks_map (ns : List Nat) : Val.nks (ns.map natV) = ns.map fun (n : Nat) => NestedKey.num (n : Int) := by
  induction ns with
  | nil => rfl
  | cons n ns ih =>
    rw [List.map_cons, Val.nks, ih]
    rfl
theorem num_inj {i j : Nat} (h : (natV i).nk = (natV j).nk) : i = j := by
  simp only [natV, Val.nk, NestedKey.num.injEq] at h
  omega
theorem key_same {st : List (List Nat)} {cl : List Nat} {i j : Nat} (h : (keyK st cl i).nk = (keyK st cl j).nk) : cl.getD i 0 = cl.getD j 0 ∧ ((st[i]?).getD []).map (fun to => cl.getD to 0) = ((st[j]?).getD []).map (fun to => cl.getD to 0) := by
  simp only [keyK, Val.nk, Val.nks, NestedKey.tup.injEq, List.cons.injEq, and_true] at h
  obtain ⟨h1, h2⟩ := h
  refine ⟨num_inj h1, ?_⟩
  have e : ∀ l : List Nat, l.map (fun to => natV (cl.getD to 0)) = (l.map fun to => cl.getD to 0).map natV := fun l => by rw [List.map_map]; rfl
  rw [e, e, nks_map, nks_map] at h2
  have inj : ∀ a b : List Nat, a.map (fun (n : Nat) => NestedKey.num (n : Int)) = b.map (fun (n : Nat) => NestedKey.num (n : Int)) → a = b := by
    intro a
    induction a with
    | nil => intro b z; cases b with
      | nil => rfl
      | cons _ _ => simp at z
    | cons x a ih => intro b z; cases b with
      | nil => simp at z
      | cons y b =>
        simp only [List.map_cons, List.cons.injEq, NestedKey.num.injEq] at z
        rw [ih b z.2]
        congr 1
        omega
  exact inj _ _ h2
/-- where letters lead -/
def runL (st : List (List Nat)) : Nat → List Nat → Nat
  | s, [] => s
  | s, a :: w => runL st ((((st[s]?).getD [])[a]?).getD 0) w
/-- no letters tell two states apart -/
def Same (st : List (List Nat)) (ms : List NestedKey) (i j : Nat) : Prop := ∀ w : List Nat, ms[runL st i w]? = ms[runL st j w]?
/-- steps for each state, all alike long, all to states -/
structure StOk (st : List (List Nat)) (wide : Nat) : Prop where
  wide : ∀ s ∈ st, s.length = wide
  to : ∀ s ∈ st, ∀ t ∈ s, t < st.length
/-- classes on their way: cl numbers keys; finer than the marks; what no letters tell apart is together -/
structure ClsOk (st : List (List Nat)) (ms : List NestedKey) (js : List NestedKey) : Prop where
  len : js.length = st.length
  fine : ∀ i j, i < st.length → j < st.length → js[i]? = js[j]? → ms[i]? = ms[j]?
  coarse : ∀ i j, i < st.length → j < st.length → Same st ms i j → js[i]? = js[j]?
theorem same_step {st : List (List Nat)} {ms : List NestedKey} {i j : Nat} (h : Same st ms i j) (a : Nat) : Same st ms ((((st[i]?).getD [])[a]?).getD 0) ((((st[j]?).getD [])[a]?).getD 0) := fun w => h (a :: w)
theorem clsOk_marks {st : List (List Nat)} {ms : List NestedKey} (hl : ms.length = st.length) : ClsOk st ms ms := ⟨hl, fun _ _ _ _ e => e, fun _ _ _ _ h => h []⟩
theorem getD_cls {js : List NestedKey} {i : Nat} (h : i < js.length) : (cls js).getD i 0 = place js[i] (seenAll [] js) := by
  simp only [List.getD_eq_getElem?_getD, cls_get h, Option.getD_some]
theorem cls_same' {js : List NestedKey} {i j : Nat} (hi : i < js.length) (hj : j < js.length) : (cls js).getD i 0 = (cls js).getD j 0 ↔ js[i]? = js[j]? := by
  rw [getD_cls hi, getD_cls hj, List.getElem?_eq_getElem hi, List.getElem?_eq_getElem hj]
  constructor
  · intro e
    rw [place_inj ((seenAll_mem js [] _).mpr (.inr (List.getElem_mem hi))) ((seenAll_mem js [] _).mpr (.inr (List.getElem_mem hj))) e]
  · intro e
    rw [Option.some.inj e]
theorem keysK_get {st : List (List Nat)} {cl : List Nat} {i : Nat} (h : i < st.length) : (keysK st cl)[i]? = some (keyK st cl i).nk := by
  simp [keysK, h]
theorem clsOk_next {st : List (List Nat)} {ms js : List NestedKey} {wide : Nat} (ok : StOk st wide) (h : ClsOk st ms js) : ClsOk st ms (keysK st (cls js)) where
  len := by simp [keysK]
  fine := fun i j hi hj e => by
    rw [keysK_get hi, keysK_get hj] at e
    have := (key_same (Option.some.inj e)).1
    exact h.fine i j hi hj ((cls_same' (by rw [h.len]; exact hi) (by rw [h.len]; exact hj)).mp this)
  coarse := fun i j hi hj e => by
    rw [keysK_get hi, keysK_get hj]
    congr 1
    have e1 : (cls js).getD i 0 = (cls js).getD j 0 := (cls_same' (by rw [h.len]; exact hi) (by rw [h.len]; exact hj)).mpr (h.coarse i j hi hj e)
    have ei : st[i]? = some st[i] := List.getElem?_eq_getElem hi
    have ej : st[j]? = some st[j] := List.getElem?_eq_getElem hj
    have wi := ok.wide _ (List.getElem_mem hi)
    have wj := ok.wide _ (List.getElem_mem hj)
    have e2 : st[i].map (fun to => natV ((cls js).getD to 0)) = st[j].map (fun to => natV ((cls js).getD to 0)) := by
      refine List.ext_getElem (by simp [wi, wj]) fun a ha hb => ?_
      simp only [List.getElem_map]
      simp at ha hb
      have ti := ok.to _ (List.getElem_mem hi) _ (List.getElem_mem ha)
      have tj := ok.to _ (List.getElem_mem hj) _ (List.getElem_mem hb)
      have s := same_step e a
      simp only [ei, ej, Option.getD_some, List.getElem?_eq_getElem ha, List.getElem?_eq_getElem hb] at s
      have := h.coarse _ _ ti tj s
      rw [(cls_same' (by rw [h.len]; exact ti) (by rw [h.len]; exact tj)).mpr this]
    simp only [keyK, ei, ej, Option.getD_some, e1, e2]
theorem cnt_next {st : List (List Nat)} {ms js : List NestedKey} (h : ClsOk st ms js) : cnt js ≤ cnt (keysK st (cls js)) := by
  refine cnt_finer (by rw [h.len]; simp [keysK]) fun i hi j hj e => ?_
  have e' : (keysK st (cls js))[i]? = (keysK st (cls js))[j]? := by
    rw [List.getElem?_eq_getElem (by simp [keysK]; rw [← h.len]; exact hi), List.getElem?_eq_getElem (by simp [keysK]; rw [← h.len]; exact hj), e]
  rw [keysK_get (by rw [← h.len]; exact hi), keysK_get (by rw [← h.len]; exact hj)] at e'
  have := (cls_same' hi hj).mp (key_same (Option.some.inj e')).1
  rw [List.getElem?_eq_getElem hi, List.getElem?_eq_getElem hj] at this
  exact Option.some.inj this
/-- the classes stay: what is together goes together -/
theorem cls_stable {st : List (List Nat)} {ms js : List NestedKey} {wide : Nat} (ok : StOk st wide) (h : ClsOk st ms js) (hc : cnt js = cnt (keysK st (cls js))) {i j : Nat} (hi : i < st.length) (hj : j < st.length) (e : (keysK st (cls js))[i]? = (keysK st (cls js))[j]?) (a : Nat) (ha : a < wide) :
    (keysK st (cls js))[(((st[i]?).getD [])[a]?).getD 0]? = (keysK st (cls js))[(((st[j]?).getD [])[a]?).getD 0]? := by
  rw [keysK_get hi, keysK_get hj] at e
  have e2 := (key_same (Option.some.inj e)).2
  have ei : st[i]? = some st[i] := List.getElem?_eq_getElem hi
  have ej : st[j]? = some st[j] := List.getElem?_eq_getElem hj
  have wi := ok.wide _ (List.getElem_mem hi)
  have wj := ok.wide _ (List.getElem_mem hj)
  rw [ei, ej] at e2 ⊢
  simp only [Option.getD_some] at e2 ⊢
  have hai : a < st[i].length := by omega
  have haj : a < st[j].length := by omega
  have e3 := congrArg (fun l => l[a]?) e2
  simp only [List.getElem?_map, List.getElem?_eq_getElem hai, List.getElem?_eq_getElem haj, Option.map_some] at e3
  rw [List.getElem?_eq_getElem hai, List.getElem?_eq_getElem haj, Option.getD_some, Option.getD_some]
  have ti := ok.to _ (List.getElem_mem hi) _ (List.getElem_mem hai)
  have tj := ok.to _ (List.getElem_mem hj) _ (List.getElem_mem haj)
  have hl : js.length = (keysK st (cls js)).length := by rw [h.len]; simp [keysK]
  have ti' : st[i][a] < js.length := by rw [h.len]; exact ti
  have tj' : st[j][a] < js.length := by rw [h.len]; exact tj
  have e4 := (cls_same' ti' tj').mp (Option.some.inj e3)
  rw [List.getElem?_eq_getElem ti', List.getElem?_eq_getElem tj'] at e4
  have := cls_tight hl (fun x hx y hy z => ?_) hc ti' tj' (Option.some.inj e4)
  · rw [List.getElem?_eq_getElem (by omega), List.getElem?_eq_getElem (by omega), this]
  · have z' : (keysK st (cls js))[x]? = (keysK st (cls js))[y]? := by rw [List.getElem?_eq_getElem (by omega), List.getElem?_eq_getElem (by omega), z]
    rw [keysK_get (by rw [← h.len]; exact hx), keysK_get (by rw [← h.len]; exact hy)] at z'
    have := (cls_same' hx hy).mp (key_same (Option.some.inj z')).1
    rw [List.getElem?_eq_getElem hx, List.getElem?_eq_getElem hy] at this
    exact Option.some.inj this
end DL

set_option autoImplicit true
set_option Elab.async false
set_option linter.all false
set_option maxRecDepth 100000
set_option maxHeartbeats 4000000
/-! Own layer, pure level, part 1: own lists and dicts by what they hold; the store that nobody changes. -/
namespace DL
open PySem

/-- a value; a list or a dict (o: nobody else has it); a tuple of a new list and a value -/
inductive PV where
  | d (v : Val) | l (o : Bool) (xs : List Val) | m (o : Bool) (kvs : List (Val × Val)) | p (xs : List Val) (v : Val)
abbrev PEnv := List (Option PV)
abbrev PK := PV → Prop
abbrev PSpec := List PV → Sto → PK → (Nat → Prop) → Prop
def isRefV : Val → Bool
  | .ref _ => true
  | .non => false
  | .bl _ => false
  | .int _ => false
  | .str _ => false
  | .tup _ => false
  | .lst _ => false
def PV.bor : PV → PV
  | .l _ xs => .l false xs
  | .m _ kvs => .m false kvs
  | .d v => .d v
  | .p xs v => .p xs v
def PV.isP : PV → Bool
  | .p _ _ => true
  | .l _ _ => false
  | .m _ _ => false
  | .d _ => false
def getP (e : PEnv) (i : Nat) : Option PV := (e[i]?).join
/-- a list's content -/
def lof (S : Sto) : PV → Option (List Val)
  | .l _ xs => some xs
  | .m _ _ => none
  | .p _ _ => none
  | .d v => match v with
    | .ref a => match S a with
      | some (.lst xs) => some xs
      | _ => none
    | _ => none
def dof (S : Sto) : PV → Option (List (Val × Val))
  | .m _ kvs => some kvs
  | .l _ _ => none
  | .p _ _ => none
  | .d v => match v with
    | .ref a => match S a with
      | some (.dct kvs _) => some kvs
      | _ => none
    | _ => none
/-- a plain value -/
def dvl : PV → Option Val
  | .d v => match v with
    | .ref _ => none
    | v => some v
  | _ => none
def ds : List PV → Option (List Val)
  | [] => some []
  | .d v :: r => (ds r).map (v :: ·)
  | _ :: _ => none
def withD : PV → (Val → Prop) → Prop
  | .d v, k => k v
  | _, _ => False
def withPB : PV → (Bool → Prop) → Prop
  | .d (.bl b), k => k b
  | _, _ => False
def withPI : PV → (Int → Prop) → Prop
  | .d (.int b), k => k b
  | _, _ => False
def ArgR1 (S : Sto) (v : Val) : PV → Prop
  | .d x => v = x
  | .l o xs => o = false ∧ ∃ a, v = .ref a ∧ S a = some (.lst xs)
  | .m o kvs => o = false ∧ ∃ a t, v = .ref a ∧ S a = some (.dct kvs t)
  | .p _ _ => False
def ArgR (S : Sto) : List Val → List PV → Prop
  | [], [] => True
  | v :: vs, p :: ps => ArgR1 S v p ∧ ArgR S vs ps
  | _, _ => False
def ResU (Q : KV) (S : Sto) : PV → Prop
  | .d v => Q v S
  | .l _ xs => ∀ p, S p = none → Q (.ref p) (up S p (.lst xs))
  | .m _ kvs => ∀ p t, S p = none → Q (.ref p) (up S p (.dct kvs t))
  | .p xs v => ∀ p, S p = none → Q (.tup [.ref p, v]) (up S p (.lst xs))
/-- a promise of the pure level -/
def up1 (ps : PSpec) : Spec := fun vs S Q E => ∃ (pvs : List PV) (S0 : Sto) (Qp : PK) (Ep : Nat → Prop), Sto.le S0 S ∧ ArgR S vs pvs ∧ ps pvs S0 Qp Ep ∧ (∀ r, Qp r → ResU Q S r) ∧ ∀ x, Ep x → E x S
/-- a def that changes its second argument, a list, and tells a plain value -/
abbrev LSpec := List PV → Sto → (Val → List Val → Prop) → Prop
def upL (ls : LSpec) : Spec := fun vs S Q _ => ∃ (v0 : Val) (b : Addr) (vr : List Val) (r0 : PV) (xs : List Val) (prs : List PV) (S0 : Sto) (Qp : Val → List Val → Prop), vs = v0 :: .ref b :: vr ∧ Sto.le S0 S ∧ S0 b = none ∧ S b = some (.lst xs) ∧ ArgR1 S v0 r0 ∧ ArgR S vr prs ∧
  ls (r0 :: .l false xs :: prs) S0 Qp ∧ ∀ v xs', Qp v xs' → Q v (up S b (.lst xs'))
structure PCfg where
  G : Cfg
  fn : Nat → Option PSpec
  mt : Nat → Str → Option PSpec
  ln : Nat → Option LSpec
  okl : ∀ f ls, ln f = some ls → ∃ sp, G.fn f = some sp ∧ ∀ vs S Q E, upL ls vs S Q E → sp vs S Q E
  okf : ∀ f ps, fn f = some ps → ∃ sp, G.fn f = some sp ∧ ∀ vs S Q E, up1 ps vs S Q E → sp vs S Q E
  okm : ∀ c m ps, mt c m = some ps → ∃ sp, G.mt c m = some sp ∧ ∀ vs S Q E, up1 ps vs S Q E → sp vs S Q E

def pBin (o : Bop) (x y : PV) (S : Sto) (Q : PK) : Prop := match lof S x, lof S y with
  | some xs, some ys => o = .add ∧ xs.length + ys.length ≤ line ∧ Q (.l true (xs ++ ys))
  | some xs, none => withPI y fun k => o = .mul ∧ (0 ≤ k ∧ k < 2 ^ 62 ∧ xs.length * k.toNat ≤ line) ∧ Q (.l true (List.replicate k.toNat xs).flatten)
  | none, _ => withO (dvl x) fun a => withO (dvl y) fun b => wBin o a b S fun v _ => Q (.d v)
def pSee (S : Sto) : PV → Option Val
  | .d v => S.see 3 v
  | .l _ xs => (S.sees 2 xs).map .lst
  | .m _ _ => none
  | .p _ _ => none
def pCmp (o : Cop) (x y : PV) (S : Sto) (Q : PK) : Prop := match o with
  | .eq => withO (pSee S x) fun a => withO (pSee S y) fun b => min a.dep b.dep ≤ 100 ∧ Q (.d (.bl (a.veq b)))
  | .ne => withO (pSee S x) fun a => withO (pSee S y) fun b => min a.dep b.dep ≤ 100 ∧ Q (.d (.bl (!a.veq b)))
  | .isin => withD x fun a => match lof S y with
    | some ys => a.dat = true ∧ a.dep ≤ 100 ∧ withO (S.sees 3 ys) fun zs => Q (.d (.bl (veqAny a zs)))
    | none => match dof S y with
      | some kvs => kindOk kvs a = true ∧ Q (.d (.bl (dget kvs a).isSome))
      | none => withO (dvl y) fun b => wCmp .isin a b S fun v _ => Q (.d v)
  | .notin => withD x fun a => match lof S y with
    | some ys => a.dat = true ∧ a.dep ≤ 100 ∧ withO (S.sees 3 ys) fun zs => Q (.d (.bl (!veqAny a zs)))
    | none => match dof S y with
      | some kvs => kindOk kvs a = true ∧ Q (.d (.bl (dget kvs a).isNone))
      | none => withO (dvl y) fun b => wCmp .notin a b S fun v _ => Q (.d v)
  | o => withO (dvl x) fun a => withO (dvl y) fun b => wCmp o a b S fun v _ => Q (.d v)
def pSub (x y : PV) (S : Sto) (Q : PK) : Prop := withD y fun k => match lof S x with
  | some xs => withPI (.d k) fun i => withO (L2.atI xs i) fun v => Q (.d v)
  | none => match dof S x with
    | some kvs => kindOk kvs k = true ∧ withO (dget kvs k) fun v => Q (.d v)
    | none => withO (dvl x) fun a => wSub a k S fun v _ => Q (.d v)
def pSlice (x : PV) (lo hi : Option Int) (S : Sto) (Q : PK) : Prop := match lof S x with
  | some xs => Q (.l true (cutL xs lo hi))
  | none => withO (dvl x) fun a => wSlice a lo hi S fun v _ => Q (.d v)
def pBtL (b : Bt) (xs : List Val) (S : Sto) (Q : PK) : Prop := match b with
  | .len => Q (.d (.int xs.length))
  | .all => withO (Val.bls xs) fun bs => Q (.d (.bl (bs.all id)))
  | .any => withO (Val.bls xs) fun bs => Q (.d (.bl (bs.any id)))
  | .tuple => Q (.d (.tup xs))
  | .sum => withO (Val.ints xs) fun ns => Q (.d (.int ns.sum))
  | .max1 => withO (Val.ints xs) fun ns => 0 < ns.length ∧ ∀ m, m ∈ ns → (∀ y, y ∈ ns → y ≤ m) → Q (.d (.int m))
  | .min1 => withO (Val.ints xs) fun ns => 0 < ns.length ∧ ∀ m, m ∈ ns → (∀ y, y ∈ ns → m ≤ y) → Q (.d (.int m))
  | .dict => withO (Val.prs xs) fun ps => (ps.map (·.1)).all (kindOk [] ·) = true ∧ (ps.all fun p => isTup p.1) = false ∧ (ps.all fun p => !isTup p.1) = true ∧ Q (.m true (ps.foldl (fun m q => dput m q.1 q.2) []))
  | .sorted => (∃ ns, Val.ints xs = some ns ∧ ∀ ms : List Int, ms.Perm ns → ms.Pairwise (· ≤ ·) → Q (.l true (ms.map .int))) ∨
      (∃ ss, Val.strs xs = some ss ∧ ss.length < 64 ∧ ∀ ms : List Str, ms.Perm ss → PyProof.Rows.sortedS ms = true → Q (.l true (ms.map .str))) ∨
      (∃ nss, Val.itups xs = some nss ∧ (∀ ns ∈ nss, 0 < ns.length) ∧ ∀ mss : List (List Int), mss.Perm nss → mss.Pairwise (fun a b => HT.lexLt b a = false) → Q (.l true (mss.map fun ns => .tup (ns.map .int))))
  | .list => Q (.l true xs)
  | _ => False
def pBt (b : Bt) (rs : List PV) (S : Sto) (Q : PK) : Prop := match rs with
  | [x] => match lof S x with
    | some xs => pBtL b xs S Q
    | none => match dof S x with
      | some kvs => b = .len ∧ Q (.d (.int kvs.length))
      | none => withO (dvl x) fun a => match b, a with
        | .list, .tup xs => Q (.l true xs)
        | b, a => wBt b [a] S fun v _ => Q (.d v)
  | [x, y] => withO (dvl x) fun a => withO (dvl y) fun b' => wBt b [a, b'] S fun v _ => Q (.d v)
  | _ => False
def pMt (m : Mt) (x : PV) (rs : List PV) (S : Sto) (Q : PK) : Prop := match m, rs with
  | .index, [.d v] => withO (lof S x) fun xs => (v.dat && Val.dats xs && decide (v.dep ≤ 60) && decide (Val.deps xs ≤ 60) && v.py.canLay0 && PyData.canLayAll0 (Val.pys xs)) = true ∧ withO (findI (·.veq v) xs 0) fun j => Q (.d (.int j))
  | .get, [.d k, .d v] => withO (dof S x) fun kvs => kindOk kvs k = true ∧ Q (.d ((dget kvs k).getD v))
  | _, _ => False
def pRecv (m : Mt) (x : PV) (S : Sto) : Bool := match m with
  | .get => (dof S x).isSome
  | .index => (lof S x).isSome
  | _ => false
def pIsi (t : Ty) (x : PV) (S : Sto) (Q : PK) : Prop := match x with
  | .d v => tyKnown v S = true ∧ Q (.d (.bl (tyOf t v S)))
  | .l _ _ => Q (.d (.bl (decide (t = .list))))
  | _ => False
def seqP (S : Sto) (x : PV) : Option (List Val) := match x with
  | .l _ xs => some xs
  | .d v => (seqOf v S).map (·.1)
  | _ => none
def iterP (S : Sto) (x : PV) : Option (List Val) := match x with
  | .l _ xs => some xs
  | .m _ kvs => if keysOk kvs then some (kvs.map (·.1)) else none
  | .d v => (iterOf v S).map (·.1)
  | .p _ _ => none
def enP (S : Sto) (x : PV) : Option (List Val) := match x with
  | .l _ xs => some xs
  | .d v => (listOf v S).map (·.1)
  | _ => none
def zipP (S : Sto) (x y : PV) : Option (List Val) := match lof S x, lof S y with
  | some xs, some ys => some (zipL xs ys)
  | none, none => match x, y with
    | .d (.tup xs), .d (.tup ys) => some (zipL xs ys)
    | _, _ => none
  | _, _ => none
def wipeP (e : PEnv) : List Nat → PEnv
  | [] => e
  | i :: r => (wipeP e r).set i none
def bindManyP (e : PEnv) : List Nat → List Val → Option PEnv
  | [], [] => some e
  | i :: r, v :: vs => bindManyP (e.set i (some (.d v))) r vs
  | _, _ => none
def bindP (tg : Tg) (e : PEnv) (v : Val) : Option PEnv := match tg, v with
  | .one i, v => some (e.set i (some (.d v)))
  | .many is, .tup vs => bindManyP e is vs
  | .many _, _ => none
def pTurns (body : Val → (Option Val → Prop) → Prop) (Q : List Val → Prop) : List Val → List Val → Prop
  | [], acc => Q acc
  | x :: xs, acc => body x fun r => pTurns body Q xs (acc ++ r.toList)
def noP : Nat → Prop := fun _ => False
mutual
def pE (g : PCfg) (S : Sto) (E : Nat → Prop) : Ex → PEnv → PK → Prop
  | .var i, e, Q => withO (getP e i) fun r => Q r.bor
  | .glob x, e, Q => withO (g.G.cv x) fun v => Q (.d v)
  | .int i, e, Q => Q (.d (.int i))
  | .bl b, e, Q => Q (.d (.bl b))
  | .non, e, Q => Q (.d .non)
  | .str x, e, Q => Q (.d (.str x))
  | .bin o a b, e, Q => pE g S E a e fun x => pE g S E b e fun y => pBin o x y S Q
  | .neg a, e, Q => pE g S E a e fun x => withPI x fun i => Q (.d (.int (-i)))
  | .not a, e, Q => pE g S E a e fun x => withPB x fun b => Q (.d (.bl (!b)))
  | .cmp o a b, e, Q => pE g S E a e fun x => pE g S E b e fun y => pCmp o x y S Q
  | .isN a, e, Q => pE g S E a e fun x => match x with
    | .d .non => Q (.d (.bl true))
    | _ => Q (.d (.bl false))
  | .notN a, e, Q => pE g S E a e fun x => match x with
    | .d .non => Q (.d (.bl false))
    | _ => Q (.d (.bl true))
  | .chain o p a b c, e, Q => pE g S E a e fun x => pE g S E b e fun y => pCmp o x y S fun z => withPB z fun k =>
      (k = true → pE g S E c e fun u => pCmp p y u S Q) ∧ (k = false → Q (.d (.bl false)))
  | .and a b, e, Q => pE g S E a e fun x => withPB x fun k => (k = true → pE g S E b e Q) ∧ (k = false → Q (.d (.bl false)))
  | .or a b, e, Q => pE g S E a e fun x => withPB x fun k => (k = true → Q (.d (.bl true))) ∧ (k = false → pE g S E b e Q)
  | .tup es, e, Q => pEs g S E es e fun rs => withO (ds rs) fun vs => Q (.d (.tup vs))
  | .lst es, e, Q => pEs g S E es e fun rs => withO (ds rs) fun vs => Q (.l true vs)
  | .dict0, e, Q => Q (.m true [])
  | .dict1 k v, e, Q => pE g S E k e fun x => withD x fun x => pE g S E v e fun y => withD y fun y => kindOk [] x = true ∧ Q (.m true [(x, y)])
  | .sub a i, e, Q => pE g S E a e fun x => pE g S E i e fun y => pSub x y S Q
  | .slice a lo hi, e, Q => pE g S E a e fun x => pO g S E lo e fun l => pO g S E hi e fun h => pSlice x l h S Q
  | .fld a f, e, Q => pE g S E a e fun x => withD x fun v => match v with
    | .ref p => match S p with
      | some (.ins _ fs) => withO (fs.lookup f) fun v => Q (.d v)
      | _ => False
    | _ => False
  | .call f es, e, Q => pEs g S E es e fun rs => withO (g.fn f) fun ps => ps (rs.map PV.bor) S (fun r => r.isP = false ∧ Q r) E
  | .new c es, e, Q => False
  | .blt b es, e, Q => pEs g S E es e fun rs => pBt b rs S Q
  | .bltc b c, e, Q => pC g S E c e fun vs => pBtL b vs S Q
  | .isi a t, e, Q => pE g S E a e fun x => pIsi t x S Q
  | .meth a m es, e, Q => pE g S E a e fun x => pRecv m x S = true ∧ pEs g S E es e fun rs => pMt m x rs S Q
  | .umeth a m es, e, Q => pE g S E a e fun x => withD x fun v => match v with
    | .ref p => match S p with
      | some (.ins c fs) => fs.lookup m = none ∧ withO (g.mt c m) fun ps => pEs g S E es e fun rs => ps (.d (.ref p) :: rs.map PV.bor) S (fun r => r.isP = false ∧ Q r) noP
      | _ => False
    | _ => False
  | .comp c, e, Q => pC g S E c e fun vs => Q (.l true vs)
  | .lzip a b, e, Q => pE g S E a e fun x => pE g S E b e fun y => withO (seqP S x) fun xs => withO (seqP S y) fun ys => Q (.l true (zipL xs ys))
  | .lrng es, e, Q => pEs g S E es e fun rs => withO (ds rs) fun vs => wRng vs fun lo n st => st = 1 ∧ Q (.l true (rangeL lo n 1))
  | .trng es, e, Q => pEs g S E es e fun rs => withO (ds rs) fun vs => wRng vs fun lo n st => st = 1 ∧ Q (.d (.tup (rangeL lo n 1)))
  | .drop a, e, Q => pE g S E a e Q
def pEs (g : PCfg) (S : Sto) (E : Nat → Prop) : Exs → PEnv → (List PV → Prop) → Prop
  | .nil, e, Q => Q []
  | .cons a r, e, Q => pE g S E a e fun x => pEs g S E r e fun xs => Q (x :: xs)
def pO (g : PCfg) (S : Sto) (E : Nat → Prop) : Oe → PEnv → (Option Int → Prop) → Prop
  | .none, e, Q => Q none
  | .some a, e, Q => pE g S E a e fun x => withPI x fun i => Q (some i)
def pI (g : PCfg) (S : Sto) (E : Nat → Prop) : Itr → PEnv → (List Val → Prop) → Prop
  | .val a, e, Q => pE g S E a e fun x => withO (iterP S x) Q
  | .rng es, e, Q => pEs g S E es e fun rs => withO (ds rs) fun vs => wRng vs fun lo n st => Q (rangeL lo n st)
  | .enum a, e, Q => pE g S E a e fun x => withO (enP S x) fun xs => Q (enumL 0 xs)
  | .zip a b, e, Q => pE g S E a e fun x => pE g S E b e fun y => withO (zipP S x y) Q
def pC (g : PCfg) (S : Sto) (E : Nat → Prop) : Cmp → PEnv → (List Val → Prop) → Prop
  | .mk tg own elt it cond, e, Q => pI g S E it e fun xs =>
      pTurns (fun x k => withO (bindP tg (wipeP e own) x) fun e' => pIf g S cond e' fun b => (b = true → pE g S noP elt e' fun v => withD v fun v => k (some v)) ∧ (b = false → k none)) Q xs []
def pIf (g : PCfg) (S : Sto) : Oe → PEnv → (Bool → Prop) → Prop
  | .none, e, Q => Q true
  | .some a, e, Q => pE g S noP a e fun x => withPB x Q
end

def pFor (tg : Tg) (body : (PEnv → Prop) → PEnv → Prop) (nx : PEnv → Prop) : List Val → PEnv → Prop
  | [], e => nx e
  | x :: xs, e => withO (bindP tg e x) fun e' => body (fun e2 => pFor tg body nx xs e2) e'
/-- from here on nobody changes it -/
def frz1 (e : PEnv) (j : Nat) : PEnv := match getP e j with
  | some r => e.set j (some r.bor)
  | none => e
def frz (e : PEnv) : Itr → PEnv
  | .val (.var j) => frz1 e j
  | .enum (.var j) => frz1 e j
  | .zip (.var i) (.var j) => frz1 (frz1 e i) j
  | .zip (.var i) _ => frz1 e i
  | .zip _ (.var j) => frz1 e j
  | _ => e
def isV : Ex → Bool
  | .var _ => true
  | _ => false
/-- what an assignment takes -/
def okA : PV → Bool
  | .l o _ => o
  | .m o _ => o
  | .d _ => true
  | .p _ _ => false
def pH (g : PCfg) (E : Nat → Prop) (rt : PK) : Hd → Nat → Prop
  | .conj cs, x => rt (.d (.bl (cs.all fun p => g.G.sub x p.1 == p.2)))
  | .text z cs, x => rt (.d (.str (if (cs.all fun p => g.G.sub x p.1 == p.2) = true then z else "")))
  | .bl b, _ => rt (.d (.bl b))
  | .non, _ => rt (.d .non)
  | .str z, _ => rt (.d (.str z))
  | .raise c, _ => E c
/-- an own list as it is handed out -/
def pMove (e : PEnv) (i j : Nat) (nx : PEnv → Prop) : Prop := withO (getP e j) fun r => match r with
  | .l true xs => i ≠ j ∧ nx ((e.set i (some (.l true xs))).set j none)
  | .m true xs => i ≠ j ∧ nx ((e.set i (some (.m true xs))).set j none)
  | r => nx (e.set i (some r))
def extP (S : Sto) : PV → Option (List Val)
  | .l o xs => if o then some xs else none
  | .d v => (seqOf v S).map (·.1)
  | _ => none
def pX (g : PCfg) (S : Sto) (E : Nat → Prop) (a : Ex) (nx : PEnv → Prop) (e : PEnv) : Prop := match a with
  | .meth (.var j) .append (.cons x .nil) => withO (getP e j) fun q => match q with
    | .l true xs => pE g S E x e fun r => withD r fun v => xs.length < line ∧ nx (e.set j (some (.l true (xs ++ [v]))))
    | _ => False
  | .meth (.var j) .extend (.cons x .nil) => withO (getP e j) fun q => match q with
    | .l true xs => pE g S E x e fun r => withO (extP S r) fun ys => xs.length + ys.length ≤ line ∧ nx (e.set j (some (.l true (xs ++ ys))))
    | _ => False
  | a => pE g S E a e fun _ => nx e
def pIs (g : PCfg) (S : Sto) (E : Nat → Prop) : Itr → PEnv → (List Val → Prop) → Prop
  | .val a, e, Q => pE g S E a e fun x => (isV a || okA x) = true ∧ withO (iterP S x) Q
  | .rng es, e, Q => pEs g S E es e fun rs => withO (ds rs) fun vs => wRng vs fun lo n st => Q (rangeL lo n st)
  | .enum a, e, Q => pE g S E a e fun x => (isV a || okA x) = true ∧ withO (enP S x) fun xs => Q (enumL 0 xs)
  | .zip a b, e, Q => pE g S E a e fun x => (isV a || okA x) = true ∧ pE g S E b e fun y => (isV b || okA y) = true ∧ withO (zipP S x y) Q
def pUn (is : List Nat) (e : PEnv) (nx : PEnv → Prop) (r : PV) : Prop := match r with
  | .d v => withO (bindP (.many is) e v) nx
  | .p xs v => match is with
    | [i, j] => i ≠ j ∧ nx ((e.set i (some (.l true xs))).set j (some (.d v)))
    | _ => False
  | _ => False
def pLend (g : PCfg) (S : Sto) (E : Nat → Prop) (i f : Nat) (es : Exs) (nx : PEnv → Prop) (e : PEnv) : Prop := match es with
  | .cons a (.cons b r) => pE g S E a e fun x => match b with
    | .var j => withO (getP e j) fun q => match q with
      | .l true xs => pEs g S E r e fun rs => withO (g.ln f) fun ls => ls (x.bor :: .l false xs :: rs.map PV.bor) S fun v xs' => isRefV v = false ∧ nx ((e.set j (some (.l true xs'))).set i (some (.d v)))
      | _ => False
    | b => pE g S E b e fun q => match q with
      | .l true xs => pEs g S E r e fun rs => withO (g.ln f) fun ls => ls (x.bor :: .l false xs :: rs.map PV.bor) S fun v _ => isRefV v = false ∧ nx (e.set i (some (.d v)))
      | _ => False
  | _ => False
def pAsg (g : PCfg) (S : Sto) (E : Nat → Prop) (i : Nat) (a : Ex) (nx : PEnv → Prop) (e : PEnv) : Prop := match a with
  | .var j => pMove e i j nx
  | .drop (.call f es) => pLend g S E i f es nx e
  | a => pE g S E a e fun r => okA r = true ∧ nx (e.set i (some r))
def pAsgs (g : PCfg) (S : Sto) (E : Nat → Prop) (is : List Nat) (a : Ex) (nx : PEnv → Prop) (e : PEnv) : Prop := match a with
  | .call f es => pEs g S E es e fun rs => withO (g.fn f) fun ps => ps (rs.map PV.bor) S (pUn is e nx) E
  | a => pE g S E a e (pUn is e nx)
def pSetI (g : PCfg) (S : Sto) (E : Nat → Prop) (a i c : Ex) (nx : PEnv → Prop) (e : PEnv) : Prop := match a with
  | .var j => withO (getP e j) fun q => pE g S E c e fun r => withD r fun v => pE g S E i e fun y => withD y fun k => match q with
    | .l true xs => withPI (.d k) fun n => withO (L2.ixN xs.length n) fun t => nx (e.set j (some (.l true (xs.set t v))))
    | .m true kvs => kindOk kvs k = true ∧ kvs.length < line ∧ nx (e.set j (some (.m true (dput kvs k v))))
    | _ => False
  | _ => False
def pRet (g : PCfg) (S : Sto) (E : Nat → Prop) (rt : PK) (a : Ex) (e : PEnv) : Prop := match a with
  | .var j => withO (getP e j) fun r => okA r = true ∧ rt r
  | a => pE g S E a e fun r => okA r = true ∧ rt r
mutual
def pS (g : PCfg) (S : Sto) (E : Nat → Prop) (rt : PK) : Sm → (PEnv → Prop) → PEnv → Prop
  | .asg i a, nx, e => pAsg g S E i a nx e
  | .asgs is a, nx, e => pAsgs g S E is a nx e
  | .par i j a b, nx, e => pE g S E a e fun x => withD x fun v => pE g S E b e fun y => withD y fun w => nx ((e.set i (some (.d v))).set j (some (.d w)))
  | .setI a i c, nx, e => pSetI g S E a i c nx e
  | .setF a f c, nx, e => False
  | .expr a, nx, e => pX g S E a nx e
  | .ret a, nx, e => pRet g S E rt a e
  | .ret0, nx, e => rt (.d .non)
  | .pass, nx, e => nx e
  | .ite c a b, nx, e => pE g S E c e fun x => withPB x fun k => (k = true → pSs g S E rt a nx e) ∧ (k = false → pSs g S E rt b nx e)
  | .while c b, nx, e => ∃ W : Nat → PEnv → Prop, (∃ m, W m e) ∧ ∀ m e, W m e → pE g S E c e fun x => withPB x fun k =>
      (k = true → pSs g S E rt b (fun e' => ∃ m', m' < m ∧ W m' e') e) ∧ (k = false → nx e)
  | .for tg it b, nx, e => pIs g S E it e fun xs => pFor tg (fun k e' => pSs g S E rt b k e') nx xs (frz e it)
  | .raise c _, nx, e => E c
  | .try1 b c _ h, nx, e => pSs g S (fun x => g.G.ek x = true ∧ (g.G.sub x c = true → pH g E rt h x) ∧ (g.G.sub x c = false → E x)) rt b nx e
def pSs (g : PCfg) (S : Sto) (E : Nat → Prop) (rt : PK) : Sms → (PEnv → Prop) → PEnv → Prop
  | .nil, nx, e => nx e
  | .cons s r, nx, e => pS g S E rt s (fun e' => pSs g S E rt r nx e') e
end
def startP (n : Nat) (vs : List PV) : PEnv := vs.map some ++ List.replicate (n - vs.length) none
abbrev Wp (g : PCfg) (ps : PSpec) (N : List Str) (b : Sms) : Prop := ∀ args S Q E, ps args S Q E → pSs g S E Q b (fun _ => Q (.d .non)) (startP N.length args)
end DL

set_option autoImplicit true
set_option Elab.async false
set_option autoImplicit false
set_option linter.all false
set_option maxRecDepth 100000
set_option maxHeartbeats 4000000
/-! Own layer, pure level, part 2: what stands behind the pure level; operations. -/
namespace DL
open PySem

def ResR (S S' : Sto) (v : Val) : PV → Prop
  | .d x => v = x
  | .l o xs => ∃ a, v = .ref a ∧ S' a = some (.lst xs) ∧ (o = true → S a = none)
  | .m o kvs => ∃ a t, v = .ref a ∧ S' a = some (.dct kvs t) ∧ (o = true → S a = none)
  | .p _ _ => False
theorem ResR.le {S S1 S2 : Sto} {v : Val} : ∀ {r : PV}, ResR S S1 v r → Sto.le S1 S2 → ResR S S2 v r
  | .d _, h, _ => h
  | .l _ _, ⟨a, e, h, f⟩, q => ⟨a, e, q _ _ h, f⟩
  | .m _ _, ⟨a, t, e, h, f⟩, q => ⟨a, t, e, q _ _ h, f⟩
  | .p _ _, h, _ => h.elim
theorem ResR.base {S S1 S2 : Sto} {v : Val} : ∀ {r : PV}, ResR S1 S2 v r → Sto.le S S1 → ResR S S2 v r
  | .d _, h, _ => h
  | .l _ _, ⟨a, e, h, f⟩, q => ⟨a, e, h, fun o => le_off q (f o)⟩
  | .m _ _, ⟨a, t, e, h, f⟩, q => ⟨a, t, e, h, fun o => le_off q (f o)⟩
  | .p _ _, h, _ => h.elim
theorem ResR.bor {S S1 S2 : Sto} {v : Val} : ∀ {r : PV}, ResR S1 S2 v r → ResR S S2 v r.bor
  | .d _, h => h
  | .l _ _, ⟨a, e, h, f⟩ => ⟨a, e, h, fun o => by cases o⟩
  | .m _ _, ⟨a, t, e, h, f⟩ => ⟨a, t, e, h, fun o => by cases o⟩
  | .p _ _, h => h.elim
theorem lof_res {S0 S S1 : Sto} {x : PV} {xs : List Val} {v : Val} (h : lof S0 x = some xs) (le : Sto.le S0 S) (r : ResR S1 S v x) : ∃ a, v = .ref a ∧ S a = some (.lst xs) := by
  cases x with
  | l o ys =>
    simp only [lof, Option.some.injEq] at h
    subst h
    obtain ⟨a, e, h, _⟩ := r
    exact ⟨a, e, h⟩
  | m o ys => cases h
  | p ys w => cases h
  | d w =>
    have r : v = w := r
    subst r
    cases v <;> simp only [lof] at h <;> first | (cases h; done) | skip
    rename_i a
    split at h
    · rename_i ys e
      cases h
      exact ⟨a, rfl, le _ _ e⟩
    · cases h
theorem dof_res {S0 S S1 : Sto} {x : PV} {xs : List (Val × Val)} {v : Val} (h : dof S0 x = some xs) (le : Sto.le S0 S) (r : ResR S1 S v x) : ∃ a t, v = .ref a ∧ S a = some (.dct xs t) := by
  cases x with
  | m o ys =>
    simp only [dof, Option.some.injEq] at h
    subst h
    obtain ⟨a, t, e, h, _⟩ := r
    exact ⟨a, t, e, h⟩
  | l o ys => cases h
  | p ys w => cases h
  | d w =>
    have r : v = w := r
    subst r
    cases v <;> simp only [dof] at h <;> first | (cases h; done) | skip
    rename_i a
    split at h
    · rename_i ys t e
      cases h
      exact ⟨a, t, rfl, le _ _ e⟩
    · cases h
theorem dvl_res {S S1 : Sto} {x : PV} {a : Val} {v : Val} (h : dvl x = some a) (r : ResR S1 S v x) : v = a ∧ isRefV a = false := by
  cases x with
  | d w =>
    have r : v = w := r
    subst r
    cases v <;> simp only [dvl, Option.some.injEq] at h <;> first | (subst h; exact ⟨rfl, rfl⟩) | cases h
  | l _ _ => cases h
  | m _ _ => cases h
  | p _ _ => cases h
theorem withO_i {α : Type} {o : Option α} {k : α → Prop} (h : withO o k) : ∃ a, o = some a ∧ k a := by
  cases o with
  | none => exact h.elim
  | some a => exact ⟨a, rfl, h⟩
theorem withD_i {x : PV} {k : Val → Prop} (h : withD x k) : ∃ a, x = .d a ∧ k a := by
  cases x with
  | d a => exact ⟨a, rfl, h⟩
  | l _ _ => exact h.elim
  | m _ _ => exact h.elim
  | p _ _ => exact h.elim
theorem withPB_i {x : PV} {k : Bool → Prop} (h : withPB x k) : ∃ a, x = .d (.bl a) ∧ k a := by
  cases x with
  | d a => cases a <;> first | exact h.elim | exact ⟨_, rfl, h⟩
  | l _ _ => exact h.elim
  | m _ _ => exact h.elim
  | p _ _ => exact h.elim
theorem withPI_i {x : PV} {k : Int → Prop} (h : withPI x k) : ∃ a, x = .d (.int a) ∧ k a := by
  cases x with
  | d a => cases a <;> first | exact h.elim | exact ⟨_, rfl, h⟩
  | l _ _ => exact h.elim
  | m _ _ => exact h.elim
  | p _ _ => exact h.elim
abbrev PKo (Q : PK) (S : Sto) (K : KV) : Prop := ∀ u S' r, Sto.le S S' → ResR S S' u r → Q r → K u S'
theorem PKo.d {Q : PK} {S : Sto} {K : KV} (k : PKo Q S K) {v : Val} (h : Q (.d v)) : K v S := k v S (.d v) (.refl S) rfl h
theorem PKo.l {Q : PK} {S : Sto} {K : KV} (k : PKo Q S K) {xs : List Val} (h : Q (.l true xs)) : ∀ p, S p = none → K (.ref p) (up S p (.lst xs)) := fun p n => k _ _ (.l true xs) (le_new (.refl S) n) ⟨p, rfl, DL.up_same, fun _ => n⟩ h
theorem PKo.m {Q : PK} {S : Sto} {K : KV} (k : PKo Q S K) {xs : List (Val × Val)} (h : Q (.m true xs)) : ∀ p t, S p = none → K (.ref p) (up S p (.dct xs t)) := fun p t n => k _ _ (.m true xs) (le_new (.refl S) n) ⟨p, t, rfl, DL.up_same, fun _ => n⟩ h
theorem bin_pure {o : Bop} {a b : Val} {S0 S : Sto} {Q1 K : KV} (ha : isRefV a = false) (hb : isRefV b = false) (h : wBin o a b S0 Q1) (k : ∀ v, Q1 v S0 → K v S) : wBin o a b S K := by
  cases o <;> cases a <;> first | (cases ha; done) | skip
  all_goals cases b <;> first | (cases hb; done) | skip
  all_goals simp only [wBin] at h ⊢
  all_goals first | contradiction | exact k _ h | exact ⟨h.1, k _ h.2⟩ | exact ⟨h.1, h.2.1, k _ h.2.2⟩ | exact h.elim
theorem slice_pure {a : Val} {lo hi : Option Int} {S0 S : Sto} {Q1 K : KV} (ha : isRefV a = false) (h : wSlice a lo hi S0 Q1) (k : ∀ v, Q1 v S0 → K v S) : wSlice a lo hi S K := by
  cases a <;> first | (cases ha; done) | skip
  all_goals simp only [wSlice] at h ⊢
  all_goals first | contradiction | exact k _ h | exact ⟨h.1, k _ h.2⟩ | exact h.elim
theorem withO_m {α : Type} {o : Option α} {p q : α → Prop} (h : withO o p) (k : ∀ a, p a → q a) : withO o q := by
  cases o with
  | none => exact h
  | some a => exact k a h
theorem sub_pure {a b : Val} {S0 S : Sto} {Q1 K : KV} (ha : isRefV a = false) (h : wSub a b S0 Q1) (k : ∀ v, Q1 v S0 → K v S) : wSub a b S K := by
  cases a <;> first | (cases ha; done) | skip
  all_goals cases b <;> simp only [wSub] at h ⊢
  all_goals first | contradiction | exact withO_m h fun v => k v | exact ⟨h.1, withO_m h.2 fun c => k _⟩ | exact h.elim
mutual
theorem see_le {S S' : Sto} (le : Sto.le S S') : ∀ (n : Nat) (v w : Val), S.see n v = some w → S'.see n v = some w
  | 0, v, w, h => by
    unfold Sto.see at h ⊢
    exact h
  | n + 1, v, w, h => by
    unfold Sto.see at h ⊢
    split at h
    · rename_i d
      rw [if_pos d]
      exact h
    · rename_i d
      rw [if_neg d]
      cases v <;> first | (cases h; done) | skip
      · rename_i a
        simp only at h ⊢
        split at h
        · rename_i xs e
          rw [le _ _ e]
          simp only
          cases q : S.sees n xs with
          | none => rw [q] at h; cases h
          | some ys =>
            rw [q] at h
            rw [sees_le le n xs ys q]
            exact h
        · cases h
      · rename_i xs
        simp only at h ⊢
        cases q : S.sees n xs with
        | none => rw [q] at h; cases h
        | some ys =>
          rw [q] at h
          rw [sees_le le n xs ys q]
          exact h
theorem sees_le {S S' : Sto} (le : Sto.le S S') : ∀ (n : Nat) (v w : List Val), S.sees n v = some w → S'.sees n v = some w
  | n, [], w, h => by
    unfold Sto.sees at h ⊢
    exact h
  | n, x :: xs, w, h => by
    unfold Sto.sees at h ⊢
    cases q : S.see n x with
    | none => rw [q] at h; cases h
    | some y =>
      rw [q] at h
      cases q2 : S.sees n xs with
      | none => rw [q2] at h; cases h
      | some ys =>
        rw [q2] at h
        rw [see_le le n x y q, sees_le le n xs ys q2]
        exact h
end
theorem pSee_res {S0 S S1 : Sto} {x : PV} {v w : Val} (h : pSee S0 x = some w) (le : Sto.le S0 S) (r : ResR S1 S v x) : S.see 3 v = some w := by
  cases x with
  | d z =>
    have r : v = z := r
    subst r
    exact see_le le 3 v w h
  | l o xs =>
    obtain ⟨a, rfl, e, _⟩ := r
    simp only [pSee] at h
    cases q : S0.sees 2 xs with
    | none => rw [q] at h; cases h
    | some ys =>
      rw [q] at h
      unfold Sto.see
      rw [if_neg (by simp [Val.dat])]
      simp only [e, sees_le le 2 xs ys q]
      exact h
  | m _ _ => cases h
  | p _ _ => cases h
theorem cmp_pure {o : Cop} {a b : Val} {S0 S : Sto} {Q1 K : KV} (le : Sto.le S0 S) (ha : isRefV a = false) (hb : isRefV b = false) (h : wCmp o a b S0 Q1) (k : ∀ v, Q1 v S0 → K v S) : wCmp o a b S K := by
  have e1 : ∀ {p : Val → Val → Prop} {q : Val → Val → Prop}, (withO (S0.see 3 a) fun x => withO (S0.see 3 b) fun y => p x y) → (∀ x y, p x y → q x y) → withO (S.see 3 a) fun x => withO (S.see 3 b) fun y => q x y := by
    intro p q h k
    obtain ⟨x, hx, h⟩ := withO_i h
    obtain ⟨y, hy, h⟩ := withO_i h
    rw [see_le le _ _ _ hx, see_le le _ _ _ hy]
    exact k _ _ h
  cases o
  · exact e1 h fun x y h => ⟨h.1, k _ h.2⟩
  · exact e1 h fun x y h => ⟨h.1, k _ h.2⟩
  all_goals cases b <;> first | (cases hb; done) | skip
  all_goals cases a <;> first | (cases ha; done) | skip
  all_goals simp only [wCmp] at h ⊢
  all_goals first | contradiction | exact k _ h | exact ⟨h.1, k _ h.2⟩ | exact ⟨h.1, h.2.1, k _ h.2.2⟩ | exact h.elim | exact withO_m h fun _ h => withO_m h fun _ h => k _ h
theorem op_bin {o : Bop} {x y : PV} {S0 S1 S : Sto} {Q : PK} {v w : Val} (h : pBin o x y S0 Q) (le : Sto.le S0 S) (hx : ResR S1 S v x) (hy : ResR S1 S w y) {K : KV} (k : PKo Q S K) : wBin o v w S K := by
  unfold pBin at h
  split at h
  · rename_i xs ys e1 e2
    obtain ⟨a, rfl, ea⟩ := lof_res e1 le hx
    obtain ⟨b, rfl, eb⟩ := lof_res e2 le hy
    obtain ⟨rfl, h1, h2⟩ := h
    simp only [wBin, ea, eb]
    exact ⟨h1, k.l h2⟩
  · rename_i xs e1 e2
    obtain ⟨a, rfl, ea⟩ := lof_res e1 le hx
    obtain ⟨n, rfl, rfl, h1, h2⟩ := withPI_i h
    have hy : w = .int n := hy
    subst hy
    simp only [wBin, ea]
    exact ⟨h1, k.l h2⟩
  · obtain ⟨a, ea, h⟩ := withO_i h
    obtain ⟨b, eb, h⟩ := withO_i h
    obtain ⟨rfl, ra⟩ := dvl_res ea hx
    obtain ⟨rfl, rb⟩ := dvl_res eb hy
    exact bin_pure ra rb h fun v q => k.d q
theorem op_slice {x : PV} {lo hi : Option Int} {S0 S1 S : Sto} {Q : PK} {v : Val} (h : pSlice x lo hi S0 Q) (le : Sto.le S0 S) (hx : ResR S1 S v x) {K : KV} (k : PKo Q S K) : wSlice v lo hi S K := by
  unfold pSlice at h
  split at h
  · rename_i xs e1
    obtain ⟨a, rfl, ea⟩ := lof_res e1 le hx
    simp only [wSlice, ea]
    exact k.l h
  · obtain ⟨a, ea, h⟩ := withO_i h
    obtain ⟨rfl, ra⟩ := dvl_res ea hx
    exact slice_pure ra h fun v q => k.d q
theorem op_sub {x y : PV} {S0 S1 S : Sto} {Q : PK} {v w : Val} (h : pSub x y S0 Q) (le : Sto.le S0 S) (hx : ResR S1 S v x) (hy : ResR S1 S w y) {K : KV} (k : PKo Q S K) : wSub v w S K := by
  unfold pSub at h
  obtain ⟨z, rfl, h⟩ := withD_i h
  have hy : w = z := hy
  subst hy
  split at h
  · rename_i xs e1
    obtain ⟨a, rfl, ea⟩ := lof_res e1 le hx
    obtain ⟨n, e, h⟩ := withPI_i h
    cases e
    simp only [wSub, ea]
    exact withO_m h fun u q => k.d q
  · split at h
    · rename_i xs e1
      obtain ⟨a, t, rfl, ea⟩ := dof_res e1 le hx
      cases w <;> (simp only [wSub, ea]; exact ⟨h.1, withO_m h.2 fun u q => k.d q⟩)
    · obtain ⟨a, ea, h⟩ := withO_i h
      obtain ⟨rfl, ra⟩ := dvl_res ea hx
      exact sub_pure ra h fun v q => k.d q
theorem op_cmp {o : Cop} {x y : PV} {S0 S1 S : Sto} {Q : PK} {v w : Val} (h : pCmp o x y S0 Q) (le : Sto.le S0 S) (hx : ResR S1 S v x) (hy : ResR S1 S w y) {K : KV} (k : PKo Q S K) : wCmp o v w S K := by
  have hd : ∀ {o}, (withO (dvl x) fun a => withO (dvl y) fun b => wCmp o a b S0 fun v _ => Q (.d v)) → wCmp o v w S K := by
    intro o h
    obtain ⟨a, ea, h⟩ := withO_i h
    obtain ⟨b, eb, h⟩ := withO_i h
    obtain ⟨rfl, ra⟩ := dvl_res ea hx
    obtain ⟨rfl, rb⟩ := dvl_res eb hy
    exact cmp_pure le ra rb h fun v q => k.d q
  cases o
  · obtain ⟨a, ea, h⟩ := withO_i h
    obtain ⟨b, eb, h⟩ := withO_i h
    simp only [wCmp, pSee_res ea le hx, pSee_res eb le hy]
    exact ⟨h.1, k.d h.2⟩
  · obtain ⟨a, ea, h⟩ := withO_i h
    obtain ⟨b, eb, h⟩ := withO_i h
    simp only [wCmp, pSee_res ea le hx, pSee_res eb le hy]
    exact ⟨h.1, k.d h.2⟩
  · exact hd h
  · exact hd h
  · exact hd h
  · exact hd h
  · obtain ⟨z, e0, h'⟩ := withD_i h
    replace h := h'
    clear h'
    subst e0
    have hx : v = z := hx
    subst hx
    split at h
    · rename_i xs e1
      obtain ⟨a, rfl, ea⟩ := lof_res e1 le hy
      obtain ⟨h1, h2, h3⟩ := h
      simp only [wCmp, ea]
      obtain ⟨zs, ez, h3⟩ := withO_i h3
      rw [sees_le le _ _ _ ez]
      exact ⟨h1, h2, k.d h3⟩
    · split at h
      · rename_i xs e1
        obtain ⟨a, t, rfl, ea⟩ := dof_res e1 le hy
        simp only [wCmp, ea]
        exact ⟨h.1, k.d h.2⟩
      · obtain ⟨b, eb, h⟩ := withO_i h
        obtain ⟨rfl, rb⟩ := dvl_res eb hy
        cases w <;> first | (cases rb; done) | skip
        all_goals simp only [wCmp] at h ⊢
        all_goals first | contradiction | exact k.d h | exact ⟨h.1, h.2.1, k.d h.2.2⟩ | exact h.elim | (cases v <;> first | exact h.elim | exact k.d h)
  · obtain ⟨z, e0, h'⟩ := withD_i h
    replace h := h'
    clear h'
    subst e0
    have hx : v = z := hx
    subst hx
    split at h
    · rename_i xs e1
      obtain ⟨a, rfl, ea⟩ := lof_res e1 le hy
      obtain ⟨h1, h2, h3⟩ := h
      simp only [wCmp, ea]
      obtain ⟨zs, ez, h3⟩ := withO_i h3
      rw [sees_le le _ _ _ ez]
      exact ⟨h1, h2, k.d h3⟩
    · split at h
      · rename_i xs e1
        obtain ⟨a, t, rfl, ea⟩ := dof_res e1 le hy
        simp only [wCmp, ea]
        exact ⟨h.1, k.d h.2⟩
      · obtain ⟨b, eb, h⟩ := withO_i h
        obtain ⟨rfl, rb⟩ := dvl_res eb hy
        cases w <;> first | (cases rb; done) | skip
        all_goals simp only [wCmp] at h ⊢
        all_goals first | contradiction | exact k.d h | exact ⟨h.1, h.2.1, k.d h.2.2⟩ | exact h.elim | (cases v <;> first | exact h.elim | exact k.d h)
theorem op_btL {b : Bt} {xs : List Val} {S : Sto} {Q : PK} (h : pBtL b xs S Q) {S' : Sto} {K : KV} (k : PKo Q S' K) : wBtL b xs S' K := by
  cases b <;> simp only [pBtL, wBtL] at h ⊢ <;> first | exact h.elim | exact k.d h | exact withO_m h fun _ h => k.d h | exact k.l h | exact withO_m h fun _ h => ⟨h.1, fun m h1 h2 => k.d (h.2 m h1 h2)⟩ | skip
  · exact withO_m h fun _ h => ⟨h.1, h.2.1, h.2.2.1, fun p t n => k.m h.2.2.2 p t n⟩
  · rcases h with ⟨ns, e, h⟩ | ⟨ss, e, e2, h⟩ | ⟨ss, e, e2, h⟩
    · exact .inl ⟨ns, e, fun p ms h1 h2 n => k.l (h ms h1 h2) p n⟩
    · exact .inr (.inl ⟨ss, e, e2, fun p ms h1 h2 n => k.l (h ms h1 h2) p n⟩)
    · exact .inr (.inr ⟨ss, e, e2, fun p ms h1 h2 n => k.l (h ms h1 h2) p n⟩)
theorem bt1_pure {b : Bt} {a : Val} {S0 S : Sto} {Q1 K : KV} (ha : isRefV a = false) (nl : b ≠ .list) (h : wBt b [a] S0 Q1) (k : ∀ v, Q1 v S0 → K v S) : wBt b [a] S K := by
  cases b <;> first | exact absurd rfl nl | skip
  all_goals cases a <;> first | (cases ha; done) | skip
  all_goals simp only [wBt] at h ⊢
  all_goals first | contradiction | exact k _ h | exact ⟨h.1, k _ h.2⟩ | exact h.elim
theorem bt2_pure {b : Bt} {a c : Val} {S0 S : Sto} {Q1 K : KV} (ha : isRefV a = false) (hc : isRefV c = false) (h : wBt b [a, c] S0 Q1) (k : ∀ v, Q1 v S0 → K v S) : wBt b [a, c] S K := by
  cases b
  all_goals cases a <;> first | (cases ha; done) | skip
  all_goals cases c <;> first | (cases hc; done) | skip
  all_goals simp only [wBt] at h ⊢
  all_goals first | contradiction | exact k _ h | exact ⟨h.1, k _ h.2⟩ | exact h.elim
/-- results, one for each -/
def ResRs (S S' : Sto) : List Val → List PV → Prop
  | [], [] => True
  | v :: vs, r :: rs => ResR S S' v r ∧ ResRs S S' vs rs
  | _, _ => False
theorem ResRs.le {S S1 S2 : Sto} (q : Sto.le S1 S2) : ∀ {vs : List Val} {rs : List PV}, ResRs S S1 vs rs → ResRs S S2 vs rs
  | [], [], _ => trivial
  | _ :: _, _ :: _, h => ⟨h.1.le q, h.2.le q⟩
  | [], _ :: _, h => h.elim
  | _ :: _, [], h => h.elim
theorem ResRs.base {S S1 S2 : Sto} (q : Sto.le S S1) : ∀ {vs : List Val} {rs : List PV}, ResRs S1 S2 vs rs → ResRs S S2 vs rs
  | [], [], _ => trivial
  | _ :: _, _ :: _, h => ⟨h.1.base q, h.2.base q⟩
  | [], _ :: _, h => h.elim
  | _ :: _, [], h => h.elim
theorem ds_res {S S' : Sto} : ∀ {vs : List Val} {rs : List PV} {xs : List Val}, ds rs = some xs → ResRs S S' vs rs → vs = xs
  | [], [], xs, h, _ => by cases h; rfl
  | v :: vs, .d w :: rs, xs, h, r => by
    simp only [ds] at h
    cases q : ds rs with
    | none => rw [q] at h; cases h
    | some ys =>
      rw [q] at h
      cases h
      rw [ds_res q r.2, show v = w from r.1]
  | _ :: _, .l _ _ :: _, _, h, _ => by cases h
  | _ :: _, .m _ _ :: _, _, h, _ => by cases h
  | _ :: _, .p _ _ :: _, _, h, _ => by cases h
  | [], _ :: _, _, _, r => r.elim
  | _ :: _, [], _, _, r => r.elim
theorem op_bt {b : Bt} {rs : List PV} {S0 S1 S : Sto} {Q : PK} {vs : List Val} (h : pBt b rs S0 Q) (le : Sto.le S0 S) (hx : ResRs S1 S vs rs) {K : KV} (k : PKo Q S K) : wBt b vs S K := by
  unfold pBt at h
  split at h
  · rename_i x
    cases vs with
    | nil => exact hx.elim
    | cons v vs =>
      cases vs with
      | cons _ _ => exact hx.2.elim
      | nil =>
        obtain ⟨hx, _⟩ := hx
        split at h
        · rename_i xs e1
          obtain ⟨a, rfl, ea⟩ := lof_res e1 le hx
          have h := op_btL h k
          cases b <;> simp only [wBt, ea] <;> first | exact h | exact h.elim
        · split at h
          · rename_i xs e1
            obtain ⟨a, t, rfl, ea⟩ := dof_res e1 le hx
            obtain ⟨rfl, h⟩ := h
            simp only [wBt, ea]
            exact k.d h
          · obtain ⟨a, ea, h⟩ := withO_i h
            obtain ⟨rfl, ra⟩ := dvl_res ea hx
            split at h
            · simp only [wBt]
              exact k.l h
            · rename_i nl
              by_cases hb : b = .list
              · subst hb
                cases v <;> first | (cases ra; done) | exact (nl _ rfl rfl).elim | exact h.elim
              · exact bt1_pure ra hb h fun v q => k.d q
  · rename_i x y
    match vs, hx with
    | [v, w], hx =>
      obtain ⟨a, ea, h⟩ := withO_i h
      obtain ⟨c, ec, h⟩ := withO_i h
      obtain ⟨rfl, ra⟩ := dvl_res ea hx.1
      obtain ⟨rfl, rc⟩ := dvl_res ec hx.2.1
      exact bt2_pure ra rc h fun v q => k.d q
    | [], hx => exact hx.elim
    | [_], hx => exact hx.2.elim
    | _ :: _ :: _ :: _, hx => exact hx.2.2.elim
  · exact h.elim
theorem op_isi {t : Ty} {x : PV} {S0 S1 S : Sto} {Q : PK} {v : Val} (h : pIsi t x S0 Q) (le : Sto.le S0 S) (hx : ResR S1 S v x) {K : KV} (k : PKo Q S K) : tyKnown v S = true ∧ K (.bl (tyOf t v S)) S := by
  cases x with
  | d z =>
    have hx : v = z := hx
    subst hx
    obtain ⟨h1, h2⟩ := h
    cases v with
    | ref a =>
      simp only [tyKnown] at h1 ⊢
      split at h1
      · rename_i xs e
        have e2 := le _ _ e
        rw [e2]
        refine ⟨rfl, ?_⟩
        have e3 : tyOf t (.ref a) S0 = tyOf t (.ref a) S := by cases t <;> simp only [tyOf, e, e2]
        rw [← e3]
        exact k.d h2
      · cases h1
    | lst _ => cases h1
    | non => exact ⟨rfl, by cases t <;> exact k.d h2⟩
    | bl _ => exact ⟨rfl, by cases t <;> exact k.d h2⟩
    | int _ => exact ⟨rfl, by cases t <;> exact k.d h2⟩
    | str _ => exact ⟨rfl, by cases t <;> exact k.d h2⟩
    | tup _ => exact ⟨rfl, by cases t <;> exact k.d h2⟩
  | l o xs =>
    obtain ⟨a, rfl, e, _⟩ := hx
    simp only [pIsi] at h
    refine ⟨by simp only [tyKnown, e], ?_⟩
    have e3 : tyOf t (.ref a) S = decide (t = .list) := by cases t <;> simp [tyOf, e]
    rw [e3]
    exact k.d h
  | m _ _ => exact h.elim
  | p _ _ => exact h.elim
theorem seq_res {S0 S S1 : Sto} {x : PV} {xs : List Val} {v : Val} (h : seqP S0 x = some xs) (le : Sto.le S0 S) (r : ResR S1 S v x) : ∃ grd, seqOf v S = some (xs, grd) := by
  cases x with
  | l o ys =>
    simp only [seqP, Option.some.injEq] at h
    subst h
    obtain ⟨a, rfl, h, _⟩ := r
    exact ⟨_, by simp only [seqOf, h]; rfl⟩
  | m o ys => cases h
  | p ys w => cases h
  | d w =>
    have r : v = w := r
    subst r
    simp only [seqP] at h
    cases v <;> simp only [seqOf] at h <;> first | (cases h; done) | skip
    · simp only [Option.map_some, Option.some.injEq] at h
      subst h
      exact ⟨_, rfl⟩
    · rename_i a
      split at h
      · rename_i ys e2
        simp only [Option.map_some, Option.some.injEq] at h
        subst h
        exact ⟨_, by simp only [seqOf, le _ _ e2]; rfl⟩
      · cases h
theorem iter_res {S0 S S1 : Sto} {x : PV} {xs : List Val} {v : Val} (h : iterP S0 x = some xs) (le : Sto.le S0 S) (r : ResR S1 S v x) : ∃ grd, iterOf v S = some (xs, grd) ∧ ∀ S', (∀ a o, v = .ref a → S a = some o → S' a = some o) → grd S' := by
  cases x with
  | l o ys =>
    simp only [iterP, Option.some.injEq] at h
    subst h
    obtain ⟨a, rfl, h, _⟩ := r
    exact ⟨_, by simp only [iterOf, h], fun S' q => q _ _ rfl h⟩
  | m o ys =>
    obtain ⟨a, t, rfl, e, _⟩ := r
    simp only [iterP] at h
    split at h
    · rename_i ko
      cases h
      exact ⟨_, by simp only [iterOf, e, ko, if_true], fun S' q => q _ _ rfl e⟩
    · cases h
  | p ys w => cases h
  | d w =>
    have r : v = w := r
    subst r
    simp only [iterP] at h
    cases v <;> simp only [iterOf] at h <;> first | (cases h; done) | skip
    · split at h
      · rename_i hz
        cases h
        exact ⟨_, by simp only [iterOf, hz, if_true], fun _ _ => trivial⟩
      · cases h
    · cases h
      exact ⟨_, rfl, fun _ _ => trivial⟩
    · rename_i a
      split at h
      · rename_i ys e2
        simp only [Option.map_some, Option.some.injEq] at h
        subst h
        exact ⟨_, by simp only [iterOf, le _ _ e2], fun S' q => q _ _ rfl (le _ _ e2)⟩
      · rename_i ys t e2
        split at h
        · rename_i ko
          simp only [Option.map_some, Option.some.injEq] at h
          subst h
          exact ⟨_, by simp only [iterOf, le _ _ e2, ko, if_true], fun S' q => q _ _ rfl (le _ _ e2)⟩
        · cases h
      · cases h
theorem list_res {S0 S S1 : Sto} {x : PV} {xs : List Val} {v : Val} (h : enP S0 x = some xs) (le : Sto.le S0 S) (r : ResR S1 S v x) : ∃ grd, listOf v S = some (xs, grd) ∧ ∀ S', (∀ a o, v = .ref a → S a = some o → S' a = some o) → grd S' := by
  cases x with
  | l o ys =>
    simp only [enP, Option.some.injEq] at h
    subst h
    obtain ⟨a, rfl, h, _⟩ := r
    exact ⟨_, by simp only [listOf, h], fun S' q => q _ _ rfl h⟩
  | m o ys => cases h
  | p ys w => cases h
  | d w =>
    have r : v = w := r
    subst r
    simp only [enP] at h
    cases v <;> simp only [listOf] at h <;> first | (cases h; done) | skip
    · split at h
      · rename_i hz
        cases h
        exact ⟨_, by simp only [listOf, hz, if_true], fun _ _ => trivial⟩
      · cases h
    · cases h
      exact ⟨_, rfl, fun _ _ => trivial⟩
    · rename_i a
      split at h
      · rename_i ys e2
        simp only [Option.map_some, Option.some.injEq] at h
        subst h
        exact ⟨_, by simp only [listOf, le _ _ e2], fun S' q => q _ _ rfl (le _ _ e2)⟩
      · cases h
theorem zip_res {S0 S S1 : Sto} {x y : PV} {xs : List Val} {v w : Val} (h : zipP S0 x y = some xs) (le : Sto.le S0 S) (r : ResR S1 S v x) (r2 : ResR S1 S w y) : ∃ grd, zipOf v w S = some (xs, grd) ∧ ∀ S', (∀ a o, v = .ref a ∨ w = .ref a → S a = some o → S' a = some o) → grd S' := by
  unfold zipP at h
  split at h
  · rename_i us ws e1 e2
    obtain ⟨a, rfl, ea⟩ := lof_res e1 le r
    obtain ⟨b, rfl, eb⟩ := lof_res e2 le r2
    cases h
    exact ⟨fun S' => S' a = some (.lst us) ∧ S' b = some (.lst ws), by simp only [zipOf, ea, eb], fun S' q => ⟨q _ _ (.inl rfl) ea, q _ _ (.inr rfl) eb⟩⟩
  · split at h
    · rename_i us ws _ _
      have e1 : v = .tup us := r
      have e2 : w = .tup ws := r2
      cases h
      rw [e1, e2]
      exact ⟨_, rfl, fun _ _ => trivial⟩
    · cases h
  · cases h
end DL

set_option autoImplicit true
set_option Elab.async false
set_option autoImplicit false
set_option linter.all false
set_option maxRecDepth 100000
set_option maxHeartbeats 4000000
/-! Own layer, pure level, part 3: expressions. -/
namespace DL
open PySem

def hasA (pe : PEnv) (i : Nat) : Bool := match getP pe i with
  | some (.l _ _) => true
  | some (.m _ _) => true
  | _ => false
def ownS (pe : PEnv) (i : Nat) : Bool := match getP pe i with
  | some (.l o _) => o
  | some (.m o _) => o
  | _ => false
/-- what a pure environment says -/
structure PR (S0 Se : Sto) (pe : PEnv) (e : Env) (S : Sto) (adr : Nat → Addr) : Prop where
  le0 : Sto.le S0 Se
  leE : Sto.le Se S
  len : e.length = pe.length
  dd : ∀ i v, getP pe i = some (.d v) → getV e i = some v
  ll : ∀ i o xs, getP pe i = some (.l o xs) → getV e i = some (.ref (adr i)) ∧ S (adr i) = some (.lst xs)
  mm : ∀ i o kvs, getP pe i = some (.m o kvs) → getV e i = some (.ref (adr i)) ∧ ∃ t, S (adr i) = some (.dct kvs t)
  nop : ∀ i xs v, getP pe i ≠ some (.p xs v)
  own : ∀ i, ownS pe i = true → Se (adr i) = none ∧ ∀ j, j ≠ i → hasA pe j = true → adr j ≠ adr i
theorem PR.low {S0 Se : Sto} {pe : PEnv} {e : Env} {S : Sto} {adr : Nat → Addr} (h : PR S0 Se pe e S adr) : Sto.le S0 S := h.le0.trans h.leE
theorem PR.step {S0 Se : Sto} {pe : PEnv} {e : Env} {S S' : Sto} {adr : Nat → Addr} (h : PR S0 Se pe e S adr) (le : Sto.le S S') : PR S0 Se pe e S' adr :=
  ⟨h.le0, h.leE.trans le, h.len, h.dd, fun i o xs q => ⟨(h.ll i o xs q).1, le _ _ (h.ll i o xs q).2⟩, fun i o xs q => by
    obtain ⟨h1, t, h2⟩ := h.mm i o xs q
    exact ⟨h1, t, le _ _ h2⟩, h.nop, h.own⟩
theorem getP_set (e : PEnv) (i j : Nat) (x : Option PV) : getP (e.set i x) j = if i = j ∧ i < e.length then x else getP e j := by
  unfold getP
  rw [List.getElem?_set]
  by_cases h : i = j
  · subst h
    by_cases hl : i < e.length
    · simp [hl]
    · simp [hl]
  · simp [h]
theorem getV_set (e : Env) (i j : Nat) (x : Option Val) : getV (e.set i x) j = if i = j ∧ i < e.length then x else getV e j := by
  unfold getV
  rw [List.getElem?_set]
  by_cases h : i = j
  · subst h
    by_cases hl : i < e.length
    · simp [hl]
    · simp [hl]
  · simp [h]
theorem own_has {pe : PEnv} {i : Nat} (h : ownS pe i = true) : hasA pe i = true := by
  unfold ownS at h
  unfold hasA
  split at h <;> first | rfl | cases h
/-- a slot is set to a plain value, or to nothing -/
theorem PR.setD {S0 Se : Sto} {pe : PEnv} {e : Env} {S : Sto} {adr : Nat → Addr} (h : PR S0 Se pe e S adr) (i : Nat) (r : Option PV) (v : Option Val) (hr : ∀ q, r = some q → ∃ w, q = .d w ∧ v = some w) : PR S0 Se (pe.set i r) (e.set i v) S adr := by
  have key : ∀ j q, getP (pe.set i r) j = some q → (∃ w, q = .d w ∧ getV (e.set i v) j = some w) ∨ (getP pe j = some q ∧ getV (e.set i v) j = getV e j) := by
    intro j q hq
    rw [getP_set] at hq
    rw [getV_set, h.len]
    split at hq
    · rename_i c
      rw [if_pos c]
      obtain ⟨w, h1, h2⟩ := hr q hq
      exact .inl ⟨w, h1, h2⟩
    · rename_i c
      rw [if_neg c]
      exact .inr ⟨hq, rfl⟩
  have kA : ∀ j, hasA (pe.set i r) j = true → hasA pe j = true := by
    intro j hj
    unfold hasA at hj
    split at hj
    · rename_i a b q
      rcases key _ _ q with ⟨w, z, _⟩ | ⟨z, _⟩
      · cases z
      · unfold hasA; rw [z]
    · rename_i a b q
      rcases key _ _ q with ⟨w, z, _⟩ | ⟨z, _⟩
      · cases z
      · unfold hasA; rw [z]
    · cases hj
  have kO : ∀ j, ownS (pe.set i r) j = true → ownS pe j = true := by
    intro j hj
    unfold ownS at hj
    split at hj
    · rename_i a b q
      rcases key _ _ q with ⟨w, z, _⟩ | ⟨z, _⟩
      · cases z
      · unfold ownS; rw [z]; exact hj
    · rename_i a b q
      rcases key _ _ q with ⟨w, z, _⟩ | ⟨z, _⟩
      · cases z
      · unfold ownS; rw [z]; exact hj
    · cases hj
  refine ⟨h.le0, h.leE, by simp [h.len], fun j w q => ?_, fun j o xs q => ?_, fun j o xs q => ?_, fun j xs w q => ?_, fun j hj => ⟨(h.own j (kO j hj)).1, fun k n hk => (h.own j (kO j hj)).2 k n (kA k hk)⟩⟩
  · rcases key _ _ q with ⟨w', z, z2⟩ | ⟨z, z2⟩
    · cases z; exact z2
    · rw [z2]; exact h.dd _ _ z
  · rcases key _ _ q with ⟨w', z, z2⟩ | ⟨z, z2⟩
    · cases z
    · rw [z2]; exact h.ll _ _ _ z
  · rcases key _ _ q with ⟨w', z, z2⟩ | ⟨z, z2⟩
    · cases z
    · rw [z2]; exact h.mm _ _ _ z
  · rcases key _ _ q with ⟨w', z, z2⟩ | ⟨z, z2⟩
    · cases z
    · exact h.nop _ _ _ z
theorem PR.bind {S0 Se : Sto} {adr : Nat → Addr} {S : Sto} {tg : Tg} {pe pe' : PEnv} {e : Env} {x : Val} (h : PR S0 Se pe e S adr) (b : bindP tg pe x = some pe') : ∃ e', bindT tg e x = some e' ∧ PR S0 Se pe' e' S adr := by
  have key : ∀ (is : List Nat) (vs : List Val) (pe pe' : PEnv) (e : Env), PR S0 Se pe e S adr → bindManyP pe is vs = some pe' → ∃ e', bindMany e is vs = some e' ∧ PR S0 Se pe' e' S adr := by
    intro is
    induction is with
    | nil =>
      intro vs pe pe' e h b
      cases vs with
      | nil => cases b; exact ⟨e, rfl, h⟩
      | cons _ _ => cases b
    | cons i is ih =>
      intro vs pe pe' e h b
      cases vs with
      | nil => cases b
      | cons v vs => exact ih vs _ _ _ (h.setD i (some (.d v)) (some v) fun q z => by cases z; exact ⟨v, rfl, rfl⟩) b
  cases tg with
  | one i =>
    have e1 : bindP (.one i) pe x = some (pe.set i (some (.d x))) := by cases x <;> rfl
    rw [e1] at b
    cases b
    exact ⟨_, bind_one i e x, h.setD i (some (.d x)) (some x) fun q z => by cases z; exact ⟨x, rfl, rfl⟩⟩
  | many is =>
    cases x <;> first | (cases b; done) | skip
    rename_i vs
    exact key is vs _ _ _ h b
theorem PR.wipe {S0 Se : Sto} {adr : Nat → Addr} {S : Sto} {pe : PEnv} {e : Env} (h : PR S0 Se pe e S adr) : ∀ own : List Nat, PR S0 Se (wipeP pe own) (wipeE e own) S adr
  | [] => h
  | i :: r => (PR.wipe h r).setD i none none fun q z => by cases z
theorem PKo.step {Q : PK} {S S1 : Sto} {K : KV} (k : PKo Q S K) (le : Sto.le S S1) : PKo Q S1 K := fun u S' r l rr q => k u S' r (le.trans l) (rr.base le) q
abbrev PXo (E : Nat → Prop) (S : Sto) (E' : Nat → Sto → Prop) : Prop := ∀ x S', Sto.le S S' → E x → E' x S'
theorem PXo.step {E : Nat → Prop} {S S1 : Sto} {E' : Nat → Sto → Prop} (k : PXo E S E') (le : Sto.le S S1) : PXo E S1 E' := fun x S' l q => k x S' (le.trans l) q
theorem noP_x {S : Sto} : PXo noP S noE := fun _ _ _ h => h.elim
theorem t_turns {S : Sto} {bodyP : Val → (Option Val → Prop) → Prop} {bodyW : Val → Sto → (Option Val → Sto → Prop) → Prop} {grd : Sto → Prop} {Q : List Val → Prop} {K : List Val → Sto → Prop} (hg : ∀ S', Sto.le S S' → grd S')
    (hb : ∀ x kp (kw : Option Val → Sto → Prop) S1, Sto.le S S1 → bodyP x kp → (∀ r S2, Sto.le S1 S2 → kp r → kw r S2) → bodyW x S1 kw) (hq : ∀ vs S', Sto.le S S' → Q vs → K vs S') :
    ∀ (xs acc : List Val) (S1 : Sto), Sto.le S S1 → pTurns bodyP Q xs acc → wTurns bodyW grd K xs acc S1
  | [], acc, S1, le, h => ⟨hg S1 le, hq acc S1 le h⟩
  | x :: xs, acc, S1, le, h => ⟨hg S1 le, hb x _ _ S1 le h fun r S2 le2 q => t_turns hg hb hq xs _ S2 (le.trans le2) q⟩
theorem args_of {S S1 : Sto} : ∀ {vs : List Val} {rs : List PV}, ResRs S S1 vs rs → ArgR S1 vs (rs.map PV.bor)
  | [], [], _ => trivial
  | v :: vs, r :: rs, h => by
    refine ⟨?_, args_of h.2⟩
    have h1 := h.1
    cases r with
    | d x => exact h1
    | l o xs =>
      obtain ⟨a, e, q, _⟩ := h1
      exact ⟨rfl, a, e, q⟩
    | m o xs =>
      obtain ⟨a, t, e, q, _⟩ := h1
      exact ⟨rfl, a, t, e, q⟩
    | p _ _ => exact h1.elim
  | [], _ :: _, h => h.elim
  | _ :: _, [], h => h.elim
theorem resU_of {Q : PK} {S : Sto} {K : KV} (k : PKo Q S K) : ∀ r : PV, r.isP = false ∧ Q r → ResU K S r
  | .d v, h => k.d h.2
  | .l o xs, h => fun p n => k _ _ (.l o xs) (le_new (.refl S) n) ⟨p, rfl, DL.up_same, fun _ => n⟩ h.2
  | .m o xs, h => fun p t n => k _ _ (.m o xs) (le_new (.refl S) n) ⟨p, t, rfl, DL.up_same, fun _ => n⟩ h.2
  | .p _ _, h => by cases h.1
theorem le_keep {S S' : Sto} {v : Val} (le : Sto.le S S') : Sto.le S (keep S S' v) := fun a o h => by
  unfold keep
  rw [h]
  simp only [Option.isSome_some, Bool.true_or, if_true]
  exact le _ _ h
theorem res_keep {S S' : Sto} {v : Val} : ∀ {r : PV}, ResR S S' v r → ResR S (keep S S' v) v r
  | .d _, h => h
  | .l _ _, ⟨a, e, h, f⟩ => ⟨a, e, by subst e; simp [keep, isRef, h], f⟩
  | .m _ _, ⟨a, t, e, h, f⟩ => ⟨a, t, e, by subst e; simp [keep, isRef, h], f⟩
  | .p _ _, h => h.elim
theorem rng_imp {vs : List Val} {K K' : Int → Nat → Int → Prop} (h : wRng vs K) (k : ∀ lo n st, K lo n st → K' lo n st) : wRng vs K' := by
  unfold wRng at h ⊢
  split at h
  · exact ⟨h.1, h.2.1, k _ _ _ h.2.2⟩
  · exact ⟨h.1, k _ _ _ h.2⟩
  · exact ⟨h.1, h.2.1, k _ _ _ h.2.2⟩
  · exact h.elim
mutual
theorem sE : ∀ (x : Ex) {g : PCfg} {S0 : Sto} {E : Nat → Prop} {pe : PEnv} {Q : PK}, pE g S0 E x pe Q → ∀ {Se : Sto} {e : Env} {S : Sto} {adr : Nat → Addr} {E' : Nat → Sto → Prop} {K : KV}, PR S0 Se pe e S adr → PKo Q S K → PXo E S E' → wE g.G E' x e S K
  | .var i, g, S0, E, pe, Q, h, Se, e, S, adr, E', K, pr, k, x => by
    rw [pE] at h
    rw [wE]
    obtain ⟨r, er, h⟩ := withO_i h
    cases r with
    | d v => rw [pr.dd i v er]; exact k.d h
    | l o xs =>
      obtain ⟨h1, h2⟩ := pr.ll i o xs er
      rw [h1]
      exact k _ _ (.l false xs) (.refl S) ⟨_, rfl, h2, fun z => by cases z⟩ h
    | m o xs =>
      obtain ⟨h1, t, h2⟩ := pr.mm i o xs er
      rw [h1]
      exact k _ _ (.m false xs) (.refl S) ⟨_, t, rfl, h2, fun z => by cases z⟩ h
    | p xs v => exact (pr.nop _ _ _ er).elim
  | .glob y, g, S0, E, pe, Q, h, Se, e, S, adr, E', K, pr, k, x => by
    rw [pE] at h
    rw [wE]
    exact withO_m h fun v q => k.d q
  | .int i, g, S0, E, pe, Q, h, Se, e, S, adr, E', K, pr, k, x => by
    rw [pE] at h
    rw [wE]
    exact k.d h
  | .bl i, g, S0, E, pe, Q, h, Se, e, S, adr, E', K, pr, k, x => by
    rw [pE] at h
    rw [wE]
    exact k.d h
  | .non, g, S0, E, pe, Q, h, Se, e, S, adr, E', K, pr, k, x => by
    rw [pE] at h
    rw [wE]
    exact k.d h
  | .str i, g, S0, E, pe, Q, h, Se, e, S, adr, E', K, pr, k, x => by
    rw [pE] at h
    rw [wE]
    exact k.d h
  | .bin o a b, g, S0, E, pe, Q, h, Se, e, S, adr, E', K, pr, k, x => by
    rw [pE] at h
    rw [wE]
    exact sE a h pr (fun u S1 r le1 rr q => sE b q (pr.step le1) (fun w S2 r2 le2 rr2 q2 => op_bin q2 (pr.low.trans (le1.trans le2)) (rr.le le2) (rr2.base le1) (k.step (le1.trans le2))) (x.step le1)) x
  | .neg a, g, S0, E, pe, Q, h, Se, e, S, adr, E', K, pr, k, x => by
    rw [pE] at h
    rw [wE]
    refine sE a h pr (fun u S1 r le1 rr q => ?_) x
    obtain ⟨i, rfl, q⟩ := withPI_i q
    rw [show u = .int i from rr]
    exact (k.step le1).d q
  | .not a, g, S0, E, pe, Q, h, Se, e, S, adr, E', K, pr, k, x => by
    rw [pE] at h
    rw [wE]
    refine sE a h pr (fun u S1 r le1 rr q => ?_) x
    obtain ⟨i, rfl, q⟩ := withPB_i q
    rw [show u = .bl i from rr]
    exact (k.step le1).d q
  | .cmp o a b, g, S0, E, pe, Q, h, Se, e, S, adr, E', K, pr, k, x => by
    rw [pE] at h
    rw [wE]
    exact sE a h pr (fun u S1 r le1 rr q => sE b q (pr.step le1) (fun w S2 r2 le2 rr2 q2 => op_cmp q2 (pr.low.trans (le1.trans le2)) (rr.le le2) (rr2.base le1) (k.step (le1.trans le2))) (x.step le1)) x
  | .isN a, g, S0, E, pe, Q, h, Se, e, S, adr, E', K, pr, k, x => by
    rw [pE] at h
    rw [wE]
    refine sE a h pr (fun u S1 r le1 rr q => ?_) x
    cases r with
    | d v =>
      rw [show u = v from rr]
      cases v <;> exact (k.step le1).d q
    | l o xs => obtain ⟨a, rfl, _⟩ := rr; exact (k.step le1).d q
    | m o xs => obtain ⟨a, t, rfl, _⟩ := rr; exact (k.step le1).d q
    | p _ _ => exact rr.elim
  | .notN a, g, S0, E, pe, Q, h, Se, e, S, adr, E', K, pr, k, x => by
    rw [pE] at h
    rw [wE]
    refine sE a h pr (fun u S1 r le1 rr q => ?_) x
    cases r with
    | d v =>
      rw [show u = v from rr]
      cases v <;> exact (k.step le1).d q
    | l o xs => obtain ⟨a, rfl, _⟩ := rr; exact (k.step le1).d q
    | m o xs => obtain ⟨a, t, rfl, _⟩ := rr; exact (k.step le1).d q
    | p _ _ => exact rr.elim
  | .chain o p a b c, g, S0, E, pe, Q, h, Se, e, S, adr, E', K, pr, k, x => by
    rw [pE] at h
    rw [wE]
    refine sE a h pr (fun u S1 r le1 rr q => sE b q (pr.step le1) (fun w S2 r2 le2 rr2 q2 => op_cmp q2 (pr.low.trans (le1.trans le2)) (rr.le le2) (rr2.base le1) fun z S3 r3 le3 rr3 q3 => ?_) (x.step le1)) x
    obtain ⟨bb, rfl, q3⟩ := withPB_i q3
    rw [show z = .bl bb from rr3]
    have le := le1.trans (le2.trans le3)
    refine ⟨fun t => sE c (q3.1 t) (pr.step le) (fun u4 S4 r4 le4 rr4 q4 => op_cmp q4 (pr.low.trans (le.trans le4)) ((rr2.base le1).le (le3.trans le4)) (rr4.base le) (k.step (le.trans le4))) (x.step le), fun t => (k.step le).d (q3.2 t)⟩
  | .and a b, g, S0, E, pe, Q, h, Se, e, S, adr, E', K, pr, k, x => by
    rw [pE] at h
    rw [wE]
    refine sE a h pr (fun u S1 r le1 rr q => ?_) x
    obtain ⟨i, rfl, q⟩ := withPB_i q
    rw [show u = .bl i from rr]
    exact ⟨fun t => sE b (q.1 t) (pr.step le1) (k.step le1) (x.step le1), fun t => (k.step le1).d (q.2 t)⟩
  | .or a b, g, S0, E, pe, Q, h, Se, e, S, adr, E', K, pr, k, x => by
    rw [pE] at h
    rw [wE]
    refine sE a h pr (fun u S1 r le1 rr q => ?_) x
    obtain ⟨i, rfl, q⟩ := withPB_i q
    rw [show u = .bl i from rr]
    exact ⟨fun t => (k.step le1).d (q.1 t), fun t => sE b (q.2 t) (pr.step le1) (k.step le1) (x.step le1)⟩
  | .tup es, g, S0, E, pe, Q, h, Se, e, S, adr, E', K, pr, k, x => by
    rw [pE] at h
    rw [wE]
    refine sEs es h pr (fun vs S1 rs le1 rr q => ?_) x
    obtain ⟨xs, ex, q⟩ := withO_i q
    rw [ds_res ex rr]
    exact (k.step le1).d q
  | .lst es, g, S0, E, pe, Q, h, Se, e, S, adr, E', K, pr, k, x => by
    rw [pE] at h
    rw [wE]
    refine sEs es h pr (fun vs S1 rs le1 rr q => ?_) x
    obtain ⟨xs, ex, q⟩ := withO_i q
    rw [ds_res ex rr]
    exact (k.step le1).l q
  | .dict0, g, S0, E, pe, Q, h, Se, e, S, adr, E', K, pr, k, x => by
    rw [pE] at h
    rw [wE]
    exact k.m h
  | .dict1 a b, g, S0, E, pe, Q, h, Se, e, S, adr, E', K, pr, k, x => by
    rw [pE] at h
    rw [wE]
    refine sE a h pr (fun u S1 r le1 rr q => ?_) x
    obtain ⟨i, rfl, q⟩ := withD_i q
    refine sE b q (pr.step le1) (fun w S2 r2 le2 rr2 q2 => ?_) (x.step le1)
    obtain ⟨j, rfl, q2⟩ := withD_i q2
    rw [show u = i from rr, show w = j from rr2]
    exact ⟨q2.1, (k.step (le1.trans le2)).m q2.2⟩
  | .sub a b, g, S0, E, pe, Q, h, Se, e, S, adr, E', K, pr, k, x => by
    rw [pE] at h
    rw [wE]
    exact sE a h pr (fun u S1 r le1 rr q => sE b q (pr.step le1) (fun w S2 r2 le2 rr2 q2 => op_sub q2 (pr.low.trans (le1.trans le2)) (rr.le le2) (rr2.base le1) (k.step (le1.trans le2))) (x.step le1)) x
  | .slice a lo hi, g, S0, E, pe, Q, h, Se, e, S, adr, E', K, pr, k, x => by
    rw [pE] at h
    rw [wE]
    exact sE a h pr (fun u S1 r le1 rr q => sO lo q (pr.step le1) (fun l S2 le2 q2 => sO hi q2 (pr.step (le1.trans le2)) (fun l3 S3 le3 q3 =>
      op_slice q3 (pr.low.trans (le1.trans (le2.trans le3))) (rr.le (le2.trans le3)) (k.step (le1.trans (le2.trans le3)))) (x.step (le1.trans le2))) (x.step le1)) x
  | .fld a f, g, S0, E, pe, Q, h, Se, e, S, adr, E', K, pr, k, x => by
    rw [pE] at h
    rw [wE]
    refine sE a h pr (fun u S1 r le1 rr q => ?_) x
    obtain ⟨i, e0, q'⟩ := withD_i q
    clear q
    subst e0
    rw [show u = i from rr]
    cases i <;> first | exact q'.elim | skip
    rename_i p
    simp only at q' ⊢
    split at q'
    · rename_i c fs e
      have q := q'
      rw [(pr.low.trans le1) _ _ e]
      exact withO_m q fun v q => (k.step le1).d q
    · exact q'.elim
  | .call f es, g, S0, E, pe, Q, h, Se, e, S, adr, E', K, pr, k, x => by
    rw [pE] at h
    rw [wE]
    refine sEs es h pr (fun vs S1 rs le1 rr q => ?_) x
    obtain ⟨ps, ep, q⟩ := withO_i q
    obtain ⟨sp, es', hs⟩ := g.okf f ps ep
    rw [es']
    exact hs _ _ _ _ ⟨_, S0, _, E, pr.low.trans le1, args_of rr, q, resU_of (k.step le1), fun y hy => x y S1 le1 hy⟩
  | .new c es, g, S0, E, pe, Q, h, Se, e, S, adr, E', K, pr, k, x => by
    rw [pE] at h
    exact h.elim
  | .blt b es, g, S0, E, pe, Q, h, Se, e, S, adr, E', K, pr, k, x => by
    rw [pE] at h
    rw [wE]
    exact sEs es h pr (fun vs S1 rs le1 rr q => op_bt q (pr.low.trans le1) rr (k.step le1)) x
  | .bltc b c, g, S0, E, pe, Q, h, Se, e, S, adr, E', K, pr, k, x => by
    rw [pE] at h
    rw [wE]
    exact sC c h pr (fun vs S1 le1 q => op_btL q (k.step le1)) x
  | .isi a t, g, S0, E, pe, Q, h, Se, e, S, adr, E', K, pr, k, x => by
    rw [pE] at h
    rw [wE]
    exact sE a h pr (fun u S1 r le1 rr q => op_isi q (pr.low.trans le1) rr (k.step le1)) x
  | .meth a m es, g, S0, E, pe, Q, h, Se, e, S, adr, E', K, pr, k, x => by
    rw [pE] at h
    rw [wE]
    refine sE a h pr (fun u S1 r le1 rr q => ?_) x
    obtain ⟨q1, q⟩ := q
    have le0 := pr.low.trans le1
    cases m <;> first | (cases q1; done) | skip
    · simp only [pRecv] at q1
      obtain ⟨kvs, e1⟩ := Option.isSome_iff_exists.mp q1
      obtain ⟨b, rfl, e2⟩ := lof_res e1 le0 rr
      refine ⟨by simp only [recv, e2], sEs es q (pr.step le1) (fun vs S2 rs le2 rr2 q2 => ?_) (x.step le1)⟩
      unfold pMt at q2
      split at q2
      · rename_i y _
        obtain ⟨kvs', e3, q2⟩ := withO_i q2
        rw [e1] at e3
        cases e3
        match vs, rr2 with
        | [v1], rr2 =>
          obtain ⟨r1, _⟩ := rr2
          have r1 : v1 = y := r1
          subst r1
          simp only [wMt, le2 _ _ e2]
          exact ⟨q2.1, withO_m q2.2 fun j q => (k.step (le1.trans le2)).d q⟩
        | [], rr2 => exact rr2.elim
        | _ :: _ :: _, rr2 => exact rr2.2.elim
      · exact absurd (by assumption : Mt.index = Mt.get) (by decide)
      · exact q2.elim
    · simp only [pRecv] at q1
      obtain ⟨kvs, e1⟩ := Option.isSome_iff_exists.mp q1
      obtain ⟨b, t, rfl, e2⟩ := dof_res e1 le0 rr
      refine ⟨by simp only [recv, e2], sEs es q (pr.step le1) (fun vs S2 rs le2 rr2 q2 => ?_) (x.step le1)⟩
      unfold pMt at q2
      split at q2
      · exact absurd (by assumption : Mt.get = Mt.index) (by decide)
      · rename_i y z _
        obtain ⟨kvs', e3, q2⟩ := withO_i q2
        rw [e1] at e3
        cases e3
        match vs, rr2 with
        | [v1, v2], rr2 =>
          obtain ⟨r1, r2, _⟩ := rr2
          have r1 : v1 = y := r1
          have r2 : v2 = z := r2
          subst r1 r2
          simp only [wMt, le2 _ _ e2]
          exact ⟨q2.1, (k.step (le1.trans le2)).d q2.2⟩
        | [], rr2 => exact rr2.elim
        | [_], rr2 => exact rr2.2.elim
        | _ :: _ :: _ :: _, rr2 => exact rr2.2.2.elim
      · exact q2.elim
  | .umeth a m es, g, S0, E, pe, Q, h, Se, e, S, adr, E', K, pr, k, x => by
    rw [pE] at h
    rw [wE]
    refine sE a h pr (fun u S1 r le1 rr q => ?_) x
    obtain ⟨i, e0, q'⟩ := withD_i q
    clear q
    subst e0
    rw [show u = i from rr]
    cases i <;> first | exact q'.elim | skip
    rename_i p
    simp only at q' ⊢
    split at q'
    · rename_i c fs e
      have q := q'
      rw [(pr.low.trans le1) _ _ e]
      refine ⟨q.1, ?_⟩
      obtain ⟨ps, ep, q2⟩ := withO_i q.2
      obtain ⟨sp, es', hs⟩ := g.okm _ _ ps ep
      rw [es']
      exact sEs es q2 (pr.step le1) (fun vs S2 rs le2 rr2 q3 => hs _ _ _ _ ⟨.d (.ref p) :: rs.map PV.bor, S0, _, noP, pr.low.trans (le1.trans le2), ⟨rfl, args_of rr2⟩, q3, resU_of (k.step (le1.trans le2)), fun y hy => hy.elim⟩) (x.step le1)
    · exact q'.elim
  | .comp c, g, S0, E, pe, Q, h, Se, e, S, adr, E', K, pr, k, x => by
    rw [pE] at h
    rw [wE]
    exact sC c h pr (fun vs S1 le1 q => (k.step le1).l q) x
  | .lzip a b, g, S0, E, pe, Q, h, Se, e, S, adr, E', K, pr, k, x => by
    rw [pE] at h
    rw [wE]
    refine sE a h pr (fun u S1 r le1 rr q => sE b q (pr.step le1) (fun w S2 r2 le2 rr2 q2 => ?_) (x.step le1)) x
    obtain ⟨xs, ex, q2⟩ := withO_i q2
    obtain ⟨ys, ey, q2⟩ := withO_i q2
    obtain ⟨g1, e1⟩ := seq_res ex (pr.low.trans (le1.trans le2)) (rr.le le2)
    obtain ⟨g2, e2⟩ := seq_res ey (pr.low.trans (le1.trans le2)) rr2
    rw [e1, e2]
    exact (k.step (le1.trans le2)).l q2
  | .lrng es, g, S0, E, pe, Q, h, Se, e, S, adr, E', K, pr, k, x => by
    rw [pE] at h
    rw [wE]
    refine sEs es h pr (fun vs S1 rs le1 rr q => ?_) x
    obtain ⟨xs, ex, q⟩ := withO_i q
    rw [ds_res ex rr]
    refine rng_imp q fun lo n st q => ⟨q.1, (k.step le1).l q.2⟩
  | .trng es, g, S0, E, pe, Q, h, Se, e, S, adr, E', K, pr, k, x => by
    rw [pE] at h
    rw [wE]
    refine sEs es h pr (fun vs S1 rs le1 rr q => ?_) x
    obtain ⟨xs, ex, q⟩ := withO_i q
    rw [ds_res ex rr]
    refine rng_imp q fun lo n st q => ⟨q.1, (k.step le1).d q.2⟩
  | .drop a, g, S0, E, pe, Q, h, Se, e, S, adr, E', K, pr, k, x => by
    rw [pE] at h
    rw [wE]
    exact sE a h pr (fun u S1 r le1 rr q => k u _ r (le_keep le1) (res_keep rr) q) x
theorem sEs : ∀ (x : Exs) {g : PCfg} {S0 : Sto} {E : Nat → Prop} {pe : PEnv} {Q : List PV → Prop}, pEs g S0 E x pe Q → ∀ {Se : Sto} {e : Env} {S : Sto} {adr : Nat → Addr} {E' : Nat → Sto → Prop} {K : List Val → Sto → Prop}, PR S0 Se pe e S adr →
    (∀ vs S' rs, Sto.le S S' → ResRs S S' vs rs → Q rs → K vs S') → PXo E S E' → wEs g.G E' x e S K
  | .nil, g, S0, E, pe, Q, h, Se, e, S, adr, E', K, pr, k, x => by
    rw [pEs] at h
    rw [wEs]
    exact k _ _ [] (.refl S) trivial h
  | .cons a r, g, S0, E, pe, Q, h, Se, e, S, adr, E', K, pr, k, x => by
    rw [pEs] at h
    rw [wEs]
    exact sE a h pr (fun u S1 r1 le1 rr q => sEs r q (pr.step le1) (fun vs S2 rs le2 rr2 q2 => k _ _ (r1 :: rs) (le1.trans le2) ⟨rr.le le2, rr2.base le1⟩ q2) (x.step le1)) x
theorem sO : ∀ (x : Oe) {g : PCfg} {S0 : Sto} {E : Nat → Prop} {pe : PEnv} {Q : Option Int → Prop}, pO g S0 E x pe Q → ∀ {Se : Sto} {e : Env} {S : Sto} {adr : Nat → Addr} {E' : Nat → Sto → Prop} {K : Option Int → Sto → Prop}, PR S0 Se pe e S adr →
    (∀ l S', Sto.le S S' → Q l → K l S') → PXo E S E' → wO g.G E' x e S K
  | .none, g, S0, E, pe, Q, h, Se, e, S, adr, E', K, pr, k, x => by
    rw [pO] at h
    rw [wO]
    exact k _ _ (.refl S) h
  | .some a, g, S0, E, pe, Q, h, Se, e, S, adr, E', K, pr, k, x => by
    rw [pO] at h
    rw [wO]
    refine sE a h pr (fun u S1 r1 le1 rr q => ?_) x
    obtain ⟨i, rfl, q⟩ := withPI_i q
    rw [show u = .int i from rr]
    exact k _ _ le1 q
theorem sI : ∀ (x : Itr) {g : PCfg} {S0 : Sto} {E : Nat → Prop} {pe : PEnv} {Q : List Val → Prop}, pI g S0 E x pe Q → ∀ {Se : Sto} {e : Env} {S : Sto} {adr : Nat → Addr} {E' : Nat → Sto → Prop} {K : List Val → (Sto → Prop) → Sto → Prop}, PR S0 Se pe e S adr →
    (∀ xs grd S', Sto.le S S' → (∀ S2, Sto.le S' S2 → grd S2) → Q xs → K xs grd S') → PXo E S E' → wI g.G E' x e S K
  | .val a, g, S0, E, pe, Q, h, Se, e, S, adr, E', K, pr, k, x => by
    rw [pI] at h
    rw [wI]
    refine sE a h pr (fun u S1 r1 le1 rr q => ?_) x
    obtain ⟨xs, ex, q⟩ := withO_i q
    obtain ⟨grd, e1, hg⟩ := iter_res ex (pr.low.trans le1) rr
    rw [e1]
    exact k _ _ _ le1 (fun S2 le2 => hg S2 fun a o _ q => le2 _ _ q) q
  | .rng es, g, S0, E, pe, Q, h, Se, e, S, adr, E', K, pr, k, x => by
    rw [pI] at h
    rw [wI]
    refine sEs es h pr (fun vs S1 rs le1 rr q => ?_) x
    obtain ⟨xs, ex, q⟩ := withO_i q
    rw [ds_res ex rr]
    exact rng_imp q fun lo n st q => k _ _ _ le1 (fun _ _ => trivial) q
  | .enum a, g, S0, E, pe, Q, h, Se, e, S, adr, E', K, pr, k, x => by
    rw [pI] at h
    rw [wI]
    refine sE a h pr (fun u S1 r1 le1 rr q => ?_) x
    obtain ⟨xs, ex, q⟩ := withO_i q
    obtain ⟨grd, e1, hg⟩ := list_res ex (pr.low.trans le1) rr
    rw [e1]
    exact k _ _ _ le1 (fun S2 le2 => hg S2 fun a o _ q => le2 _ _ q) q
  | .zip a b, g, S0, E, pe, Q, h, Se, e, S, adr, E', K, pr, k, x => by
    rw [pI] at h
    rw [wI]
    refine sE a h pr (fun u S1 r1 le1 rr q => sE b q (pr.step le1) (fun w S2 r2 le2 rr2 q2 => ?_) (x.step le1)) x
    obtain ⟨xs, ex, q2⟩ := withO_i q2
    obtain ⟨grd, e1, hg⟩ := zip_res ex (pr.low.trans (le1.trans le2)) (rr.le le2) (rr2.base le1)
    rw [e1]
    exact k _ _ _ (le1.trans le2) (fun S3 le3 => hg S3 fun a o _ q => le3 _ _ q) q2
theorem sC : ∀ (x : Cmp) {g : PCfg} {S0 : Sto} {E : Nat → Prop} {pe : PEnv} {Q : List Val → Prop}, pC g S0 E x pe Q → ∀ {Se : Sto} {e : Env} {S : Sto} {adr : Nat → Addr} {E' : Nat → Sto → Prop} {K : List Val → Sto → Prop}, PR S0 Se pe e S adr →
    (∀ vs S', Sto.le S S' → Q vs → K vs S') → PXo E S E' → wC g.G E' x e S K
  | .mk tg own elt it cond, g, S0, E, pe, Q, h, Se, e, S, adr, E', K, pr, k, x => by
    rw [pC] at h
    rw [wC]
    refine sI it h pr (fun xs grd S1 le1 hg q => ?_) x
    refine t_turns (S := S1) hg (fun y kp kw S2 le2 hb hk => ?_) (fun vs S' le' q' => k vs S' (le1.trans le') q') xs [] S1 (.refl S1) q
    obtain ⟨pe', ep, hb⟩ := withO_i hb
    obtain ⟨e', ee, pr'⟩ := ((pr.step (le1.trans le2)).wipe own).bind ep
    rw [ee]
    refine sIf cond hb pr' (fun b S3 le3 q3 => ⟨fun t => sE elt (q3.1 t) (pr'.step le3) (fun u S4 r le4 rr q4 => ?_) noP_x, fun t => hk _ _ le3 (q3.2 t)⟩)
    obtain ⟨z, rfl, q4⟩ := withD_i q4
    rw [show u = z from rr]
    exact hk _ _ (le3.trans le4) q4
theorem sIf : ∀ (x : Oe) {g : PCfg} {S0 : Sto} {pe : PEnv} {Q : Bool → Prop}, pIf g S0 x pe Q → ∀ {Se : Sto} {e : Env} {S : Sto} {adr : Nat → Addr} {K : Bool → Sto → Prop}, PR S0 Se pe e S adr →
    (∀ l S', Sto.le S S' → Q l → K l S') → wIf g.G x e S K
  | .none, g, S0, pe, Q, h, Se, e, S, adr, K, pr, k => by
    rw [pIf] at h
    rw [wIf]
    exact k _ _ (.refl S) h
  | .some a, g, S0, pe, Q, h, Se, e, S, adr, K, pr, k => by
    rw [pIf] at h
    rw [wIf]
    refine sE a h pr (fun u S1 r1 le1 rr q => ?_) noP_x
    obtain ⟨i, rfl, q⟩ := withPB_i q
    rw [show u = .bl i from rr]
    exact k _ _ le1 q
end
end DL

set_option autoImplicit true
set_option Elab.async false
set_option autoImplicit false
set_option linter.all false
set_option maxRecDepth 100000
set_option maxHeartbeats 4000000
/-! Own layer, pure level, part 4: statements. -/
namespace DL
open PySem

abbrev PN (S0 Se : Sto) (nx : PEnv → Prop) (nx' : Env → Sto → Prop) : Prop := ∀ pe e S adr, nx pe → PR S0 Se pe e S adr → nx' e S
abbrev PRt (Se : Sto) (rt : PK) (rt' : KV) : Prop := ∀ v S' r, Sto.le Se S' → ResR Se S' v r → okA r = true → rt r → rt' v S'
section
variable {S0 Se : Sto} {pe : PEnv} {e : Env} {S : Sto} {adr : Nat → Addr}
theorem PR.hasS (h : PR S0 Se pe e S adr) {j : Nat} (hj : hasA pe j = true) : S (adr j) ≠ none := by
  unfold hasA at hj
  split at hj
  · rename_i a b q
    rw [(h.ll _ _ _ q).2]
    exact fun z => by cases z
  · rename_i a b q
    obtain ⟨_, t, h2⟩ := h.mm _ _ _ q
    rw [h2]
    exact fun z => by cases z
  · cases hj
/-- more of a slot is forgotten -/
theorem PR.less {pe' : PEnv} (h : PR S0 Se pe e S adr) (hl : pe'.length = pe.length) (hh : ∀ j r, getP pe' j = some r → getP pe j = some r ∨ ∃ r0, getP pe j = some r0 ∧ r = r0.bor) : PR S0 Se pe' e S adr := by
  have kA : ∀ j, hasA pe' j = true → hasA pe j = true := by
    intro j hj
    unfold hasA at hj
    split at hj
    · rename_i a b q
      rcases hh _ _ q with z | ⟨r0, z, z2⟩
      · unfold hasA; rw [z]
      · unfold hasA; rw [z]; cases r0 <;> first | rfl | cases z2
    · rename_i a b q
      rcases hh _ _ q with z | ⟨r0, z, z2⟩
      · unfold hasA; rw [z]
      · unfold hasA; rw [z]; cases r0 <;> first | rfl | cases z2
    · cases hj
  have kO : ∀ j, ownS pe' j = true → ownS pe j = true := by
    intro j hj
    unfold ownS at hj
    split at hj
    · rename_i a b q
      subst hj
      rcases hh _ _ q with z | ⟨r0, z, z2⟩
      · unfold ownS; rw [z]
      · cases r0 <;> cases z2
    · rename_i a b q
      subst hj
      rcases hh _ _ q with z | ⟨r0, z, z2⟩
      · unfold ownS; rw [z]
      · cases r0 <;> cases z2
    · cases hj
  refine ⟨h.le0, h.leE, by rw [h.len, hl], fun j w q => ?_, fun j o xs q => ?_, fun j o xs q => ?_, fun j xs w q => ?_, fun j hj => ⟨(h.own j (kO j hj)).1, fun k n hk => (h.own j (kO j hj)).2 k n (kA k hk)⟩⟩
  · rcases hh _ _ q with z | ⟨r0, z, z2⟩
    · exact h.dd _ _ z
    · cases r0 <;> cases z2
      exact h.dd _ _ z
  · rcases hh _ _ q with z | ⟨r0, z, z2⟩
    · exact h.ll _ _ _ z
    · cases r0 <;> cases z2
      exact h.ll _ _ _ z
  · rcases hh _ _ q with z | ⟨r0, z, z2⟩
    · exact h.mm _ _ _ z
    · cases r0 <;> cases z2
      exact h.mm _ _ _ z
  · rcases hh _ _ q with z | ⟨r0, z, z2⟩
    · exact h.nop _ _ _ z
    · cases r0 <;> cases z2
      exact h.nop _ _ _ z
theorem PR.forget (h : PR S0 Se pe e S adr) (j : Nat) : PR S0 Se (pe.set j none) e S adr := h.less (by simp) fun k r q => by
  rw [getP_set] at q
  split at q
  · cases q
  · exact .inl q
theorem PR.frz1 (h : PR S0 Se pe e S adr) (j : Nat) : PR S0 Se (frz1 pe j) e S adr := by
  unfold DL.frz1
  split
  · rename_i r er
    refine h.less (by simp) fun k r' q => ?_
    rw [getP_set] at q
    split at q
    · rename_i c
      cases q
      rw [← c.1]
      exact .inr ⟨r, er, rfl⟩
    · exact .inl q
  · exact h
theorem PR.frz (h : PR S0 Se pe e S adr) (it : Itr) : PR S0 Se (frz pe it) e S adr := by
  unfold DL.frz
  split
  · exact h.frz1 _
  · exact h.frz1 _
  · exact (h.frz1 _).frz1 _
  · exact h.frz1 _
  · exact h.frz1 _
  · exact h
/-- a slot is set to a list or a dict -/
theorem PR.setA (h : PR S0 Se pe e S adr) (i : Nat) {q : PV} {a : Addr} (hq : (∃ o xs, q = .l o xs ∧ S a = some (.lst xs)) ∨ ∃ o kvs t, q = .m o kvs ∧ S a = some (.dct kvs t))
    (h1 : ∀ k, ownS pe k = true → k ≠ i → a ≠ adr k) (h2 : okA q = true → Se a = none ∧ ∀ j, hasA pe j = true → j ≠ i → adr j ≠ a) : PR S0 Se (pe.set i (some q)) (e.set i (some (.ref a))) S (fun j => if j = i then a else adr j) := by
  have key : ∀ j r, getP (pe.set i (some q)) j = some r → (j = i ∧ r = q ∧ getV (e.set i (some (.ref a))) j = some (.ref a)) ∨ (j ≠ i ∧ getP pe j = some r ∧ getV (e.set i (some (.ref a))) j = getV e j) := by
    intro j r hr
    rw [getP_set] at hr
    rw [getV_set, h.len]
    split at hr
    · rename_i c
      rw [if_pos c]
      cases hr
      exact .inl ⟨c.1.symm, rfl, rfl⟩
    · rename_i c
      rw [if_neg c]
      refine .inr ⟨fun z => ?_, hr, rfl⟩
      subst z
      have : ¬ j < pe.length := fun z => c ⟨rfl, z⟩
      unfold getP at hr
      rw [List.getElem?_eq_none (by omega)] at hr
      cases hr
  have kA : ∀ j, hasA (pe.set i (some q)) j = true → j ≠ i → hasA pe j = true := by
    intro j hj n
    unfold hasA at hj
    split at hj
    · rename_i b c z
      rcases key _ _ z with ⟨z, _⟩ | ⟨_, z, _⟩
      · exact absurd z n
      · unfold hasA; rw [z]
    · rename_i b c z
      rcases key _ _ z with ⟨z, _⟩ | ⟨_, z, _⟩
      · exact absurd z n
      · unfold hasA; rw [z]
    · cases hj
  have kO : ∀ j, ownS (pe.set i (some q)) j = true → (j = i ∧ okA q = true) ∨ (j ≠ i ∧ ownS pe j = true) := by
    intro j hj
    unfold ownS at hj
    split at hj
    · rename_i b c z
      subst hj
      rcases key _ _ z with ⟨z, z2, _⟩ | ⟨n, z, _⟩
      · exact .inl ⟨z, by rw [← z2]; rfl⟩
      · exact .inr ⟨n, by unfold ownS; rw [z]⟩
    · rename_i b c z
      subst hj
      rcases key _ _ z with ⟨z, z2, _⟩ | ⟨n, z, _⟩
      · exact .inl ⟨z, by rw [← z2]; rfl⟩
      · exact .inr ⟨n, by unfold ownS; rw [z]⟩
    · cases hj
  refine ⟨h.le0, h.leE, by simp [h.len], fun j w z => ?_, fun j o xs z => ?_, fun j o xs z => ?_, fun j xs w z => ?_, fun j hj => ?_⟩
  · rcases key _ _ z with ⟨z, z2, _⟩ | ⟨n, z, z2⟩
    · rcases hq with ⟨o, xs, e1, _⟩ | ⟨o, xs, t, e1, _⟩ <;> (rw [e1] at z2; cases z2)
    · rw [z2]; exact h.dd _ _ z
  · rcases key _ _ z with ⟨z, z2, z3⟩ | ⟨n, z, z2⟩
    · rw [z3, if_pos z]
      rcases hq with ⟨o, xs, e1, e2⟩ | ⟨o, xs, t, e1, _⟩
      · rw [e1] at z2
        cases z2
        exact ⟨rfl, e2⟩
      · rw [e1] at z2; cases z2
    · rw [z2, if_neg n]; exact h.ll _ _ _ z
  · rcases key _ _ z with ⟨z, z2, z3⟩ | ⟨n, z, z2⟩
    · rw [z3, if_pos z]
      rcases hq with ⟨o, xs, e1, e2⟩ | ⟨o, xs, t, e1, e2⟩
      · rw [e1] at z2; cases z2
      · rw [e1] at z2
        cases z2
        exact ⟨rfl, t, e2⟩
    · rw [z2, if_neg n]; exact h.mm _ _ _ z
  · rcases key _ _ z with ⟨z, z2, _⟩ | ⟨n, z, z2⟩
    · rcases hq with ⟨o, xs, e1, _⟩ | ⟨o, xs, t, e1, _⟩ <;> (rw [e1] at z2; cases z2)
    · exact h.nop _ _ _ z
  · rcases kO j hj with ⟨z, z2⟩ | ⟨n, z⟩
    · subst z
      rw [if_pos rfl]
      refine ⟨(h2 z2).1, fun k nk hk => ?_⟩
      rw [if_neg nk]
      exact (h2 z2).2 k (kA k hk nk) nk
    · rw [if_neg n]
      refine ⟨(h.own j z).1, fun k nk hk => ?_⟩
      by_cases ki : k = i
      · rw [if_pos ki]
        exact h1 j z n
      · rw [if_neg ki]
        exact (h.own j z).2 k nk (kA k hk ki)
/-- an own list or dict is changed -/
theorem PR.mut (h : PR S0 Se pe e S adr) {j : Nat} (hj : ownS pe j = true) {q : PV} {ob : Ob} (hq : (∃ xs, q = .l true xs ∧ ob = .lst xs) ∨ ∃ kvs t, q = .m true kvs ∧ ob = .dct kvs t) : PR S0 Se (pe.set j (some q)) e (up S (adr j) ob) adr := by
  obtain ⟨hn, ho⟩ := h.own j hj
  have hlt : j < pe.length := by
    by_cases z : j < pe.length
    · exact z
    · unfold ownS getP at hj
      rw [List.getElem?_eq_none (by omega)] at hj
      cases hj
  have ev : getV e j = some (.ref (adr j)) := by
    unfold ownS at hj
    split at hj
    · rename_i z; exact (h.ll _ _ _ z).1
    · rename_i z; exact (h.mm _ _ _ z).1
    · cases hj
  have key : ∀ k r, getP (pe.set j (some q)) k = some r → (k = j ∧ r = q) ∨ (k ≠ j ∧ getP pe k = some r) := by
    intro k r hr
    rw [getP_set] at hr
    split at hr
    · rename_i c
      cases hr
      exact .inl ⟨c.1.symm, rfl⟩
    · rename_i c
      exact .inr ⟨fun z => c ⟨z.symm, hlt⟩, hr⟩
  have kA : ∀ k, hasA (pe.set j (some q)) k = true → k ≠ j → hasA pe k = true := by
    intro k hk n
    unfold hasA at hk
    split at hk
    · rename_i b c z
      rcases key _ _ z with ⟨z, _⟩ | ⟨_, z⟩
      · exact absurd z n
      · unfold hasA; rw [z]
    · rename_i b c z
      rcases key _ _ z with ⟨z, _⟩ | ⟨_, z⟩
      · exact absurd z n
      · unfold hasA; rw [z]
    · cases hk
  refine ⟨h.le0, le_write h.leE hn, by simp [h.len], fun k w z => ?_, fun k o xs z => ?_, fun k o xs z => ?_, fun k xs w z => ?_, fun k hk => ?_⟩
  · rcases key _ _ z with ⟨z, z2⟩ | ⟨n, z⟩
    · rcases hq with ⟨xs, e1, _⟩ | ⟨xs, t, e1, _⟩ <;> (rw [e1] at z2; cases z2)
    · exact h.dd _ _ z
  · rcases key _ _ z with ⟨z0, z2⟩ | ⟨n, z⟩
    · rcases hq with ⟨xs, e1, e2⟩ | ⟨xs, t, e1, _⟩
      · rw [e1] at z2
        cases z2
        subst z0 e2
        exact ⟨ev, DL.up_same⟩
      · rw [e1] at z2; cases z2
    · have hA : hasA pe k = true := by unfold hasA; rw [z]
      rw [up_get (ho k n hA)]
      exact h.ll _ _ _ z
  · rcases key _ _ z with ⟨z0, z2⟩ | ⟨n, z⟩
    · rcases hq with ⟨xs, e1, e2⟩ | ⟨xs, t, e1, e2⟩
      · rw [e1] at z2; cases z2
      · rw [e1] at z2
        cases z2
        subst z0 e2
        exact ⟨ev, t, DL.up_same⟩
    · have hA : hasA pe k = true := by unfold hasA; rw [z]
      rw [up_get (ho k n hA)]
      exact h.mm _ _ _ z
  · rcases key _ _ z with ⟨z0, z2⟩ | ⟨n, z⟩
    · rcases hq with ⟨xs, e1, _⟩ | ⟨xs, t, e1, _⟩ <;> (rw [e1] at z2; cases z2)
    · exact h.nop _ _ _ z
  · by_cases n : k = j
    · subst n
      exact ⟨hn, fun i ni hi => ho i ni (kA i hi ni)⟩
    · have hk' : ownS pe k = true := by
        unfold ownS at hk
        split at hk
        · rename_i b c z
          subst hk
          rcases key _ _ z with ⟨z, _⟩ | ⟨_, z⟩
          · exact absurd z n
          · unfold ownS; rw [z]
        · rename_i b c z
          subst hk
          rcases key _ _ z with ⟨z, _⟩ | ⟨_, z⟩
          · exact absurd z n
          · unfold ownS; rw [z]
        · cases hk
      refine ⟨(h.own k hk').1, fun i ni hi => ?_⟩
      by_cases ij : i = j
      · subst ij
        exact (h.own k hk').2 i ni (own_has hj)
      · exact (h.own k hk').2 i ni (kA i hi ij)
theorem PR.weak {Se2 : Sto} (h : PR S0 Se2 pe e S adr) (l0 : Sto.le S0 Se) (l : Sto.le Se Se2) : PR S0 Se pe e S adr :=
  ⟨l0, l.trans h.leE, h.len, h.dd, h.ll, h.mm, h.nop, fun i hi => ⟨le_off l (h.own i hi).1, (h.own i hi).2⟩⟩
/-- places that stay as they are -/
theorem PR.fix (h : PR S0 Se pe e S adr) (Av : Addr → Prop) (hA : ∀ a, Av a → ∀ k, ownS pe k = true → adr k ≠ a) : ∃ Se2, Sto.le Se Se2 ∧ PR S0 Se2 pe e S adr ∧ ∀ S2, Sto.le Se2 S2 → ∀ a o, Av a → S a = some o → S2 a = some o := by
  classical
  refine ⟨fun a => if Av a then S a else Se a, fun a o q => ?_, ⟨fun a o q => ?_, fun a o q => ?_, h.len, h.dd, h.ll, h.mm, h.nop, fun i hi => ⟨?_, (h.own i hi).2⟩⟩, fun S2 le a o av q => le a o ?_⟩
  · try simp only
    split
    · exact h.leE _ _ q
    · exact q
  · try simp only
    split
    · exact h.low _ _ q
    · exact h.le0 _ _ q
  · try simp only at q
    split at q
    · exact q
    · exact h.leE _ _ q
  · try simp only
    rw [if_neg fun z => hA _ z i hi rfl]
    exact (h.own i hi).1
  · try simp only
    rw [if_pos av]
    exact q
/-- a new list or dict in a slot -/
theorem PR.put (h : PR S0 Se pe e S adr) {S1 : Sto} (le : Sto.le S S1) (i : Nat) {v : Val} {r : PV} (hr : ResR S S1 v r) (ok : okA r = true) : ∃ adr', PR S0 Se (pe.set i (some r)) (e.set i (some v)) S1 adr' := by
  have fr : ∀ a, S a = none → (∀ k, hasA pe k = true → adr k ≠ a) := fun a n k hk z => h.hasS hk (by rw [z]; exact n)
  cases r with
  | d x => exact ⟨adr, (h.step le).setD i _ _ fun q z => by cases z; exact ⟨x, rfl, by rw [show v = x from hr]⟩⟩
  | l o xs =>
    obtain ⟨a, rfl, e1, f⟩ := hr
    have n := f ok
    exact ⟨_, (h.step le).setA i (.inl ⟨o, xs, rfl, e1⟩) (fun k hk _ z => fr a n k (own_has hk) z.symm) fun _ => ⟨le_off h.leE n, fun j hj _ => fr a n j hj⟩⟩
  | m o xs =>
    obtain ⟨a, t, rfl, e1, f⟩ := hr
    have n := f ok
    exact ⟨_, (h.step le).setA i (.inr ⟨o, xs, t, rfl, e1⟩) (fun k hk _ z => fr a n k (own_has hk) z.symm) fun _ => ⟨le_off h.leE n, fun j hj _ => fr a n j hj⟩⟩
  | p _ _ => exact hr.elim
end
theorem PXs_o {E : Nat → Prop} {Se S : Sto} {E' : Nat → Sto → Prop} (x : PXo E Se E') (le : Sto.le Se S) : PXo E S E' := x.step le
theorem frz1_own {pe : PEnv} {j i : Nat} (h : ownS (frz1 pe j) i = true) : ownS pe i = true ∧ i ≠ j := by
  unfold frz1 at h
  split at h
  · rename_i r er
    have hj : j < pe.length := by
      by_cases z : j < pe.length
      · exact z
      · unfold getP at er
        rw [List.getElem?_eq_none (by omega)] at er
        cases er
    unfold ownS at h
    rw [getP_set] at h
    by_cases c : j = i
    · subst c
      rw [if_pos ⟨rfl, hj⟩] at h
      cases r <;> cases h
    · rw [if_neg (fun z => c z.1)] at h
      exact ⟨h, fun z => c z.symm⟩
  · rename_i er
    refine ⟨h, fun z => ?_⟩
    subst z
    unfold ownS at h
    rw [er] at h
    cases h
section
variable {g : PCfg} {S0 Se : Sto} {E : Nat → Prop} {pe : PEnv} {e : Env} {S : Sto} {adr : Nat → Addr} {E' : Nat → Sto → Prop}
theorem sEv (a : Ex) {Q : PK} {K : KV} (h : pE g S0 E a pe Q) (pr : PR S0 Se pe e S adr) (k : ∀ u S' r, Sto.le S S' → ResR S S' u r → (∀ j, a = .var j → hasA pe j = true → u = .ref (adr j)) → (∀ j, a = .var j → ∃ q, getP pe j = some q ∧ r = q.bor) → Q r → K u S') (x : PXo E S E') : wE g.G E' a e S K := by
  cases a with
  | var i =>
    rw [pE] at h
    rw [wE]
    obtain ⟨r, er, h⟩ := withO_i h
    cases r with
    | d v =>
      rw [pr.dd i v er]
      refine k _ _ (.d v) (.refl S) rfl (fun j ej hj => ?_) (fun j ej => by cases ej; exact ⟨_, er, rfl⟩) h
      cases ej
      unfold hasA at hj
      rw [er] at hj
      cases hj
    | l o xs =>
      obtain ⟨h1, h2⟩ := pr.ll i o xs er
      rw [h1]
      exact k _ _ (.l false xs) (.refl S) ⟨_, rfl, h2, fun z => by cases z⟩ (fun j ej hj => by cases ej; rfl) (fun j ej => by cases ej; exact ⟨_, er, rfl⟩) h
    | m o xs =>
      obtain ⟨h1, t, h2⟩ := pr.mm i o xs er
      rw [h1]
      exact k _ _ (.m false xs) (.refl S) ⟨_, t, rfl, h2, fun z => by cases z⟩ (fun j ej hj => by cases ej; rfl) (fun j ej => by cases ej; exact ⟨_, er, rfl⟩) h
    | p xs v => exact (pr.nop _ _ _ er).elim
  | _ => exact sE _ h pr (fun u S' r le rr q => k u S' r le rr (fun j z => by cases z) (fun j z => by cases z) q) x
/-- an address that is walked is no own one -/
theorem one_off {a : Ex} {u : Val} {S1 : Sto} {r : PV} (pr : PR S0 Se pe e S adr) (rr : ResR S S1 u r) (hv : ∀ j, a = .var j → hasA pe j = true → u = .ref (adr j)) (ok : (isV a || okA r) = true) (hr : ∀ j, a = .var j → ∃ q, getP pe j = some q ∧ r = q.bor)
    (hc : (∃ xs, r = .d (.tup xs)) ∨ lof S0 r ≠ none ∨ iterP S0 r ≠ none) : ∀ p, u = .ref p → ∀ i, ownS pe i = true → (∀ j, a = .var j → i ≠ j) → adr i ≠ p := by
  intro p hp i hi hij z
  have ho := pr.own i hi
  have hs : S (adr i) ≠ none := pr.hasS (own_has hi)
  have slot : isV a = true → (∃ j, a = .var j ∧ hasA pe j = true) → False := by
    rintro _ ⟨j, ej, hj⟩
    have := hv j ej hj
    rw [hp] at this
    cases this
    exact ho.2 j (fun z => hij j ej z.symm) hj z.symm
  cases r with
  | d w =>
    have rr : u = w := rr
    subst rr
    subst hp
    have : S0 p ≠ none := by
      intro n
      rcases hc with ⟨xs, c⟩ | c | c
      · cases c
      · exact c (by simp only [lof, n])
      · exact c (by simp only [iterP, iterOf, n]; rfl)
    cases q : S0 p with
    | none => exact this q
    | some o =>
      have := pr.le0 _ _ q
      rw [← z, ho.1] at this
      cases this
  | l o xs =>
    obtain ⟨b, e2, _, f⟩ := rr
    rw [hp] at e2
    cases e2
    cases o with
    | true => exact hs (by rw [z]; exact f rfl)
    | false =>
      simp only [okA, Bool.or_false] at ok
      refine slot ok ?_
      cases a <;> first | (cases ok; done) | skip
      rename_i j
      obtain ⟨q, e1, e2⟩ := hr j rfl
      exact ⟨j, rfl, by unfold hasA; rw [e1]; cases q <;> first | rfl | cases e2⟩
  | m o xs =>
    obtain ⟨b, t, e2, _, f⟩ := rr
    rw [hp] at e2
    cases e2
    cases o with
    | true => exact hs (by rw [z]; exact f rfl)
    | false =>
      simp only [okA, Bool.or_false] at ok
      refine slot ok ?_
      cases a <;> first | (cases ok; done) | skip
      rename_i j
      obtain ⟨q, e1, e2⟩ := hr j rfl
      exact ⟨j, rfl, by unfold hasA; rw [e1]; cases q <;> first | rfl | cases e2⟩
  | p _ _ => exact rr.elim
theorem frz_val {a : Ex} {i : Nat} (h : ownS (frz pe (.val a)) i = true) : ownS pe i = true ∧ ∀ j, a = .var j → i ≠ j := by
  cases a <;> first | exact ⟨h, fun j z => by cases z⟩ | skip
  obtain ⟨h1, h2⟩ := frz1_own h
  exact ⟨h1, fun j z => by cases z; exact h2⟩
theorem frz_enum {a : Ex} {i : Nat} (h : ownS (frz pe (.enum a)) i = true) : ownS pe i = true ∧ ∀ j, a = .var j → i ≠ j := by
  cases a <;> first | exact ⟨h, fun j z => by cases z⟩ | skip
  obtain ⟨h1, h2⟩ := frz1_own h
  exact ⟨h1, fun j z => by cases z; exact h2⟩
theorem frz_zip {a b : Ex} {i : Nat} (h : ownS (frz pe (.zip a b)) i = true) : ownS pe i = true ∧ (∀ j, a = .var j → i ≠ j) ∧ ∀ j, b = .var j → i ≠ j := by
  unfold frz at h
  split at h
  · rename_i z; cases z
  · rename_i z; cases z
  · rename_i z
    cases z
    obtain ⟨h1, h2⟩ := frz1_own h
    obtain ⟨h3, h4⟩ := frz1_own h1
    exact ⟨h3, fun j z => by cases z; exact h4, fun j z => by cases z; exact h2⟩
  · rename_i n z
    cases z
    obtain ⟨h3, h4⟩ := frz1_own h
    exact ⟨h3, fun j z => by cases z; exact h4, fun j z => (n _ z).elim⟩
  · rename_i n z
    cases z
    obtain ⟨h3, h4⟩ := frz1_own h
    exact ⟨h3, fun j z => by subst z; exact (n _ rfl).elim, fun j z => by cases z; exact h4⟩
  · rename_i n1 n2 n3 n4 n5
    exact ⟨h, fun j z => by subst z; exact (n4 _ _ rfl).elim, fun j z => by subst z; exact (n5 _ _ rfl).elim⟩
/-- what is walked by a for -/
theorem sIs {it : Itr} {Q : List Val → Prop} (h : pIs g S0 E it pe Q) {K : List Val → (Sto → Prop) → Sto → Prop} (pr : PR S0 Se pe e S adr)
    (k : ∀ (xs : List Val) (grd : Sto → Prop) (S' : Sto) (Av : Addr → Prop), Sto.le S S' → (∀ a, Av a → ∀ i, ownS (frz pe it) i = true → adr i ≠ a) → (∀ S2, (∀ a o, Av a → S' a = some o → S2 a = some o) → grd S2) → Q xs → K xs grd S') (x : PXo E S E') : wI g.G E' it e S K := by
  cases it with
  | val a =>
    rw [wI]
    refine sEv a h pr (fun u S1 r le1 rr hv hr q => ?_) x
    obtain ⟨ok, q⟩ := q
    obtain ⟨xs, ex, q⟩ := withO_i q
    obtain ⟨grd, e1, hg⟩ := iter_res ex (pr.low.trans le1) rr
    rw [e1]
    refine k _ _ _ (fun p => u = .ref p) le1 (fun p hp i hi => ?_) hg q
    obtain ⟨h1, h2⟩ := frz_val hi
    exact one_off pr rr hv ok hr (.inr (.inr (by rw [ex]; exact fun z => by cases z))) p hp i h1 h2
  | rng es =>
    rw [wI]
    refine sEs es h pr (fun vs S1 rs le1 rr q => ?_) x
    obtain ⟨xs, ex, q⟩ := withO_i q
    rw [ds_res ex rr]
    exact rng_imp q fun lo n st q => k _ _ _ (fun _ => False) le1 (fun a z => z.elim) (fun _ _ => trivial) q
  | enum a =>
    rw [wI]
    refine sEv a h pr (fun u S1 r le1 rr hv hr q => ?_) x
    obtain ⟨ok, q⟩ := q
    obtain ⟨xs, ex, q⟩ := withO_i q
    obtain ⟨grd, e1, hg⟩ := list_res ex (pr.low.trans le1) rr
    rw [e1]
    refine k _ _ _ (fun p => u = .ref p) le1 (fun p hp i hi => ?_) hg q
    obtain ⟨h1, h2⟩ := frz_enum hi
    refine one_off pr rr hv ok hr ?_ p hp i h1 h2
    unfold enP at ex
    split at ex
    · exact .inr (.inl fun z => by cases z)
    · rename_i v
      cases v <;> simp only [listOf] at ex <;> first | (cases ex; done) | skip
      · refine .inr (.inr ?_)
        split at ex
        · rename_i hz
          simp [iterP, iterOf, hz]
        · cases ex
      · exact .inl ⟨_, rfl⟩
      · rename_i a'
        split at ex
        · rename_i e2
          exact .inr (.inl (by simp [lof, e2]))
        · cases ex
    · cases ex
  | zip a b =>
    rw [wI]
    refine sEv a h pr (fun u S1 r le1 rr hv hr q => ?_) x
    obtain ⟨ok, q⟩ := q
    refine sEv b q (pr.step le1) (fun w S2 r2 le2 rr2 hv2 hr2 q2 => ?_) (x.step le1)
    obtain ⟨ok2, q2⟩ := q2
    obtain ⟨xs, ex, q2⟩ := withO_i q2
    obtain ⟨grd, e1, hg⟩ := zip_res ex (pr.low.trans (le1.trans le2)) (rr.le le2) (rr2.base le1)
    rw [e1]
    have c : ((∃ xs, r = .d (.tup xs)) ∨ lof S0 r ≠ none ∨ iterP S0 r ≠ none) ∧ ((∃ xs, r2 = .d (.tup xs)) ∨ lof S0 r2 ≠ none ∨ iterP S0 r2 ≠ none) := by
      unfold zipP at ex
      split at ex
      · rename_i z1 z2
        exact ⟨.inr (.inl (by rw [z1]; exact fun z => by cases z)), .inr (.inl (by rw [z2]; exact fun z => by cases z))⟩
      · split at ex
        · exact ⟨.inl ⟨_, rfl⟩, .inl ⟨_, rfl⟩⟩
        · cases ex
      · cases ex
    refine k _ _ _ (fun p => u = .ref p ∨ w = .ref p) (le1.trans le2) (fun p hp i hi => ?_) hg q2
    obtain ⟨h1, h2, h3⟩ := frz_zip hi
    rcases hp with hp | hp
    · exact one_off pr rr hv ok hr c.1 p hp i h1 h2
    · exact one_off (pr.step le1) rr2 hv2 ok2 hr2 c.2 p hp i h1 h3
end
theorem t_for {tg : Tg} {bodyP : (PEnv → Prop) → PEnv → Prop} {bodyW : (Env → Sto → Prop) → Env → Sto → Prop} {grd : Sto → Prop} {nx : PEnv → Prop} {nx' : Env → Sto → Prop} {S0 Se : Sto} (hg : ∀ S', Sto.le Se S' → grd S')
    (hb : ∀ kp kw pe e S adr, bodyP kp pe → PR S0 Se pe e S adr → PN S0 Se kp kw → bodyW kw e S) (hn : PN S0 Se nx nx') : ∀ (xs : List Val) (pe : PEnv) (e : Env) (S : Sto) (adr : Nat → Addr), pFor tg bodyP nx xs pe → PR S0 Se pe e S adr → wFor tg bodyW grd nx' xs e S
  | [], pe, e, S, adr, h, pr => ⟨hg S pr.leE, hn pe e S adr h pr⟩
  | x :: xs, pe, e, S, adr, h, pr => by
    refine ⟨hg S pr.leE, ?_⟩
    obtain ⟨pe', ep, h⟩ := withO_i h
    obtain ⟨e', ee, pr'⟩ := pr.bind ep
    rw [ee]
    exact hb _ _ _ _ _ _ h pr' fun pe2 e2 S2 adr2 q pr2 => t_for hg hb hn xs pe2 e2 S2 adr2 q pr2
end DL

set_option autoImplicit true
set_option Elab.async false
set_option autoImplicit false
set_option linter.all false
set_option maxRecDepth 100000
set_option maxHeartbeats 4000000
/-! Own layer, pure level, part 5: statements, defs. -/
namespace DL
open PySem
theorem set_none {pe : PEnv} {j k : Nat} {r : PV} (h : getP (pe.set j none) k = some r) : k ≠ j ∧ getP pe k = some r := by
  rw [getP_set] at h
  split at h
  · cases h
  · rename_i c
    refine ⟨fun z => c ⟨z.symm, ?_⟩, h⟩
    by_cases q : j < pe.length
    · exact q
    · subst z
      unfold getP at h
      rw [List.getElem?_eq_none (by omega)] at h
      cases h
theorem own_none {pe : PEnv} {j k : Nat} (h : ownS (pe.set j none) k = true) : k ≠ j ∧ ownS pe k = true := by
  unfold ownS at h
  split at h
  · rename_i q
    obtain ⟨h1, h2⟩ := set_none q
    exact ⟨h1, by unfold ownS; rw [h2]; exact h⟩
  · rename_i q
    obtain ⟨h1, h2⟩ := set_none q
    exact ⟨h1, by unfold ownS; rw [h2]; exact h⟩
  · cases h
theorem has_none {pe : PEnv} {j k : Nat} (h : hasA (pe.set j none) k = true) : k ≠ j ∧ hasA pe k = true := by
  unfold hasA at h
  split at h
  · rename_i q
    obtain ⟨h1, h2⟩ := set_none q
    exact ⟨h1, by unfold hasA; rw [h2]⟩
  · rename_i q
    obtain ⟨h1, h2⟩ := set_none q
    exact ⟨h1, by unfold hasA; rw [h2]⟩
  · cases h
section
variable {g : PCfg} {S0 Se : Sto} {E : Nat → Prop} {pe : PEnv} {e : Env} {S : Sto} {adr : Nat → Addr} {E' : Nat → Sto → Prop} {rt : PK} {rt' : KV} {nx : PEnv → Prop} {nx' : Env → Sto → Prop}
theorem s_move {i j : Nat} (h : pMove pe i j nx) (pr : PR S0 Se pe e S adr) (k : PN S0 Se nx nx') : wE g.G E' (.var j) e S fun v S1 => nx' (e.set i (some v)) S1 := by
  rw [wE]
  obtain ⟨r, er, h⟩ := withO_i h
  have own1 : ownS pe j = true → i ≠ j → PR S0 Se ((pe.set i (some r)).set j none) (e.set i (some (.ref (adr j)))) S (fun k => if k = i then adr j else adr k) := by
    intro ho hij
    rw [List.set_comm _ _ hij]
    refine (pr.forget j).setA i ?_ (fun k hk _ z => ?_) fun _ => ⟨(pr.own j ho).1, fun k hk _ => ?_⟩
    · cases r with
      | l o xs => exact .inl ⟨o, xs, rfl, (pr.ll _ _ _ er).2⟩
      | m o xs => obtain ⟨_, t, h2⟩ := pr.mm _ _ _ er; exact .inr ⟨o, xs, t, rfl, h2⟩
      | d _ => unfold ownS at ho; rw [er] at ho; cases ho
      | p _ _ => exact (pr.nop _ _ _ er).elim
    · obtain ⟨kj, hk⟩ := own_none hk
      exact (pr.own k hk).2 j (Ne.symm kj) (own_has ho) z
    · obtain ⟨kj, hk⟩ := has_none hk
      exact (pr.own j ho).2 k kj hk
  have bor1 : ownS pe j = false → hasA pe j = true → PR S0 Se (pe.set i (some r)) (e.set i (some (.ref (adr j)))) S (fun k => if k = i then adr j else adr k) := by
    intro ho ha
    refine pr.setA i ?_ (fun k hk _ z => ?_) fun ok => ?_
    · cases r with
      | l o xs => exact .inl ⟨o, xs, rfl, (pr.ll _ _ _ er).2⟩
      | m o xs => obtain ⟨_, t, h2⟩ := pr.mm _ _ _ er; exact .inr ⟨o, xs, t, rfl, h2⟩
      | d _ => unfold hasA at ha; rw [er] at ha; cases ha
      | p _ _ => exact (pr.nop _ _ _ er).elim
    · have kj : j ≠ k := fun q => by subst q; rw [ho] at hk; cases hk
      exact (pr.own k hk).2 j kj ha z
    · unfold ownS at ho
      rw [er] at ho
      cases r with
      | l o xs => simp only at ho; rw [ho] at ok; cases ok
      | m o xs => simp only at ho; rw [ho] at ok; cases ok
      | d _ => unfold hasA at ha; rw [er] at ha; cases ha
      | p _ _ => exact (pr.nop _ _ _ er).elim
  cases r with
  | d v =>
    rw [pr.dd _ _ er]
    exact k _ _ _ _ h (pr.setD i _ _ fun q z => by cases z; exact ⟨v, rfl, rfl⟩)
  | l o xs =>
    rw [(pr.ll _ _ _ er).1]
    cases o with
    | true => exact k _ _ _ _ h.2 (own1 (by unfold ownS; rw [er]) h.1)
    | false => exact k _ _ _ _ h (bor1 (by unfold ownS; rw [er]) (by unfold hasA; rw [er]))
  | m o xs =>
    rw [(pr.mm _ _ _ er).1]
    cases o with
    | true => exact k _ _ _ _ h.2 (own1 (by unfold ownS; rw [er]) h.1)
    | false => exact k _ _ _ _ h (bor1 (by unfold ownS; rw [er]) (by unfold hasA; rw [er]))
  | p _ _ => exact (pr.nop _ _ _ er).elim
theorem arg1_of {S S1 : Sto} {v : Val} {r : PV} (h : ResR S S1 v r) : ArgR1 S1 v r.bor := by
  have : ArgR S1 [v] [r.bor] := args_of (vs := [v]) (rs := [r]) ⟨h, trivial⟩
  exact this.1
/-- keeping only what was there -/
theorem keep_le {S S1 : Sto} {v : Val} (hv : isRefV v = false) (le : Sto.le S S1) : keep S S1 v = S := by
  funext a
  have hr : isRef v a = false := by cases v <;> first | rfl | cases hv
  unfold keep
  rw [hr, Bool.or_false]
  cases q : S a with
  | none => simp
  | some o => simp [le a o q]
theorem keep_mut {S S1 : Sto} {b : Addr} {o : Ob} {v : Val} (hb : S b ≠ none) (hv : isRefV v = false) (le : Sto.le S S1) : keep S (up S1 b o) v = up S b o := by
  funext a
  have hr : isRef v a = false := by cases v <;> first | rfl | cases hv
  unfold keep up
  rw [hr, Bool.or_false]
  by_cases e : a = b
  · subst e
    have : (S a).isSome = true := by
      cases q : S a with
      | none => exact absurd q hb
      | some _ => rfl
    simp [this]
  · simp only [if_neg e]
    cases q : S a with
    | none => simp
    | some o => simp [le a o q]
theorem s_lend {i f : Nat} {es : Exs} (h : pLend g S0 E i f es nx pe) (pr : PR S0 Se pe e S adr) (k : PN S0 Se nx nx') (x : PXo E Se E') : wE g.G E' (.drop (.call f es)) e S fun v S1 => nx' (e.set i (some v)) S1 := by
  unfold pLend at h
  split at h
  · rename_i a b r
    rw [wE, wE, wEs]
    refine sE a h pr (fun u S1 r1 le1 rr1 q => ?_) (x.step pr.leE)
    rw [wEs]
    have pr1 := pr.step le1
    split at q
    · rename_i j
      obtain ⟨o, eo, q⟩ := withO_i q
      split at q
      · rename_i xs
        obtain ⟨ev, es'⟩ := pr1.ll _ _ _ eo
        have ho : ownS pe j = true := by unfold ownS; rw [eo]
        rw [wE, ev]
        refine sEs r q pr1 (fun vs S2 rs le2 rr2 q2 => ?_) (x.step pr1.leE)
        obtain ⟨ls, el, q2⟩ := withO_i q2
        obtain ⟨sp, e2, hs⟩ := g.okl f ls el
        rw [e2]
        have pr2 := pr1.step le2
        refine hs _ _ _ _ ⟨u, adr j, vs, _, xs, _, S0, _, rfl, pr2.low, le_off pr.le0 (pr.own j ho).1, (pr2.ll _ _ _ eo).2, arg1_of (rr1.le le2), args_of rr2, q2, fun v xs' hq => ?_⟩
        show nx' (e.set i (some v)) (keep S (up S2 (adr j) (.lst xs')) v)
        rw [keep_mut (pr.hasS (own_has ho)) hq.1 (le1.trans le2)]
        exact k _ _ _ _ hq.2 ((pr.mut ho (.inl ⟨_, rfl, rfl⟩)).setD i _ _ fun q z => by cases z; exact ⟨v, rfl, rfl⟩)
      · exact q.elim
    · refine sE b q pr1 (fun w S2 r2 le2 rr2 q2 => ?_) (x.step pr1.leE)
      simp only at q2
      split at q2
      · rename_i xs
        obtain ⟨c, rfl, ec, fc⟩ := rr2
        have pr2 := pr1.step le2
        refine sEs r q2 pr2 (fun vs S3 rs le3 rr3 q3 => ?_) (x.step pr2.leE)
        obtain ⟨ls, el, q3⟩ := withO_i q3
        obtain ⟨sp, e2, hs⟩ := g.okl f ls el
        rw [e2]
        have pr3 := pr2.step le3
        have n1 := fc rfl
        have n0 : S c = none := le_off le1 n1
        refine hs _ _ _ _ ⟨u, c, vs, _, xs, _, S0, _, rfl, pr3.low, le_off pr.low n0, le3 _ _ ec, arg1_of (rr1.le (le2.trans le3)), args_of rr3, q3, fun v xs' hq => ?_⟩
        show nx' (e.set i (some v)) (keep S (up S3 c (.lst xs')) v)
        rw [keep_le hq.1 (le_write (le1.trans (le2.trans le3)) n0)]
        exact k _ _ _ _ hq.2 (pr.setD i _ _ fun q z => by cases z; exact ⟨v, rfl, rfl⟩)
      · exact q2.elim
  · exact h.elim
theorem ext_res {S1 S2 : Sto} {x : PV} {ys : List Val} {v : Val} (h : extP S0 x = some ys) (le : Sto.le S0 S2) (r : ResR S1 S2 v x) : v = .tup ys ∨ ∃ a, v = .ref a ∧ S2 a = some (.lst ys) ∧ (S1 a = none ∨ S0 a ≠ none) := by
  cases x with
  | l o xs =>
    simp only [extP] at h
    split at h
    · rename_i c
      cases h
      obtain ⟨a, e1, e2, f⟩ := r
      exact .inr ⟨a, e1, e2, .inl (f c)⟩
    · cases h
  | m _ _ => cases h
  | p _ _ => cases h
  | d w =>
    have r : v = w := r
    subst r
    simp only [extP] at h
    cases v <;> simp only [seqOf] at h <;> first | (cases h; done) | skip
    · simp only [Option.map_some, Option.some.injEq] at h
      exact .inl (by rw [h])
    · rename_i a
      split at h
      · rename_i zs e2
        simp only [Option.map_some, Option.some.injEq] at h
        subst h
        exact .inr ⟨a, rfl, le _ _ e2, .inr (by rw [e2]; exact fun z => by cases z)⟩
      · cases h
theorem s_X {a : Ex} (h : pX g S0 E a nx pe) (pr : PR S0 Se pe e S adr) (k : PN S0 Se nx nx') (x : PXo E Se E') : wE g.G E' a e S fun _ S1 => nx' e S1 := by
  have gen : (pE g S0 E a pe fun _ => nx pe) → wE g.G E' a e S fun _ S1 => nx' e S1 := fun h => sE a h pr (fun u S1 r le rr q => k _ _ _ _ q (pr.step le)) (x.step pr.leE)
  unfold pX at h
  split at h
  · rename_i j y
    obtain ⟨q, eq, h⟩ := withO_i h
    split at h
    · rename_i xs
      obtain ⟨ev, es⟩ := pr.ll _ _ _ eq
      have ho : ownS pe j = true := by unfold ownS; rw [eq]
      rw [wE, wE, ev]
      refine ⟨by simp only [recv, es], ?_⟩
      rw [wEs]
      refine sE y h pr (fun u S1 r le1 rr q => ?_) (x.step pr.leE)
      obtain ⟨v, rfl, q1, q2⟩ := withD_i q
      rw [wEs, show u = v from rr]
      have e2 := le1 _ _ es
      simp only [wMt, e2]
      exact ⟨q1, k _ _ _ _ q2 ((pr.step le1).mut ho (.inl ⟨_, rfl, rfl⟩))⟩
    · exact h.elim
  · rename_i j y
    obtain ⟨q, eq, h⟩ := withO_i h
    split at h
    · rename_i xs
      obtain ⟨ev, es⟩ := pr.ll _ _ _ eq
      have ho : ownS pe j = true := by unfold ownS; rw [eq]
      rw [wE, wE, ev]
      refine ⟨by simp only [recv, es], ?_⟩
      rw [wEs]
      refine sE y h pr (fun u S1 r le1 rr q => ?_) (x.step pr.leE)
      obtain ⟨ys, ey, q1, q2⟩ := withO_i q
      rw [wEs]
      have e2 := le1 _ _ es
      rcases ext_res ey (pr.low.trans le1) rr with rfl | ⟨b, rfl, eb, hb⟩
      · simp only [wMt, e2]
        exact ⟨q1, k _ _ _ _ q2 ((pr.step le1).mut ho (.inl ⟨_, rfl, rfl⟩))⟩
      · simp only [wMt, e2, eb]
        refine ⟨fun z => ?_, q1, k _ _ _ _ q2 ((pr.step le1).mut ho (.inl ⟨_, rfl, rfl⟩))⟩
        subst z
        rcases hb with hb | hb
        · rw [hb] at es; cases es
        · exact hb (le_off pr.le0 (pr.own j ho).1)
    · exact h.elim
  · exact gen h
end
theorem s_H {g : PCfg} {Se S : Sto} {E : Nat → Prop} {rt : PK} {E' : Nat → Sto → Prop} {rt' : KV} (le : Sto.le Se S) (hr : PRt Se rt rt') (x : PXo E Se E') {h : Hd} {y : Nat} (hh : pH g E rt h y) : wH g.G E' rt' h y S := by
  cases h with
  | conj cs => exact hr _ _ (.d _) le rfl rfl hh
  | text z cs => exact hr _ _ (.d _) le rfl rfl hh
  | bl b => exact hr _ _ (.d _) le rfl rfl hh
  | non => exact hr _ _ (.d _) le rfl rfl hh
  | str z => exact hr _ _ (.d _) le rfl rfl hh
  | raise c => exact x c S le hh
mutual
theorem sS : ∀ (s : Sm) {g : PCfg} {S0 : Sto} {E : Nat → Prop} {rt : PK} {nx : PEnv → Prop} {pe : PEnv}, pS g S0 E rt s nx pe → ∀ {Se : Sto} {e : Env} {S : Sto} {adr : Nat → Addr} {E' : Nat → Sto → Prop} {rt' : KV} {nx' : Env → Sto → Prop}, PR S0 Se pe e S adr → PN S0 Se nx nx' → PRt Se rt rt' → PXo E Se E' → wS g.G E' rt' s nx' e S
  | .asg i a, g, S0, E, rt, nx, pe, h, Se, e, S, adr, E', rt', nx', pr, k, hr, x => by
    rw [pS] at h
    rw [wS]
    unfold pAsg at h
    split at h
    · exact s_move h pr k
    · exact s_lend h pr k x
    · exact sE a h pr (fun u S1 r le rr q => by
        obtain ⟨adr', pr'⟩ := pr.put le i rr q.1
        exact k _ _ _ _ q.2 pr') (x.step pr.leE)
  | .asgs is a, g, S0, E, rt, nx, pe, h, Se, e, S, adr, E', rt', nx', pr, k, hr, x => by
    rw [pS] at h
    rw [wS]
    have un : ∀ v S1, Sto.le S S1 → pUn is pe nx (.d v) → withO (bindT (.many is) e v) fun e' => nx' e' S1 := by
      intro v S1 le q
      obtain ⟨pe', ep, q⟩ := withO_i q
      obtain ⟨e', ee, pr'⟩ := (pr.step le).bind ep
      rw [ee]
      exact k _ _ _ _ q pr'
    unfold pAsgs at h
    split at h
    · rename_i f es
      rw [wE]
      refine sEs es h pr (fun vs S1 rs le1 rr q => ?_) (x.step pr.leE)
      obtain ⟨ps, ep, q⟩ := withO_i q
      obtain ⟨sp, es', hs⟩ := g.okf f ps ep
      rw [es']
      refine hs _ _ _ _ ⟨_, S0, _, E, pr.low.trans le1, args_of rr, q, fun r hq => ?_, fun y hy => x y S1 (pr.leE.trans le1) hy⟩
      clear q
      replace q := hq
      clear hq
      cases r with
      | d v => exact un v S1 le1 q
      | l _ _ => exact q.elim
      | m _ _ => exact q.elim
      | p xs v =>
        unfold pUn at q
        simp only at q
        split at q
        · rename_i i j
          intro p n
          obtain ⟨hij, q⟩ := q
          rw [bind_two]
          have le2 : Sto.le S (up S1 p (.lst xs)) := le1.trans (le_new (.refl S1) n)
          obtain ⟨adr', pr'⟩ := pr.put (S1 := up S1 p (.lst xs)) le2 i (v := .ref p) (r := .l true xs) ⟨p, rfl, DL.up_same, fun _ => le_off le1 n⟩ rfl
          exact k _ _ _ _ q (pr'.setD j _ _ fun q z => by cases z; exact ⟨v, rfl, rfl⟩)
        · exact q.elim
    · refine sE a h pr (fun u S1 r le rr q => ?_) (x.step pr.leE)
      cases r with
      | d v => rw [show u = v from rr]; exact un v S1 le q
      | l _ _ => exact q.elim
      | m _ _ => exact q.elim
      | p _ _ => exact rr.elim
  | .par i j a b, g, S0, E, rt, nx, pe, h, Se, e, S, adr, E', rt', nx', pr, k, hr, x => by
    rw [pS] at h
    rw [wS]
    refine sE a h pr (fun u S1 r le1 rr q => ?_) (x.step pr.leE)
    obtain ⟨v, rfl, q⟩ := withD_i q
    refine sE b q (pr.step le1) (fun w S2 r2 le2 rr2 q2 => ?_) (x.step (pr.leE.trans le1))
    obtain ⟨v2, rfl, q2⟩ := withD_i q2
    rw [show u = v from rr, show w = v2 from rr2]
    exact k _ _ _ _ q2 (((pr.step (le1.trans le2)).setD i _ _ fun q z => by cases z; exact ⟨v, rfl, rfl⟩).setD j _ _ fun q z => by cases z; exact ⟨v2, rfl, rfl⟩)
  | .setI a i c, g, S0, E, rt, nx, pe, h, Se, e, S, adr, E', rt', nx', pr, k, hr, x => by
    rw [pS] at h
    rw [wS]
    unfold pSetI at h
    split at h
    · rename_i j
      obtain ⟨o, eo, h⟩ := withO_i h
      refine sE c h pr (fun u S1 r le1 rr q => ?_) (x.step pr.leE)
      obtain ⟨v, rfl, q⟩ := withD_i q
      rw [show u = v from rr]
      have pr1 := pr.step le1
      rw [wE]
      have go : ∀ w, getV e j = some w → (wE g.G E' i e S1 fun y S3 => wSetI w y v S3 fun S4 => nx' e S4) → withO (getV e j) fun w => wE g.G E' i e S1 fun y S3 => wSetI w y v S3 fun S4 => nx' e S4 := fun w ew h => by rw [ew]; exact h
      cases o with
      | d w =>
        refine go w (pr.dd _ _ eo) (sE i q pr1 (fun y S3 r3 le3 rr3 q3 => ?_) (x.step pr1.leE))
        obtain ⟨k', rfl, q3⟩ := withD_i q3
        exact q3.elim
      | p xs w => exact (pr.nop _ _ _ eo).elim
      | l o xs =>
        refine go _ (pr.ll _ _ _ eo).1 (sE i q pr1 (fun y S3 r3 le3 rr3 q3 => ?_) (x.step pr1.leE))
        obtain ⟨k', rfl, q3⟩ := withD_i q3
        cases o with
        | false => exact q3.elim
        | true =>
          obtain ⟨n, e1, q3⟩ := withPI_i q3
          cases e1
          obtain ⟨t, et, q3⟩ := withO_i q3
          have pr3 := pr1.step le3
          rw [show y = .int n from rr3]
          simp only [wSetI, (pr3.ll _ _ _ eo).2, et]
          exact k _ _ _ _ q3 (pr3.mut (by unfold ownS; rw [eo]) (.inl ⟨_, rfl, rfl⟩))
      | m o xs =>
        refine go _ (pr.mm _ _ _ eo).1 (sE i q pr1 (fun y S3 r3 le3 rr3 q3 => ?_) (x.step pr1.leE))
        obtain ⟨k', rfl, q3⟩ := withD_i q3
        cases o with
        | false => exact q3.elim
        | true =>
          have pr3 := pr1.step le3
          obtain ⟨q4, q5, q6⟩ := q3
          obtain ⟨_, t, e4⟩ := pr3.mm _ _ _ eo
          rw [show y = k' from rr3]
          have fin : kindOk xs k' = true ∧ xs.length < line ∧ ∀ t, nx' e (up S3 (adr j) (.dct (dput xs k' v) t)) := ⟨q4, q5, fun t => k _ _ _ _ q6 (pr3.mut (by unfold ownS; rw [eo]) (.inr ⟨_, t, rfl, rfl⟩))⟩
          cases k' <;> (simp only [wSetI, e4]; exact fin)
    · exact h.elim
  | .setF a f c, g, S0, E, rt, nx, pe, h, Se, e, S, adr, E', rt', nx', pr, k, hr, x => by
    rw [pS] at h
    exact h.elim
  | .expr a, g, S0, E, rt, nx, pe, h, Se, e, S, adr, E', rt', nx', pr, k, hr, x => by
    rw [pS] at h
    rw [wS]
    exact s_X h pr k x
  | .ret a, g, S0, E, rt, nx, pe, h, Se, e, S, adr, E', rt', nx', pr, k, hr, x => by
    rw [pS] at h
    rw [wS]
    unfold pRet at h
    split at h
    · rename_i j
      rw [wE]
      obtain ⟨r, er, ok, h⟩ := withO_i h
      cases r with
      | d v => rw [pr.dd _ _ er]; exact hr _ _ (.d v) pr.leE rfl rfl h
      | l o xs =>
        have ho : ownS pe j = true := by unfold ownS; rw [er]; exact ok
        rw [(pr.ll _ _ _ er).1]
        exact hr _ _ (.l o xs) pr.leE ⟨_, rfl, (pr.ll _ _ _ er).2, fun _ => (pr.own j ho).1⟩ ok h
      | m o xs =>
        have ho : ownS pe j = true := by unfold ownS; rw [er]; exact ok
        obtain ⟨h1, t, h2⟩ := pr.mm _ _ _ er
        rw [h1]
        exact hr _ _ (.m o xs) pr.leE ⟨_, t, rfl, h2, fun _ => (pr.own j ho).1⟩ ok h
      | p _ _ => cases ok
    · exact sE a h pr (fun u S1 r le rr q => hr _ _ r (pr.leE.trans le) (rr.base pr.leE) q.1 q.2) (x.step pr.leE)
  | .ret0, g, S0, E, rt, nx, pe, h, Se, e, S, adr, E', rt', nx', pr, k, hr, x => by
    rw [pS] at h
    rw [wS]
    exact hr _ _ (.d .non) pr.leE rfl rfl h
  | .pass, g, S0, E, rt, nx, pe, h, Se, e, S, adr, E', rt', nx', pr, k, hr, x => by
    rw [pS] at h
    rw [wS]
    exact k _ _ _ _ h pr
  | .ite c a b, g, S0, E, rt, nx, pe, h, Se, e, S, adr, E', rt', nx', pr, k, hr, x => by
    rw [pS] at h
    rw [wS]
    refine sE c h pr (fun u S1 r le rr q => ?_) (x.step pr.leE)
    obtain ⟨i, rfl, q⟩ := withPB_i q
    rw [show u = .bl i from rr]
    exact ⟨fun t => sSs a (q.1 t) (pr.step le) k hr x, fun t => sSs b (q.2 t) (pr.step le) k hr x⟩
  | .while c b, g, S0, E, rt, nx, pe, h, Se, e, S, adr, E', rt', nx', pr, k, hr, x => by
    rw [pS] at h
    rw [wS]
    obtain ⟨W, ⟨m0, h0⟩, hs⟩ := h
    refine ⟨fun m e S => ∃ pe adr, W m pe ∧ PR S0 Se pe e S adr, ⟨m0, pe, adr, h0, pr⟩, ?_⟩
    rintro m e S ⟨pe, adr, hw, pr⟩
    refine sE c (hs m pe hw) pr (fun u S1 r le rr q => ?_) (x.step pr.leE)
    obtain ⟨i, rfl, q⟩ := withPB_i q
    rw [show u = .bl i from rr]
    exact ⟨fun t => sSs b (q.1 t) (pr.step le) (fun pe2 e2 S2 adr2 ⟨m', lt, hw'⟩ pr2 => ⟨m', lt, pe2, adr2, hw', pr2⟩) hr x, fun t => k _ _ _ _ (q.2 t) (pr.step le)⟩
  | .for tg it b, g, S0, E, rt, nx, pe, h, Se, e, S, adr, E', rt', nx', pr, k, hr, x => by
    rw [pS] at h
    rw [wS]
    refine sIs h pr (fun xs grd S1 Av le hA hg q => ?_) (x.step pr.leE)
    obtain ⟨Se2, l2, pr2, hf⟩ := ((pr.step le).frz it).fix Av hA
    have hr2 : PRt Se2 rt rt' := fun v S' r le' rr ok q => hr v S' r (l2.trans le') (rr.base l2) ok q
    exact t_for (fun S' le' => hg S' fun a o av q => hf S' le' a o av q) (fun kp kw pe e S adr hb pr' hk => sSs b hb pr' hk hr2 (x.step l2)) (fun pe e S adr q pr' => k _ _ _ _ q (pr'.weak pr.le0 l2)) xs _ _ _ _ q pr2
  | .raise c y, g, S0, E, rt, nx, pe, h, Se, e, S, adr, E', rt', nx', pr, k, hr, x => by
    rw [pS] at h
    rw [wS]
    exact x c S pr.leE h
  | .try1 b c n hd, g, S0, E, rt, nx, pe, h, Se, e, S, adr, E', rt', nx', pr, k, hr, x => by
    rw [pS] at h
    rw [wS]
    exact sSs b h pr k hr fun y S' le ⟨h1, h2, h3⟩ => ⟨h1, fun t => s_H le hr x (h2 t), fun t => x y S' le (h3 t)⟩
theorem sSs : ∀ (s : Sms) {g : PCfg} {S0 : Sto} {E : Nat → Prop} {rt : PK} {nx : PEnv → Prop} {pe : PEnv}, pSs g S0 E rt s nx pe → ∀ {Se : Sto} {e : Env} {S : Sto} {adr : Nat → Addr} {E' : Nat → Sto → Prop} {rt' : KV} {nx' : Env → Sto → Prop}, PR S0 Se pe e S adr → PN S0 Se nx nx' → PRt Se rt rt' → PXo E Se E' → wSs g.G E' rt' s nx' e S
  | .nil, g, S0, E, rt, nx, pe, h, Se, e, S, adr, E', rt', nx', pr, k, hr, x => by
    rw [pSs] at h
    rw [wSs]
    exact k _ _ _ _ h pr
  | .cons s r, g, S0, E, rt, nx, pe, h, Se, e, S, adr, E', rt', nx', pr, k, hr, x => by
    rw [pSs] at h
    rw [wSs]
    exact sS s h pr (fun pe2 e2 S2 adr2 q pr2 => sSs r q pr2 k hr x) hr x
end
theorem startP_get {n : Nat} {vs : List PV} {i : Nat} {r : PV} (h : getP (startP n vs) i = some r) : vs[i]? = some r := by
  unfold getP startP at h
  rw [List.getElem?_append] at h
  split at h
  · rename_i c
    rw [List.getElem?_map] at h
    cases q : vs[i]? with
    | none => rw [q] at h; cases h
    | some y => rw [q] at h; cases h; rfl
  · rw [List.getElem?_replicate] at h
    split at h <;> cases h
theorem startE_get {n : Nat} {vs : List Val} {i : Nat} {r : Val} (h : vs[i]? = some r) : getV (startE n vs) i = some r := by
  unfold getV startE
  rw [List.getElem?_append_left (by
    rw [List.length_map]
    by_cases q : i < vs.length
    · exact q
    · rw [List.getElem?_eq_none (by omega)] at h; cases h), List.getElem?_map, h]
  rfl
theorem argR_get {S : Sto} : ∀ {vs : List Val} {ps : List PV} {i : Nat} {r : PV}, ArgR S vs ps → ps[i]? = some r → ∃ v, vs[i]? = some v ∧ ArgR1 S v r
  | [], [], _, _, _, h => by simp at h
  | v :: vs, p :: ps, 0, r, a, h => by
    simp at h
    subst h
    exact ⟨v, rfl, a.1⟩
  | v :: vs, p :: ps, i + 1, r, a, h => by
    simp only [List.getElem?_cons_succ] at h ⊢
    exact argR_get a.2 h
  | [], _ :: _, _, _, a, _ => a.elim
  | _ :: _, [], _, _, a, _ => a.elim
theorem argR_len {S : Sto} : ∀ {vs : List Val} {ps : List PV}, ArgR S vs ps → vs.length = ps.length
  | [], [], _ => rfl
  | _ :: _, _ :: _, a => by simp [argR_len a.2]
  | [], _ :: _, a => a.elim
  | _ :: _, [], a => a.elim
def adrOf (v : Option Val) : Addr := match v with
  | some (.ref a) => a
  | _ => 0
/-- a def of the pure level keeps its promise -/
theorem wk_of {g : PCfg} {ps : PSpec} {N : List Str} {b : Sms} (h : Wp g ps N b) : Wk g.G (up1 ps) N b := by
  rintro args S Q E ⟨pvs, S0, Qp, Ep, le, ar, hp, hr, hx⟩
  have hl := argR_len ar
  have pr : PR S0 S (startP N.length pvs) (startE N.length args) S fun i => adrOf (args[i]?) := by
    refine ⟨le, .refl S, by simp [startE, startP, hl], fun i v q => ?_, fun i o xs q => ?_, fun i o xs q => ?_, fun i xs v q => ?_, fun i q => ?_⟩
    · obtain ⟨v', e1, e2⟩ := argR_get ar (startP_get q)
      rw [show v' = v from e2] at e1
      exact startE_get e1
    · obtain ⟨v', e1, _, a, rfl, e3⟩ := argR_get ar (startP_get q)
      rw [e1]
      exact ⟨startE_get e1, e3⟩
    · obtain ⟨v', e1, _, a, t, rfl, e3⟩ := argR_get ar (startP_get q)
      rw [e1]
      exact ⟨startE_get e1, t, e3⟩
    · obtain ⟨v', e1, e2⟩ := argR_get ar (startP_get q)
      exact e2.elim
    · unfold ownS at q
      split at q
      · rename_i o xs z
        obtain ⟨v', e1, e2, _⟩ := argR_get ar (startP_get z)
        rw [e2] at q
        cases q
      · rename_i o xs z
        obtain ⟨v', e1, e2, _⟩ := argR_get ar (startP_get z)
        rw [e2] at q
        cases q
      · cases q
  refine sSs b (h pvs S0 Qp Ep hp) pr (fun pe e S' adr q pr' => ⟨S, pr'.leE, hr (.d .non) q⟩) (fun v S' r le' rr ok q => ?_) fun x S' le' q => ⟨S, le', hx x q⟩
  have hq := hr r q
  cases r with
  | d w => rw [show v = w from rr]; exact ⟨S, le', hq⟩
  | l o xs =>
    obtain ⟨a, rfl, e1, f⟩ := rr
    refine ⟨up S a (.lst xs), fun c ob z => ?_, hq a (f ok)⟩
    by_cases ca : c = a
    · subst ca
      rw [DL.up_same] at z
      cases z
      exact e1
    · rw [up_get ca] at z
      exact le' _ _ z
  | m o xs =>
    obtain ⟨a, t, rfl, e1, f⟩ := rr
    refine ⟨up S a (.dct xs t), fun c ob z => ?_, hq a t (f ok)⟩
    by_cases ca : c = a
    · subst ca
      rw [DL.up_same] at z
      cases z
      exact e1
    · rw [up_get ca] at z
      exact le' _ _ z
  | p _ _ => exact rr.elim
def ArityP (n : Nat) (ps : PSpec) : Prop := ∀ args S Q E, ps args S Q E → args.length = n
theorem arity_up {n : Nat} {ps : PSpec} (h : ArityP n ps) : Arity n (up1 ps) := by
  rintro args S Q E ⟨pvs, S0, Qp, Ep, le, ar, hp, hr, hx⟩
  rw [argR_len ar]
  exact h _ _ _ _ hp
end DL

set_option autoImplicit true
set_option Elab.async false
set_option autoImplicit false
set_option linter.all false
set_option maxRecDepth 100000
set_option maxHeartbeats 4000000
/-! Own layer, pure level, part 6: rules of use. -/
namespace DL
open PySem
theorem getP_0 (v : Option PV) (e : PEnv) : getP (v :: e) 0 = v := rfl
theorem getP_s (v : Option PV) (e : PEnv) (n : Nat) : getP (v :: e) (n + 1) = getP e n := by
  simp [getP]
theorem startP_nil (n : Nat) : startP n [] = List.replicate n none := by simp [startP]
theorem startP_cons (n : Nat) (v : PV) (vs : List PV) : startP (n + 1) (v :: vs) = some v :: startP n vs := by simp [startP]
theorem bindP_one (i : Nat) (e : PEnv) (v : Val) : bindP (.one i) e v = some (e.set i (some (.d v))) := by cases v <;> rfl
theorem bindP_two (i j : Nat) (e : PEnv) (v w : Val) : bindP (.many [i, j]) e (.tup [v, w]) = some ((e.set i (some (.d v))).set j (some (.d w))) := rfl
theorem bindP_three (i j k : Nat) (e : PEnv) (u v w : Val) : bindP (.many [i, j, k]) e (.tup [u, v, w]) = some (((e.set i (some (.d u))).set j (some (.d v))).set k (some (.d w))) := rfl
theorem withD_d (v : Val) (k : Val → Prop) : withD (.d v) k = k v := rfl
theorem withPB_d (b : Bool) (k : Bool → Prop) : withPB (.d (.bl b)) k = k b := rfl
theorem withPI_d (b : Int) (k : Int → Prop) : withPI (.d (.int b)) k = k b := rfl
theorem bor_d (v : Val) : (PV.d v).bor = .d v := rfl
theorem bor_l (o : Bool) (xs : List Val) : (PV.l o xs).bor = .l false xs := rfl
theorem bor_m (o : Bool) (xs : List (Val × Val)) : (PV.m o xs).bor = .m false xs := rfl
theorem isP_d (v : Val) : (PV.d v).isP = false := rfl
theorem isP_l (o : Bool) (xs : List Val) : (PV.l o xs).isP = false := rfl
theorem isP_m (o : Bool) (xs : List (Val × Val)) : (PV.m o xs).isP = false := rfl
theorem okA_d (v : Val) : okA (.d v) = true := rfl
theorem okA_l (o : Bool) (xs : List Val) : okA (.l o xs) = o := rfl
theorem okA_m (o : Bool) (xs : List (Val × Val)) : okA (.m o xs) = o := rfl
theorem lof_l (S : Sto) (o : Bool) (xs : List Val) : lof S (.l o xs) = some xs := rfl
theorem lof_m (S : Sto) (o : Bool) (xs : List (Val × Val)) : lof S (.m o xs) = none := rfl
theorem lof_int (S : Sto) (i : Int) : lof S (.d (.int i)) = none := rfl
theorem lof_bl (S : Sto) (i : Bool) : lof S (.d (.bl i)) = none := rfl
theorem lof_str (S : Sto) (i : Str) : lof S (.d (.str i)) = none := rfl
theorem lof_non (S : Sto) : lof S (.d .non) = none := rfl
theorem lof_tup (S : Sto) (xs : List Val) : lof S (.d (.tup xs)) = none := rfl
theorem lof_lst (S : Sto) (xs : List Val) : lof S (.d (.lst xs)) = none := rfl
theorem dof_l (S : Sto) (o : Bool) (xs : List Val) : dof S (.l o xs) = none := rfl
theorem dof_m (S : Sto) (o : Bool) (xs : List (Val × Val)) : dof S (.m o xs) = some xs := rfl
theorem dof_int (S : Sto) (i : Int) : dof S (.d (.int i)) = none := rfl
theorem dof_bl (S : Sto) (i : Bool) : dof S (.d (.bl i)) = none := rfl
theorem dof_str (S : Sto) (i : Str) : dof S (.d (.str i)) = none := rfl
theorem dof_non (S : Sto) : dof S (.d .non) = none := rfl
theorem dof_tup (S : Sto) (xs : List Val) : dof S (.d (.tup xs)) = none := rfl
theorem dof_lst (S : Sto) (xs : List Val) : dof S (.d (.lst xs)) = none := rfl
theorem dvl_int (i : Int) : dvl (.d (.int i)) = some (.int i) := rfl
theorem dvl_bl (i : Bool) : dvl (.d (.bl i)) = some (.bl i) := rfl
theorem dvl_str (i : Str) : dvl (.d (.str i)) = some (.str i) := rfl
theorem dvl_non : dvl (.d .non) = some .non := rfl
theorem dvl_tup (xs : List Val) : dvl (.d (.tup xs)) = some (.tup xs) := rfl
theorem dvl_lst (xs : List Val) : dvl (.d (.lst xs)) = some (.lst xs) := rfl
theorem ds_nil : ds [] = some [] := rfl
theorem ds_cons (v : Val) (r : List PV) : ds (.d v :: r) = (ds r).map (v :: ·) := rfl
theorem omap_some {α β : Type} (f : α → β) (a : α) : (some a).map f = some (f a) := rfl
theorem pSee_d (S : Sto) (v : Val) : pSee S (.d v) = S.see 3 v := rfl
theorem pSee_l (S : Sto) (o : Bool) (xs : List Val) : pSee S (.l o xs) = (S.sees 2 xs).map .lst := rfl
theorem pLt_i (i j : Int) (S : Sto) (Q : PK) : pCmp .lt (.d (.int i)) (.d (.int j)) S Q = Q (.d (.bl (decide (i < j)))) := rfl
theorem pLe_i (i j : Int) (S : Sto) (Q : PK) : pCmp .le (.d (.int i)) (.d (.int j)) S Q = Q (.d (.bl (decide (i ≤ j)))) := rfl
theorem pGt_i (i j : Int) (S : Sto) (Q : PK) : pCmp .gt (.d (.int i)) (.d (.int j)) S Q = Q (.d (.bl (decide (j < i)))) := rfl
theorem pGe_i (i j : Int) (S : Sto) (Q : PK) : pCmp .ge (.d (.int i)) (.d (.int j)) S Q = Q (.d (.bl (decide (j ≤ i)))) := rfl
theorem pLt_t (xs ys : List Val) (S : Sto) (Q : PK) : pCmp .lt (.d (.tup xs)) (.d (.tup ys)) S Q = (withO (Val.ints xs) fun ns => withO (Val.ints ys) fun ms => Q (.d (.bl (HT.lexLt ns ms)))) := rfl
theorem pEq_i (i j : Int) (S : Sto) (Q : PK) : pCmp .eq (.d (.int i)) (.d (.int j)) S Q = Q (.d (.bl (decide (i = j)))) := by
  simp only [pCmp, pSee_d, see_int, withO_s, dep_int, Nat.min_self, Nat.zero_le, true_and, int_eq]
theorem pNe_i (i j : Int) (S : Sto) (Q : PK) : pCmp .ne (.d (.int i)) (.d (.int j)) S Q = Q (.d (.bl (!decide (i = j)))) := by
  simp only [pCmp, pSee_d, see_int, withO_s, dep_int, Nat.min_self, Nat.zero_le, true_and, int_eq]
theorem veq_str (a b : Str) : (Val.str a).veq (.str b) = decide (a = b) := by
  simp [Val.veq, Val.py, PyData.eqv, Bool.beq_eq_decide_eq]
theorem pEq_s (i j : Str) (S : Sto) (Q : PK) : pCmp .eq (.d (.str i)) (.d (.str j)) S Q = Q (.d (.bl (decide (i = j)))) := by
  simp only [pCmp, pSee_d, see_str, withO_s, dep_str, Nat.min_self, Nat.zero_le, true_and, veq_str]
theorem pNe_s (i j : Str) (S : Sto) (Q : PK) : pCmp .ne (.d (.str i)) (.d (.str j)) S Q = Q (.d (.bl (!decide (i = j)))) := by
  simp only [pCmp, pSee_d, see_str, withO_s, dep_str, Nat.min_self, Nat.zero_le, true_and, veq_str]
theorem veq_bb (a b : Bool) : (Val.bl a).veq (.bl b) = (a == b) := by cases a <;> cases b <;> rfl
theorem pEq_b (i j : Bool) (S : Sto) (Q : PK) : pCmp .eq (.d (.bl i)) (.d (.bl j)) S Q = Q (.d (.bl (i == j))) := by
  simp only [pCmp, pSee_d, see_bl, withO_s, dep_bl, Nat.min_self, Nat.zero_le, true_and, veq_bb]
theorem pNe_b (i j : Bool) (S : Sto) (Q : PK) : pCmp .ne (.d (.bl i)) (.d (.bl j)) S Q = Q (.d (.bl (!(i == j)))) := by
  simp only [pCmp, pSee_d, see_bl, withO_s, dep_bl, Nat.min_self, Nat.zero_le, true_and, veq_bb]
theorem pIn_m (a : Val) (o : Bool) (kvs : List (Val × Val)) (S : Sto) (Q : PK) : pCmp .isin (.d a) (.m o kvs) S Q = (kindOk kvs a = true ∧ Q (.d (.bl (dget kvs a).isSome))) := rfl
theorem pNin_m (a : Val) (o : Bool) (kvs : List (Val × Val)) (S : Sto) (Q : PK) : pCmp .notin (.d a) (.m o kvs) S Q = (kindOk kvs a = true ∧ Q (.d (.bl (dget kvs a).isNone))) := rfl
/-- == of lists that hold data -/
theorem pEq_l {xs ys : List Val} {o o' : Bool} {S : Sto} {Q : PK} (hx : Val.dats xs = true) (hy : Val.dats ys = true) (hd : Val.deps xs ≤ 90) : pCmp .eq (.l o xs) (.l o' ys) S Q = Q (.d (.bl ((Val.lst xs).veq (.lst ys)))) := by
  have hs : ∀ (n : Nat) (zs : List Val), Val.dats zs = true → S.sees n zs = some zs := by
    intro n zs
    induction zs with
    | nil => intro _; rw [Sto.sees]
    | cons z zs ih => intro h; simp only [Val.dats, Bool.and_eq_true] at h; rw [Sto.sees, see_dat h.1, ih h.2]
  have : min (Val.lst xs).dep (Val.lst ys).dep ≤ 100 := by
    have : (Val.lst xs).dep = Val.deps xs + 1 := rfl
    omega
  simp only [pCmp, pSee_l, hs _ _ hx, hs _ _ hy, omap_some, withO_s, this, true_and]
theorem pNe_l {xs ys : List Val} {o o' : Bool} {S : Sto} {Q : PK} (hx : Val.dats xs = true) (hy : Val.dats ys = true) (hd : Val.deps xs ≤ 90) : pCmp .ne (.l o xs) (.l o' ys) S Q = Q (.d (.bl (!(Val.lst xs).veq (.lst ys)))) := by
  have hs : ∀ (n : Nat) (zs : List Val), Val.dats zs = true → S.sees n zs = some zs := by
    intro n zs
    induction zs with
    | nil => intro _; rw [Sto.sees]
    | cons z zs ih => intro h; simp only [Val.dats, Bool.and_eq_true] at h; rw [Sto.sees, see_dat h.1, ih h.2]
  have : min (Val.lst xs).dep (Val.lst ys).dep ≤ 100 := by
    have : (Val.lst xs).dep = Val.deps xs + 1 := rfl
    omega
  simp only [pCmp, pSee_l, hs _ _ hx, hs _ _ hy, omap_some, withO_s, this, true_and]
/-- == of plain values -/
theorem pEq_d {x y : Val} {S : Sto} {Q : PK} (hx : x.dat = true) (hy : y.dat = true) (hd : x.dep ≤ 90) : pCmp .eq (.d x) (.d y) S Q = Q (.d (.bl (x.veq y))) := by
  have : min x.dep y.dep ≤ 100 := by omega
  simp only [pCmp, pSee_d, see_dat hx, see_dat hy, withO_s, this, true_and]
theorem pNe_d {x y : Val} {S : Sto} {Q : PK} (hx : x.dat = true) (hy : y.dat = true) (hd : x.dep ≤ 90) : pCmp .ne (.d x) (.d y) S Q = Q (.d (.bl (!x.veq y))) := by
  have : min x.dep y.dep ≤ 100 := by omega
  simp only [pCmp, pSee_d, see_dat hx, see_dat hy, withO_s, this, true_and]
theorem pSub_l (o : Bool) (xs : List Val) (i : Int) (S : Sto) (Q : PK) : pSub (.l o xs) (.d (.int i)) S Q = withO (L2.atI xs i) fun v => Q (.d v) := rfl
theorem pSub_tup (xs : List Val) (i : Int) (S : Sto) (Q : PK) : pSub (.d (.tup xs)) (.d (.int i)) S Q = withO (L2.atI xs i) fun v => Q (.d v) := rfl
theorem pSub_lst (xs : List Val) (i : Int) (S : Sto) (Q : PK) : pSub (.d (.lst xs)) (.d (.int i)) S Q = withO (L2.atI xs i) fun v => Q (.d v) := rfl
theorem pSub_m (o : Bool) (kvs : List (Val × Val)) (k : Val) (S : Sto) (Q : PK) : pSub (.m o kvs) (.d k) S Q = (kindOk kvs k = true ∧ withO (dget kvs k) fun v => Q (.d v)) := rfl
theorem pSub_str (z : Str) (i : Int) (S : Sto) (Q : PK) : pSub (.d (.str z)) (.d (.int i)) S Q = (z.length ≤ line ∧ withO (L2.atI z.cps.toList i) fun c => Q (.d (.str ⟨#[c]⟩))) := rfl
theorem pBt_l (b : Bt) (o : Bool) (xs : List Val) (S : Sto) (Q : PK) : pBt b [.l o xs] S Q = pBtL b xs S Q := rfl
theorem pBt_len_l (o : Bool) (xs : List Val) (S : Sto) (Q : PK) : pBt .len [.l o xs] S Q = Q (.d (.int xs.length)) := rfl
theorem pBt_tuple_l (o : Bool) (xs : List Val) (S : Sto) (Q : PK) : pBt .tuple [.l o xs] S Q = Q (.d (.tup xs)) := rfl
theorem pBt_list_l (o : Bool) (xs : List Val) (S : Sto) (Q : PK) : pBt .list [.l o xs] S Q = Q (.l true xs) := rfl
theorem pBt_len_m (o : Bool) (xs : List (Val × Val)) (S : Sto) (Q : PK) : pBt .len [.m o xs] S Q = Q (.d (.int xs.length)) := by
  simp [pBt, lof, dof]
theorem pBt_len_tup (xs : List Val) (S : Sto) (Q : PK) : pBt .len [.d (.tup xs)] S Q = Q (.d (.int xs.length)) := rfl
theorem pBt_len_lst (xs : List Val) (S : Sto) (Q : PK) : pBt .len [.d (.lst xs)] S Q = Q (.d (.int xs.length)) := rfl
theorem pBt_len_str (x : Str) (S : Sto) (Q : PK) : pBt .len [.d (.str x)] S Q = (x.length ≤ line ∧ Q (.d (.int x.length))) := rfl
theorem pBt_list_tup (xs : List Val) (S : Sto) (Q : PK) : pBt .list [.d (.tup xs)] S Q = Q (.l true xs) := rfl
theorem pBt_tuple_tup (xs : List Val) (S : Sto) (Q : PK) : pBt .tuple [.d (.tup xs)] S Q = Q (.d (.tup xs)) := rfl
theorem pBt_int_int (i : Int) (S : Sto) (Q : PK) : pBt .int [.d (.int i)] S Q = Q (.d (.int i)) := rfl
theorem pBt_int_bl (b : Bool) (S : Sto) (Q : PK) : pBt .int [.d (.bl b)] S Q = Q (.d (.int (if b then 1 else 0))) := rfl
theorem pBt_max2 (i j : Int) (S : Sto) (Q : PK) : pBt .max2 [.d (.int i), .d (.int j)] S Q = Q (.d (.int (if j > i then j else i))) := rfl
theorem pBt_min2 (i j : Int) (S : Sto) (Q : PK) : pBt .min2 [.d (.int i), .d (.int j)] S Q = Q (.d (.int (if j < i then j else i))) := rfl
theorem pBt_str_int (i : Int) (S : Sto) (Q : PK) : pBt .str [.d (.int i)] S Q = (i.natAbs.log2 < 1920 ∧ Q (.d (.str (toString i)))) := rfl
theorem enP_l (S : Sto) (o : Bool) (xs : List Val) : enP S (.l o xs) = some xs := rfl
theorem enP_tup (S : Sto) (xs : List Val) : enP S (.d (.tup xs)) = some xs := rfl
theorem iterP_l (S : Sto) (o : Bool) (xs : List Val) : iterP S (.l o xs) = some xs := rfl
theorem iterP_tup (S : Sto) (xs : List Val) : iterP S (.d (.tup xs)) = some xs := rfl
/-- a statement, what stands behind it out of sight -/
theorem pstep {g : PCfg} {S : Sto} {E : Nat → Prop} {rt : PK} {s : Sm} {r : Sms} {nx : PEnv → Prop} {e : PEnv} (h : ∀ K : PEnv → Prop, (∀ e', pSs g S E rt r nx e' → K e') → pS g S E rt s K e) : pSs g S E rt (.cons s r) nx e := by
  rw [pSs]
  exact h _ fun _ z => z
theorem pfor_step {g : PCfg} {S : Sto} {E : Nat → Prop} {rt : PK} {tg : Tg} {it : Itr} {b : Sms} {nx : PEnv → Prop} {e : PEnv}
    (h : ∀ B : (PEnv → Prop) → PEnv → Prop, (∀ k e', pSs g S E rt b k e' → B k e') → pIs g S E it e fun xs => pFor tg B nx xs (frz e it)) : pS g S E rt (.for tg it b) nx e := by
  rw [pS]
  exact h _ fun _ _ z => z
theorem pwhile_step {g : PCfg} {S : Sto} {E : Nat → Prop} {rt : PK} {c : Ex} {b : Sms} {nx : PEnv → Prop} {e : PEnv} (W : Nat → PEnv → Prop) (h0 : ∃ m, W m e)
    (h : ∀ B : (PEnv → Prop) → PEnv → Prop, (∀ k e', pSs g S E rt b k e' → B k e') → ∀ m e, W m e → pE g S E c e fun x => withPB x fun k => (k = true → B (fun e' => ∃ m', m' < m ∧ W m' e') e) ∧ (k = false → nx e)) :
    pS g S E rt (.while c b) nx e := by
  rw [pS]
  exact ⟨W, h0, h _ fun _ _ z => z⟩
theorem pite_step {g : PCfg} {S : Sto} {E : Nat → Prop} {rt : PK} {c : Ex} {a b : Sms} {nx : PEnv → Prop} {e : PEnv}
    (h : ∀ A B : PEnv → Prop, (∀ e', pSs g S E rt a nx e' → A e') → (∀ e', pSs g S E rt b nx e' → B e') → pE g S E c e fun x => withPB x fun k => (k = true → A e) ∧ (k = false → B e)) : pS g S E rt (.ite c a b) nx e := by
  rw [pS]
  exact h _ _ (fun _ z => z) fun _ z => z
/-- a for, by what holds at each turn (rest: what is still to come) -/
theorem pfor_inv {tg : Tg} {body : (PEnv → Prop) → PEnv → Prop} {nx : PEnv → Prop} (P : List Val → PEnv → Prop)
    (hs : ∀ x rest e, P (x :: rest) e → withO (bindP tg e x) fun e' => ∀ k : PEnv → Prop, (∀ e2, P rest e2 → k e2) → body k e') (hd : ∀ e, P [] e → nx e) :
    ∀ (xs : List Val) (e : PEnv), P xs e → pFor tg body nx xs e
  | [], e, h => hd e h
  | x :: rest, e, h => by
    have h2 := hs x rest e h
    show withO _ _
    cases q : bindP tg e x with
    | none => rw [q] at h2; exact h2
    | some e' =>
      rw [q] at h2
      exact h2 _ fun e2 p => pfor_inv P hs hd rest e2 p
/-- .. that may leave by a return: what is left -/
theorem pturns_map {body : Val → (Option Val → Prop) → Prop} {Q : List Val → Prop} (f : Val → Val) : ∀ {xs acc : List Val}, (∀ x ∈ xs, ∀ k : Option Val → Prop, k (some (f x)) → body x k) → Q (acc ++ xs.map f) → pTurns body Q xs acc
  | [], acc, _, q => by simpa [pTurns] using q
  | x :: xs, acc, h, q => h x (by simp) _ (pturns_map f (fun y hy => h y (by simp [hy])) (by simpa using q))
theorem pturns_fil {body : Val → (Option Val → Prop) → Prop} {Q : List Val → Prop} (f : Val → Option Val) : ∀ {xs acc : List Val}, (∀ x ∈ xs, ∀ k : Option Val → Prop, k (f x) → body x k) → Q (acc ++ xs.filterMap f) → pTurns body Q xs acc
  | [], acc, _, q => by simpa [pTurns] using q
  | x :: xs, acc, h, q => h x (by simp) _ (pturns_fil f (fun y hy => h y (by simp [hy])) (by
      cases e : f x with
      | none => simpa [List.filterMap_cons, e] using q
      | some y => simpa [List.filterMap_cons, e] using q))
theorem pturns_inv {body : Val → (Option Val → Prop) → Prop} {Q : List Val → Prop} (P : List Val → List Val → Prop)
    (hs : ∀ x rest acc, P (x :: rest) acc → ∀ k : Option Val → Prop, (∀ r, P rest (acc ++ r.toList) → k r) → body x k) (hd : ∀ acc, P [] acc → Q acc) : ∀ (xs acc : List Val), P xs acc → pTurns body Q xs acc
  | [], acc, h => hd acc h
  | x :: rest, acc, h => hs x rest acc h _ fun r p => pturns_inv P hs hd rest _ p
/-- over what a function gives: typed rows -/
theorem pturns_mapT {α : Type} (v : α → Val) {body : Val → (Option Val → Prop) → Prop} {Q : List Val → Prop} (f : α → Val) {as : List α} (h : ∀ x ∈ as, ∀ k : Option Val → Prop, k (some (f x)) → body (v x) k) (q : Q (as.map f)) : pTurns body Q (as.map v) [] := by
  have key : ∀ (as : List α) (acc : List Val), (∀ x ∈ as, ∀ k : Option Val → Prop, k (some (f x)) → body (v x) k) → Q (acc ++ as.map f) → pTurns body Q (as.map v) acc := by
    intro as
    induction as with
    | nil => intro acc _ q; simpa [pTurns] using q
    | cons x as ih => intro acc h q; exact h x (by simp) _ (ih _ (fun y hy => h y (by simp [hy])) (by simpa using q))
  exact key as [] h (by simpa using q)
theorem pturns_allT {α : Type} (v : α → Val) {body : Val → (Option Val → Prop) → Prop} {S : Sto} {Q : PK} (f : α → Bool) {as : List α} (h : ∀ x ∈ as, ∀ k : Option Val → Prop, k (some (.bl (f x))) → body (v x) k) (q : Q (.d (.bl (as.all f)))) : pTurns body (fun vs => pBtL .all vs S Q) (as.map v) [] := by
  refine pturns_mapT v (fun x => .bl (f x)) h ?_
  simp only [pBtL, bls_map, withO_s, List.all_map]
  exact q
theorem pturns_anyT {α : Type} (v : α → Val) {body : Val → (Option Val → Prop) → Prop} {S : Sto} {Q : PK} (f : α → Bool) {as : List α} (h : ∀ x ∈ as, ∀ k : Option Val → Prop, k (some (.bl (f x))) → body (v x) k) (q : Q (.d (.bl (as.any f)))) : pTurns body (fun vs => pBtL .any vs S Q) (as.map v) [] := by
  refine pturns_mapT v (fun x => .bl (f x)) h ?_
  simp only [pBtL, bls_map, withO_s, List.any_map]
  exact q
theorem pturns_filT {α : Type} (v : α → Val) {body : Val → (Option Val → Prop) → Prop} {Q : List Val → Prop} (f : α → Option Val) {as : List α} (h : ∀ x ∈ as, ∀ k : Option Val → Prop, k (f x) → body (v x) k) (q : Q (as.filterMap f)) : pTurns body Q (as.map v) [] := by
  have key : ∀ (as : List α) (acc : List Val), (∀ x ∈ as, ∀ k : Option Val → Prop, k (f x) → body (v x) k) → Q (acc ++ as.filterMap f) → pTurns body Q (as.map v) acc := by
    intro as
    induction as with
    | nil => intro acc _ q; simpa [pTurns] using q
    | cons x as ih =>
      intro acc h q
      refine h x (by simp) _ (ih _ (fun y hy => h y (by simp [hy])) ?_)
      cases e : f x with
      | none => simpa [List.filterMap_cons, e] using q
      | some y => simpa [List.filterMap_cons, e] using q
  exact key as [] h (by simpa using q)
/-- a for over a typed row -/
theorem pfor_invT {α : Type} (v : α → Val) {tg : Tg} {body : (PEnv → Prop) → PEnv → Prop} {nx : PEnv → Prop} (P : List α → PEnv → Prop)
    (hs : ∀ x rest e, P (x :: rest) e → withO (bindP tg e (v x)) fun e' => ∀ k : PEnv → Prop, (∀ e2, P rest e2 → k e2) → body k e') (hd : ∀ e, P [] e → nx e) (as : List α) (e : PEnv) (h : P as e) : pFor tg body nx (as.map v) e := by
  induction as generalizing e with
  | nil => exact hd e h
  | cons x rest ih =>
    have h2 := hs x rest e h
    rw [List.map_cons]
    show withO _ _
    cases q : bindP tg e (v x) with
    | none => rw [q] at h2; exact h2
    | some e' =>
      rw [q] at h2
      exact h2 _ fun e2 p => ih e2 p
/-- a call out of the first level, all plain values -/
def dAll (vs : List Val) : List PV := vs.map .d
theorem argR_d (S : Sto) : ∀ vs : List Val, ArgR S vs (vs.map .d)
  | [] => trivial
  | v :: vs => ⟨rfl, argR_d S vs⟩
theorem up1_d {ps : PSpec} {vs : List Val} {S : Sto} {Q : KV} {E : Nat → Sto → Prop} (h : ps (vs.map .d) S (fun r => ResU Q S r) (fun x => E x S)) : up1 ps vs S Q E :=
  ⟨vs.map .d, S, _, _, .refl S, argR_d S vs, h, fun _ h => h, fun _ h => h⟩
theorem up1_of {ps : PSpec} {vs : List Val} {pvs : List PV} {S : Sto} {Q : KV} {E : Nat → Sto → Prop} (a : ArgR S vs pvs) (h : ps pvs S (fun r => ResU Q S r) (fun x => E x S)) : up1 ps vs S Q E :=
  ⟨pvs, S, _, _, .refl S, a, h, fun _ h => h, fun _ h => h⟩
theorem sees_dats {S : Sto} {n : Nat} : ∀ {xs : List Val}, Val.dats xs = true → S.sees n xs = some xs
  | [], _ => by rw [Sto.sees]
  | x :: xs, h => by
    simp only [Val.dats, Bool.and_eq_true] at h
    rw [Sto.sees, see_dat h.1, sees_dats h.2]
end DL

set_option autoImplicit true
set_option Elab.async false
set_option autoImplicit false
set_option linter.all false
set_option maxRecDepth 100000
set_option maxHeartbeats 4000000
/-! Own layer, plain: states as they are met; least machines. -/
namespace DL
open PySem
/-- those met, in order -/
def metN : List Nat → List Nat → List Nat
  | seen, [] => seen
  | seen, k :: ks => metN (if k ∈ seen then seen else seen ++ [k]) ks
theorem metN_app : ∀ (a b seen : List Nat), metN seen (a ++ b) = metN (metN seen a) b
  | [], b, seen => rfl
  | k :: a, b, seen => metN_app a b _
theorem metN_old {n : Nat} {q : Nat} (h : q < n) : metN (List.range n) [q] = List.range n := by
  simp [metN, h]
theorem metN_new (n : Nat) : metN (List.range n) [n] = List.range (n + 1) := by
  simp [metN, List.range_succ]
section
variable {α : Type} (key : α → NestedKey) (nxt : α → List α) (a0 : α)
/-- states that are met one behind the other; made: whole rows; row: a part of the next one -/
structure Bfs (L : List α) (made : List (List Nat)) (row : List Nat) : Prop where
  first : L[0]? = some a0
  nodup : (L.map key).Nodup
  le : made.length ≤ L.length
  rows : ∀ i, i < made.length → ∃ s, L[i]? = some s ∧ (∀ t ∈ nxt s, key t ∈ L.map key) ∧ made[i]? = some ((nxt s).map fun t => place (key t) (L.map key))
  ord : metN [0] (made.flatten ++ row) = List.range L.length
  ahead : ∀ i, i < made.length → i < (metN [0] (made.take i).flatten).length
variable {key nxt a0}
theorem Bfs.start : Bfs key nxt a0 [a0] [] [] :=
  ⟨rfl, by simp, by simp, fun i h => by simp at h, by simp [metN, List.range_succ], fun i h => by simp at h⟩
theorem Bfs.old {L : List α} {made : List (List Nat)} {row : List Nat} (h : Bfs key nxt a0 L made row) {t : α} (hk : key t ∈ L.map key) : Bfs key nxt a0 L made (row ++ [place (key t) (L.map key)]) := by
  refine ⟨h.first, h.nodup, h.le, h.rows, ?_, h.ahead⟩
  rw [← List.append_assoc, metN_app, h.ord]
  refine metN_old ?_
  have := place_lt hk
  simpa using this
theorem Bfs.new {L : List α} {made : List (List Nat)} {row : List Nat} (h : Bfs key nxt a0 L made row) {t : α} (hk : key t ∉ L.map key) : Bfs key nxt a0 (L ++ [t]) made (row ++ [L.length]) := by
  refine ⟨?_, ?_, by simp; have := h.le; omega, fun i hi => ?_, ?_, h.ahead⟩
  · rw [List.getElem?_append_left]
    · exact h.first
    · cases q : L with
      | nil => have := h.first; rw [q] at this; simp at this
      | cons _ _ => simp
  · rw [List.map_append, List.nodup_append]
    refine ⟨h.nodup, by simp, fun a ha b hb => ?_⟩
    simp at hb
    subst hb
    exact fun z => hk (z ▸ ha)
  · obtain ⟨s, h1, h2, h3⟩ := h.rows i hi
    refine ⟨s, ?_, fun t' ht => by rw [List.map_append]; exact List.mem_append.mpr (.inl (h2 t' ht)), ?_⟩
    · rw [List.getElem?_append_left]
      · exact h1
      · have := h.le; omega
    · rw [h3]
      congr 1
      refine List.map_congr_left fun t' ht => ?_
      rw [List.map_append, place_app (h2 t' ht)]
  · rw [← List.append_assoc, metN_app, h.ord, metN_new]
    simp
theorem Bfs.fin {L : List α} {made : List (List Nat)} {s : α} (hs : L[made.length]? = some s) (h : Bfs key nxt a0 L made ((nxt s).map fun t => place (key t) (L.map key))) (hin : ∀ t ∈ nxt s, key t ∈ L.map key) (ha : made.length < (metN [0] made.flatten).length) :
    Bfs key nxt a0 L (made ++ [(nxt s).map fun t => place (key t) (L.map key)]) [] := by
  have hl : made.length < L.length := by
    by_cases q : made.length < L.length
    · exact q
    · rw [List.getElem?_eq_none (by omega)] at hs; cases hs
  refine ⟨h.first, h.nodup, by simp; omega, fun i hi => ?_, by simpa using h.ord, fun i hi => ?_⟩
  · by_cases q : i < made.length
    · obtain ⟨s', h1, h2, h3⟩ := h.rows i q
      exact ⟨s', h1, h2, by rw [List.getElem?_append_left q]; exact h3⟩
    · have e : i = made.length := by simp at hi; omega
      subst e
      exact ⟨s, hs, hin, by simp⟩
  · by_cases q : i < made.length
    · rw [List.take_append_of_le_length (by omega)]
      exact h.ahead i q
    · have e : i = made.length := by simp at hi; omega
      subst e
      simpa using ha
theorem Bfs.fin' {L : List α} {made : List (List Nat)} {s : α} {done : List α} (hn : nxt s = done) (hs : L[made.length]? = some s) (h : Bfs key nxt a0 L made (done.map fun t => place (key t) (L.map key))) (hin : ∀ t ∈ done, key t ∈ L.map key) (ha : made.length < (metN [0] made.flatten).length) :
    Bfs key nxt a0 L (made ++ [done.map fun t => place (key t) (L.map key)]) [] := by
  subst hn
  exact Bfs.fin hs h hin ha
/-- at the beginning of a row -/
theorem Bfs.ahead0 {L : List α} {made : List (List Nat)} (h : Bfs key nxt a0 L made []) (hl : made.length < L.length) : made.length < (metN [0] made.flatten).length := by
  have := h.ord
  rw [List.append_nil] at this
  rw [this]
  simpa using hl
end
/-- no letters tell two states apart -/
def SameB {β : Type} (st : List (List Nat)) (ms : List β) (i j : Nat) : Prop := ∀ w : List Nat, ms[runL st i w]? = ms[runL st j w]?
/-- the least machine that tells T: steps and marks, numbered as met -/
structure Least {β : Type} (wide : Nat) (st : List (List Nat)) (ms : List β) (T : List Nat → β) : Prop where
  ok : StOk st wide
  pos : 0 < st.length
  len : ms.length = st.length
  tells : ∀ w, ms[runL st 0 w]? = some (T w)
  dist : ∀ i j, i < st.length → j < st.length → SameB st ms i j → i = j
  ord : metN [0] st.flatten = List.range st.length
  ahead : ∀ i, i < st.length → i < (metN [0] (st.take i).flatten).length
/-- where one letter leads -/
def stepL (st : List (List Nat)) (s a : Nat) : Nat := (((st[s]?).getD [])[a]?).getD 0
theorem runL_nil (st : List (List Nat)) (s : Nat) : runL st s [] = s := rfl
theorem runL_cons (st : List (List Nat)) (s a : Nat) (w : List Nat) : runL st s (a :: w) = runL st (stepL st s a) w := rfl
theorem runL_app (st : List (List Nat)) : ∀ (u : List Nat) (s : Nat) (w : List Nat), runL st s (u ++ w) = runL st (runL st s u) w
  | [], _, _ => rfl
  | a :: u, s, w => runL_app st u _ w
theorem step_lt {st : List (List Nat)} {wide : Nat} (ok : StOk st wide) (hp : 0 < st.length) (s a : Nat) : stepL st s a < st.length := by
  unfold stepL
  cases e : st[s]? with
  | none => simpa using hp
  | some r =>
    simp only [Option.getD_some]
    cases e2 : r[a]? with
    | none => simpa using hp
    | some t => exact ok.to r (List.mem_of_getElem? e) t (List.mem_of_getElem? e2)
theorem run_lt {st : List (List Nat)} {wide : Nat} (ok : StOk st wide) (hp : 0 < st.length) : ∀ (w : List Nat) (s : Nat), s < st.length → runL st s w < st.length
  | [], s, h => h
  | a :: w, s, _ => run_lt ok hp w _ (step_lt ok hp s a)
end DL

set_option autoImplicit true
set_option Elab.async false
set_option autoImplicit false
set_option linter.all false
set_option maxRecDepth 100000
set_option maxHeartbeats 4000000
/-! Own layer, plain: merged. -/
namespace DL
open PySem
def n_merged : List Str := ["steps", "marks", "classes", "many", "before", "k", "to", "order", "firsts", "made", "row", "first"]
def b_merged : Sms :=
  (.cons (.asgs [2, 3] (.call 10 (.cons (.var 1) .nil)))
  (.cons (.asg 4 (.int 0))
  (.cons (.while (.cmp .ne (.var 4) (.var 3))
    (.cons (.asg 4 (.var 3))
      (.cons (.asgs [2, 3] (.call 10 (.cons (.comp (.mk (.one 5) [5] (.tup (.cons (.sub (.var 2) (.var 5)) (.cons (.bltc .tuple (.mk (.one 6) [6] (.sub (.var 2) (.var 6)) (.val (.sub (.var 0) (.var 5))) .none)) .nil))) (.rng (.cons (.blt .len (.cons (.var 0) .nil)) .nil)) .none)) .nil)))
      .nil)))
  (.cons (.asg 7 (.dict1 (.sub (.var 2) (.int 0)) (.int 0)))
  (.cons (.asg 8 (.lst (.cons (.int 0) .nil)))
  (.cons (.asg 9 (.lst .nil))
  (.cons (.while (.cmp .lt (.blt .len (.cons (.var 9) .nil)) (.blt .len (.cons (.var 8) .nil)))
    (.cons (.asg 10 (.lst .nil))
      (.cons (.for (.one 6) (.val (.sub (.var 0) (.sub (.var 8) (.blt .len (.cons (.var 9) .nil)))))
        (.cons (.ite (.cmp .notin (.sub (.var 2) (.var 6)) (.var 7))
            (.cons (.setI (.var 7) (.sub (.var 2) (.var 6)) (.blt .len (.cons (.var 8) .nil)))
              (.cons (.expr (.meth (.var 8) .append (.cons (.var 6) .nil)))
              .nil))
            .nil)
          (.cons (.expr (.meth (.var 10) .append (.cons (.sub (.var 7) (.sub (.var 2) (.var 6))) .nil)))
          .nil)))
      (.cons (.expr (.meth (.var 9) .append (.cons (.blt .tuple (.cons (.var 10) .nil)) .nil)))
      .nil))))
  (.cons (.ret (.tup (.cons (.blt .tuple (.cons (.var 9) .nil)) (.cons (.bltc .tuple (.mk (.one 11) [11] (.sub (.var 1) (.var 11)) (.val (.var 8)) .none)) .nil))))
  .nil))))))))

def stV (s : List Nat) : Val := .tup (s.map natV)
theorem natV_nk (n : Nat) : (natV n).nk = .num (n : Int) := rfl
theorem seqP_bor (S : Sto) (r : PV) : seqP S r.bor = seqP S r := by cases r <;> rfl
theorem bor_bor (r : PV) : r.bor.bor = r.bor := by cases r <;> rfl
theorem seqP_lof {S : Sto} {r : PV} {xs : List Val} (h : seqP S r = some xs) : lof S r = some xs ∨ (lof S r = none ∧ r = .d (.tup xs)) := by
  cases r with
  | l o ys => cases h; exact .inl rfl
  | m o ys => cases h
  | p _ _ => cases h
  | d v =>
    simp only [seqP] at h
    cases v <;> simp only [seqOf] at h <;> first | (cases h; done) | skip
    · cases h; exact .inr ⟨rfl, rfl⟩
    · rename_i a
      split at h
      · rename_i zs e2
        simp only [Option.map_some, Option.some.injEq] at h
        subst h
        exact .inl (by simp only [lof, e2])
      · cases h
theorem pSub_seq {S : Sto} {r : PV} {xs : List Val} (h : seqP S r = some xs) (i : Int) (Q : PK) : pSub r (.d (.int i)) S Q = withO (L2.atI xs i) fun v => Q (.d v) := by
  rcases seqP_lof h with e | ⟨e, rfl⟩
  · simp only [pSub, withD_d, e, withPI_d]
  · rfl
theorem pLen_seq {S : Sto} {r : PV} {xs : List Val} (h : seqP S r = some xs) (Q : PK) : pBt .len [r] S Q = Q (.d (.int xs.length)) := by
  rcases seqP_lof h with e | ⟨e, rfl⟩
  · simp only [pBt, e, pBtL]
  · rfl
theorem iterP_seq {S : Sto} {r : PV} {xs : List Val} (h : seqP S r = some xs) : iterP S r = some xs := by
  cases r with
  | l o ys => exact h
  | m o ys => cases h
  | p _ _ => cases h
  | d v =>
    simp only [seqP] at h
    simp only [iterP]
    cases v <;> simp only [seqOf] at h <;> first | (cases h; done) | skip
    · exact h
    · rename_i a
      simp only [iterOf]
      split at h
      · rename_i zs e2
        rw [e2]
        exact h
      · cases h
def ps_numbered : PSpec := fun vs S Q _ => match vs with
  | [r] => ∃ (ks : List Val) (c : Nat), seqP S r = some ks ∧ (∀ k ∈ ks, modKey k = true ∧ kcl k = c) ∧ ks.length < line ∧ Q (.p ((numb [] (ks.map Val.nk)).map natV) (.int ((seenAll [] (ks.map Val.nk)).length : Nat)))
  | _ => False
theorem seq_arg {S0 S : Sto} {v : Val} {r : PV} {xs : List Val} (le : Sto.le S0 S) (a : ArgR1 S v r) (h : seqP S0 r = some xs) : ∃ grd, seqOf v S = some (xs, grd) := by
  cases r with
  | d w => exact seq_res h le (show ResR S S v (.d w) from a)
  | l o ys =>
    obtain ⟨_, b, rfl, e⟩ := a
    cases h
    exact ⟨_, by simp only [seqOf, e]; rfl⟩
  | m _ _ => cases h
  | p _ _ => cases h
theorem up_numbered (vs : List Val) (S : Sto) (Q : KV) (E : Nat → Sto → Prop) (h : up1 ps_numbered vs S Q E) : sp_numbered vs S Q E := by
  obtain ⟨pvs, S0, Qp, Ep, le, ar, hp, hr, hx⟩ := h
  unfold ps_numbered at hp
  split at hp
  · rename_i r
    match vs, ar with
    | [v], ar =>
      obtain ⟨ks, c, hs, hk, hl, hq⟩ := hp
      obtain ⟨grd, e⟩ := seq_arg le ar.1 hs
      exact ⟨ks, grd, c, e, hk, hl, fun p n => hr _ hq p n⟩
    | [], ar => exact ar.elim
    | _ :: _ :: _, ar => exact ar.2.elim
  · exact hp.elim
/-- marks of one kind -/
structure Mks {β : Type} (mk : β → Val) (c : Nat) : Prop where
  inj : ∀ a b, (mk a).nk = (mk b).nk → a = b
  key : ∀ a, modKey (mk a) = true ∧ kcl (mk a) = c
  dat : ∀ a, (mk a).dat = true
  dep : ∀ a, (mk a).dep = 0
  veq : ∀ a b, (mk a).veq (mk b) = true ↔ a = b
theorem mks_nat : Mks natV 0 := ⟨fun a b h => by simp [natV_nk] at h; omega, fun a => ⟨rfl, rfl⟩, fun _ => rfl, fun _ => rfl, fun a b => by simp only [natV, int_eq, decide_eq_true_eq]; omega⟩
theorem mks_bl : Mks Val.bl 1 := ⟨fun a b h => by cases a <;> cases b <;> simp [Val.nk] at h <;> rfl, fun a => ⟨rfl, rfl⟩, fun _ => rfl, fun _ => rfl, fun a b => by cases a <;> cases b <;> simp [Val.veq, Val.py, PyData.eqv]⟩
def ps_merged : PSpec := fun vs S Q _ => match vs with
  | [sv, mv] => ∃ (β : Type) (mk : β → Val) (c : Nat) (st : List (List Nat)) (ms : List β) (wide : Nat), Mks mk c ∧ seqP S sv = some (st.map stV) ∧ seqP S mv = some (ms.map mk) ∧ StOk st wide ∧ 0 < st.length ∧ ms.length = st.length ∧ st.length < 2 ^ 23 ∧ wide < 2 ^ 23 ∧
      ∀ st2 ms2 T, (∀ w, ms[runL st 0 w]? = some (T w)) → Least wide st2 ms2 T → st2.length ≤ st.length → Q (.d (.tup [.tup (st2.map stV), .tup (ms2.map mk)]))
  | _ => False
structure PMergG (g : PCfg) : Prop where
  f10 : g.fn 10 = some ps_numbered
/-- the refining is at its end -/
def Stable (st : List (List Nat)) (wide : Nat) (js : List NestedKey) : Prop := ∀ i j, i < st.length → j < st.length → js[i]? = js[j]? → ∀ a, a < wide → js[stepL st i a]? = js[stepL st j a]?
theorem same_mk {β : Type} {mk : β → Val} {c : Nat} (m : Mks mk c) {st : List (List Nat)} {ms : List β} {i j : Nat} : SameB st ms i j ↔ Same st ((ms.map mk).map Val.nk) i j := by
  constructor
  · intro h w
    have := h w
    simp only [List.getElem?_map, this]
  · intro h w
    have := h w
    simp only [List.getElem?_map, Option.map_map] at this
    cases e1 : ms[runL st i w]? <;> cases e2 : ms[runL st j w]? <;> rw [e1, e2] at this
    · simp at this
    · simp at this
    · simp only [Option.map_some, Option.some.injEq, Function.comp_apply] at this
      rw [m.inj _ _ this]
/-- a state's key in merged's last part -/
def ckey (js : List NestedKey) (s : Nat) : NestedKey := (natV ((cls js).getD s 0)).nk
theorem ckey_same {js : List NestedKey} {i j : Nat} (hi : i < js.length) (hj : j < js.length) : ckey js i = ckey js j ↔ js[i]? = js[j]? := by
  rw [← cls_same' hi hj]
  exact ⟨fun h => num_inj h, fun h => by unfold ckey; rw [h]⟩
theorem place_get {α : Type} (key : α → NestedKey) : ∀ {L : List α} {k : NestedKey}, k ∈ L.map key → ∃ s, L[place k (L.map key)]? = some s ∧ key s = k
  | a :: r, k, h => by
    by_cases e : key a = k
    · exact ⟨a, by simp [place, e], e⟩
    · have h2 : k ∈ r.map key := by
        rcases List.mem_cons.mp h with z | z
        · exact absurd z.symm e
        · exact z
      obtain ⟨s, h3, h4⟩ := place_get key h2
      exact ⟨s, by simp [place, e, h3], h4⟩
theorem nodup_get {l : List NestedKey} (h : l.Nodup) {i j : Nat} {a : NestedKey} (hi : l[i]? = some a) (hj : l[j]? = some a) : i = j := by
  have h1 : i < l.length := (List.getElem?_eq_some_iff.mp hi).1
  have h2 : j < l.length := (List.getElem?_eq_some_iff.mp hj).1
  rw [List.getElem?_eq_getElem h1] at hi
  rw [List.getElem?_eq_getElem h2] at hj
  have e : l[i] = l[j] := by rw [Option.some.inj hi, Option.some.inj hj]
  have p := List.pairwise_iff_getElem.mp h
  rcases Nat.lt_trichotomy i j with q | q | q
  · exact absurd e (p i j h1 h2 q)
  · exact q
  · exact absurd e.symm (p j i h2 h1 q)
theorem least_of_bfs {β : Type} {mk : β → Val} {c : Nat} (m : Mks mk c) {st : List (List Nat)} {ms : List β} {wide : Nat} {js : List NestedKey} {L : List Nat} {made : List (List Nat)} (ok : StOk st wide) (hp : 0 < st.length) (hl : ms.length = st.length)
    (cl : ClsOk st ((ms.map mk).map Val.nk) js) (sb : Stable st wide js) (b : Bfs (ckey js) (fun s => (st[s]?).getD []) 0 L made []) (hm : made.length = L.length) (hL : ∀ s ∈ L, s < st.length) {T : List Nat → β} (hT : ∀ w, ms[runL st 0 w]? = some (T w)) :
    Least wide made (L.filterMap fun s => ms[s]?) T := by
  have hL0 : 0 < L.length := by
    have := b.first
    cases q : L with
    | nil => rw [q] at this; simp at this
    | cons _ _ => simp
  have marks : ∀ (L : List Nat), (∀ s ∈ L, s < st.length) → ∀ (i s : Nat), L[i]? = some s → (L.filterMap fun s => ms[s]?)[i]? = ms[s]? ∧ (L.filterMap fun s => ms[s]?).length = L.length := by
    intro L
    induction L with
    | nil => intro _ i s h; simp at h
    | cons x L ih =>
      intro hL i s h
      have hx := hL x (by simp)
      have e : ms[x]? = some (ms[x]'(by omega)) := List.getElem?_eq_getElem (by omega)
      rw [List.filterMap_cons, e]
      simp only
      cases i with
      | zero =>
        simp at h
        subst h
        refine ⟨by simp [e], ?_⟩
        cases L with
        | nil => simp
        | cons y L =>
          have := (ih (fun s hs => hL s (by simp [List.mem_cons] at hs ⊢; exact .inr hs)) 0 y rfl).2
          simp only [List.length_cons]
          simpa using this
      | succ i =>
        have := ih (fun s hs => hL s (by simp [hs])) i s (by simpa using h)
        exact ⟨by simpa using this.1, by simp [this.2]⟩
  -- where a letter leads
  have stepm : ∀ i s s' a : Nat, L[i]? = some s → s' < st.length → js[s]? = js[s']? → ∃ t, L[stepL made i a]? = some t ∧ js[t]? = js[stepL st s' a]? := by
    intro i s s' a hi hs' he
    have hs := hL s (List.mem_of_getElem? hi)
    have hi' : i < made.length := by
      have := (List.getElem?_eq_some_iff.mp hi).1
      omega
    obtain ⟨s2, h1, h2, h3⟩ := b.rows i hi'
    rw [hi] at h1
    cases h1
    have est : st[s]? = some st[s] := List.getElem?_eq_getElem hs
    have hw : st[s].length = wide := ok.wide _ (List.getElem_mem hs)
    by_cases ha : a < wide
    · have ha' : a < st[s].length := by omega
      have e1 : stepL st s a = st[s][a] := by simp [stepL, est, List.getElem?_eq_getElem ha']
      have ht : st[s][a] < st.length := ok.to _ (List.getElem_mem hs) _ (List.getElem_mem ha')
      have e2 : stepL made i a = place (ckey js st[s][a]) (L.map (ckey js)) := by
        simp [stepL, h3, est, List.getElem?_eq_getElem ha']
      obtain ⟨t, g1, g2⟩ := place_get (ckey js) (h2 st[s][a] (by simp [est]))
      refine ⟨t, by rw [e2]; exact g1, ?_⟩
      have htl := hL t (List.mem_of_getElem? g1)
      rw [← sb s s' hs hs' he a ha, e1]
      exact (ckey_same (by rw [cl.len]; exact htl) (by rw [cl.len]; exact ht)).mp g2
    · have e2 : stepL made i a = 0 := by
        unfold stepL
        rw [h3]
        simp only [Option.getD_some, est]
        rw [List.getElem?_eq_none (by rw [List.length_map, hw]; omega)]
        rfl
      have e3 : stepL st s' a = 0 := by
        unfold stepL
        rw [List.getElem?_eq_getElem hs']
        simp only [Option.getD_some]
        rw [List.getElem?_eq_none (by rw [ok.wide _ (List.getElem_mem hs')]; omega)]
        rfl
      rw [e2, e3]
      exact ⟨0, b.first, rfl⟩
  have runm : ∀ (w : List Nat) (i s s' : Nat), L[i]? = some s → s' < st.length → js[s]? = js[s']? → ∃ t, L[runL made i w]? = some t ∧ js[t]? = js[runL st s' w]? := by
    intro w
    induction w with
    | nil => intro i s s' hi _ he; exact ⟨s, hi, he⟩
    | cons a w ih =>
      intro i s s' hi hs' he
      obtain ⟨t, h1, h2⟩ := stepm i s s' a hi hs' he
      exact ih _ _ _ h1 (step_lt ok hp s' a) h2
  have fine : ∀ s t, s < st.length → t < st.length → js[s]? = js[t]? → ms[s]? = ms[t]? := by
    intro s t hs ht he
    have := cl.fine s t hs ht he
    simp only [List.getElem?_map, List.getElem?_eq_getElem (show s < ms.length by omega), List.getElem?_eq_getElem (show t < ms.length by omega), Option.map_some, Option.some.injEq] at this ⊢
    exact m.inj _ _ this
  have tell : ∀ (w : List Nat) (i s : Nat), L[i]? = some s → (L.filterMap fun s => ms[s]?)[runL made i w]? = ms[runL st s w]? := by
    intro w i s hi
    have hs := hL s (List.mem_of_getElem? hi)
    obtain ⟨t, h1, h2⟩ := runm w i s s hi hs rfl
    rw [(marks L hL _ _ h1).1]
    exact fine _ _ (hL t (List.mem_of_getElem? h1)) (run_lt ok hp w s hs) h2
  refine ⟨⟨fun s hs => ?_, fun s hs t ht => ?_⟩, by omega, by rw [(marks L hL 0 0 b.first).2, hm], fun w => by rw [tell w 0 0 b.first]; exact hT w, fun i j hi hj h => ?_, ?_, b.ahead⟩
  · obtain ⟨i, hi, rfl⟩ := List.getElem_of_mem hs
    obtain ⟨s2, h1, h2, h3⟩ := b.rows i hi
    rw [List.getElem?_eq_getElem hi] at h3
    rw [Option.some.inj h3, List.length_map]
    have hs2 := hL s2 (List.mem_of_getElem? h1)
    rw [List.getElem?_eq_getElem hs2]
    exact ok.wide _ (List.getElem_mem hs2)
  · obtain ⟨i, hi, rfl⟩ := List.getElem_of_mem hs
    obtain ⟨s2, h1, h2, h3⟩ := b.rows i hi
    rw [List.getElem?_eq_getElem hi] at h3
    rw [Option.some.inj h3] at ht
    obtain ⟨u, hu, rfl⟩ := List.mem_map.mp ht
    have := place_lt (h2 u hu)
    rw [List.length_map] at this
    omega
  · obtain ⟨s, es⟩ : ∃ s, L[i]? = some s := ⟨_, List.getElem?_eq_getElem (by omega)⟩
    obtain ⟨t, et⟩ : ∃ s, L[j]? = some s := ⟨_, List.getElem?_eq_getElem (by omega)⟩
    have hs := hL s (List.mem_of_getElem? es)
    have ht := hL t (List.mem_of_getElem? et)
    have h' : SameB st ms s t := fun w => by rw [← tell w i s es, ← tell w j t et]; exact h w
    have := cl.coarse s t hs ht ((same_mk m).mp h')
    have hk := (ckey_same (by rw [cl.len]; exact hs) (by rw [cl.len]; exact ht)).mpr this
    refine nodup_get b.nodup (a := ckey js s) (by rw [List.getElem?_map, es]; rfl) (by rw [List.getElem?_map, et, hk]; rfl)
  · have := b.ord
    rw [List.append_nil] at this
    rw [this, hm]
end DL

set_option autoImplicit true
set_option Elab.async false
set_option autoImplicit false
set_option linter.all false
set_option maxRecDepth 100000
set_option maxHeartbeats 4000000
/-! Own layer, plain: merged, the walk. -/
namespace DL
open PySem
local macro_rules
  | `(tactic| simp! only [$ls,*]) => `(tactic| simp only [pSs, pS, pE, pEs, pO, pI, pIs, pC, pIf, pAsg, pAsgs, pSetI, pRet, pX, pMove, pUn, pBin, pLt_i, pLe_i, pGt_i, pGe_i, pLt_t, pEq_i, pNe_i, pEq_s, pNe_s, pEq_b, pNe_b, pIn_m, pNin_m, pSub_l, pSub_tup, pSub_lst, pSub_m, pSub_str, pSlice, pBt_len_l, pBt_tuple_l, pBt_list_l, pBt_len_m, pBt_len_tup, pBt_len_lst, pBt_len_str, pBt_list_tup, pBt_tuple_tup, pBt_int_int, pBt_int_bl, pBt_max2, pBt_min2, pBt_str_int, pIsi, pRecv, pMt, wBin, wSub, wSlice, wBt, wRng, startP_cons, startP_nil, List.replicate, getP_0, getP_s, withO_s, withB_b, withD_d, withPB_d, withPI_d, bor_d, bor_l, bor_m, isP_d, isP_l, isP_m, okA_d, okA_l, okA_m, lof_l, lof_m, lof_int, lof_bl, lof_str, lof_non, lof_tup, lof_lst, dof_l, dof_m, dof_int, dof_bl, dof_str, dof_non, dof_tup, dof_lst, dvl_int, dvl_bl, dvl_str, dvl_non, dvl_tup, dvl_lst, ds_nil, ds_cons, omap_some, pSee_d, iterP_l, iterP_tup, see_int, see_bl, see_str, see_non, dep_int, dep_bl, dep_str, dep_non, Nat.zero_min, Nat.min_zero, Nat.zero_le, bindP_one, bindP_two, bindP_three, List.set_cons_zero, List.set_cons_succ, wipeP, Nat.zero_add, atI_0, atI_1, atI_2, atI_3, isV, frz, frz1, Bool.or_false, Bool.or_true, Bool.true_or, Bool.false_or, true_imp_iff, false_imp_iff, Bool.not_false, Bool.not_true, reduceCtorEq, and_true, true_and, List.length_cons, List.length_nil, List.map_cons, List.map_nil, List.length_map, tt_and, ff_and, $ls,*])
  | `(tactic| simp! only [$ls,*] $loc:location) => `(tactic| simp only [pSs, pS, pE, pEs, pO, pI, pIs, pC, pIf, pAsg, pAsgs, pSetI, pRet, pX, pMove, pUn, pBin, pLt_i, pLe_i, pGt_i, pGe_i, pLt_t, pEq_i, pNe_i, pEq_s, pNe_s, pEq_b, pNe_b, pIn_m, pNin_m, pSub_l, pSub_tup, pSub_lst, pSub_m, pSub_str, pSlice, pBt_len_l, pBt_tuple_l, pBt_list_l, pBt_len_m, pBt_len_tup, pBt_len_lst, pBt_len_str, pBt_list_tup, pBt_tuple_tup, pBt_int_int, pBt_int_bl, pBt_max2, pBt_min2, pBt_str_int, pIsi, pRecv, pMt, wBin, wSub, wSlice, wBt, wRng, startP_cons, startP_nil, List.replicate, getP_0, getP_s, withO_s, withB_b, withD_d, withPB_d, withPI_d, bor_d, bor_l, bor_m, isP_d, isP_l, isP_m, okA_d, okA_l, okA_m, lof_l, lof_m, lof_int, lof_bl, lof_str, lof_non, lof_tup, lof_lst, dof_l, dof_m, dof_int, dof_bl, dof_str, dof_non, dof_tup, dof_lst, dvl_int, dvl_bl, dvl_str, dvl_non, dvl_tup, dvl_lst, ds_nil, ds_cons, omap_some, pSee_d, iterP_l, iterP_tup, see_int, see_bl, see_str, see_non, dep_int, dep_bl, dep_str, dep_non, Nat.zero_min, Nat.min_zero, Nat.zero_le, bindP_one, bindP_two, bindP_three, List.set_cons_zero, List.set_cons_succ, wipeP, Nat.zero_add, atI_0, atI_1, atI_2, atI_3, isV, frz, frz1, Bool.or_false, Bool.or_true, Bool.true_or, Bool.false_or, true_imp_iff, false_imp_iff, Bool.not_false, Bool.not_true, reduceCtorEq, and_true, true_and, List.length_cons, List.length_nil, List.map_cons, List.map_nil, List.length_map, tt_and, ff_and, $ls,*] $loc:location)

theorem key_kind (st : List (List Nat)) (cl : List Nat) (k : Nat) : modKey (keyK st cl k) = true ∧ kcl (keyK st cl k) = 2 := by
  refine ⟨?_, rfl⟩
  unfold modKey keyK
  rw [Bool.and_eq_true]
  have e : ∀ l : List Nat, l.map (fun to => natV (cl.getD to 0)) = (l.map fun to => cl.getD to 0).map natV := fun l => by rw [List.map_map]; rfl
  rw [e]
  generalize ((st[k]?).getD []).map (fun to => cl.getD to 0) = l
  have d1 : Val.dats (l.map natV) = true := dats_map natV (fun _ => rfl) l
  have d2 : NestedKey.depthAll (Val.nks (l.map natV)) = 0 := by
    rw [nks_map]
    induction l with
    | nil => rfl
    | cons x l ih => simp only [List.map_cons, NestedKey.depthAll, NestedKey.depth, ih (dats_map natV (fun _ => rfl) l)]; rfl
  refine ⟨by simp [Val.dat, Val.dats, natV, d1], decide_eq_true ?_⟩
  simp only [Val.nk, Val.nks, NestedKey.depth, NestedKey.depthAll, d2, natV]
  decide
theorem st_get {st : List (List Nat)} {i : Nat} (h : i < st.length) : (st.map stV)[i]? = some (stV st[i]) := by
  rw [List.getElem?_map, List.getElem?_eq_getElem h]
  rfl
theorem cl_get {js : List NestedKey} {i : Nat} (h : i < js.length) : ((cls js).map natV)[i]? = some (natV ((cls js).getD i 0)) := by
  rw [List.getElem?_map, cls_get h, getD_cls h]
  rfl
theorem range_natV (n : Nat) : rangeL 0 n 1 = (List.range n).map natV := by
  unfold rangeL
  refine List.map_congr_left fun k _ => ?_
  simp [natV]
theorem dctN_get {L : List Nat} {js : List NestedKey} {t : Nat} (h : ckey js t ∈ L.map (ckey js)) : dget (dctN 0 (L.map fun s => natV ((cls js).getD s 0))) (natV ((cls js).getD t 0)) = some (natV (place (ckey js t) (L.map (ckey js)))) := by
  rw [dget_dctN]
  have e : (L.map fun s => natV ((cls js).getD s 0)).map Val.nk = L.map (ckey js) := by rw [List.map_map]; rfl
  rw [e]
  have e2 : (natV ((cls js).getD t 0)).nk = ckey js t := rfl
  rw [e2, if_pos h, Nat.zero_add]
theorem dctN_out {L : List Nat} {js : List NestedKey} {t : Nat} (h : ckey js t ∉ L.map (ckey js)) : dget (dctN 0 (L.map fun s => natV ((cls js).getD s 0))) (natV ((cls js).getD t 0)) = none := by
  rw [dget_dctN]
  have e : (L.map fun s => natV ((cls js).getD s 0)).map Val.nk = L.map (ckey js) := by rw [List.map_map]; rfl
  rw [e]
  have e2 : (natV ((cls js).getD t 0)).nk = ckey js t := rfl
  rw [e2, if_neg h]
theorem kind_nats {c : Nat → Nat} {L : List Nat} {x : Nat} : kindOk (dctN 0 (L.map fun s => natV (c s))) (natV x) = true := by
  refine kind_dctN (c := 0) (fun k hk => ?_) ⟨rfl, rfl⟩
  obtain ⟨s, _, rfl⟩ := List.mem_map.mp hk
  rfl
theorem w_merged {g : PCfg} (G : PMergG g) : Wp g ps_merged n_merged b_merged := by
  intro args S Q E h
  unfold ps_merged at h
  split at h <;> first | contradiction | skip
  rename_i sv mv
  obtain ⟨β, mk, c, st, ms, wide, M, hsv, hmv, ok, hn, hml, h23, hwd, h2⟩ := h
  have hsb : seqP S sv.bor = some (st.map stV) := by rw [seqP_bor, hsv]
  have hmb : seqP S mv.bor = some (ms.map mk) := by rw [seqP_bor, hmv]
  unfold b_merged
  refine pstep fun K hK => ?_
  simp! only [n_merged, G.f10, ps_numbered, bor_bor]
  have hmk : ∀ k ∈ ms.map mk, modKey k = true ∧ kcl k = c := fun k hk => by
    obtain ⟨a, _, rfl⟩ := List.mem_map.mp hk
    exact M.key a
  refine ⟨ms.map mk, c, hmb, hmk, by simp [hml]; unfold line; omega, by decide, ?_⟩
  refine hK _ (pstep fun K2 hK2 => ?_)
  simp! only []
  refine hK2 _ (pstep fun K3 hK3 => ?_)
  have c0 : 0 < cnt ((ms.map mk).map Val.nk) := by
    have : ((ms.map mk).map Val.nk)[0]'(by simp; omega) ∈ seenAll [] ((ms.map mk).map Val.nk) := (seenAll_mem _ [] _).mpr (.inr (List.getElem_mem _))
    exact List.length_pos_of_mem this
  refine pwhile_step (fun m e => ∃ (js : List NestedKey) (bf : Nat), ClsOk st ((ms.map mk).map Val.nk) js ∧ bf ≤ cnt js ∧ (bf = cnt js → Stable st wide js) ∧ m = st.length - bf ∧
      e = [some sv, some mv, some (.l true ((cls js).map natV)), some (.d (.int (cnt js))), some (.d (.int bf)), none, none, none, none, none, none, none])
    ⟨st.length, (ms.map mk).map Val.nk, 0, clsOk_marks (by simp [hml]), Nat.zero_le _, fun z => by omega, rfl, rfl⟩ ?_
  rintro B hB m e ⟨js, bf, hj, hb1, hb2, rfl, rfl⟩
  have hjl := hj.len
  have hcn : cnt js ≤ st.length := by
    have := cnt_le js
    omega
  simp! only []
  refine ⟨fun q => hB _ _ (pstep fun K4 hK4 => ?_), fun q => hK3 _ (pstep fun K4 hK4 => ?_)⟩
  · have hne : bf ≠ cnt js := by simp at q; omega
    simp! only []
    refine hK4 _ (pstep fun K5 hK5 => ?_)
    simp! only [pLen_seq hsb, List.length_map, G.f10, ps_numbered]
    refine ⟨by omega, by omega, ?_⟩
    rw [Int.toNat_natCast, range_natV]
    refine pturns_mapT natV (keyK st (cls js)) (fun i hi k hk => ?_) ?_
    · have hi : i < st.length := by simpa using hi
      have hi2 : i < js.length := by omega
      have ei : st[i]? = some st[i] := List.getElem?_eq_getElem hi
      have hto := ok.to _ (List.getElem_mem hi)
      simp! only [natV, pSub_seq hsb, atI_nat, st_get hi, cl_get hi2, stV, iterP_tup]
      refine pturns_mapT natV (fun t => natV ((cls js).getD t 0)) (fun t ht k2 hk2 => ?_) ?_
      · have ht2 : t < js.length := by have := hto t ht; omega
        simp! only [natV, atI_nat, cl_get ht2] at hk2 ⊢
        simpa using hk2
      · simp! only [pBtL]
        simpa [keyK, ei, natV] using hk
    · refine ⟨(List.range st.length).map (keyK st (cls js)), 2, rfl, fun k hk => ?_, by simp; unfold line; omega, by decide, ?_⟩
      · obtain ⟨i, _, rfl⟩ := List.mem_map.mp hk
        exact key_kind _ _ _
      · have e1 : ((List.range st.length).map (keyK st (cls js))).map Val.nk = keysK st (cls js) := by rw [List.map_map]; rfl
        have hcl := clsOk_next ok hj
        have hcm := cnt_next hj
        have hcl2 : cnt (keysK st (cls js)) ≤ st.length := by
          have := cnt_le (keysK st (cls js))
          have := hcl.len
          omega
        rw [e1]
        refine hK5 _ ?_
        simp! only []
        refine ⟨st.length - cnt js, by omega, keysK st (cls js), cnt js, hcl, hcm, fun z => ?_, rfl, rfl⟩
        intro i j hi hj' he a ha
        exact cls_stable ok hj z hi hj' he a ha
  · have hst := hb2 (by simp at q; omega)
    have h0 : 0 < js.length := by omega
    simp! only [show (0 : Int) = ((0 : Nat) : Int) from rfl, atI_nat, cl_get h0]
    refine ⟨rfl, hK4 _ (pstep fun K5 hK5 => ?_)⟩
    simp! only []
    refine hK5 _ (pstep fun K6 hK6 => ?_)
    simp! only []
    refine hK6 _ (pstep fun K7 hK7 => ?_)
    have bound : ∀ (L : List Nat), (L.map (ckey js)).Nodup → (∀ s ∈ L, s < st.length) → L.length ≤ st.length := fun L h1 h2 => by
      have h3 : L.Nodup := (List.pairwise_map.mp h1).imp fun h z => h (by rw [z])
      have := h3.length_le_of_subset (l₂ := List.range st.length) fun s hs => List.mem_range.mpr (h2 s hs)
      simpa using this
    refine pwhile_step (fun m e => ∃ (L : List Nat) (made : List (List Nat)) (v6 v10 : Option PV), Bfs (ckey js) (fun s => (st[s]?).getD []) 0 L made [] ∧ (∀ s ∈ L, s < st.length) ∧ m = st.length - made.length ∧
        e = [some sv, some mv, some (.l true ((cls js).map natV)), some (.d (.int (cnt js))), some (.d (.int bf)), none, v6, some (.m true (dctN 0 (L.map fun s => natV ((cls js).getD s 0)))), some (.l true (L.map natV)), some (.l true (made.map stV)), v10, none])
      ⟨_, [0], [], none, none, .start, by simpa using hn, rfl, rfl⟩ ?_
    rintro B hB m e ⟨L, made, v6, v10, b, hL, rfl, rfl⟩
    simp! only [List.length_map]
    refine ⟨fun q => hB _ _ (pstep fun K8 hK8 => ?_), fun q => hK7 _ ?_⟩
    · have hlt : made.length < L.length := by simpa using q
      have hLn := bound L b.nodup hL
      simp! only []
      refine hK8 _ (pstep fun K9 hK9 => pfor_step fun B2 hB2 => ?_)
      have es : (L.map natV)[made.length]? = some (natV L[made.length]) := by rw [List.getElem?_map, List.getElem?_eq_getElem hlt]; rfl
      have hs : L[made.length] < st.length := hL _ (List.getElem_mem hlt)
      have est : st[L[made.length]]? = some st[L[made.length]] := List.getElem?_eq_getElem hs
      simp! only [atI_nat, es, natV, pSub_seq hsb, st_get hs, stV]
      refine pfor_invT natV (fun rest e => ∃ (L2 : List Nat) (done : List Nat) (v6 : Option PV), Bfs (ckey js) (fun s => (st[s]?).getD []) 0 L2 made (done.map fun t => place (ckey js t) (L2.map (ckey js))) ∧ (∀ s ∈ L2, s < st.length) ∧ done ++ rest = st[L[made.length]] ∧ (∀ t ∈ done, ckey js t ∈ L2.map (ckey js)) ∧ L2[made.length]? = some L[made.length] ∧
          e = [some sv, some mv, some (.l true ((cls js).map natV)), some (.d (.int (cnt js))), some (.d (.int bf)), none, v6, some (.m true (dctN 0 (L2.map fun s => natV ((cls js).getD s 0)))), some (.l true (L2.map natV)), some (.l true (made.map stV)), some (.l true ((done.map fun t => place (ckey js t) (L2.map (ckey js))).map natV)), none]) ?_ ?_ _ _
        ⟨L, [], v6, by simpa using b, hL, rfl, by simp, List.getElem?_eq_getElem hlt, rfl⟩
      · rintro t rest e ⟨L2, done, w6, b2, hL2, hd, hin, hLs, rfl⟩
        have ht : t < st.length := ok.to _ (List.getElem_mem hs) t (by rw [← hd]; simp)
        have ht2 : t < js.length := by omega
        have hlen : done.length < line := by
          have := congrArg List.length hd
          have e2 : st[L[made.length]].length = wide := ok.wide _ (List.getElem_mem hs)
          simp only [List.length_append, List.length_cons] at this
          unfold line
          omega
        have hL2n := bound L2 b2.nodup hL2
        simp! only []
        intro k hk
        refine hB2 _ _ (pstep fun K10 hK10 => pite_step fun A B3 hA hB3 => ?_)
        simp! only [natV, atI_nat, cl_get ht2]
        refine ⟨kind_nats, ?_⟩
        by_cases hm : ckey js t ∈ L2.map (ckey js)
        · have hg := dctN_get hm
          simp only [natV] at hg
          simp! only [hg, Option.isNone_some]
          refine hB3 _ ?_
          simp! only []
          refine hK10 _ ?_
          simp! only [natV, atI_nat, cl_get ht2, hg]
          refine ⟨kind_nats, hlen, hk _ ⟨L2, done ++ [t], some (.d (natV t)), by simpa using b2.old hm, hL2, by simpa using hd, fun u hu => ?_, hLs, ?_⟩⟩
          · rcases List.mem_append.mp hu with z | z
            · exact hin u z
            · simp at z; rw [z]; exact hm
          · simp [natV]
        · have hg := dctN_out hm
          simp only [natV] at hg
          simp! only [hg, Option.isNone_none]
          have hmem : ckey js t ∈ (L2 ++ [t]).map (ckey js) := by simp
          have hput : dput (dctN 0 (L2.map fun s => natV ((cls js).getD s 0))) (natV ((cls js).getD t 0)) (natV L2.length) = dctN 0 ((L2 ++ [t]).map fun s => natV ((cls js).getD s 0)) := by
            have := dput_dctN (k := natV ((cls js).getD t 0)) (L2.map fun s => natV ((cls js).getD s 0)) 0 (by rw [List.map_map]; exact hm)
            simpa using this
          have hg2 := dctN_get hmem
          have hpl : place (ckey js t) ((L2 ++ [t]).map (ckey js)) = L2.length := by
            rw [List.map_append, List.map_cons, List.map_nil]
            have : ∀ l : List NestedKey, ckey js t ∉ l → place (ckey js t) (l ++ [ckey js t]) = l.length := by
              intro l
              induction l with
              | nil => intro _; simp [place]
              | cons x l ih =>
                intro hx
                simp only [List.cons_append, place]
                rw [if_neg fun z => hx (by rw [z]; simp), ih fun z => hx (by simp [z])]
                rfl
            rw [this _ hm, List.length_map]
          refine hA _ (pstep fun K11 hK11 => ?_)
          simp! only [natV, atI_nat, cl_get ht2, dctN_len]
          simp only [natV] at hput hg2
          refine ⟨kind_nats, by unfold line; omega, hK11 _ ?_⟩
          simp! only []
          refine ⟨by unfold line; omega, hK10 _ ?_⟩
          simp! only [natV, atI_nat, cl_get ht2]
          rw [hput]
          simp! only [hg2]
          refine ⟨kind_nats, hlen, hk _ ⟨L2 ++ [t], done ++ [t], some (.d (natV t)), ?_, fun s hs' => ?_, by simpa using hd, fun u hu => ?_, ?_, ?_⟩⟩
          · have := b2.new hm
            rw [List.map_append, List.map_cons, List.map_nil, hpl]
            have e : (done.map fun u => place (ckey js u) ((L2 ++ [t]).map (ckey js))) = done.map fun u => place (ckey js u) (L2.map (ckey js)) := List.map_congr_left fun u hu => by rw [List.map_append, place_app (hin u hu)]
            rw [e]
            exact this
          · rcases List.mem_append.mp hs' with z | z
            · exact hL2 s z
            · simp at z; rw [z]; exact ht
          · rcases List.mem_append.mp hu with z | z
            · rw [List.map_append]; exact List.mem_append.mpr (.inl (hin u z))
            · simp at z; rw [z]; exact hmem
          · rw [List.getElem?_append_left (List.getElem?_eq_some_iff.mp hLs).1]
            exact hLs
          · have e : (done.map fun u => place (ckey js u) ((L2 ++ [t]).map (ckey js))) = done.map fun u => place (ckey js u) (L2.map (ckey js)) := List.map_congr_left fun u hu => by rw [List.map_append, place_app (hin u hu)]
            have e' : ((done ++ [t]).map fun u => place (ckey js u) ((L2 ++ [t]).map (ckey js))) = (done.map fun u => place (ckey js u) (L2.map (ckey js))) ++ [L2.length] := by rw [List.map_append, e]; simp only [List.map_cons, List.map_nil, hpl]
            rw [e']
            simp [natV]
            simp only [List.map_append, List.map_cons, List.map_nil] at hpl
            rw [hpl]
      · rintro e ⟨L2, done, w6, b2, hL2, hd, hin, hLs, rfl⟩
        have hL2n := bound L2 b2.nodup hL2
        rw [List.append_nil] at hd
        refine hK9 _ ?_
        simp! only []
        have hfl : (metN [0] made.flatten).length > made.length := b.ahead0 hlt
        refine ⟨by unfold line; omega, st.length - (made.length + 1), by omega, L2, made ++ [done.map fun t => place (ckey js t) (L2.map (ckey js))], w6, some (.l true ((done.map fun t => place (ckey js t) (L2.map (ckey js))).map natV)), ?_, hL2, by simp, ?_⟩
        · exact Bfs.fin' (by simp only [est, Option.getD_some, hd]) hLs b2 hin hfl
        · simp [stV]
    · have hge : ¬ made.length < L.length := by simpa using q
      have hml2 : made.length = L.length := by have := b.le; omega
      simp! only [pSub_seq hmb]
      refine pturns_mapT natV (fun s => match ms[s]? with
        | some a => mk a
        | none => .non) (fun s hs k hk => ?_) ?_
      · have hs' := hL s hs
        have e : ms[s]? = some (ms[s]'(by omega)) := List.getElem?_eq_getElem (by omega)
        have e2 : (ms.map mk)[s]? = some (mk (ms[s]'(by omega))) := by rw [List.getElem?_map, e]; rfl
        simp! only [natV, atI_nat, pSub_seq hmb, e2]
        simpa [e] using hk
      · simp! only [pBtL]
        have hT : ∀ w, ∃ T, ms[runL st 0 w]? = some T := fun w => ⟨_, List.getElem?_eq_getElem (by rw [hml]; exact run_lt ok hn w 0 hn)⟩
        have e : (L.map fun s => match ms[s]? with
            | some a => mk a
            | none => .non) = (L.filterMap fun s => ms[s]?).map mk := by
          have : ∀ L : List Nat, (∀ s ∈ L, s < st.length) → (L.map fun s => match ms[s]? with
            | some a => mk a
            | none => .non) = (L.filterMap fun s => ms[s]?).map mk := by
            intro L
            induction L with
            | nil => intro _; rfl
            | cons x L ih =>
              intro hL
              have e : ms[x]? = some (ms[x]'(by have := hL x (by simp); omega)) := List.getElem?_eq_getElem _
              rw [List.map_cons, List.filterMap_cons, e]
              simp only [List.map_cons]
              rw [ih fun s hs => hL s (by simp [hs])]
          exact this L hL
        rw [e]
        refine h2 made _ (fun w => Classical.choose (hT w)) (fun w => Classical.choose_spec (hT w)) (least_of_bfs M ok hn hml hj hst b hml2 hL fun w => Classical.choose_spec (hT w)) ?_
        rw [hml2]
        exact bound L b.nodup hL
end DL

set_option autoImplicit true
set_option Elab.async false
set_option autoImplicit false
set_option linter.all false
set_option maxRecDepth 100000
set_option maxHeartbeats 4000000
/-! Own layer, plain: equality of plain values; pairs of states walked side by side. -/
namespace DL
open PySem
mutual
/-- whole numbers, texts, None, tuples of such: == is being the same -/
def Val.pl : Val → Bool
  | .non => true
  | .bl _ => false
  | .int _ => true
  | .str _ => true
  | .tup xs => Val.pls xs
  | .ref _ => false
  | .lst _ => false
def Val.pls : List Val → Bool
  | [] => true
  | x :: xs => x.pl && Val.pls xs
end
mutual
theorem pl_dat : ∀ x : Val, x.pl = true → x.dat = true
  | .non, _ => rfl
  | .int _, _ => rfl
  | .str _, _ => rfl
  | .tup xs, h => pls_dat xs h
theorem pls_dat : ∀ xs : List Val, Val.pls xs = true → Val.dats xs = true
  | [], _ => rfl
  | x :: xs, h => by
    simp only [Val.pls, Bool.and_eq_true] at h
    simp only [Val.dats, pl_dat x h.1, pls_dat xs h.2, Bool.and_self]
end
mutual
theorem veq_pl : ∀ x y : Val, x.pl = true → y.pl = true → (x.veq y = true ↔ x = y)
  | .non, y, _, h => by cases y <;> first | (cases h; done) | simp [Val.veq, Val.py, PyData.eqv]
  | .int i, y, _, h => by cases y <;> first | (cases h; done) | simp [Val.veq, Val.py, PyData.eqv]
  | .str i, y, _, h => by cases y <;> first | (cases h; done) | simp [Val.veq, Val.py, PyData.eqv]
  | .tup xs, .tup ys, h, h' => by
    have := veqs_pl xs ys h h'
    simp only [Val.veq, Val.py, PyData.eqv, Val.tup.injEq]
    exact this
  | .tup xs, .non, _, _ => by simp [Val.veq, Val.py, PyData.eqv]
  | .tup xs, .int _, _, _ => by simp [Val.veq, Val.py, PyData.eqv]
  | .tup xs, .str _, _, _ => by simp [Val.veq, Val.py, PyData.eqv]
theorem veqs_pl : ∀ xs ys : List Val, Val.pls xs = true → Val.pls ys = true → (PyData.eqvAll (Val.pys xs) (Val.pys ys) = true ↔ xs = ys)
  | [], [], _, _ => by simp [Val.pys, PyData.eqvAll]
  | [], _ :: _, _, _ => by simp [Val.pys, PyData.eqvAll]
  | _ :: _, [], _, _ => by simp [Val.pys, PyData.eqvAll]
  | x :: xs, y :: ys, h, h' => by
    simp only [Val.pls, Bool.and_eq_true] at h h'
    have h1 := veq_pl x y h.1 h'.1
    have h2 := veqs_pl xs ys h.2 h'.2
    unfold Val.veq at h1
    simp only [Val.pys, PyData.eqvAll, Bool.and_eq_true, h1, h2, List.cons.injEq]
end
theorem veq_bl (a b : Bool) : (Val.bl a).veq (.bl b) = (a == b) := by
  cases a <;> cases b <;> rfl
theorem pls_map {α : Type} (f : α → Val) (h : ∀ x, (f x).pl = true) (xs : List α) : Val.pls (xs.map f) = true := by
  induction xs with
  | nil => rfl
  | cons x xs ih => simp [Val.pls, h, ih]
theorem pls_mem : ∀ {xs : List Val}, Val.pls xs = true ↔ ∀ x ∈ xs, x.pl = true
  | [] => by simp [Val.pls]
  | x :: xs => by
    simp only [Val.pls, Bool.and_eq_true, List.mem_cons, forall_eq_or_imp]
    rw [pls_mem]
theorem veqAny_pl {x : Val} {ys : List Val} (hx : x.pl = true) (hy : Val.pls ys = true) : veqAny x ys = true ↔ x ∈ ys := by
  induction ys with
  | nil => simp [veqAny]
  | cons y ys ih =>
    simp only [Val.pls, Bool.and_eq_true] at hy
    simp only [veqAny, Bool.or_eq_true, ih hy.2, List.mem_cons, veq_pl y x hy.1 hx]
    constructor
    · rintro (h | h)
      · exact .inl h.symm
      · exact .inr h
    · rintro (h | h)
      · exact .inl h.symm
      · exact .inr h
theorem natV_inj {a b : Nat} : natV a = natV b ↔ a = b := by
  simp only [natV, Val.int.injEq]
  omega
theorem natV_pl (n : Nat) : (natV n).pl = true := rfl
theorem stV_pl (s : List Nat) : (stV s).pl = true := pls_map natV natV_pl s
/-- a pair of states -/
def pvV (p : Nat × Nat) : Val := .tup [natV p.1, natV p.2]
theorem pvV_pl (p : Nat × Nat) : (pvV p).pl = true := rfl
theorem pvV_inj {p q : Nat × Nat} : pvV p = pvV q ↔ p = q := by
  obtain ⟨a, b⟩ := p
  obtain ⟨c, d⟩ := q
  simp [pvV, natV_inj]
theorem mem_mapI {α : Type} {v : α → Val} (inj : ∀ a b, v a = v b → a = b) {a : α} {l : List α} : v a ∈ l.map v ↔ a ∈ l := by
  constructor
  · intro h
    obtain ⟨b, h1, h2⟩ := List.mem_map.mp h
    rw [← inj _ _ h2]
    exact h1
  · intro h
    exact List.mem_map.mpr ⟨a, h, rfl⟩
/-- in a list of typed plain values -/
theorem isin_typed {α : Type} {v : α → Val} (pl : ∀ a, (v a).pl = true) (inj : ∀ a b, v a = v b → a = b) (a : α) (l : List α) [Decidable (a ∈ l)] : veqAny (v a) (l.map v) = decide (a ∈ l) := by
  have h := veqAny_pl (x := v a) (pl a) (pls_map v pl l)
  rw [mem_mapI inj] at h
  rw [Bool.eq_iff_iff, h, decide_eq_true_iff]
/-- a in a list, at the pure level -/
theorem pIn {α : Type} {v : α → Val} (pl : ∀ a, (v a).pl = true) (inj : ∀ a b, v a = v b → a = b) {a : α} {l : List α} [Decidable (a ∈ l)] {o : Bool} {S : Sto} {Q : PK} (hd : (v a).dep ≤ 100) :
    pCmp .isin (.d (v a)) (.l o (l.map v)) S Q = Q (.d (.bl (decide (a ∈ l)))) := by
  simp only [pCmp, withD_d, lof_l, pl_dat _ (pl a), sees_dats (pls_dat _ (pls_map v pl l)), withO_s, isin_typed pl inj, hd, true_and]
theorem pNin {α : Type} {v : α → Val} (pl : ∀ a, (v a).pl = true) (inj : ∀ a b, v a = v b → a = b) {a : α} {l : List α} [Decidable (a ∈ l)] {o : Bool} {S : Sto} {Q : PK} (hd : (v a).dep ≤ 100) :
    pCmp .notin (.d (v a)) (.l o (l.map v)) S Q = Q (.d (.bl (!decide (a ∈ l)))) := by
  simp only [pCmp, withD_d, lof_l, pl_dat _ (pl a), sees_dats (pls_dat _ (pls_map v pl l)), withO_s, isin_typed pl inj, hd, true_and]
theorem pNin_pv (a b : Nat) (L : List (Nat × Nat)) (o : Bool) (S : Sto) (Q : PK) : pCmp .notin (.d (.tup [.int a, .int b])) (.l o (L.map pvV)) S Q = Q (.d (.bl (!decide ((a, b) ∈ L)))) := pNin (v := pvV) (a := (a, b)) pvV_pl (fun a b => pvV_inj.mp) (by show 1 ≤ 100; decide)
theorem pNin_nat (a : Nat) (L : List Nat) (o : Bool) (S : Sto) (Q : PK) : pCmp .notin (.d (.int a)) (.l o (L.map natV)) S Q = Q (.d (.bl (!decide (a ∈ L)))) := pNin (v := natV) (a := a) natV_pl (fun a b => natV_inj.mp) (by show 0 ≤ 100; decide)
theorem pIn_nat (a : Nat) (L : List Nat) (o : Bool) (S : Sto) (Q : PK) : pCmp .isin (.d (.int a)) (.l o (L.map natV)) S Q = Q (.d (.bl (decide (a ∈ L)))) := pIn (v := natV) (a := a) natV_pl (fun a b => natV_inj.mp) (by show 0 ≤ 100; decide)
/-- pairs of states of two machines that are met, the first i looked at -/
structure Prs {β : Type} (stA stB : List (List Nat)) (msA msB : List β) (wide : Nat) (s0 : Nat × Nat) (L : List (Nat × Nat)) (i : Nat) : Prop where
  first : L[0]? = some s0
  nodup : L.Nodup
  inr : ∀ p ∈ L, p.1 < stA.length ∧ p.2 < stB.length
  le : i ≤ L.length
  done : ∀ j p, j < i → L[j]? = some p → msA[p.1]? = msB[p.2]? ∧ ∀ c, c < wide → (stepL stA p.1 c, stepL stB p.2 c) ∈ L
  reach : ∀ p ∈ L, ∃ w, runL stA s0.1 w = p.1 ∧ runL stB s0.2 w = p.2
section
variable {β : Type} {stA stB : List (List Nat)} {msA msB : List β} {wide : Nat} {s0 : Nat × Nat}
theorem Prs.start (h1 : s0.1 < stA.length) (h2 : s0.2 < stB.length) : Prs stA stB msA msB wide s0 [s0] 0 :=
  ⟨rfl, by simp, by simp [h1, h2], by simp, fun j p h => by omega, fun p hp => ⟨[], by simp at hp; subst hp; exact ⟨rfl, rfl⟩⟩⟩
theorem range_pairs (a b : Nat) : ((List.range a).flatMap fun x => (List.range b).map fun y => (x, y)).length = a * b := by
  induction a with
  | zero => simp
  | succ a ih => rw [List.range_succ, List.flatMap_append, List.length_append, ih, Nat.succ_mul]; simp
theorem Prs.bound {L : List (Nat × Nat)} {i : Nat} (h : Prs stA stB msA msB wide s0 L i) : L.length ≤ stA.length * stB.length := by
  rw [← range_pairs]
  refine h.nodup.length_le_of_subset fun p hp => ?_
  obtain ⟨h1, h2⟩ := h.inr p hp
  exact List.mem_flatMap.mpr ⟨p.1, List.mem_range.mpr h1, List.mem_map.mpr ⟨p.2, List.mem_range.mpr h2, rfl⟩⟩
/-- one pair more -/
theorem Prs.add {L : List (Nat × Nat)} {i : Nat} (h : Prs stA stB msA msB wide s0 L i) {p : Nat × Nat} {c : Nat} (hp : p ∈ L) (okA : StOk stA wide) (okB : StOk stB wide) (pA : 0 < stA.length) (pB : 0 < stB.length) (hn : (stepL stA p.1 c, stepL stB p.2 c) ∉ L) :
    Prs stA stB msA msB wide s0 (L ++ [(stepL stA p.1 c, stepL stB p.2 c)]) i := by
  refine ⟨?_, ?_, fun q hq => ?_, by simp; have := h.le; omega, fun j q hj hq => ?_, fun q hq => ?_⟩
  · rw [List.getElem?_append_left]
    · exact h.first
    · exact List.length_pos_of_mem hp
  · rw [List.nodup_append]
    exact ⟨h.nodup, by simp, fun a ha b hb => by simp at hb; subst hb; exact fun z => hn (z ▸ ha)⟩
  · rcases List.mem_append.mp hq with z | z
    · exact h.inr q z
    · simp at z
      subst z
      exact ⟨step_lt okA pA _ _, step_lt okB pB _ _⟩
  · rw [List.getElem?_append_left (by have := h.le; omega)] at hq
    obtain ⟨h1, h2⟩ := h.done j q hj hq
    exact ⟨h1, fun c hc => List.mem_append.mpr (.inl (h2 c hc))⟩
  · rcases List.mem_append.mp hq with z | z
    · exact h.reach q z
    · simp at z
      subst z
      obtain ⟨w, h1, h2⟩ := h.reach p hp
      refine ⟨w ++ [c], ?_, ?_⟩
      · rw [runL_app, h1]; rfl
      · rw [runL_app, h2]; rfl
theorem Prs.next {L : List (Nat × Nat)} {i : Nat} {p : Nat × Nat} (h : Prs stA stB msA msB wide s0 L i) (hi : L[i]? = some p) (hm : msA[p.1]? = msB[p.2]?) (hs : ∀ c, c < wide → (stepL stA p.1 c, stepL stB p.2 c) ∈ L) : Prs stA stB msA msB wide s0 L (i + 1) := by
  have hlt : i < L.length := (List.getElem?_eq_some_iff.mp hi).1
  refine ⟨h.first, h.nodup, h.inr, by omega, fun j q hj hq => ?_, h.reach⟩
  by_cases z : j < i
  · exact h.done j q z hq
  · have : j = i := by omega
    subst this
    rw [hi] at hq
    cases hq
    exact ⟨hm, hs⟩
/-- all were looked at: they tell the same -/
theorem Prs.same {L : List (Nat × Nat)} (h : Prs stA stB msA msB wide s0 L L.length) (okA : StOk stA wide) (okB : StOk stB wide) (h0 : s0 = (0, 0) ∨ ∀ w, msA[runL stA 0 w]? = msB[runL stB 0 w]?) : ∀ w, msA[runL stA s0.1 w]? = msB[runL stB s0.2 w]? := by
  have out : ∀ (st : List (List Nat)) (ok : StOk st wide) (s c : Nat), s < st.length → ¬ c < wide → stepL st s c = 0 := by
    intro st ok s c hs hc
    unfold stepL
    rw [List.getElem?_eq_getElem hs]
    simp only [Option.getD_some]
    rw [List.getElem?_eq_none (by rw [ok.wide _ (List.getElem_mem hs)]; omega)]
    rfl
  have key : ∀ (w : List Nat) (p : Nat × Nat), p ∈ L → msA[runL stA p.1 w]? = msB[runL stB p.2 w]? := by
    intro w
    induction w with
    | nil =>
      intro p hp
      obtain ⟨j, hj, e⟩ := List.getElem_of_mem hp
      exact (h.done j p hj (by rw [← e]; exact List.getElem?_eq_getElem hj)).1
    | cons c w ih =>
      intro p hp
      obtain ⟨j, hj, e⟩ := List.getElem_of_mem hp
      rw [runL_cons, runL_cons]
      by_cases hc : c < wide
      · exact ih (_, _) ((h.done j p hj (by rw [← e]; exact List.getElem?_eq_getElem hj)).2 c hc)
      · obtain ⟨h1, h2⟩ := h.inr p hp
        rw [out stA okA _ _ h1 hc, out stB okB _ _ h2 hc]
        rcases h0 with z | z
        · refine ih (0, 0) ?_
          rw [← z]
          exact List.mem_of_getElem? h.first
        · exact z w
  exact fun w => key w s0 (List.mem_of_getElem? h.first)
end
theorem step_get {st : List (List Nat)} {wide s c : Nat} (ok : StOk st wide) (hs : s < st.length) (hc : c < wide) : ∃ r, st[s]? = some r ∧ r.length = wide ∧ r[c]? = some (stepL st s c) := by
  have e1 : st[s]? = some st[s] := List.getElem?_eq_getElem hs
  have hw := ok.wide _ (List.getElem_mem hs)
  refine ⟨_, e1, hw, ?_⟩
  unfold stepL
  rw [e1, Option.getD_some, List.getElem?_eq_getElem (by omega)]
  rfl
/-- the pairs behind a pair, as zip tells them -/
theorem zip_steps {stA stB : List (List Nat)} {wide a b : Nat} {ra rb : List Nat} (okA : StOk stA wide) (okB : StOk stB wide) (ha : stA[a]? = some ra) (hb : stB[b]? = some rb) : zipL (ra.map natV) (rb.map natV) = (List.range wide).map fun c => pvV (stepL stA a c, stepL stB b c) := by
  have la : ra.length = wide := okA.wide _ (List.mem_of_getElem? ha)
  have lb : rb.length = wide := okB.wide _ (List.mem_of_getElem? hb)
  refine List.ext_getElem? fun c => ?_
  have e1 : ∀ (xs ys : List Val) (i : Nat), (zipL xs ys)[i]? = match xs[i]?, ys[i]? with
      | some x, some y => some (.tup [x, y])
      | _, _ => none := by
    intro xs
    induction xs with
    | nil => intro ys i; simp [zipL]
    | cons x xs ih =>
      intro ys i
      cases ys with
      | nil => cases i <;> simp [zipL]
      | cons y ys => cases i with
        | zero => rfl
        | succ i => simpa [zipL] using ih ys i
  rw [e1, List.getElem?_map, List.getElem?_map, List.getElem?_map]
  by_cases hc : c < wide
  · have h1 : stepL stA a c = ra[c]'(by omega) := by simp [stepL, ha, List.getElem?_eq_getElem (show c < ra.length by omega)]
    have h2 : stepL stB b c = rb[c]'(by omega) := by simp [stepL, hb, List.getElem?_eq_getElem (show c < rb.length by omega)]
    rw [List.getElem?_eq_getElem (show c < ra.length by omega), List.getElem?_eq_getElem (show c < rb.length by omega), List.getElem?_eq_getElem (by simpa using hc)]
    simp [h1, h2, pvV]
  · rw [List.getElem?_eq_none (by omega), List.getElem?_eq_none (show rb.length ≤ c by omega), List.getElem?_eq_none (by simp; omega)]
    rfl
end DL

set_option autoImplicit true
set_option Elab.async false
set_option autoImplicit false
set_option linter.all false
set_option maxRecDepth 100000
set_option maxHeartbeats 4000000
/-! Own layer, plain: what laws look at: signs, pairs, least machines. -/
namespace DL
open PySem
local macro_rules
  | `(tactic| simp! only [$ls,*]) => `(tactic| try simp only [pSs, pS, pE, pEs, pO, pI, pIs, pC, pIf, pAsg, pAsgs, pSetI, pRet, pX, pMove, pUn, pBin, pLt_i, pLe_i, pGt_i, pGe_i, pLt_t, pEq_i, pNe_i, pEq_s, pNe_s, pEq_b, pNe_b, pIn_m, pNin_m, pSub_l, pSub_tup, pSub_lst, pSub_m, pSub_str, pSlice, pBt_len_l, pBt_tuple_l, pBt_list_l, pBt_len_m, pBt_len_tup, pBt_len_lst, pBt_len_str, pBt_list_tup, pBt_tuple_tup, pBt_int_int, pBt_int_bl, pBt_max2, pBt_min2, pBt_str_int, pIsi, pRecv, pMt, wBin, wSub, wSlice, wBt, wRng, startP_cons, startP_nil, List.replicate, getP_0, getP_s, withO_s, withB_b, withD_d, withPB_d, withPI_d, bor_d, bor_l, bor_m, isP_d, isP_l, isP_m, okA_d, okA_l, okA_m, lof_l, lof_m, lof_int, lof_bl, lof_str, lof_non, lof_tup, lof_lst, dof_l, dof_m, dof_int, dof_bl, dof_str, dof_non, dof_tup, dof_lst, dvl_int, dvl_bl, dvl_str, dvl_non, dvl_tup, dvl_lst, ds_nil, ds_cons, omap_some, pSee_d, iterP_l, iterP_tup, enP_l, enP_tup, pLend, see_int, see_bl, see_str, see_non, dep_int, dep_bl, dep_str, dep_non, Nat.zero_min, Nat.min_zero, Nat.zero_le, bindP_one, bindP_two, bindP_three, List.set_cons_zero, List.set_cons_succ, wipeP, Nat.zero_add, atI_0, atI_1, atI_2, atI_3, isV, frz, frz1, Bool.or_false, Bool.or_true, Bool.true_or, Bool.false_or, true_imp_iff, false_imp_iff, Bool.not_false, Bool.not_true, reduceCtorEq, and_true, true_and, List.length_cons, List.length_nil, List.map_cons, List.map_nil, List.length_map, tt_and, ff_and, $ls,*])
  | `(tactic| simp! only [$ls,*] $loc:location) => `(tactic| try simp only [pSs, pS, pE, pEs, pO, pI, pIs, pC, pIf, pAsg, pAsgs, pSetI, pRet, pX, pMove, pUn, pBin, pLt_i, pLe_i, pGt_i, pGe_i, pLt_t, pEq_i, pNe_i, pEq_s, pNe_s, pEq_b, pNe_b, pIn_m, pNin_m, pSub_l, pSub_tup, pSub_lst, pSub_m, pSub_str, pSlice, pBt_len_l, pBt_tuple_l, pBt_list_l, pBt_len_m, pBt_len_tup, pBt_len_lst, pBt_len_str, pBt_list_tup, pBt_tuple_tup, pBt_int_int, pBt_int_bl, pBt_max2, pBt_min2, pBt_str_int, pIsi, pRecv, pMt, wBin, wSub, wSlice, wBt, wRng, startP_cons, startP_nil, List.replicate, getP_0, getP_s, withO_s, withB_b, withD_d, withPB_d, withPI_d, bor_d, bor_l, bor_m, isP_d, isP_l, isP_m, okA_d, okA_l, okA_m, lof_l, lof_m, lof_int, lof_bl, lof_str, lof_non, lof_tup, lof_lst, dof_l, dof_m, dof_int, dof_bl, dof_str, dof_non, dof_tup, dof_lst, dvl_int, dvl_bl, dvl_str, dvl_non, dvl_tup, dvl_lst, ds_nil, ds_cons, omap_some, pSee_d, iterP_l, iterP_tup, enP_l, enP_tup, pLend, see_int, see_bl, see_str, see_non, dep_int, dep_bl, dep_str, dep_non, Nat.zero_min, Nat.min_zero, Nat.zero_le, bindP_one, bindP_two, bindP_three, List.set_cons_zero, List.set_cons_succ, wipeP, Nat.zero_add, atI_0, atI_1, atI_2, atI_3, isV, frz, frz1, Bool.or_false, Bool.or_true, Bool.true_or, Bool.false_or, true_imp_iff, false_imp_iff, Bool.not_false, Bool.not_true, reduceCtorEq, and_true, true_and, List.length_cons, List.length_nil, List.map_cons, List.map_nil, List.length_map, tt_and, ff_and, $ls,*] $loc:location)

def n__law_sign : List Str := ["_law_base", "_law_row_here", "_law_place", "_law_state"]
def b__law_sign : Sms :=
  (.cons (.asg 3 (.int 0))
  (.cons (.while (.cmp .gt (.var 2) (.int 0))
    (.cons (.asg 3 (.sub (.sub (.sub (.var 1) (.int 0)) (.var 3)) (.bin .mod (.var 2) (.var 0))))
      (.cons (.asg 2 (.bin .fdiv (.var 2) (.var 0)))
      .nil)))
  (.cons (.ret (.sub (.sub (.var 1) (.int 1)) (.var 3)))
  .nil)))

def n__law_are_apart : List Str := ["_law_steps", "_law_marks", "_law_one", "_law_other", "_law_row_here", "_law_at", "_law_here", "_law_there"]
def b__law_are_apart : Sms :=
  (.cons (.asg 4 (.lst (.cons (.tup (.cons (.var 2) (.cons (.var 3) .nil))) .nil)))
  (.cons (.asg 5 (.int 0))
  (.cons (.while (.cmp .lt (.var 5) (.blt .len (.cons (.var 4) .nil)))
    (.cons (.ite (.cmp .ne (.sub (.var 1) (.sub (.sub (.var 4) (.var 5)) (.int 0))) (.sub (.var 1) (.sub (.sub (.var 4) (.var 5)) (.int 1))))
        (.cons (.ret (.bl true))
          .nil)
        .nil)
      (.cons (.for (.many [6, 7]) (.zip (.sub (.var 0) (.sub (.sub (.var 4) (.var 5)) (.int 0))) (.sub (.var 0) (.sub (.sub (.var 4) (.var 5)) (.int 1))))
        (.cons (.ite (.cmp .notin (.tup (.cons (.var 6) (.cons (.var 7) .nil))) (.var 4))
            (.cons (.expr (.meth (.var 4) .append (.cons (.tup (.cons (.var 6) (.cons (.var 7) .nil))) .nil)))
              .nil)
            .nil)
          .nil))
      (.cons (.asg 5 (.bin .add (.var 5) (.int 1)))
      .nil))))
  (.cons (.ret (.bl false))
  .nil))))

def n__law_is_least : List Str := ["_law_steps", "_law_marks", "_law_row_here", "_law_k", "_law_to", "_law_one", "_law_other"]
def b__law_is_least : Sms :=
  (.cons (.asg 2 (.lst (.cons (.int 0) .nil)))
  (.cons (.for (.one 3) (.rng (.cons (.blt .len (.cons (.var 0) .nil)) .nil))
    (.cons (.ite (.cmp .ge (.var 3) (.blt .len (.cons (.var 2) .nil)))
        (.cons (.ret (.bl false))
          .nil)
        .nil)
      (.cons (.for (.one 4) (.val (.sub (.var 0) (.sub (.var 2) (.var 3))))
        (.cons (.ite (.cmp .notin (.var 4) (.var 2))
            (.cons (.expr (.meth (.var 2) .append (.cons (.var 4) .nil)))
              .nil)
            .nil)
          .nil))
      .nil)))
  (.cons (.ite (.cmp .ne (.var 2) (.lrng (.cons (.blt .len (.cons (.var 0) .nil)) .nil)))
    (.cons (.ret (.bl false))
      .nil)
    .nil)
  (.cons (.for (.one 5) (.rng (.cons (.blt .len (.cons (.var 0) .nil)) .nil))
    (.cons (.for (.one 6) (.rng (.cons (.var 5) .nil))
        (.cons (.ite (.not (.call 109 (.cons (.var 0) (.cons (.var 1) (.cons (.var 5) (.cons (.var 6) .nil))))))
            (.cons (.ret (.bl false))
              .nil)
            .nil)
          .nil))
      .nil))
  (.cons (.ret (.bl true))
  .nil)))))

/-- the sign where the figures lead -/
def sgn (st : List (List Nat)) (ms : List Nat) (b n : Nat) : Nat := (ms[runL st 0 (digs b n)]?).getD 0
def ps_law_sign : PSpec := fun vs S Q _ => match vs with
  | [.d (.int b), .d (.tup [.tup sv, .tup mv]), .d (.int n)] => ∃ (bb nn : Nat) (st : List (List Nat)) (ms : List Nat), b = bb ∧ n = nn ∧ sv = st.map stV ∧ mv = ms.map natV ∧ 2 ≤ bb ∧ bb < 1000 ∧ StOk st bb ∧ 0 < st.length ∧ ms.length = st.length ∧ Q (.d (natV (sgn st ms bb nn)))
  | _ => False
theorem w_plaw_sign {g : PCfg} : Wp g ps_law_sign n__law_sign b__law_sign := by
  intro args S Q E h
  unfold ps_law_sign at h
  split at h <;> first | contradiction | skip
  obtain ⟨b, n, st, ms, rfl, rfl, rfl, rfl, hb, hb2, ok, hp, hml, h2⟩ := h
  unfold b__law_sign
  refine pstep fun K hK => ?_
  simp! only [n__law_sign]
  refine hK _ (pstep fun K2 hK2 => ?_)
  refine pwhile_step (fun m e => ∃ (s p : Nat), s < st.length ∧ runL st s (digs b p) = runL st 0 (digs b n) ∧ m = p ∧ e = [some (.d (.int b)), some (.d (.tup [.tup (st.map stV), .tup (ms.map natV)])), some (.d (.int p)), some (.d (.int s))]) ⟨n, 0, n, hp, rfl, rfl, rfl⟩ ?_
  rintro B hB m e ⟨s, p, hs, hr, rfl, rfl⟩
  simp! only []
  refine ⟨fun q => hB _ _ (pstep fun K3 hK3 => ?_), fun q => hK2 _ ?_⟩
  · have hp0 : 0 < m := by simp at q; omega
    obtain ⟨r, e1, e2, e3⟩ := step_get (c := m % b) ok hs (Nat.mod_lt _ (by omega))
    have e4 : (st.map stV)[s]? = some (stV r) := by rw [List.getElem?_map, e1]; rfl
    have e5 : (r.map natV)[m % b]? = some (natV (stepL st s (m % b))) := by rw [List.getElem?_map, e3]; rfl
    simp! only [atI_nat, e4, stV]
    refine ⟨by omega, ?_⟩
    rw [← Int.natCast_emod]
    simp! only [atI_nat, e5]
    refine hK3 _ ?_
    simp! only []
    refine ⟨by omega, by omega, m / b, Nat.div_lt_self hp0 (by omega), stepL st s (m % b), m / b, step_lt ok hp _ _, ?_, rfl, by simp [natV]⟩
    rw [← hr, digs_pos hb hp0]
    rfl
  · have hp0 : m = 0 := by simp at q; omega
    subst hp0
    have e1 : ms[s]? = some (ms[s]'(by omega)) := List.getElem?_eq_getElem (by omega)
    have e2 : (ms.map natV)[s]? = some (natV (ms[s]'(by omega))) := by rw [List.getElem?_map, e1]; rfl
    simp! only [atI_nat, e2]
    rw [digs_zero] at hr
    have hr : s = runL st 0 (digs b n) := hr
    have : sgn st ms b n = ms[s]'(by omega) := by
      unfold sgn
      rw [← hr, e1]
      rfl
    rw [this] at h2
    exact h2
def ps_are_apart : PSpec := fun vs S Q _ => match vs with
  | [sv, mv, .d (.int i), .d (.int j)] => ∃ (β : Type) (mk : β → Val) (c : Nat) (st : List (List Nat)) (ms : List β) (wide : Nat) (a b : Nat), i = a ∧ j = b ∧ Mks mk c ∧ seqP S sv = some (st.map stV) ∧ seqP S mv = some (ms.map mk) ∧ StOk st wide ∧ ms.length = st.length ∧ st.length ≤ 1000 ∧ a < st.length ∧ b < st.length ∧
      ∀ r : Bool, (r = false ↔ SameB st ms a b) → Q (.d (.bl r))
  | _ => False
theorem pNe_mk {β : Type} {mk : β → Val} {c : Nat} (M : Mks mk c) {a b : β} {S : Sto} {Q : PK} : pCmp .ne (.d (mk a)) (.d (mk b)) S Q = Q (.d (.bl (!(mk a).veq (mk b)))) := by
  simp only [pCmp, pSee_d, see_dat (M.dat _), withO_s, M.dep, Nat.min_self, Nat.zero_le, true_and]
theorem w_are_apart {g : PCfg} : Wp g ps_are_apart n__law_are_apart b__law_are_apart := by
  intro args S Q E h
  unfold ps_are_apart at h
  split at h <;> first | contradiction | skip
  rename_i sv mv i j
  obtain ⟨β, mk, c, st, ms, wide, a, b, rfl, rfl, M, hsv, hmv, ok, hml, hsz, ha, hb, h2⟩ := h
  have hsb : seqP S sv.bor = some (st.map stV) := by rw [seqP_bor, hsv]
  have hmb : seqP S mv.bor = some (ms.map mk) := by rw [seqP_bor, hmv]
  have hp : 0 < st.length := by omega
  unfold b__law_are_apart
  refine pstep fun K hK => ?_
  simp! only [n__law_are_apart]
  refine hK _ (pstep fun K2 hK2 => ?_)
  simp! only []
  refine hK2 _ (pstep fun K3 hK3 => ?_)
  refine pwhile_step (fun m e => ∃ (L : List (Nat × Nat)) (i : Nat) (v6 v7 : Option PV), Prs st st ms ms wide (a, b) L i ∧ m = st.length * st.length - i ∧ e = [some sv, some mv, some (.d (.int a)), some (.d (.int b)), some (.l true (L.map pvV)), some (.d (.int i)), v6, v7])
    ⟨_, [(a, b)], 0, none, none, Prs.start ha hb, rfl, rfl⟩ ?_
  rintro B hB m e ⟨L, i, v6, v7, pr, rfl, rfl⟩
  have hbd := pr.bound
  simp! only []
  refine ⟨fun q => hB _ _ (pstep fun K4 hK4 => pite_step fun A B2 hA hB2 => ?_), fun q => hK3 _ ?_⟩
  · have hi : i < L.length := by simpa using q
    have ei : L[i]? = some L[i] := List.getElem?_eq_getElem hi
    generalize hpi : L[i] = p at ei
    have hpm : p ∈ L := List.mem_of_getElem? ei
    obtain ⟨p1, p2⟩ := pr.inr p hpm
    have ev : (L.map pvV)[i]? = some (pvV p) := by rw [List.getElem?_map, ei]; rfl
    have m1 : ms[p.1]? = some (ms[p.1]'(by omega)) := List.getElem?_eq_getElem (by omega)
    have m2 : ms[p.2]? = some (ms[p.2]'(by omega)) := List.getElem?_eq_getElem (by omega)
    have v1 : (ms.map mk)[p.1]? = some (mk (ms[p.1]'(by omega))) := by rw [List.getElem?_map, m1]; rfl
    have v2 : (ms.map mk)[p.2]? = some (mk (ms[p.2]'(by omega))) := by rw [List.getElem?_map, m2]; rfl
    simp! only [atI_nat, ev, pvV, natV, pSub_seq hmb, v1, v2, pNe_mk M]
    refine ⟨fun q2 => hA _ ?_, fun q2 => hB2 _ ?_⟩
    · simp! only []
      refine h2 true ⟨fun z => (by cases z), fun z => ?_⟩
      obtain ⟨w, w1, w2⟩ := pr.reach p hpm
      have := z w
      rw [w1, w2, m1, m2] at this
      have hv := (M.veq (ms[p.1]'(by omega)) (ms[p.2]'(by omega))).mpr (Option.some.inj this)
      rw [hv] at q2
      cases q2
    · have hmeq : ms[p.1]? = ms[p.2]? := by
        rw [m1, m2]
        congr 1
        refine (M.veq _ _).mp ?_
        simpa using q2
      simp! only []
      refine hK4 _ (pstep fun K5 hK5 => pfor_step fun B3 hB3 => ?_)
      have s1 : st[p.1]? = some st[p.1] := List.getElem?_eq_getElem p1
      have s2 : st[p.2]? = some st[p.2] := List.getElem?_eq_getElem p2
      simp! only [atI_nat, ev, pvV, natV, pSub_seq hsb, st_get p1, st_get p2, stV, zipP]
      rw [zip_steps ok ok s1 s2]
      refine pfor_invT (fun c => pvV (stepL st p.1 c, stepL st p.2 c)) (fun rest e => ∃ (L2 : List (Nat × Nat)) (k : Nat) (v6 v7 : Option PV), Prs st st ms ms wide (a, b) L2 i ∧ rest = List.range' k (wide - k) ∧ (∀ c, c < k → (stepL st p.1 c, stepL st p.2 c) ∈ L2) ∧ L2[i]? = some p ∧ k ≤ wide ∧
          e = [some sv, some mv, some (.d (.int a)), some (.d (.int b)), some (.l true (L2.map pvV)), some (.d (.int i)), v6, v7]) ?_ ?_ _ _ ⟨L, 0, v6, v7, pr, by rw [List.range_eq_range']; rfl, fun c h => by omega, ei, by omega, rfl⟩
      · rintro x rest e ⟨L2, k, w6, w7, pr2, hr, hin, hLi, hkw, rfl⟩
        have hk : k < wide := by
          by_cases z : k < wide
          · exact z
          · rw [show wide - k = 0 by omega] at hr
            cases hr
        rw [show wide - k = (wide - (k + 1)) + 1 by omega, List.range'_succ] at hr
        injection hr with hx hr
        subst hx
        have hbd2 := pr2.bound
        simp! only [pvV, natV]
        intro kk hkk
        refine hB3 _ _ (pstep fun K6 hK6 => pite_step fun A4 B4 hA4 hB4 => ?_)
        simp! only [pNin_pv]
        have hnext : ∀ c, c < x + 1 → c < x ∨ c = x := fun c h => by omega
        refine ⟨fun q3 => hA4 _ ?_, fun q3 => hB4 _ ?_⟩
        · have hnot : (stepL st p.1 x, stepL st p.2 x) ∉ L2 := by simpa using q3
          simp! only []
          refine ⟨?_, hK6 _ ?_⟩
          · have : st.length * st.length ≤ 1000 * 1000 := Nat.mul_le_mul hsz hsz
            unfold line
            omega
          · simp! only []
            refine hkk _ ⟨L2 ++ [(stepL st p.1 x, stepL st p.2 x)], x + 1, _, _, pr2.add (List.mem_of_getElem? hLi) ok ok hp hp hnot, hr, fun c hc => ?_, ?_, hk, by simp [pvV, natV]; exact ⟨rfl, rfl⟩⟩
            · rcases hnext c hc with z | z
              · exact List.mem_append.mpr (.inl (hin c z))
              · rw [z]; simp
            · rw [List.getElem?_append_left (List.getElem?_eq_some_iff.mp hLi).1]
              exact hLi
        · have hmem : (stepL st p.1 x, stepL st p.2 x) ∈ L2 := by simpa using q3
          simp! only []
          refine hK6 _ ?_
          simp! only []
          refine hkk _ ⟨L2, x + 1, _, _, pr2, hr, fun c hc => ?_, hLi, hk, rfl⟩
          rcases hnext c hc with z | z
          · exact hin c z
          · rw [z]; exact hmem
      · rintro e ⟨L2, k, w6, w7, pr2, hr, hin, hLi, hkw, rfl⟩
        have hk : k = wide := by
          have := congrArg List.length hr
          simp at this
          omega
        subst hk
        have hlt : i < L2.length := (List.getElem?_eq_some_iff.mp hLi).1
        have hbd2 := pr2.bound
        refine hK5 _ ?_
        simp! only []
        exact ⟨_, by omega, L2, i + 1, w6, w7, pr2.next hLi hmeq hin, rfl, by simp⟩
  · have hi : i = L.length := by
      have := pr.le
      simp at q
      omega
    subst hi
    simp! only []
    exact h2 false ⟨fun _ w => pr.same ok ok (.inr fun _ => rfl) w, fun _ => rfl⟩
end DL

set_option autoImplicit true
set_option Elab.async false
set_option autoImplicit false
set_option linter.all false
set_option maxRecDepth 100000
set_option maxHeartbeats 4000000
/-! Own layer, plain: a law's look at a least machine; two machines side by side. -/
namespace DL
open PySem
local macro_rules
  | `(tactic| simp! only [$ls,*]) => `(tactic| try simp only [pSs, pS, pE, pEs, pO, pI, pIs, pC, pIf, pAsg, pAsgs, pSetI, pRet, pX, pMove, pUn, pBin, pLt_i, pLe_i, pGt_i, pGe_i, pLt_t, pEq_i, pNe_i, pEq_s, pNe_s, pEq_b, pNe_b, pIn_m, pNin_m, pSub_l, pSub_tup, pSub_lst, pSub_m, pSub_str, pSlice, pBt_len_l, pBt_tuple_l, pBt_list_l, pBt_len_m, pBt_len_tup, pBt_len_lst, pBt_len_str, pBt_list_tup, pBt_tuple_tup, pBt_int_int, pBt_int_bl, pBt_max2, pBt_min2, pBt_str_int, pIsi, pRecv, pMt, wBin, wSub, wSlice, wBt, wRng, startP_cons, startP_nil, List.replicate, getP_0, getP_s, withO_s, withB_b, withD_d, withPB_d, withPI_d, bor_d, bor_l, bor_m, isP_d, isP_l, isP_m, okA_d, okA_l, okA_m, lof_l, lof_m, lof_int, lof_bl, lof_str, lof_non, lof_tup, lof_lst, dof_l, dof_m, dof_int, dof_bl, dof_str, dof_non, dof_tup, dof_lst, dvl_int, dvl_bl, dvl_str, dvl_non, dvl_tup, dvl_lst, ds_nil, ds_cons, omap_some, pSee_d, iterP_l, iterP_tup, enP_l, enP_tup, pLend, see_int, see_bl, see_str, see_non, dep_int, dep_bl, dep_str, dep_non, Nat.zero_min, Nat.min_zero, Nat.zero_le, bindP_one, bindP_two, bindP_three, List.set_cons_zero, List.set_cons_succ, wipeP, Nat.zero_add, atI_0, atI_1, atI_2, atI_3, isV, frz, frz1, Bool.or_false, Bool.or_true, Bool.true_or, Bool.false_or, true_imp_iff, false_imp_iff, Bool.not_false, Bool.not_true, reduceCtorEq, and_true, true_and, List.length_cons, List.length_nil, List.map_cons, List.map_nil, List.length_map, tt_and, ff_and, $ls,*])
  | `(tactic| simp! only [$ls,*] $loc:location) => `(tactic| try simp only [pSs, pS, pE, pEs, pO, pI, pIs, pC, pIf, pAsg, pAsgs, pSetI, pRet, pX, pMove, pUn, pBin, pLt_i, pLe_i, pGt_i, pGe_i, pLt_t, pEq_i, pNe_i, pEq_s, pNe_s, pEq_b, pNe_b, pIn_m, pNin_m, pSub_l, pSub_tup, pSub_lst, pSub_m, pSub_str, pSlice, pBt_len_l, pBt_tuple_l, pBt_list_l, pBt_len_m, pBt_len_tup, pBt_len_lst, pBt_len_str, pBt_list_tup, pBt_tuple_tup, pBt_int_int, pBt_int_bl, pBt_max2, pBt_min2, pBt_str_int, pIsi, pRecv, pMt, wBin, wSub, wSlice, wBt, wRng, startP_cons, startP_nil, List.replicate, getP_0, getP_s, withO_s, withB_b, withD_d, withPB_d, withPI_d, bor_d, bor_l, bor_m, isP_d, isP_l, isP_m, okA_d, okA_l, okA_m, lof_l, lof_m, lof_int, lof_bl, lof_str, lof_non, lof_tup, lof_lst, dof_l, dof_m, dof_int, dof_bl, dof_str, dof_non, dof_tup, dof_lst, dvl_int, dvl_bl, dvl_str, dvl_non, dvl_tup, dvl_lst, ds_nil, ds_cons, omap_some, pSee_d, iterP_l, iterP_tup, enP_l, enP_tup, pLend, see_int, see_bl, see_str, see_non, dep_int, dep_bl, dep_str, dep_non, Nat.zero_min, Nat.min_zero, Nat.zero_le, bindP_one, bindP_two, bindP_three, List.set_cons_zero, List.set_cons_succ, wipeP, Nat.zero_add, atI_0, atI_1, atI_2, atI_3, isV, frz, frz1, Bool.or_false, Bool.or_true, Bool.true_or, Bool.false_or, true_imp_iff, false_imp_iff, Bool.not_false, Bool.not_true, reduceCtorEq, and_true, true_and, List.length_cons, List.length_nil, List.map_cons, List.map_nil, List.length_map, tt_and, ff_and, $ls,*] $loc:location)

def n__law_alike : List Str := ["_law_one", "_law_other", "_law_row_here", "_law_at", "_law_here", "_law_there", "_law_first", "_law_second"]
def b__law_alike : Sms :=
  (.cons (.asg 2 (.lst (.cons (.tup (.cons (.int 0) (.cons (.int 0) .nil))) .nil)))
  (.cons (.asg 3 (.int 0))
  (.cons (.while (.cmp .lt (.var 3) (.blt .len (.cons (.var 2) .nil)))
    (.cons (.asgs [4, 5] (.sub (.var 2) (.var 3)))
      (.cons (.ite (.cmp .ne (.sub (.sub (.var 0) (.int 1)) (.var 4)) (.sub (.sub (.var 1) (.int 1)) (.var 5)))
        (.cons (.ret (.bl false))
          .nil)
        .nil)
      (.cons (.for (.many [6, 7]) (.zip (.sub (.sub (.var 0) (.int 0)) (.var 4)) (.sub (.sub (.var 1) (.int 0)) (.var 5)))
        (.cons (.ite (.cmp .notin (.tup (.cons (.var 6) (.cons (.var 7) .nil))) (.var 2))
            (.cons (.expr (.meth (.var 2) .append (.cons (.tup (.cons (.var 6) (.cons (.var 7) .nil))) .nil)))
              .nil)
            .nil)
          .nil))
      (.cons (.asg 3 (.bin .add (.var 3) (.int 1)))
      .nil)))))
  (.cons (.ret (.bl true))
  .nil))))

theorem metN_ext : ∀ (ks seen : List Nat), ∃ r, metN seen ks = seen ++ r
  | [], seen => ⟨[], by simp [metN]⟩
  | k :: ks, seen => by
    unfold metN
    by_cases h : k ∈ seen
    · rw [if_pos h]; exact metN_ext ks seen
    · rw [if_neg h]
      obtain ⟨r, e⟩ := metN_ext ks (seen ++ [k])
      exact ⟨k :: r, by rw [e]; simp⟩
theorem range_prefix {n : Nat} {a b : List Nat} (h : List.range n = a ++ b) : a = List.range a.length := by
  have hl := congrArg List.length h
  simp at hl
  have e : a = (List.range n).take a.length := by rw [h, List.take_left]
  rw [List.take_range] at e
  rw [show min a.length n = a.length by omega] at e
  exact e
theorem least_prefix {st : List (List Nat)} (ord : metN [0] st.flatten = List.range st.length) (i : Nat) : metN [0] ((st.take i).flatten) = List.range (metN [0] ((st.take i).flatten)).length := by
  have e : st.flatten = (st.take i).flatten ++ (st.drop i).flatten := by rw [← List.flatten_append, List.take_append_drop]
  rw [e, metN_app] at ord
  obtain ⟨r, er⟩ := metN_ext ((st.drop i).flatten) (metN [0] ((st.take i).flatten))
  rw [er] at ord
  exact range_prefix ord.symm
theorem lst_refl {xs : List Val} (h : Val.dats xs = true) : (Val.lst xs).veq (.lst xs) = true := by
  have := veq_refl (v := .tup xs) h
  simpa [Val.veq, Val.py, PyData.eqv] using this
theorem deps_nat (ns : List Nat) : Val.deps (ns.map natV) ≤ 90 := by
  have := deps_map natV 0 (fun x => by simp [natV, Val.dep]) ns
  omega
def ps_is_least : PSpec := fun vs S Q _ => match vs with
  | [sv, mv] => ∃ (β : Type) (mk : β → Val) (c : Nat) (st : List (List Nat)) (ms : List β) (wide : Nat), Mks mk c ∧ seqP S sv = some (st.map stV) ∧ seqP S mv = some (ms.map mk) ∧ StOk st wide ∧ ms.length = st.length ∧ 0 < st.length ∧ st.length ≤ 1000 ∧
      (∀ i j, i < st.length → j < st.length → SameB st ms i j → i = j) ∧ metN [0] st.flatten = List.range st.length ∧ (∀ i, i < st.length → i < (metN [0] (st.take i).flatten).length) ∧ Q (.d (.bl true))
  | _ => False
structure PLeastG (g : PCfg) : Prop where
  f109 : g.fn 109 = some ps_are_apart
theorem w_is_least {g : PCfg} (G : PLeastG g) : Wp g ps_is_least n__law_is_least b__law_is_least := by
  intro args S Q E h
  unfold ps_is_least at h
  split at h <;> first | contradiction | skip
  rename_i sv mv
  obtain ⟨β, mk, c, st, ms, wide, M, hsv, hmv, ok, hml, hp, hsz, hdist, hord, hah, h2⟩ := h
  have hsb : seqP S sv.bor = some (st.map stV) := by rw [seqP_bor, hsv]
  have hmb : seqP S mv.bor = some (ms.map mk) := by rw [seqP_bor, hmv]
  unfold b__law_is_least
  refine pstep fun K hK => ?_
  simp! only [n__law_is_least]
  refine hK _ (pstep fun K2 hK2 => pfor_step fun B hB => ?_)
  simp! only [pLen_seq hsb]
  refine ⟨by omega, by omega, ?_⟩
  rw [Int.toNat_natCast, range_natV, List.range_eq_range']
  refine pfor_invT natV (fun rest e => ∃ (k : Nat) (v3 v4 : Option PV), rest = List.range' k (st.length - k) ∧ k ≤ st.length ∧ e = [some sv, some mv, some (.l true ((metN [0] ((st.take k).flatten)).map natV)), v3, v4, none, none]) ?_ ?_ _ _
    ⟨0, none, none, rfl, by omega, by simp [metN, natV]⟩
  · rintro x rest e ⟨k, v3, v4, hr, hk, rfl⟩
    have hk' : k < st.length := by
      by_cases z : k < st.length
      · exact z
      · rw [show st.length - k = 0 by omega] at hr; cases hr
    rw [show st.length - k = (st.length - (k + 1)) + 1 by omega, List.range'_succ] at hr
    injection hr with hx hr
    subst hx
    have hpre := least_prefix hord x
    have hax := hah x hk'
    have hm : (metN [0] ((st.take x).flatten)).length ≤ st.length := by
      have e : st.flatten = (st.take x).flatten ++ (st.drop x).flatten := by rw [← List.flatten_append, List.take_append_drop]
      have := hord
      rw [e, metN_app] at this
      obtain ⟨r, er⟩ := metN_ext ((st.drop x).flatten) (metN [0] ((st.take x).flatten))
      rw [er] at this
      have := congrArg List.length this
      simp at this
      omega
    simp! only [natV]
    intro kk hkk
    refine hB _ _ (pstep fun K3 hK3 => pite_step fun A B2 hA hB2 => ?_)
    simp! only []
    refine ⟨fun q => ?_, fun q => hB2 _ ?_⟩
    · simp at q
      omega
    · simp! only []
      refine hK3 _ (pstep fun K4 hK4 => pfor_step fun B3 hB3 => ?_)
      have es : ((metN [0] ((st.take x).flatten)).map natV)[x]? = some (natV x) := by
        rw [hpre, List.getElem?_map, List.getElem?_range (by simpa using hax)]
        rfl
      have est : st[x]? = some st[x] := List.getElem?_eq_getElem hk'
      simp! only [natV, atI_nat, es, pSub_seq hsb, st_get hk', stV]
      refine pfor_invT natV (fun rest e => ∃ (done : List Nat) (v4 : Option PV), done ++ rest = st[x] ∧ e = [some sv, some mv, some (.l true ((metN (metN [0] ((st.take x).flatten)) done).map natV)), some (.d (.int x)), v4, none, none]) ?_ ?_ _ _
        ⟨[], v4, rfl, rfl⟩
      · rintro t rest2 e ⟨done, w4, hd, rfl⟩
        simp! only [natV]
        intro kk2 hkk2
        refine hB3 _ _ (pstep fun K5 hK5 => pite_step fun A4 B4 hA4 hB4 => ?_)
        simp! only [pNin_nat]
        have hlen : (metN (metN [0] ((st.take x).flatten)) done).length < line := by
          have e : st.flatten = (st.take x).flatten ++ (done ++ (t :: rest2 ++ (st.drop (x + 1)).flatten)) := by
            have e1 : st.flatten = (st.take x).flatten ++ (st.drop x).flatten := by rw [← List.flatten_append, List.take_append_drop]
            rw [e1, List.drop_eq_getElem_cons hk', List.flatten_cons, ← hd]
            simp
          have := hord
          rw [e, metN_app, metN_app] at this
          obtain ⟨r, er⟩ := metN_ext (t :: rest2 ++ (st.drop (x + 1)).flatten) (metN (metN [0] ((st.take x).flatten)) done)
          rw [er] at this
          have := congrArg List.length this
          simp at this
          unfold line
          omega
        refine ⟨fun q2 => hA4 _ ?_, fun q2 => hB4 _ ?_⟩
        · have hn : t ∉ metN (metN [0] ((st.take x).flatten)) done := by simpa using q2
          simp! only []
          refine ⟨hlen, hK5 _ ?_⟩
          simp! only []
          refine hkk2 _ ⟨done ++ [t], some (.d (natV t)), by simpa using hd, ?_⟩
          rw [metN_app]
          simp [metN, hn, natV]
        · have hn : t ∈ metN (metN [0] ((st.take x).flatten)) done := by simpa using q2
          simp! only []
          refine hK5 _ ?_
          simp! only []
          refine hkk2 _ ⟨done ++ [t], some (.d (natV t)), by simpa using hd, ?_⟩
          rw [metN_app]
          simp [metN, hn, natV]
      · rintro e ⟨done, w4, hd, rfl⟩
        rw [List.append_nil] at hd
        refine hK4 _ ?_
        simp! only []
        refine hkk _ ⟨x + 1, some (.d (natV x)), w4, hr, by omega, ?_⟩
        have e1 : st.take (x + 1) = st.take x ++ [st[x]] := by rw [List.take_succ, est]; rfl
        rw [e1, List.flatten_append, metN_app, hd]
        simp [natV]
  · rintro e ⟨k, v3, v4, hr, hk, rfl⟩
    have hk' : k = st.length := by
      have := congrArg List.length hr
      simp at this
      omega
    subst hk'
    rw [List.take_length, hord]
    refine hK2 _ (pstep fun K3 hK3 => pite_step fun A B2 hA hB2 => ?_)
    have hdat : Val.dats ((List.range st.length).map natV) = true := dats_map natV (fun _ => rfl) _
    simp! only [pLen_seq hsb]
    refine ⟨by omega, by omega, ?_⟩
    rw [Int.toNat_natCast, range_natV, pNe_l hdat hdat (deps_nat _), lst_refl hdat]
    simp! only []
    refine hB2 _ ?_
    simp! only []
    refine hK3 _ (pstep fun K4 hK4 => pfor_step fun B hB => ?_)
    simp! only [pLen_seq hsb]
    refine ⟨by omega, by omega, ?_⟩
    rw [Int.toNat_natCast, range_natV]
    refine pfor_invT natV (fun rest e => ∃ (v5 v6 : Option PV), (∀ x ∈ rest, x < st.length) ∧ e = [some sv, some mv, some (.l true ((List.range st.length).map natV)), v3, v4, v5, v6]) ?_ ?_ _ _
      ⟨none, none, fun x hx => List.mem_range.mp hx, rfl⟩
    · rintro x rest e ⟨v5, v6, hin, rfl⟩
      have hx := hin x (by simp)
      simp! only [natV]
      intro kk hkk
      refine hB _ _ (pstep fun K5 hK5 => pfor_step fun B2 hB2 => ?_)
      simp! only []
      refine ⟨by omega, by omega, ?_⟩
      rw [Int.toNat_natCast, range_natV]
      refine pfor_invT natV (fun rest2 e => ∃ (v6 : Option PV), (∀ y ∈ rest2, y < x) ∧ e = [some sv, some mv, some (.l true ((List.range st.length).map natV)), v3, v4, some (.d (.int x)), v6]) ?_ ?_ _ _
        ⟨v6, fun y hy => List.mem_range.mp hy, rfl⟩
      · rintro y rest2 e ⟨w6, hin2, rfl⟩
        have hy := hin2 y (by simp)
        simp! only [natV]
        intro kk2 hkk2
        refine hB2 _ _ (pstep fun K6 hK6 => pite_step fun A3 B3 hA3 hB3 => ?_)
        simp! only [G.f109, ps_are_apart, bor_bor]
        refine ⟨β, mk, c, st, ms, wide, x, y, rfl, rfl, M, hsb, hmb, ok, hml, hsz, hx, by omega, fun r hr => ?_⟩
        have : r = true := by
          cases r with
          | true => rfl
          | false => have := hdist x y hx (by omega) (hr.mp rfl); omega
        subst this
        simp! only []
        refine hB3 _ ?_
        simp! only []
        refine hK6 _ ?_
        simp! only []
        exact hkk2 _ ⟨_, fun z hz => hin2 z (by simp [hz]), rfl⟩
      · rintro e ⟨w6, hin2, rfl⟩
        refine hK5 _ ?_
        simp! only []
        exact hkk _ ⟨_, w6, fun z hz => hin z (by simp [hz]), rfl⟩
    · rintro e ⟨v5, v6, hin, rfl⟩
      refine hK4 _ ?_
      simp! only []
      exact h2
/-- two rows walked side by side -/
def ps_alike : PSpec := fun vs S Q _ => match vs with
  | [.d (.tup [.tup sa, .tup ma]), .d (.tup [.tup sb, .tup mb])] => ∃ (stA stB : List (List Nat)) (msA msB : List Nat) (wide : Nat), sa = stA.map stV ∧ sb = stB.map stV ∧ ma = msA.map natV ∧ mb = msB.map natV ∧ StOk stA wide ∧ StOk stB wide ∧ msA.length = stA.length ∧ msB.length = stB.length ∧ 0 < stA.length ∧ 0 < stB.length ∧ stA.length ≤ 1000 ∧ stB.length ≤ 1000 ∧
      ∀ r : Bool, (r = true ↔ ∀ w, msA[runL stA 0 w]? = msB[runL stB 0 w]?) → Q (.d (.bl r))
  | _ => False
theorem w_alike {g : PCfg} : Wp g ps_alike n__law_alike b__law_alike := by
  intro args S Q E h
  unfold ps_alike at h
  split at h <;> first | contradiction | skip
  obtain ⟨stA, stB, msA, msB, wide, rfl, rfl, rfl, rfl, okA, okB, hmA, hmB, pA, pB, szA, szB, h2⟩ := h
  unfold b__law_alike
  refine pstep fun K hK => ?_
  simp! only [n__law_alike]
  refine hK _ (pstep fun K2 hK2 => ?_)
  simp! only []
  refine hK2 _ (pstep fun K3 hK3 => ?_)
  refine pwhile_step (fun m e => ∃ (L : List (Nat × Nat)) (i : Nat) (v4 v5 v6 v7 : Option PV), Prs stA stB msA msB wide (0, 0) L i ∧ m = stA.length * stB.length - i ∧ e = [some (.d (.tup [.tup (stA.map stV), .tup (msA.map natV)])), some (.d (.tup [.tup (stB.map stV), .tup (msB.map natV)])), some (.l true (L.map pvV)), some (.d (.int i)), v4, v5, v6, v7])
    ⟨_, [(0, 0)], 0, none, none, none, none, Prs.start pA pB, rfl, rfl⟩ ?_
  rintro B hB m e ⟨L, i, v4, v5, v6, v7, pr, rfl, rfl⟩
  have hbd := pr.bound
  simp! only []
  refine ⟨fun q => hB _ _ (pstep fun K4 hK4 => ?_), fun q => hK3 _ ?_⟩
  · have hi : i < L.length := by simpa using q
    have ei : L[i]? = some L[i] := List.getElem?_eq_getElem hi
    generalize hpi : L[i] = p at ei
    have hpm : p ∈ L := List.mem_of_getElem? ei
    obtain ⟨p1, p2⟩ := pr.inr p hpm
    have ev : (L.map pvV)[i]? = some (pvV p) := by rw [List.getElem?_map, ei]; rfl
    have m1 : msA[p.1]? = some (msA[p.1]'(by omega)) := List.getElem?_eq_getElem (by omega)
    have m2 : msB[p.2]? = some (msB[p.2]'(by omega)) := List.getElem?_eq_getElem (by omega)
    have v1 : (msA.map natV)[p.1]? = some (natV (msA[p.1]'(by omega))) := by rw [List.getElem?_map, m1]; rfl
    have v2 : (msB.map natV)[p.2]? = some (natV (msB[p.2]'(by omega))) := by rw [List.getElem?_map, m2]; rfl
    simp! only [atI_nat, ev, pvV, natV]
    refine hK4 _ (pstep fun K5 hK5 => pite_step fun A B2 hA hB2 => ?_)
    simp! only [atI_nat, v1, v2, natV]
    refine ⟨fun q2 => hA _ ?_, fun q2 => hB2 _ ?_⟩
    · simp! only []
      refine h2 false ⟨fun z => (by cases z), fun z => ?_⟩
      obtain ⟨w, w1, w2⟩ := pr.reach p hpm
      have := z w
      rw [w1, w2, m1, m2] at this
      have hv := Option.some.inj this
      simp [hv] at q2
    · have hmeq : msA[p.1]? = msB[p.2]? := by
        rw [m1, m2]
        congr 1
        simp at q2
        omega
      simp! only []
      refine hK5 _ (pstep fun K6 hK6 => pfor_step fun B3 hB3 => ?_)
      have s1 : stA[p.1]? = some stA[p.1] := List.getElem?_eq_getElem p1
      have s2 : stB[p.2]? = some stB[p.2] := List.getElem?_eq_getElem p2
      simp! only [atI_nat, ev, pvV, natV, st_get p1, st_get p2, stV, zipP]
      rw [zip_steps okA okB s1 s2]
      refine pfor_invT (fun c => pvV (stepL stA p.1 c, stepL stB p.2 c)) (fun rest e => ∃ (L2 : List (Nat × Nat)) (k : Nat) (v6 v7 : Option PV), Prs stA stB msA msB wide (0, 0) L2 i ∧ rest = List.range' k (wide - k) ∧ (∀ c, c < k → (stepL stA p.1 c, stepL stB p.2 c) ∈ L2) ∧ L2[i]? = some p ∧ k ≤ wide ∧
          e = [some (.d (.tup [.tup (stA.map stV), .tup (msA.map natV)])), some (.d (.tup [.tup (stB.map stV), .tup (msB.map natV)])), some (.l true (L2.map pvV)), some (.d (.int i)), some (.d (.int p.1)), some (.d (.int p.2)), v6, v7]) ?_ ?_ _ _ ⟨L, 0, v6, v7, pr, by rw [List.range_eq_range']; rfl, fun c h => by omega, ei, by omega, rfl⟩
      · rintro x rest e ⟨L2, k, w6, w7, pr2, hr, hin, hLi, hkw, rfl⟩
        have hk : k < wide := by
          by_cases z : k < wide
          · exact z
          · rw [show wide - k = 0 by omega] at hr
            cases hr
        rw [show wide - k = (wide - (k + 1)) + 1 by omega, List.range'_succ] at hr
        injection hr with hx hr
        subst hx
        have hbd2 := pr2.bound
        simp! only [pvV, natV]
        intro kk hkk
        refine hB3 _ _ (pstep fun K7 hK7 => pite_step fun A4 B4 hA4 hB4 => ?_)
        simp! only [pNin_pv]
        have hnext : ∀ c, c < x + 1 → c < x ∨ c = x := fun c h => by omega
        refine ⟨fun q3 => hA4 _ ?_, fun q3 => hB4 _ ?_⟩
        · have hnot : (stepL stA p.1 x, stepL stB p.2 x) ∉ L2 := by simpa using q3
          simp! only []
          refine ⟨?_, hK7 _ ?_⟩
          · have : stA.length * stB.length ≤ 1000 * 1000 := Nat.mul_le_mul szA szB
            unfold line
            omega
          · simp! only []
            refine hkk _ ⟨L2 ++ [(stepL stA p.1 x, stepL stB p.2 x)], x + 1, _, _, pr2.add (List.mem_of_getElem? hLi) okA okB pA pB hnot, hr, fun c hc => ?_, ?_, hk, by simp [pvV, natV]; exact ⟨rfl, rfl⟩⟩
            · rcases hnext c hc with z | z
              · exact List.mem_append.mpr (.inl (hin c z))
              · rw [z]; simp
            · rw [List.getElem?_append_left (List.getElem?_eq_some_iff.mp hLi).1]
              exact hLi
        · have hmem : (stepL stA p.1 x, stepL stB p.2 x) ∈ L2 := by simpa using q3
          simp! only []
          refine hK7 _ ?_
          simp! only []
          refine hkk _ ⟨L2, x + 1, _, _, pr2, hr, fun c hc => ?_, hLi, hk, rfl⟩
          rcases hnext c hc with z | z
          · exact hin c z
          · rw [z]; exact hmem
      · rintro e ⟨L2, k, w6, w7, pr2, hr, hin, hLi, hkw, rfl⟩
        have hk : k = wide := by
          have := congrArg List.length hr
          simp at this
          omega
        subst hk
        have hlt : i < L2.length := (List.getElem?_eq_some_iff.mp hLi).1
        have hbd2 := pr2.bound
        refine hK6 _ ?_
        simp! only []
        exact ⟨_, by omega, L2, i + 1, _, _, w6, w7, pr2.next hLi hmeq hin, rfl, by simp; exact ⟨rfl, rfl⟩⟩
  · have hi : i = L.length := by
      have := pr.le
      simp at q
      omega
    subst hi
    simp! only []
    exact h2 true ⟨fun _ w => pr.same okA okB (.inl rfl) w, fun _ => rfl⟩
end DL

set_option autoImplicit true
set_option Elab.async false
set_option autoImplicit false
set_option linter.all false
set_option maxRecDepth 100000
set_option maxHeartbeats 4000000
/-! Own layer, plain: where two rows part. -/
namespace DL
open PySem
/-- the number whose figures these are, the least one first -/
def valW (b : Nat) : List Nat → Nat
  | [] => 0
  | d :: w => d + b * valW b w
def Figs (b : Nat) (w : List Nat) : Prop := ∀ d ∈ w, d < b
theorem valW_snoc (b : Nat) : ∀ (w : List Nat) (c : Nat), valW b (w ++ [c]) = valW b w + b ^ w.length * c
  | [], c => by simp [valW]
  | d :: w, c => by
    simp only [List.cons_append, valW, valW_snoc b w c, List.length_cons, Nat.pow_succ, Nat.mul_add]
    rw [show b ^ w.length * b * c = b * (b ^ w.length * c) by rw [Nat.mul_comm (b ^ w.length) b, Nat.mul_assoc]]
    omega
theorem valW_lt {b : Nat} (hb : 2 ≤ b) : ∀ {w : List Nat}, Figs b w → valW b w < b ^ w.length
  | [], _ => by simp [valW]
  | d :: w, h => by
    have h1 := h d (by simp)
    have h2 := valW_lt hb (w := w) fun x hx => h x (by simp [hx])
    simp only [valW, List.length_cons, Nat.pow_succ]
    have : b * (valW b w + 1) ≤ b * b ^ w.length := Nat.mul_le_mul_left _ h2
    rw [Nat.mul_add, Nat.mul_one] at this
    rw [Nat.mul_comm (b ^ w.length) b]
    omega
theorem word_of {b : Nat} (hb : 2 ≤ b) : ∀ (k n : Nat), n < b ^ k → ∃ w, w.length = k ∧ Figs b w ∧ valW b w = n
  | 0, n, h => ⟨[], rfl, fun d hd => by simp at hd, by simp at h; simp [valW, h]⟩
  | k + 1, n, h => by
    have h1 : n / b < b ^ k := by
      rw [Nat.div_lt_iff_lt_mul (by omega)]
      rw [Nat.pow_succ] at h
      exact h
    obtain ⟨w, e1, e2, e3⟩ := word_of hb k (n / b) h1
    refine ⟨n % b :: w, by simp [e1], fun d hd => ?_, ?_⟩
    · rcases List.mem_cons.mp hd with z | z
      · rw [z]; exact Nat.mod_lt _ (by omega)
      · exact e2 d z
    · simp only [valW, e3]
      have := Nat.mod_add_div n b
      omega
/-- by the figure 0 no mark changes -/
def Calm {β : Type} (st : List (List Nat)) (ms : List β) : Prop := ∀ s, s < st.length → ms[stepL st s 0]? = ms[s]?
theorem digs_word {β : Type} {st : List (List Nat)} {ms : List β} {b : Nat} (hb : 2 ≤ b) (ok : StOk st b) (hp : 0 < st.length) (cm : Calm st ms) : ∀ (w : List Nat) (s : Nat), s < st.length → Figs b w → ms[runL st s w]? = ms[runL st s (digs b (valW b w))]?
  | [], s, _, _ => by simp [valW, digs_zero]
  | d :: w, s, hs, hf => by
    have hd := hf d (by simp)
    have ih := digs_word hb ok hp cm w (stepL st s d) (step_lt ok hp s d) fun x hx => hf x (by simp [hx])
    rw [runL_cons, ih]
    by_cases hv : 0 < valW b (d :: w)
    · rw [digs_pos hb hv]
      have e1 : valW b (d :: w) % b = d := by
        simp only [valW]
        rw [Nat.add_mul_mod_self_left]
        exact Nat.mod_eq_of_lt hd
      have e2 : valW b (d :: w) / b = valW b w := by
        simp only [valW]
        rw [Nat.add_mul_div_left _ _ (by omega), Nat.div_eq_of_lt hd, Nat.zero_add]
      rw [e1, e2]
      rfl
    · have h0 : valW b (d :: w) = 0 := by omega
      simp only [valW] at h0
      have hd0 : d = 0 := by omega
      have hw0 : valW b w = 0 := by
        rcases Nat.eq_zero_or_pos (valW b w) with z | z
        · exact z
        · have : 0 < b * valW b w := Nat.mul_pos (by omega) z
          omega
      subst hd0
      rw [hw0, show valW b (0 :: w) = 0 by simp [valW, hw0], digs_zero]
      exact cm s hs
theorem sgn_word {st : List (List Nat)} {ms : List Nat} {b : Nat} (hb : 2 ≤ b) (ok : StOk st b) (hp : 0 < st.length) (cm : Calm st ms) {w : List Nat} (hf : Figs b w) : (ms[runL st 0 w]?).getD 0 = sgn st ms b (valW b w) := by
  rw [digs_word hb ok hp cm w 0 hp hf]
  rfl
/-- place, state, state -/
def tV (t : Nat × Nat × Nat) : Val := .tup [natV t.1, natV t.2.1, natV t.2.2]
theorem tV_pl (t : Nat × Nat × Nat) : (tV t).pl = true := rfl
/-- levels of places: old pairs, rows of this level -/
structure Lev (stA stB : List (List Nat)) (msA msB : List Nat) (b k : Nat) (O : List (Nat × Nat)) (rows : List (Nat × Nat × Nat)) : Prop where
  word : ∀ t ∈ rows, ∃ w, w.length = k ∧ Figs b w ∧ valW b w = t.1 ∧ runL stA 0 w = t.2.1 ∧ runL stB 0 w = t.2.2
  full : ∀ w, w.length = k → Figs b w → (runL stA 0 w, runL stB 0 w) ∈ O ∨ ∃ t ∈ rows, t.2 = (runL stA 0 w, runL stB 0 w) ∧ t.1 ≤ valW b w
  same : ∀ p ∈ O, msA[p.1]? = msB[p.2]?
  clos : ∀ p ∈ O, ∀ c, c < b → (stepL stA p.1 c, stepL stB p.2 c) ∈ O ∨ ∃ t ∈ rows, t.2 = (stepL stA p.1 c, stepL stB p.2 c)
  inr : ∀ p ∈ O, p.1 < stA.length ∧ p.2 < stB.length
  zero : (0, 0) ∈ O ∨ ∃ t ∈ rows, t.2 = (0, 0)
section
variable {stA stB : List (List Nat)} {msA msB : List Nat} {b k : Nat} {O : List (Nat × Nat)} {rows : List (Nat × Nat × Nat)}
theorem Lev.start : Lev stA stB msA msB b 0 [] [(0, 0, 0)] := by
  refine ⟨fun t ht => ?_, fun w hl _ => ?_, by simp, by simp, by simp, .inr ⟨(0, 0, 0), by simp, rfl⟩⟩
  · simp at ht
    subst ht
    exact ⟨[], rfl, fun d hd => by simp at hd, rfl, rfl, rfl⟩
  · have : w = [] := List.length_eq_zero_iff.mp hl
    subst this
    exact .inr ⟨(0, 0, 0), by simp, rfl, Nat.le_refl _⟩
theorem Lev.rows_inr (h : Lev stA stB msA msB b k O rows) (okA : StOk stA b) (okB : StOk stB b) (pA : 0 < stA.length) (pB : 0 < stB.length) {t : Nat × Nat × Nat} (ht : t ∈ rows) : t.2.1 < stA.length ∧ t.2.2 < stB.length := by
  obtain ⟨w, _, _, _, e1, e2⟩ := h.word t ht
  rw [← e1, ← e2]
  exact ⟨run_lt okA pA w 0 pA, run_lt okB pB w 0 pB⟩
/-- the first place of a level that parts is the first of all -/
theorem Lev.first (h : Lev stA stB msA msB b k O rows) (hb : 2 ≤ b) (okA : StOk stA b) (okB : StOk stB b) (pA : 0 < stA.length) (pB : 0 < stB.length) (cA : Calm stA msA) (cB : Calm stB msB) (lA : msA.length = stA.length) (lB : msB.length = stB.length) {m : Nat}
    (hm : ∃ t ∈ rows, t.1 = m ∧ msA[t.2.1]? ≠ msB[t.2.2]?) (hl : ∀ t ∈ rows, msA[t.2.1]? ≠ msB[t.2.2]? → m ≤ t.1) : sgn stA msA b m ≠ sgn stB msB b m ∧ ∀ n, n < m → sgn stA msA b n = sgn stB msB b n := by
  have get : ∀ {w : List Nat}, Figs b w → (msA[runL stA 0 w]? = some (sgn stA msA b (valW b w))) ∧ msB[runL stB 0 w]? = some (sgn stB msB b (valW b w)) := by
    intro w hf
    rw [← sgn_word hb okA pA cA hf, ← sgn_word hb okB pB cB hf]
    have h1 := run_lt okA pA w 0 pA
    have h2 := run_lt okB pB w 0 pB
    rw [List.getElem?_eq_getElem (by omega), List.getElem?_eq_getElem (by omega)]
    exact ⟨rfl, rfl⟩
  obtain ⟨t, ht, e1, hne⟩ := hm
  obtain ⟨w, w1, w2, w3, w4, w5⟩ := h.word t ht
  obtain ⟨g1, g2⟩ := get w2
  refine ⟨fun z => hne ?_, fun n hn => ?_⟩
  · rw [← w4, ← w5, g1, g2, w3, e1, z]
  · by_cases z : sgn stA msA b n = sgn stB msB b n
    · exact z
    · have hlt : n < b ^ k := by
        have := valW_lt hb w2
        rw [w1] at this
        omega
      obtain ⟨u, u1, u2, u3⟩ := word_of hb k n hlt
      obtain ⟨g3, g4⟩ := get u2
      have hne2 : msA[runL stA 0 u]? ≠ msB[runL stB 0 u]? := by
        rw [g3, g4, u3]
        simpa using z
      rcases h.full u u1 u2 with q | ⟨t2, q1, q2, q3⟩
      · exact absurd (h.same _ q) hne2
      · have q2a : t2.2.1 = runL stA 0 u := congrArg Prod.fst q2
        have q2b : t2.2.2 = runL stB 0 u := congrArg Prod.snd q2
        have := hl t2 q1 (by rw [q2a, q2b]; exact hne2)
        rw [u3] at q3
        omega
/-- no rows are left: nothing parts -/
theorem Lev.none (h : Lev stA stB msA msB b k O []) (hb : 2 ≤ b) (okA : StOk stA b) (okB : StOk stB b) (pA : 0 < stA.length) (pB : 0 < stB.length) : ∀ w, Figs b w → msA[runL stA 0 w]? = msB[runL stB 0 w]? := by
  have h0 : (0, 0) ∈ O := by
    rcases h.zero with z | ⟨t, ht, _⟩
    · exact z
    · cases ht
  have key : ∀ (w : List Nat) (p : Nat × Nat), p ∈ O → Figs b w → (runL stA p.1 w, runL stB p.2 w) ∈ O := by
    intro w
    induction w with
    | nil => intro p hp _; exact hp
    | cons c w ih =>
      intro p hp hf
      rcases h.clos p hp c (hf c (by simp)) with z | ⟨t, ht, _⟩
      · exact ih _ z fun x hx => hf x (by simp [hx])
      · cases ht
  exact fun w hf => h.same _ (key w (0, 0) h0 hf)
/-- the next level: rows2 are, in order of places, what was not met -/
theorem Lev.next (h : Lev stA stB msA msB b k O rows) {rows2 : List (Nat × Nat × Nat)} (okA : StOk stA b) (okB : StOk stB b) (pA : 0 < stA.length) (pB : 0 < stB.length) (hs : ∀ t ∈ rows, msA[t.2.1]? = msB[t.2.2]?)
    (hin : ∀ t ∈ rows2, ∃ u ∈ rows, ∃ c, c < b ∧ t = (u.1 + b ^ k * c, stepL stA u.2.1 c, stepL stB u.2.2 c))
    (hfull : ∀ u ∈ rows, ∀ c, c < b → (stepL stA u.2.1 c, stepL stB u.2.2 c) ∈ O ++ rows.map (·.2) ∨ ∃ t ∈ rows2, t.2 = (stepL stA u.2.1 c, stepL stB u.2.2 c) ∧ t.1 ≤ u.1 + b ^ k * c) : Lev stA stB msA msB b (k + 1) (O ++ rows.map (·.2)) rows2 := by
  refine ⟨fun t ht => ?_, fun w hl hf => ?_, fun p hp => ?_, fun p hp c hc => ?_, fun p hp => ?_, ?_⟩
  · obtain ⟨u, hu, c, hc, rfl⟩ := hin t ht
    obtain ⟨w, w1, w2, w3, w4, w5⟩ := h.word u hu
    refine ⟨w ++ [c], by simp [w1], fun d hd => ?_, ?_, ?_, ?_⟩
    · rcases List.mem_append.mp hd with z | z
      · exact w2 d z
      · simp at z; omega
    · rw [valW_snoc, w3, w1]
    · rw [runL_app, w4]; rfl
    · rw [runL_app, w5]; rfl
  · obtain ⟨u, c, rfl⟩ : ∃ u c, w = u ++ [c] := by
      have hne : w ≠ [] := fun z => by rw [z] at hl; simp at hl
      exact ⟨w.dropLast, w.getLast hne, (List.dropLast_concat_getLast hne).symm⟩
    have hl' : u.length = k := by simpa using hl
    have hc : c < b := hf c (by simp)
    have hfu : Figs b u := fun d hd => hf d (by simp [hd])
    have eA : runL stA 0 (u ++ [c]) = stepL stA (runL stA 0 u) c := by rw [runL_app]; rfl
    have eB : runL stB 0 (u ++ [c]) = stepL stB (runL stB 0 u) c := by rw [runL_app]; rfl
    rw [eA, eB, valW_snoc, hl']
    rcases h.full u hl' hfu with q | ⟨t, q1, q2, q3⟩
    · rcases h.clos _ q c hc with z | ⟨t, z1, z2⟩
      · exact .inl (List.mem_append.mpr (.inl z))
      · exact .inl (List.mem_append.mpr (.inr (List.mem_map.mpr ⟨t, z1, z2⟩)))
    · have q2a : t.2.1 = runL stA 0 u := congrArg Prod.fst q2
      have q2b : t.2.2 = runL stB 0 u := congrArg Prod.snd q2
      have := hfull t q1 c hc
      rw [q2a, q2b] at this
      rcases this with z | ⟨t2, z1, z2, z3⟩
      · exact .inl z
      · exact .inr ⟨t2, z1, z2, by omega⟩
  · rcases List.mem_append.mp hp with z | z
    · exact h.same p z
    · obtain ⟨t, ht, rfl⟩ := List.mem_map.mp z
      exact hs t ht
  · rcases List.mem_append.mp hp with z | z
    · rcases h.clos p z c hc with q | ⟨t, q1, q2⟩
      · exact .inl (List.mem_append.mpr (.inl q))
      · exact .inl (List.mem_append.mpr (.inr (List.mem_map.mpr ⟨t, q1, q2⟩)))
    · obtain ⟨t, ht, rfl⟩ := List.mem_map.mp z
      rcases hfull t ht c hc with q | ⟨t2, q1, q2, _⟩
      · exact .inl q
      · exact .inr ⟨t2, q1, q2⟩
  · rcases List.mem_append.mp hp with z | z
    · exact h.inr p z
    · obtain ⟨t, ht, rfl⟩ := List.mem_map.mp z
      exact h.rows_inr okA okB pA pB ht
  · rcases h.zero with z | ⟨t, z1, z2⟩
    · exact .inl (List.mem_append.mpr (.inl z))
    · exact .inl (List.mem_append.mpr (.inr (List.mem_map.mpr ⟨t, z1, z2⟩)))
end
end DL

set_option autoImplicit true
set_option Elab.async false
set_option autoImplicit false
set_option linter.all false
set_option maxRecDepth 100000
set_option maxHeartbeats 4000000
/-! Own layer, plain: rows_parted, least_row. -/
namespace DL
open PySem
local macro_rules
  | `(tactic| simp! only [$ls,*]) => `(tactic| try simp only [pSs, pS, pE, pEs, pO, pI, pIs, pC, pIf, pAsg, pAsgs, pSetI, pRet, pX, pMove, pUn, pBin, pLt_i, pLe_i, pGt_i, pGe_i, pLt_t, pEq_i, pNe_i, pEq_s, pNe_s, pEq_b, pNe_b, pIn_m, pNin_m, pSub_l, pSub_tup, pSub_lst, pSub_m, pSub_str, pSlice, pBt_len_l, pBt_tuple_l, pBt_list_l, pBt_len_m, pBt_len_tup, pBt_len_lst, pBt_len_str, pBt_list_tup, pBt_tuple_tup, pBt_int_int, pBt_int_bl, pBt_max2, pBt_min2, pBt_str_int, pIsi, pRecv, pMt, wBin, wSub, wSlice, wBt, wRng, startP_cons, startP_nil, List.replicate, getP_0, getP_s, withO_s, withB_b, withD_d, withPB_d, withPI_d, bor_d, bor_l, bor_m, isP_d, isP_l, isP_m, okA_d, okA_l, okA_m, lof_l, lof_m, lof_int, lof_bl, lof_str, lof_non, lof_tup, lof_lst, dof_l, dof_m, dof_int, dof_bl, dof_str, dof_non, dof_tup, dof_lst, dvl_int, dvl_bl, dvl_str, dvl_non, dvl_tup, dvl_lst, ds_nil, ds_cons, omap_some, pSee_d, iterP_l, iterP_tup, enP_l, enP_tup, pLend, see_int, see_bl, see_str, see_non, dep_int, dep_bl, dep_str, dep_non, Nat.zero_min, Nat.min_zero, Nat.zero_le, bindP_one, bindP_two, bindP_three, List.set_cons_zero, List.set_cons_succ, wipeP, Nat.zero_add, atI_0, atI_1, atI_2, atI_3, isV, frz, frz1, Bool.or_false, Bool.or_true, Bool.true_or, Bool.false_or, true_imp_iff, false_imp_iff, Bool.not_false, Bool.not_true, reduceCtorEq, and_true, true_and, List.length_cons, List.length_nil, List.map_cons, List.map_nil, List.length_map, tt_and, ff_and, $ls,*])
  | `(tactic| simp! only [$ls,*] $loc:location) => `(tactic| try simp only [pSs, pS, pE, pEs, pO, pI, pIs, pC, pIf, pAsg, pAsgs, pSetI, pRet, pX, pMove, pUn, pBin, pLt_i, pLe_i, pGt_i, pGe_i, pLt_t, pEq_i, pNe_i, pEq_s, pNe_s, pEq_b, pNe_b, pIn_m, pNin_m, pSub_l, pSub_tup, pSub_lst, pSub_m, pSub_str, pSlice, pBt_len_l, pBt_tuple_l, pBt_list_l, pBt_len_m, pBt_len_tup, pBt_len_lst, pBt_len_str, pBt_list_tup, pBt_tuple_tup, pBt_int_int, pBt_int_bl, pBt_max2, pBt_min2, pBt_str_int, pIsi, pRecv, pMt, wBin, wSub, wSlice, wBt, wRng, startP_cons, startP_nil, List.replicate, getP_0, getP_s, withO_s, withB_b, withD_d, withPB_d, withPI_d, bor_d, bor_l, bor_m, isP_d, isP_l, isP_m, okA_d, okA_l, okA_m, lof_l, lof_m, lof_int, lof_bl, lof_str, lof_non, lof_tup, lof_lst, dof_l, dof_m, dof_int, dof_bl, dof_str, dof_non, dof_tup, dof_lst, dvl_int, dvl_bl, dvl_str, dvl_non, dvl_tup, dvl_lst, ds_nil, ds_cons, omap_some, pSee_d, iterP_l, iterP_tup, enP_l, enP_tup, pLend, see_int, see_bl, see_str, see_non, dep_int, dep_bl, dep_str, dep_non, Nat.zero_min, Nat.min_zero, Nat.zero_le, bindP_one, bindP_two, bindP_three, List.set_cons_zero, List.set_cons_succ, wipeP, Nat.zero_add, atI_0, atI_1, atI_2, atI_3, isV, frz, frz1, Bool.or_false, Bool.or_true, Bool.true_or, Bool.false_or, true_imp_iff, false_imp_iff, Bool.not_false, Bool.not_true, reduceCtorEq, and_true, true_and, List.length_cons, List.length_nil, List.map_cons, List.map_nil, List.length_map, tt_and, ff_and, $ls,*] $loc:location)

def n_least_row : List Str := ["hall", "row"]
def b_least_row : Sms :=
  (.cons (.expr (.call 6 (.cons (.var 0) (.cons (.var 1) .nil))))
  (.cons (.ret (.call 11 (.cons (.sub (.sub (.sub (.var 0) (.int 1)) (.var 1)) (.int 0)) (.cons (.sub (.sub (.sub (.var 0) (.int 1)) (.var 1)) (.int 1)) .nil))))
  .nil))

def n_rows_parted : List Str := ["hall", "one", "other", "base", "here", "there", "rows", "met", "size", "place", "first", "second", "unlike", "more", "figure", "pair"]
def b_rows_parted : Sms :=
  (.cons (.expr (.call 6 (.cons (.var 0) (.cons (.var 1) .nil))))
  (.cons (.expr (.call 6 (.cons (.var 0) (.cons (.var 2) .nil))))
  (.cons (.asg 3 (.sub (.var 0) (.int 0)))
  (.cons (.asgs [4, 5] (.tup (.cons (.sub (.sub (.var 0) (.int 1)) (.var 1)) (.cons (.sub (.sub (.var 0) (.int 1)) (.var 2)) .nil))))
  (.cons (.asg 6 (.lst (.cons (.tup (.cons (.int 0) (.cons (.int 0) (.cons (.int 0) .nil)))) .nil)))
  (.cons (.asg 7 (.dict1 (.tup (.cons (.int 0) (.cons (.int 0) .nil))) (.bl true)))
  (.cons (.asg 8 (.int 1))
  (.cons (.while (.cmp .ne (.var 6) (.lst .nil))
    (.cons (.asg 12 (.comp (.mk (.many [9, 10, 11]) [9, 10, 11] (.var 9) (.val (.var 6)) (.some (.cmp .ne (.sub (.sub (.var 4) (.int 1)) (.var 10)) (.sub (.sub (.var 5) (.int 1)) (.var 11)))))))
      (.cons (.ite (.cmp .ne (.var 12) (.lst .nil))
        (.cons (.ret (.blt .min1 (.cons (.var 12) .nil)))
          .nil)
        .nil)
      (.cons (.asg 13 (.lst .nil))
      (.cons (.for (.many [9, 10, 11]) (.val (.var 6))
        (.cons (.for (.one 14) (.rng (.cons (.var 3) .nil))
            (.cons (.asg 15 (.tup (.cons (.sub (.sub (.sub (.var 4) (.int 0)) (.var 10)) (.var 14)) (.cons (.sub (.sub (.sub (.var 5) (.int 0)) (.var 11)) (.var 14)) .nil))))
              (.cons (.expr (.meth (.var 13) .append (.cons (.tup (.cons (.bin .add (.var 9) (.bin .mul (.var 8) (.var 14))) (.cons (.sub (.var 15) (.int 0)) (.cons (.sub (.var 15) (.int 1)) .nil)))) .nil)))
              .nil)))
          .nil))
      (.cons (.asg 6 (.lst .nil))
      (.cons (.for (.many [9, 10, 11]) (.val (.blt .sorted (.cons (.var 13) .nil)))
        (.cons (.ite (.cmp .notin (.tup (.cons (.var 10) (.cons (.var 11) .nil))) (.var 7))
            (.cons (.setI (.var 7) (.tup (.cons (.var 10) (.cons (.var 11) .nil))) (.bl true))
              (.cons (.expr (.meth (.var 6) .append (.cons (.tup (.cons (.var 9) (.cons (.var 10) (.cons (.var 11) .nil)))) .nil)))
              .nil))
            .nil)
          .nil))
      (.cons (.asg 8 (.bin .mul (.var 8) (.var 3)))
      .nil))))))))
  (.cons (.ret .non)
  .nil)))))))))

/-- a dict that only says what it holds -/
def dT {α : Type} (v : α → Val) (w : Val) (M : List α) : List (Val × Val) := M.map fun a => (v a, w)
section
variable {α : Type} {v : α → Val} {w : Val}
theorem dget_dT (inj : ∀ a b, (v a).nk = (v b).nk → a = b) {a : α} : ∀ {M : List α} [Decidable (a ∈ M)], dget (dT v w M) (v a) = if a ∈ M then some w else none
  | [], _ => by simp [dT, dget]
  | b :: M, _ => by
    classical
    show (if (v b).nk = (v a).nk then some w else dget (dT v w M) (v a)) = _
    by_cases e : b = a
    · subst e; simp
    · rw [if_neg fun z => e (inj _ _ z), dget_dT inj]
      have : a ∈ b :: M ↔ a ∈ M := by simp [Ne.symm e]
      by_cases q : a ∈ M
      · rw [if_pos q, if_pos (this.mpr q)]
      · rw [if_neg q, if_neg fun z => q (this.mp z)]
theorem dput_dT (inj : ∀ a b, (v a).nk = (v b).nk → a = b) {a : α} : ∀ {M : List α}, a ∉ M → dput (dT v w M) (v a) w = dT v w (M ++ [a])
  | [], _ => rfl
  | b :: M, h => by
    show (if (v b).nk = (v a).nk then (v b, w) :: dT v w M else (v b, w) :: dput (dT v w M) (v a) w) = _
    rw [if_neg fun z => h (by rw [inj _ _ z]; simp), dput_dT inj fun z => h (by simp [z])]
    rfl
theorem kind_dT {a : α} {M : List α} {c : Nat} (hk : ∀ a, modKey (v a) = true ∧ kcl (v a) = c) : kindOk (dT v w M) (v a) = true := by
  unfold kindOk
  rw [(hk a).1, Bool.true_and]
  cases M with
  | nil => rfl
  | cons b M =>
    show (kcl (v b) == kcl (v a)) = true
    rw [(hk b).2, (hk a).2]
    simp
theorem dT_len (M : List α) : (dT v w M).length = M.length := by simp [dT]
end
theorem pvV_nk {a b : Nat × Nat} (h : (pvV a).nk = (pvV b).nk) : a = b := by
  obtain ⟨x, y⟩ := a
  obtain ⟨z, w⟩ := b
  simp [pvV, Val.nk, Val.nks, natV] at h
  simp
  omega
theorem pvV_key (a : Nat × Nat) : modKey (pvV a) = true ∧ kcl (pvV a) = 2 := ⟨rfl, rfl⟩
def ps_need_row : PSpec := fun vs S Q E => match vs with
  | [.d v, .d r] => kn S v = true ∧ kn S r = true ∧ (isHall v = true → (betw r 0 (rowsN v - 1) = true → Q (.d .non)) ∧ (betw r 0 (rowsN v - 1) = false → E 5)) ∧ (isHall v = false → E 1)
  | _ => False
mutual
theorem kn_le {S S' : Sto} (le : Sto.le S S') : ∀ v : Val, kn S v = true → kn S' v = true
  | .ref a, h => by
    simp only [kn] at h ⊢
    split at h
    · rename_i xs e
      rw [le _ _ e]
    · cases h
  | .tup xs, h => kns_le le xs h
  | .lst _, h => by cases h
  | .non, _ => rfl
  | .bl _, _ => rfl
  | .int _, _ => rfl
  | .str _, _ => rfl
theorem kns_le {S S' : Sto} (le : Sto.le S S') : ∀ vs : List Val, kns S vs = true → kns S' vs = true
  | [], _ => rfl
  | v :: vs, h => by
    simp only [kns, Bool.and_eq_true] at h ⊢
    exact ⟨kn_le le v h.1, kns_le le vs h.2⟩
end
theorem up_need_row (vs : List Val) (S : Sto) (Q : KV) (E : Nat → Sto → Prop) (h : up1 ps_need_row vs S Q E) : sp_need_row vs S Q E := by
  obtain ⟨pvs, S0, Qp, Ep, le, ar, hp, hr, hx⟩ := h
  unfold ps_need_row at hp
  split at hp
  · rename_i v r
    match vs, ar with
    | [v', r'], ar =>
      have e1 : v' = v := ar.1
      have e2 : r' = r := ar.2.1
      subst e1 e2
      obtain ⟨h1, h2, h3, h4⟩ := hp
      exact ⟨kn_le le _ h1, kn_le le _ h2, fun t => ⟨fun u => hr (.d .non) ((h3 t).1 u), fun u => hx _ ((h3 t).2 u)⟩, fun t => hx _ (h4 t)⟩
    | [], ar => exact ar.elim
    | [_], ar => exact ar.2.elim
    | _ :: _ :: _ :: _, ar => exact ar.2.2.elim
  · exact hp.elim
/-- a row's steps and signs as a machine's -/
theorem Row.Ok.st {R : Row} {b : Nat} (o : R.Ok b) : StOk R.steps b := ⟨o.wide, o.to⟩
theorem Row.Ok.calm {R : Row} {b : Nat} (hb : 2 ≤ b) (o : R.Ok b) : Calm R.steps R.signs := by
  intro s hs
  have hw := o.wide _ (List.getElem_mem hs)
  have e1 : R.steps[s]? = some R.steps[s] := List.getElem?_eq_getElem hs
  have e2 : R.steps[s].head? = some (stepL R.steps s 0) := by
    unfold stepL
    rw [e1, Option.getD_some]
    cases q : R.steps[s] with
    | nil => rw [q] at hw; simp at hw; omega
    | cons t ts => simp
  exact o.same s hs _ e2
theorem row_val (R : Row) : R.val = .tup [.tup (R.steps.map stV), .tup (R.signs.map natV)] := rfl
/-- a row's number in a hall -/
theorem hall_row {b : Nat} {Rs : List Row} {r : Nat} (h : r < Rs.length) : betw (.int r) 0 (rowsN (hallV b Rs) - 1) = true := by
  simp [betw, rowsN, hallV]
  omega
structure PRowG (g : PCfg) : Prop where
  f6 : g.fn 6 = some ps_need_row
  f11 : g.fn 11 = some ps_merged
def ps_least_row : PSpec := fun vs S Q E => match vs with
  | [.d h, .d r] => ∃ (b : Nat) (Rs : List Row) (n : Nat) (R : Row), h = hallV b Rs ∧ r = .int n ∧ (2 ≤ b ∧ b ≤ 3) ∧ Rs.length ≤ 3 ∧ (∀ R ∈ Rs, R.Ok b) ∧ Rs[n]? = some R ∧
      ∀ st2 ms2 T, (∀ w, R.signs[runL R.steps 0 w]? = some (T w)) → Least b st2 ms2 T → st2.length ≤ R.steps.length → Q (.d (Row.val ⟨st2, ms2⟩))
  | _ => False
theorem w_least_row {g : PCfg} (G : PRowG g) : Wp g ps_least_row n_least_row b_least_row := by
  intro args S Q E h
  unfold ps_least_row at h
  split at h <;> first | contradiction | skip
  obtain ⟨b, Rs, n, R, rfl, rfl, hb, hl, hR, hn, h2⟩ := h
  have hlt : n < Rs.length := (List.getElem?_eq_some_iff.mp hn).1
  have ok := hR R (List.mem_of_getElem? hn)
  unfold b_least_row
  refine pstep fun K hK => ?_
  simp! only [n_least_row, G.f6, ps_need_row]
  refine ⟨hall_kn S b Rs, rfl, fun _ => ⟨fun _ => hK _ ?_, fun z => ?_⟩, fun z => ?_⟩
  · have e1 : (Rs.map Row.val)[n]? = some R.val := by rw [List.getElem?_map, hn]; rfl
    simp! only [hallV, atI_nat, e1, row_val, G.f11, ps_merged]
    refine ⟨Nat, natV, 0, R.steps, R.signs, b, mks_nat, rfl, rfl, ok.st, ok.pos, ok.sg, by have := ok.most; omega, by omega, fun st2 ms2 T hT hL hle => h2 st2 ms2 T hT hL hle⟩
  · rw [hall_row hlt] at z
    cases z
  · rw [isHall_val hb hl hR] at z
    cases z
end DL

set_option autoImplicit true
set_option Elab.async false
set_option autoImplicit false
set_option linter.all false
set_option maxRecDepth 100000
set_option maxHeartbeats 8000000
/-! Own layer, plain: rows_parted, the walk. -/
namespace DL
open PySem
local macro_rules
  | `(tactic| simp! only [$ls,*]) => `(tactic| simp only [pSs, pS, pE, pEs, pO, pI, pIs, pC, pIf, pAsg, pAsgs, pSetI, pRet, pX, pMove, pUn, pBin, pLt_i, pLe_i, pGt_i, pGe_i, pLt_t, pEq_i, pNe_i, pEq_s, pNe_s, pEq_b, pNe_b, pIn_m, pNin_m, pSub_l, pSub_tup, pSub_lst, pSub_m, pSub_str, pSlice, pBt_len_l, pBt_tuple_l, pBt_list_l, pBt_len_m, pBt_len_tup, pBt_len_lst, pBt_len_str, pBt_list_tup, pBt_tuple_tup, pBt_int_int, pBt_int_bl, pBt_max2, pBt_min2, pBt_str_int, pIsi, pRecv, pMt, wBin, wSub, wSlice, wBt, wRng, startP_cons, startP_nil, List.replicate, getP_0, getP_s, withO_s, withB_b, withD_d, withPB_d, withPI_d, bor_d, bor_l, bor_m, isP_d, isP_l, isP_m, okA_d, okA_l, okA_m, lof_l, lof_m, lof_int, lof_bl, lof_str, lof_non, lof_tup, lof_lst, dof_l, dof_m, dof_int, dof_bl, dof_str, dof_non, dof_tup, dof_lst, dvl_int, dvl_bl, dvl_str, dvl_non, dvl_tup, dvl_lst, ds_nil, ds_cons, omap_some, pSee_d, iterP_l, iterP_tup, see_int, see_bl, see_str, see_non, dep_int, dep_bl, dep_str, dep_non, Nat.zero_min, Nat.min_zero, Nat.zero_le, bindP_one, bindP_two, bindP_three, List.set_cons_zero, List.set_cons_succ, wipeP, Nat.zero_add, atI_0, atI_1, atI_2, atI_3, isV, frz, frz1, Bool.or_false, Bool.or_true, Bool.true_or, Bool.false_or, true_imp_iff, false_imp_iff, Bool.not_false, Bool.not_true, reduceCtorEq, and_true, true_and, List.length_cons, List.length_nil, List.map_cons, List.map_nil, List.length_map, tt_and, ff_and, $ls,*])
  | `(tactic| simp! only [$ls,*] $loc:location) => `(tactic| simp only [pSs, pS, pE, pEs, pO, pI, pIs, pC, pIf, pAsg, pAsgs, pSetI, pRet, pX, pMove, pUn, pBin, pLt_i, pLe_i, pGt_i, pGe_i, pLt_t, pEq_i, pNe_i, pEq_s, pNe_s, pEq_b, pNe_b, pIn_m, pNin_m, pSub_l, pSub_tup, pSub_lst, pSub_m, pSub_str, pSlice, pBt_len_l, pBt_tuple_l, pBt_list_l, pBt_len_m, pBt_len_tup, pBt_len_lst, pBt_len_str, pBt_list_tup, pBt_tuple_tup, pBt_int_int, pBt_int_bl, pBt_max2, pBt_min2, pBt_str_int, pIsi, pRecv, pMt, wBin, wSub, wSlice, wBt, wRng, startP_cons, startP_nil, List.replicate, getP_0, getP_s, withO_s, withB_b, withD_d, withPB_d, withPI_d, bor_d, bor_l, bor_m, isP_d, isP_l, isP_m, okA_d, okA_l, okA_m, lof_l, lof_m, lof_int, lof_bl, lof_str, lof_non, lof_tup, lof_lst, dof_l, dof_m, dof_int, dof_bl, dof_str, dof_non, dof_tup, dof_lst, dvl_int, dvl_bl, dvl_str, dvl_non, dvl_tup, dvl_lst, ds_nil, ds_cons, omap_some, pSee_d, iterP_l, iterP_tup, see_int, see_bl, see_str, see_non, dep_int, dep_bl, dep_str, dep_non, Nat.zero_min, Nat.min_zero, Nat.zero_le, bindP_one, bindP_two, bindP_three, List.set_cons_zero, List.set_cons_succ, wipeP, Nat.zero_add, atI_0, atI_1, atI_2, atI_3, isV, frz, frz1, Bool.or_false, Bool.or_true, Bool.true_or, Bool.false_or, true_imp_iff, false_imp_iff, Bool.not_false, Bool.not_true, reduceCtorEq, and_true, true_and, List.length_cons, List.length_nil, List.map_cons, List.map_nil, List.length_map, tt_and, ff_and, $ls,*] $loc:location)

theorem lst_nil {xs : List Val} : (Val.lst xs).veq (.lst []) = xs.isEmpty := by
  cases xs <;> simp [Val.veq, Val.py, Val.pys, PyData.eqv, PyData.eqvAll]
theorem fil_map {α β : Type} (c : α → Prop) [DecidablePred c] (g : α → β) (xs : List α) : xs.filterMap (fun x => if c x then some (g x) else none) = (xs.filter fun x => decide (c x)).map g := by
  induction xs with
  | nil => rfl
  | cons x xs ih =>
    by_cases h : c x
    · simp [List.filterMap_cons, h, ih]
    · simp [List.filterMap_cons, h, ih]
theorem log2_le {a n : Nat} (h : a < 2 ^ n) : a.log2 ≤ n := by
  by_cases z : a = 0
  · subst z; simp
  · exact Nat.le_of_lt ((Nat.log2_lt z).mpr h)
theorem mulOk_nat {a c n m : Nat} (h : a < 2 ^ n) (h2 : c < 2 ^ m) (h3 : n + m < 1000000) : mulOk (a : Int) (c : Int) := by
  refine .inr ?_
  have := log2_le h
  have := log2_le h2
  simp only [Int.natAbs_natCast]
  omega
theorem pow_small {b k : Nat} (hb : b ≤ 3) (hk : k ≤ 70) : b ^ k < 2 ^ 200 := by
  have h1 : b ^ k ≤ 3 ^ k := Nat.pow_le_pow_left hb k
  have h2 : 3 ^ k ≤ 3 ^ 70 := Nat.pow_le_pow_right (by omega) hk
  have h3 : (3 : Nat) ^ 70 < 2 ^ 200 := by decide
  omega
def unT (ns : List Int) : Nat × Nat × Nat := match ns with
  | [a, b, c] => (a.toNat, b.toNat, c.toNat)
  | _ => (0, 0, 0)
def iT (t : Nat × Nat × Nat) : List Int := [(t.1 : Int), (t.2.1 : Int), (t.2.2 : Int)]
theorem unT_iT (t : Nat × Nat × Nat) : unT (iT t) = t := by
  obtain ⟨a, b, c⟩ := t
  simp [unT, iT]
theorem itups_map : ∀ ts : List (Nat × Nat × Nat), Val.itups (ts.map tV) = some (ts.map iT)
  | [] => rfl
  | t :: ts => by
    rw [List.map_cons]
    simp only [tV, Val.itups, natV, Val.ints, itups_map ts]
    rfl
theorem perm_iT {ts : List (Nat × Nat × Nat)} {mss : List (List Int)} (h : mss.Perm (ts.map iT)) : ∃ us : List (Nat × Nat × Nat), us.Perm ts ∧ mss = us.map iT := by
  refine ⟨mss.map unT, ?_, ?_⟩
  · have := h.map unT
    rw [List.map_map] at this
    have e : (unT ∘ iT) = id := funext unT_iT
    rw [e, List.map_id] at this
    exact this
  · rw [List.map_map]
    have : ∀ m ∈ mss, (iT ∘ unT) m = m := fun m hm => by
      obtain ⟨t, _, rfl⟩ := List.mem_map.mp (h.mem_iff.mp hm)
      show iT (unT (iT t)) = iT t
      rw [unT_iT]
    conv => lhs; rw [← List.map_id mss]
    exact List.map_congr_left fun m hm => (this m hm).symm
theorem lex_place {a b : Nat × Nat × Nat} (h : HT.lexLt (iT b) (iT a) = false) : a.1 ≤ b.1 := by
  simp only [iT, HT.lexLt_cons] at h
  by_cases e : (b.1 : Int) = a.1
  · omega
  · rw [if_neg e] at h
    have := of_decide_eq_false h
    omega
def nxtT (stA stB : List (List Nat)) (b k : Nat) (u : Nat × Nat × Nat) (c : Nat) : Nat × Nat × Nat := (u.1 + b ^ k * c, stepL stA u.2.1 c, stepL stB u.2.2 c)
def ps_rows_parted : PSpec := fun vs S Q E => match vs with
  | [.d h, .d r, .d r2] => ∃ (b : Nat) (Rs : List Row) (n n2 : Nat) (A B : Row), h = hallV b Rs ∧ r = .int n ∧ r2 = .int n2 ∧ (2 ≤ b ∧ b ≤ 3) ∧ Rs.length ≤ 3 ∧ (∀ R ∈ Rs, R.Ok b) ∧ Rs[n]? = some A ∧ Rs[n2]? = some B ∧
      ((∀ m, sgn A.steps A.signs b m = sgn B.steps B.signs b m) → Q (.d .non)) ∧ ∀ m, sgn A.steps A.signs b m ≠ sgn B.steps B.signs b m → (∀ j, j < m → sgn A.steps A.signs b j = sgn B.steps B.signs b j) → Q (.d (natV m))
  | _ => False
theorem w_rows_parted {g : PCfg} (G : PRowG g) : Wp g ps_rows_parted n_rows_parted b_rows_parted := by
  intro args S Q E h
  unfold ps_rows_parted at h
  split at h <;> first | contradiction | skip
  obtain ⟨b, Rs, n, n2, A, B, rfl, rfl, rfl, hb, hl, hR, hn, hn2, hno, hyes⟩ := h
  have hlt : n < Rs.length := (List.getElem?_eq_some_iff.mp hn).1
  have hlt2 : n2 < Rs.length := (List.getElem?_eq_some_iff.mp hn2).1
  have okA := hR A (List.mem_of_getElem? hn)
  have okB := hR B (List.mem_of_getElem? hn2)
  have sA := okA.st
  have sB := okB.st
  have pA : 0 < A.steps.length := okA.pos
  have pB : 0 < B.steps.length := okB.pos
  have cA := okA.calm hb.1
  have cB := okB.calm hb.1
  have h8A := okA.most
  have h8B := okB.most
  have eA : (Rs.map Row.val)[n]? = some A.val := by rw [List.getElem?_map, hn]; rfl
  have eB : (Rs.map Row.val)[n2]? = some B.val := by rw [List.getElem?_map, hn2]; rfl
  unfold b_rows_parted
  refine pstep fun K hK => ?_
  simp! only [n_rows_parted, G.f6, ps_need_row]
  refine ⟨hall_kn S b Rs, rfl, fun _ => ⟨fun _ => hK _ (pstep fun K1 hK1 => ?_), fun z => ?_⟩, fun z => ?_⟩
  rotate_left
  · rw [hall_row hlt] at z; cases z
  · rw [isHall_val hb hl hR] at z; cases z
  simp! only [G.f6, ps_need_row]
  refine ⟨hall_kn S b Rs, rfl, fun _ => ⟨fun _ => hK1 _ (pstep fun K2 hK2 => ?_), fun z => ?_⟩, fun z => ?_⟩
  rotate_left
  · rw [hall_row hlt2] at z; cases z
  · rw [isHall_val hb hl hR] at z; cases z
  simp! only [hallV]
  refine hK2 _ (pstep fun K3 hK3 => ?_)
  simp! only [hallV, atI_nat, eA, eB]
  refine hK3 _ (pstep fun K4 hK4 => ?_)
  simp! only []
  refine hK4 _ (pstep fun K5 hK5 => ?_)
  simp! only []
  refine ⟨rfl, hK5 _ (pstep fun K6 hK6 => ?_)⟩
  simp! only []
  refine hK6 _ (pstep fun K7 hK7 => ?_)
  have bound : ∀ M : List (Nat × Nat), M.Nodup → (∀ p ∈ M, p.1 < A.steps.length ∧ p.2 < B.steps.length) → M.length ≤ 64 := by
    intro M h1 h2
    have h3 : M.length ≤ A.steps.length * B.steps.length := by
      rw [← range_pairs]
      refine h1.length_le_of_subset fun p hp => ?_
      obtain ⟨h3, h4⟩ := h2 p hp
      exact List.mem_flatMap.mpr ⟨p.1, List.mem_range.mpr h3, List.mem_map.mpr ⟨p.2, List.mem_range.mpr h4, rfl⟩⟩
    have h4 : A.steps.length * B.steps.length ≤ 8 * 8 := Nat.mul_le_mul h8A h8B
    omega
  refine pwhile_step (fun m e => ∃ (k : Nat) (O : List (Nat × Nat)) (rows : List (Nat × Nat × Nat)) (v9 v10 v11 v12 v13 v14 v15 : Option PV), Lev A.steps B.steps A.signs B.signs b k O rows ∧ (O ++ rows.map (·.2)).Nodup ∧ (rows ≠ [] → k < (O ++ rows.map (·.2)).length) ∧
      m = 2 * (65 - (O ++ rows.map (·.2)).length) + (if rows = [] then 0 else 1) ∧
      e = [some (.d (hallV b Rs)), some (.d (.int n)), some (.d (.int n2)), some (.d (.int b)), some (.d A.val), some (.d B.val), some (.l true (rows.map tV)), some (.m true (dT pvV (.bl true) (O ++ rows.map (·.2)))), some (.d (.int (b ^ k : Nat))), v9, v10, v11, v12, v13, v14, v15])
    ⟨_, 0, [], [(0, 0, 0)], none, none, none, none, none, none, none, Lev.start, by simp, fun _ => by simp, rfl, by simp [dT, pvV, natV, tV, hallV]⟩ ?_
  rintro Bd hBd m e ⟨k, O, rows, v9, v10, v11, v12, v13, v14, v15, lev, hnd, hk, rfl, rfl⟩
  have hinM : ∀ p ∈ O ++ rows.map (·.2), p.1 < A.steps.length ∧ p.2 < B.steps.length := fun p hp => by
    rcases List.mem_append.mp hp with z | z
    · exact lev.inr p z
    · obtain ⟨t, ht, rfl⟩ := List.mem_map.mp z
      exact lev.rows_inr sA sB pA pB ht
  have hM := bound _ hnd hinM
  have drows : Val.dats (rows.map tV) = true := dats_map tV (fun t => pl_dat _ (tV_pl t)) _
  have deprows : Val.deps (rows.map tV) ≤ 90 := by
    have := deps_map tV 1 (fun t => by simp [tV, natV, Val.dep, Val.deps]) rows
    omega
  simp! only []
  rw [pNe_l drows rfl deprows, lst_nil]
  simp! only []
  refine ⟨fun q => hBd _ _ (pstep fun K8 hK8 => ?_), fun q => hK7 _ ?_⟩
  · have hne : rows ≠ [] := by
      intro z
      subst z
      simp at q
    have hk' := hk hne
    have hrl : rows.length ≤ 64 := by
      have := hM
      simp at this
      omega
    simp! only []
    refine pturns_filT tV (fun t => if A.signs[t.2.1]? ≠ B.signs[t.2.2]? then some (natV t.1) else none) (fun t ht kk hkk => ?_) ?_
    · obtain ⟨i1, i2⟩ := lev.rows_inr sA sB pA pB ht
      have m1 : A.signs[t.2.1]? = some (A.signs[t.2.1]'(by rw [okA.sg]; exact i1)) := List.getElem?_eq_getElem _
      have m2 : B.signs[t.2.2]? = some (B.signs[t.2.2]'(by rw [okB.sg]; exact i2)) := List.getElem?_eq_getElem _
      have v1 : (A.signs.map natV)[t.2.1]? = some (natV (A.signs[t.2.1]'(by rw [okA.sg]; exact i1))) := by rw [List.getElem?_map, m1]; rfl
      have v2 : (B.signs.map natV)[t.2.2]? = some (natV (B.signs[t.2.2]'(by rw [okB.sg]; exact i2))) := by rw [List.getElem?_map, m2]; rfl
      simp! only [tV, natV, row_val, atI_nat, v1, v2]
      simp only [m1, m2, ne_eq, Option.some.injEq] at hkk
      refine ⟨fun q2 => ?_, fun q2 => ?_⟩
      · have : ¬ (A.signs[t.2.1]'(by rw [okA.sg]; exact i1)) = (B.signs[t.2.2]'(by rw [okB.sg]; exact i2)) := by simp at q2; omega
        rw [if_pos this] at hkk
        exact hkk
      · have : (A.signs[t.2.1]'(by rw [okA.sg]; exact i1)) = (B.signs[t.2.2]'(by rw [okB.sg]; exact i2)) := by simp at q2; omega
        rw [if_neg (fun z => z this)] at hkk
        exact hkk
    · rw [fil_map (fun t : Nat × Nat × Nat => A.signs[t.2.1]? ≠ B.signs[t.2.2]?) (fun t => natV t.1)]
      generalize hU : (rows.filter fun t => decide (A.signs[t.2.1]? ≠ B.signs[t.2.2]?)) = U
      have hUm : ∀ t, t ∈ U ↔ t ∈ rows ∧ A.signs[t.2.1]? ≠ B.signs[t.2.2]? := fun t => by rw [← hU]; simp
      have eU : U.map (fun t => natV t.1) = (U.map (·.1)).map natV := by rw [List.map_map]; rfl
      have dU : Val.dats (U.map fun t => natV t.1) = true := dats_map _ (fun t => rfl) _
      have depU : Val.deps (U.map fun t => natV t.1) ≤ 90 := by
        have := deps_map (fun t : Nat × Nat × Nat => natV t.1) 0 (fun t => by simp [natV, Val.dep]) U
        omega
      refine hK8 _ (pstep fun K9 hK9 => pite_step fun A1 B1 hA1 hB1 => ?_)
      simp! only []
      rw [pNe_l dU rfl depU, lst_nil]
      simp! only []
      refine ⟨fun q2 => hA1 _ ?_, fun q2 => hB1 _ ?_⟩
      · have hUne : U ≠ [] := fun z => by rw [z] at q2; simp at q2
        simp! only [pBt_l, pBtL, eU]
        have : Val.ints ((U.map (·.1)).map natV) = some (U.map fun t => (t.1 : Int)) := by
          have := ints_map (fun t : Nat × Nat × Nat => (t.1 : Int)) U
          rw [List.map_map]
          exact this
        rw [this]
        refine ⟨by simp; exact List.length_pos_iff.mpr hUne, fun m hm hmin => ?_⟩
        obtain ⟨t, ht, rfl⟩ := List.mem_map.mp hm
        obtain ⟨t1, t2⟩ := (hUm t).mp ht
        obtain ⟨f1, f2⟩ := lev.first hb.1 sA sB pA pB cA cB okA.sg okB.sg (m := t.1) ⟨t, t1, rfl, t2⟩ fun u hu hu2 => by
          have := hmin u.1 (List.mem_map.mpr ⟨u, (hUm u).mpr ⟨hu, hu2⟩, rfl⟩)
          omega
        exact hyes t.1 f1 f2
      · have hUe : U = [] := by
          cases U with
          | nil => rfl
          | cons _ _ => simp at q2
        have hsame : ∀ t ∈ rows, A.signs[t.2.1]? = B.signs[t.2.2]? := fun t ht => by
          by_cases z : A.signs[t.2.1]? = B.signs[t.2.2]?
          · exact z
          · have := (hUm t).mpr ⟨ht, z⟩
            rw [hUe] at this
            cases this
        simp! only []
        refine hK9 _ (pstep fun K10 hK10 => ?_)
        simp! only []
        refine hK10 _ (pstep fun K11 hK11 => pfor_step fun B3 hB3 => ?_)
        simp! only []
        have hpow : b ^ k < 2 ^ 200 := pow_small hb.2 (by omega)
        refine pfor_invT tV (fun rest e => ∃ (D : List (Nat × Nat × Nat)) (v9 v10 v11 v14 v15 : Option PV), D ++ rest = rows ∧
            e = [some (.d (hallV b Rs)), some (.d (.int n)), some (.d (.int n2)), some (.d (.int b)), some (.d A.val), some (.d B.val), some (.l false (rows.map tV)), some (.m true (dT pvV (.bl true) (O ++ rows.map (·.2)))), some (.d (.int (b ^ k : Nat))), v9, v10, v11, some (.l true (U.map fun t => natV t.1)), some (.l true ((D.flatMap fun u => (List.range b).map (nxtT A.steps B.steps b k u)).map tV)), v14, v15]) ?_ ?_ _ _
          ⟨[], v9, v10, v11, v14, v15, rfl, rfl⟩
        · rintro t rest e ⟨D, w9, w10, w11, w14, w15, hD, rfl⟩
          have ht : t ∈ rows := by rw [← hD]; simp
          obtain ⟨i1, i2⟩ := lev.rows_inr sA sB pA pB ht
          have hDl : D.length ≤ 64 := by
            have := congrArg List.length hD
            simp at this
            omega
          simp! only [tV, natV]
          intro kk hkk
          refine hB3 _ _ (pstep fun K12 hK12 => pfor_step fun B4 hB4 => ?_)
          simp! only []
          refine ⟨by omega, by omega, ?_⟩
          rw [Int.toNat_natCast, range_natV, show (List.range b).map natV = (List.range' 0 b).map natV by rw [List.range_eq_range']]
          refine pfor_invT natV (fun rest2 e => ∃ (c : Nat) (v14 v15 : Option PV), rest2 = List.range' c (b - c) ∧ c ≤ b ∧
              e = [some (.d (hallV b Rs)), some (.d (.int n)), some (.d (.int n2)), some (.d (.int b)), some (.d A.val), some (.d B.val), some (.l false (rows.map tV)), some (.m true (dT pvV (.bl true) (O ++ rows.map (·.2)))), some (.d (.int (b ^ k : Nat))), some (.d (.int t.1)), some (.d (.int t.2.1)), some (.d (.int t.2.2)), some (.l true (U.map fun t => natV t.1)), some (.l true ((D.flatMap fun u => (List.range b).map (nxtT A.steps B.steps b k u)).map tV ++ ((List.range c).map (nxtT A.steps B.steps b k t)).map tV)), v14, v15]) ?_ ?_ _ _
            ⟨0, w14, w15, rfl, by omega, by simp [natV]⟩
          · rintro c rest2 e ⟨c', x14, x15, hr, hc, rfl⟩
            have hc' : c' < b := by
              by_cases z : c' < b
              · exact z
              · rw [show b - c' = 0 by omega] at hr; cases hr
            rw [show b - c' = (b - (c' + 1)) + 1 by omega, List.range'_succ] at hr
            injection hr with hx hr
            subst hx
            obtain ⟨ra, a1, a2, a3⟩ := step_get sA i1 hc'
            obtain ⟨rb, b1, b2, b3⟩ := step_get sB i2 hc'
            have va : (A.steps.map stV)[t.2.1]? = some (stV ra) := by rw [List.getElem?_map, a1]; rfl
            have vb : (B.steps.map stV)[t.2.2]? = some (stV rb) := by rw [List.getElem?_map, b1]; rfl
            have va2 : (ra.map natV)[c]? = some (natV (stepL A.steps t.2.1 c)) := by rw [List.getElem?_map, a3]; rfl
            have vb2 : (rb.map natV)[c]? = some (natV (stepL B.steps t.2.2 c)) := by rw [List.getElem?_map, b3]; rfl
            simp! only [natV]
            intro kk2 hkk2
            refine hB4 _ _ (pstep fun K13 hK13 => ?_)
            simp! only [row_val, atI_nat, va, vb, stV, va2, vb2, natV]
            refine hK13 _ ?_
            simp! only []
            refine ⟨mulOk_nat hpow (show c < 2 ^ 2 by omega) (by decide), ?_, hkk2 _ ⟨c + 1, some (.d (.int c)), some (.d (.tup [.int (stepL A.steps t.2.1 c), .int (stepL B.steps t.2.2 c)])), hr, by omega, ?_⟩⟩
            · have : ∀ D : List (Nat × Nat × Nat), D.length ≤ 64 → (D.flatMap fun u => (List.range b).map (nxtT A.steps B.steps b k u)).length ≤ D.length * 3 := by
                intro D
                induction D with
                | nil => intro _; simp
                | cons d D ih =>
                  intro h
                  have := ih (by simp at h; omega)
                  simp only [List.flatMap_cons, List.length_append, List.length_map, List.length_range, List.length_cons]
                  omega
              have := this D hDl
              simp only [List.length_append, List.length_map, List.length_range]
              unfold line
              omega
            · rw [List.range_succ, List.map_append, List.map_append]
              simp [nxtT, tV, natV, row_val]
          · rintro e ⟨c', x14, x15, hr, hc, rfl⟩
            have hcb : c' = b := by
              have := congrArg List.length hr
              simp at this
              omega
            subst hcb
            refine hK12 _ ?_
            simp! only []
            refine hkk _ ⟨D ++ [t], some (.d (.int t.1)), some (.d (.int t.2.1)), some (.d (.int t.2.2)), x14, x15, by simpa using hD, ?_⟩
            simp [natV]
        · rintro e ⟨D, w9, w10, w11, w14, w15, hD, rfl⟩
          rw [List.append_nil] at hD
          rw [hD]
          clear hD D
          refine hK11 _ (pstep fun K12 hK12 => ?_)
          simp! only []
          refine hK12 _ (pstep fun K13 hK13 => pfor_step fun B4 hB4 => ?_)
          simp! only [pBt_l, pBtL]
          refine .inr (.inr ⟨_, itups_map _, fun ns hns => ?_, fun mss hp hs => ?_⟩)
          · obtain ⟨t, _, rfl⟩ := List.mem_map.mp hns
            simp [iT]
          · obtain ⟨us, hu1, rfl⟩ := perm_iT hp
            have hsort : us.Pairwise fun a c => a.1 ≤ c.1 := (List.pairwise_map.mp hs).imp fun h => lex_place h
            have emap : ((us.map iT).map fun ns => Val.tup (ns.map .int)) = us.map tV := by
              rw [List.map_map]
              rfl
            rw [emap]
            generalize hMo : O ++ rows.map (·.2) = M at *
            have husm : ∀ t, t ∈ us ↔ ∃ u ∈ rows, ∃ c, c < b ∧ t = nxtT A.steps B.steps b k u c := fun t => by
              rw [hu1.mem_iff]
              simp only [List.mem_flatMap, List.mem_map, List.mem_range]
              constructor
              · rintro ⟨u, hu, c, hc, rfl⟩
                exact ⟨u, hu, c, hc, rfl⟩
              · rintro ⟨u, hu, c, hc, rfl⟩
                exact ⟨u, hu, c, hc, rfl⟩
            refine pfor_invT tV (fun rest e => ∃ (P rows2 : List (Nat × Nat × Nat)) (v9 v10 v11 : Option PV), P ++ rest = us ∧ (∀ t ∈ rows2, t ∈ P) ∧ (∀ t ∈ P, t.2 ∈ M ∨ ∃ t2 ∈ rows2, t2.2 = t.2 ∧ t2.1 ≤ t.1) ∧ (M ++ rows2.map (·.2)).Nodup ∧
                e = [some (.d (hallV b Rs)), some (.d (.int n)), some (.d (.int n2)), some (.d (.int b)), some (.d A.val), some (.d B.val), some (.l true (rows2.map tV)), some (.m true (dT pvV (.bl true) (M ++ rows2.map (·.2)))), some (.d (.int (b ^ k : Nat))), v9, v10, v11, some (.l true (U.map fun t => natV t.1)), some (.l true ((rows.flatMap fun u => (List.range b).map (nxtT A.steps B.steps b k u)).map tV)), w14, w15]) ?_ ?_ _ _
              ⟨[], [], w9, w10, w11, rfl, by simp, by simp, by simpa using hnd, by simp⟩
            · rintro t rest e ⟨P, rows2, x9, x10, x11, hP, hr1, hr2, hnd2, rfl⟩
              have htu : t ∈ us := by rw [← hP]; simp
              have hinM2 : ∀ p ∈ M ++ rows2.map (·.2), p.1 < A.steps.length ∧ p.2 < B.steps.length := fun p hp => by
                rcases List.mem_append.mp hp with z | z
                · exact hinM p z
                · obtain ⟨t2, ht2, rfl⟩ := List.mem_map.mp z
                  obtain ⟨u, hu, c, hc, e⟩ := (husm t2).mp (by rw [← hP]; exact List.mem_append.mpr (.inl (hr1 t2 ht2)))
                  rw [e]
                  exact ⟨step_lt sA pA _ _, step_lt sB pB _ _⟩
              have hM2 := bound _ hnd2 hinM2
              have hPs : ∀ x ∈ P, x.1 ≤ t.1 := fun x hx => by
                rw [← hP] at hsort
                exact (List.pairwise_append.mp hsort).2.2 x hx t (by simp)
              simp! only [tV, natV]
              intro kk hkk
              refine hB4 _ _ (pstep fun K14 hK14 => pite_step fun A5 B5 hA5 hB5 => ?_)
              have ekey : Val.tup [.int t.2.1, .int t.2.2] = pvV t.2 := rfl
              simp! only []
              rw [ekey, dget_dT fun a b => pvV_nk]
              refine ⟨kind_dT pvV_key, ?_⟩
              by_cases hm : t.2 ∈ M ++ rows2.map (·.2)
              · rw [if_pos hm]
                refine ⟨fun z => (by cases z), fun _ => hB5 _ ?_⟩
                simp! only []
                refine hK14 _ ?_
                simp! only []
                refine hkk _ ⟨P ++ [t], rows2, some (.d (.int t.1)), some (.d (.int t.2.1)), some (.d (.int t.2.2)), by simpa using hP, fun x hx => by simp [hr1 x hx], fun x hx => ?_, hnd2, rfl⟩
                rcases List.mem_append.mp hx with z | z
                · exact hr2 x z
                · simp at z
                  subst z
                  rcases List.mem_append.mp hm with q | q
                  · exact .inl q
                  · obtain ⟨t2, ht2, e⟩ := List.mem_map.mp q
                    exact .inr ⟨t2, ht2, e, hPs t2 (hr1 t2 ht2)⟩
              · rw [if_neg hm]
                refine ⟨fun _ => hA5 _ (pstep fun K15 hK15 => ?_), fun z => (by cases z)⟩
                simp! only []
                rw [ekey, dput_dT (fun a b => pvV_nk) hm, dT_len]
                refine ⟨kind_dT pvV_key, by unfold line; omega, hK15 _ ?_⟩
                simp! only []
                refine ⟨?_, hK14 _ ?_⟩
                · have := hM2
                  simp at this
                  unfold line
                  omega
                · simp! only []
                  refine hkk _ ⟨P ++ [t], rows2 ++ [t], some (.d (.int t.1)), some (.d (.int t.2.1)), some (.d (.int t.2.2)), by simpa using hP, fun x hx => ?_, fun x hx => ?_, ?_, ?_⟩
                  · rcases List.mem_append.mp hx with z | z
                    · simp [hr1 x z]
                    · simp at z; simp [z]
                  · rcases List.mem_append.mp hx with z | z
                    · rcases hr2 x z with q | ⟨t2, q1, q2⟩
                      · exact .inl q
                      · exact .inr ⟨t2, by simp [q1], q2⟩
                    · simp at z
                      subst z
                      exact .inr ⟨x, by simp, rfl, Nat.le_refl _⟩
                  · rw [List.map_append, ← List.append_assoc, List.nodup_append]
                    refine ⟨hnd2, by simp, fun a ha c hc => ?_⟩
                    simp at hc
                    subst hc
                    exact fun z => hm (z ▸ ha)
                  · simp [tV, natV]
            · rintro e ⟨P, rows2, x9, x10, x11, hP, hr1, hr2, hnd2, rfl⟩
              rw [List.append_nil] at hP
              subst hP
              have hinM2 : ∀ p ∈ M ++ rows2.map (·.2), p.1 < A.steps.length ∧ p.2 < B.steps.length := fun p hp => by
                rcases List.mem_append.mp hp with z | z
                · exact hinM p z
                · obtain ⟨t2, ht2, rfl⟩ := List.mem_map.mp z
                  obtain ⟨u, hu, c, hc, e⟩ := (husm t2).mp (hr1 t2 ht2)
                  rw [e]
                  exact ⟨step_lt sA pA _ _, step_lt sB pB _ _⟩
              have hM2 := bound _ hnd2 hinM2
              have lev2 : Lev A.steps B.steps A.signs B.signs b (k + 1) M rows2 := by
                rw [← hMo]
                refine lev.next sA sB pA pB hsame (fun t ht => ?_) fun u hu c hc => ?_
                · obtain ⟨u, hu, c, hc, e⟩ := (husm t).mp (hr1 t ht)
                  exact ⟨u, hu, c, hc, e⟩
                · have := hr2 (nxtT A.steps B.steps b k u c) ((husm _).mpr ⟨u, hu, c, hc, rfl⟩)
                  rw [hMo]
                  exact this
              refine hK13 _ ?_
              simp! only []
              refine ⟨mulOk_nat hpow (show b < 2 ^ 2 by omega) (by decide), _, ?_, k + 1, M, rows2, x9, x10, x11, some (.l true (U.map fun t => natV t.1)), some (.l true ((rows.flatMap fun u => (List.range b).map (nxtT A.steps B.steps b k u)).map tV)), w14, w15, lev2, hnd2, fun z => ?_, rfl, ?_⟩
              · rw [if_neg hne]
                have : (M ++ rows2.map (·.2)).length = M.length + rows2.length := by simp
                by_cases z : rows2 = []
                · rw [if_pos z]
                  subst z
                  simp
                · rw [if_neg z]
                  have := List.length_pos_iff.mpr z
                  omega
              · have : (M ++ rows2.map (·.2)).length = M.length + rows2.length := by simp
                have := List.length_pos_iff.mpr z
                omega
              · simp [Nat.pow_succ]
  · have hne : rows = [] := by
      cases rows with
      | nil => rfl
      | cons _ _ => simp at q
    subst hne
    simp! only []
    refine hno fun m => ?_
    have hf : Figs b (digs b m) := digs_lt hb.1 m
    have := lev.none hb.1 sA sB pA pB (digs b m) hf
    unfold sgn
    rw [this]
end DL

set_option autoImplicit true
set_option Elab.async false
set_option autoImplicit false
set_option linter.all false
set_option maxRecDepth 100000
set_option maxHeartbeats 8000000
/-! Own layer, plain: draws at the pure level; laws. -/
namespace DL
open PySem
def ls_hall : LSpec := fun vs S Q => match vs with
  | [.d (.lst sc), .l _ ms, .d (.int most)] => ∃ (ns : List Int) (m : Nat), sc = ns.map .int ∧ ms = [.int m] ∧ (1 ≤ most ∧ most ≤ 8) ∧
      ∀ (base : Nat) (Rs : List Row) (j : Nat), (2 ≤ base ∧ base ≤ 3) → (1 ≤ Rs.length ∧ Rs.length ≤ 2) → (∀ R ∈ Rs, R.Ok base ∧ (R.steps.length : Int) ≤ most) → Q (hallV base Rs) [.int j]
  | _ => False
theorem lend3 {ls : LSpec} {vs : List Val} {S : Sto} {Q : KV} {E : Nat → Sto → Prop} (h : upL ls vs S Q E) : ∃ (v0 : Val) (b : Addr) (vr : List Val) (r0 : PV) (xs : List Val) (prs : List PV) (S0 : Sto) (Qp : Val → List Val → Prop), vs = v0 :: .ref b :: vr ∧ Sto.le S0 S ∧ S b = some (.lst xs) ∧ ArgR1 S v0 r0 ∧ ArgR S vr prs ∧
    ls (r0 :: .l false xs :: prs) S0 Qp ∧ ∀ v xs', Qp v xs' → Q v (up S b (.lst xs')) := by
  obtain ⟨v0, b, vr, r0, xs, prs, S0, Qp, h1, h2, h3, h4, h5, h6, h7, h8⟩ := h
  exact ⟨v0, b, vr, r0, xs, prs, S0, Qp, h1, h2, h4, h5, h6, h7, h8⟩
theorem up_hall (vs : List Val) (S : Sto) (Q : KV) (E : Nat → Sto → Prop) (h : upL ls_hall vs S Q E) : sp_hall vs S Q E := by
  obtain ⟨v0, b, vr, r0, xs, prs, S0, Qp, rfl, le, hb, a0, ar, hl, hq⟩ := lend3 h
  unfold ls_hall at hl
  split at hl
  · rename_i sc o ms most heq
    simp only [List.cons.injEq, PV.l.injEq] at heq
    obtain ⟨rfl, ⟨_, rfl⟩, rfl⟩ := heq
    obtain ⟨ns, m, rfl, rfl, hm, hh⟩ := hl
    have e0 : v0 = .lst (ns.map .int) := a0
    subst e0
    match vr, ar with
    | [v], ar =>
      have e1 : v = .int most := ar.1
      subst e1
      exact ⟨ns, m, rfl, hb, hm, fun base Rs j h1 h2 h3 => hq _ _ (hh base Rs j h1 h2 h3)⟩
    | [], ar => exact ar.elim
    | _ :: _ :: _, ar => exact ar.2.elim
  · exact hl.elim
/-- a law: True, whatever the script -/
def ps_law : PSpec := fun vs S Q _ => match vs with
  | [.d (.lst sc)] => ∃ ns : List Int, sc = ns.map .int ∧ Q (.d (.bl true))
  | _ => False
def sp_plaw : Spec := fun vs S Q _ => match vs with
  | [.lst sc] => ∃ ns : List Int, sc = ns.map .int ∧ ∀ S', Q (.bl true) S'
  | _ => False
theorem law_wk {G : Cfg} {N : List Str} {b : Sms} (h : Wk G (up1 ps_law) N b) : Wk G sp_plaw N b := by
  intro args S Q E hs
  unfold sp_plaw at hs
  split at hs
  · rename_i sc
    obtain ⟨ns, rfl, hq⟩ := hs
    refine h _ S Q E (up1_d (vs := [.lst (ns.map .int)]) ⟨ns, rfl, hq S⟩)
  · exact hs.elim
theorem enumL_cons (n : Nat) (x : Val) (xs : List Val) : enumL n (x :: xs) = .tup [.int n, x] :: enumL (n + 1) xs := rfl
/-- equal signs at all places: equal marks behind all letters -/
theorem words_all {stA stB : List (List Nat)} {msA msB : List Nat} {b : Nat} (okA : StOk stA b) (okB : StOk stB b) (pA : 0 < stA.length) (pB : 0 < stB.length) (h : ∀ w, Figs b w → msA[runL stA 0 w]? = msB[runL stB 0 w]?) : ∀ w, msA[runL stA 0 w]? = msB[runL stB 0 w]? := by
  have out : ∀ (st : List (List Nat)) (ok : StOk st b) (s c : Nat), s < st.length → ¬ c < b → stepL st s c = 0 := by
    intro st ok s c hs hc
    unfold stepL
    rw [List.getElem?_eq_getElem hs]
    simp only [Option.getD_some]
    rw [List.getElem?_eq_none (by rw [ok.wide _ (List.getElem_mem hs)]; omega)]
    rfl
  have key : ∀ (w u : List Nat), Figs b u → msA[runL stA (runL stA 0 u) w]? = msB[runL stB (runL stB 0 u) w]? := by
    intro w
    induction w with
    | nil => intro u hu; exact h u hu
    | cons c w ih =>
      intro u hu
      by_cases hc : c < b
      · have := ih (u ++ [c]) fun d hd => by
          rcases List.mem_append.mp hd with z | z
          · exact hu d z
          · simp at z; omega
        rw [runL_app, runL_app] at this
        exact this
      · rw [runL_cons, runL_cons, out stA okA _ _ (run_lt okA pA u 0 pA) hc, out stB okB _ _ (run_lt okB pB u 0 pB) hc]
        exact ih [] fun d hd => by cases hd
  exact fun w => key w [] fun d hd => by cases hd
end DL

set_option autoImplicit true
set_option Elab.async false
set_option autoImplicit false
set_option linter.all false
set_option maxRecDepth 100000
set_option maxHeartbeats 4000000
/-! Own layer, plain: walked (states of an object that steps). -/
namespace DL
open PySem
local macro_rules
  | `(tactic| simp! only [$ls,*]) => `(tactic| try simp only [pSs, pS, pE, pEs, pO, pI, pIs, pC, pIf, pAsg, pAsgs, pSetI, pRet, pX, pMove, pUn, pBin, pLt_i, pLe_i, pGt_i, pGe_i, pLt_t, pEq_i, pNe_i, pEq_s, pNe_s, pEq_b, pNe_b, pIn_m, pNin_m, pSub_l, pSub_tup, pSub_lst, pSub_m, pSub_str, pSlice, pBt_len_l, pBt_tuple_l, pBt_list_l, pBt_len_m, pBt_len_tup, pBt_len_lst, pBt_len_str, pBt_list_tup, pBt_tuple_tup, pBt_int_int, pBt_int_bl, pBt_max2, pBt_min2, pBt_str_int, pIsi, pRecv, pMt, wBin, wSub, wSlice, wBt, wRng, startP_cons, startP_nil, List.replicate, getP_0, getP_s, withO_s, withB_b, withD_d, withPB_d, withPI_d, bor_d, bor_l, bor_m, isP_d, isP_l, isP_m, okA_d, okA_l, okA_m, lof_l, lof_m, lof_int, lof_bl, lof_str, lof_non, lof_tup, lof_lst, dof_l, dof_m, dof_int, dof_bl, dof_str, dof_non, dof_tup, dof_lst, dvl_int, dvl_bl, dvl_str, dvl_non, dvl_tup, dvl_lst, ds_nil, ds_cons, omap_some, pSee_d, iterP_l, iterP_tup, enP_l, enP_tup, pLend, see_int, see_bl, see_str, see_non, dep_int, dep_bl, dep_str, dep_non, Nat.zero_min, Nat.min_zero, Nat.zero_le, bindP_one, bindP_two, bindP_three, List.set_cons_zero, List.set_cons_succ, wipeP, Nat.zero_add, atI_0, atI_1, atI_2, atI_3, isV, frz, frz1, Bool.or_false, Bool.or_true, Bool.true_or, Bool.false_or, true_imp_iff, false_imp_iff, Bool.not_false, Bool.not_true, reduceCtorEq, and_true, true_and, List.length_cons, List.length_nil, List.map_cons, List.map_nil, List.length_map, tt_and, ff_and, $ls,*])
  | `(tactic| simp! only [$ls,*] $loc:location) => `(tactic| try simp only [pSs, pS, pE, pEs, pO, pI, pIs, pC, pIf, pAsg, pAsgs, pSetI, pRet, pX, pMove, pUn, pBin, pLt_i, pLe_i, pGt_i, pGe_i, pLt_t, pEq_i, pNe_i, pEq_s, pNe_s, pEq_b, pNe_b, pIn_m, pNin_m, pSub_l, pSub_tup, pSub_lst, pSub_m, pSub_str, pSlice, pBt_len_l, pBt_tuple_l, pBt_list_l, pBt_len_m, pBt_len_tup, pBt_len_lst, pBt_len_str, pBt_list_tup, pBt_tuple_tup, pBt_int_int, pBt_int_bl, pBt_max2, pBt_min2, pBt_str_int, pIsi, pRecv, pMt, wBin, wSub, wSlice, wBt, wRng, startP_cons, startP_nil, List.replicate, getP_0, getP_s, withO_s, withB_b, withD_d, withPB_d, withPI_d, bor_d, bor_l, bor_m, isP_d, isP_l, isP_m, okA_d, okA_l, okA_m, lof_l, lof_m, lof_int, lof_bl, lof_str, lof_non, lof_tup, lof_lst, dof_l, dof_m, dof_int, dof_bl, dof_str, dof_non, dof_tup, dof_lst, dvl_int, dvl_bl, dvl_str, dvl_non, dvl_tup, dvl_lst, ds_nil, ds_cons, omap_some, pSee_d, iterP_l, iterP_tup, enP_l, enP_tup, pLend, see_int, see_bl, see_str, see_non, dep_int, dep_bl, dep_str, dep_non, Nat.zero_min, Nat.min_zero, Nat.zero_le, bindP_one, bindP_two, bindP_three, List.set_cons_zero, List.set_cons_succ, wipeP, Nat.zero_add, atI_0, atI_1, atI_2, atI_3, isV, frz, frz1, Bool.or_false, Bool.or_true, Bool.true_or, Bool.false_or, true_imp_iff, false_imp_iff, Bool.not_false, Bool.not_true, reduceCtorEq, and_true, true_and, List.length_cons, List.length_nil, List.map_cons, List.map_nil, List.length_map, tt_and, ff_and, $ls,*] $loc:location)

def n_walked : List Str := ["walker", "first", "met", "row", "steps", "made", "figure", "to", "state"]
def b_walked : Sms :=
  (.cons (.asg 2 (.dict1 (.var 1) (.int 0)))
  (.cons (.asg 3 (.lst (.cons (.var 1) .nil)))
  (.cons (.asg 4 (.lst .nil))
  (.cons (.while (.cmp .lt (.blt .len (.cons (.var 4) .nil)) (.blt .len (.cons (.var 3) .nil)))
    (.cons (.asg 5 (.lst .nil))
      (.cons (.for (.one 6) (.rng (.cons (.fld (.var 0) "base") .nil))
        (.cons (.asg 7 (.umeth (.var 0) "step" (.cons (.sub (.var 3) (.blt .len (.cons (.var 4) .nil))) (.cons (.var 6) .nil))))
          (.cons (.ite (.cmp .notin (.var 7) (.var 2))
            (.cons (.setI (.var 2) (.var 7) (.blt .len (.cons (.var 3) .nil)))
              (.cons (.expr (.meth (.var 3) .append (.cons (.var 7) .nil)))
              .nil))
            .nil)
          (.cons (.expr (.meth (.var 5) .append (.cons (.sub (.var 2) (.var 7)) .nil)))
          .nil))))
      (.cons (.expr (.meth (.var 4) .append (.cons (.blt .tuple (.cons (.var 5) .nil)) .nil)))
      .nil))))
  (.cons (.ret (.call 11 (.cons (.var 4) (.cons (.comp (.mk (.one 8) [8] (.umeth (.var 0) "sign" (.cons (.var 8) .nil)) (.val (.var 3)) .none)) .nil))))
  .nil)))))

/-- the run of an object's states -/
def runA {α : Type} (stp : α → Nat → α) : α → List Nat → α
  | a, [] => a
  | a, d :: w => runA stp (stp a d) w
theorem runA_app {α : Type} (stp : α → Nat → α) : ∀ (u : List Nat) (a : α) (w : List Nat), runA stp a (u ++ w) = runA stp (runA stp a u) w
  | [], _, _ => rfl
  | d :: u, a, w => runA_app stp u _ w
abbrev MTab := Nat → Str → Option PSpec
/-- an object that steps: its states, steps and signs, as the methods tell -/
structure Walker (mt : MTab) (S : Sto) (p : Addr) {α β : Type} (enc : α → Val) (mk : β → Val) (stp : α → Nat → α) (sg : α → β) (R : α → Prop) (b N kc c : Nat) : Prop where
  obj : ∃ fs, S p = some (.ins c fs) ∧ fs.lookup ("base" : Str) = some (.int b) ∧ fs.lookup ("step" : Str) = none ∧ fs.lookup ("sign" : Str) = none
  nxt : ∀ a d, R a → d < b → R (stp a d)
  step : ∃ ps, mt c "step" = some ps ∧ ∀ a d (Q : PK), R a → d < b → Q (.d (enc (stp a d))) → ps [.d (.ref p), .d (enc a), .d (.int d)] S Q noP
  sign : ∃ ps, mt c "sign" = some ps ∧ ∀ a (Q : PK), R a → Q (.d (mk (sg a))) → ps [.d (.ref p), .d (enc a)] S Q noP
  key : ∀ a, modKey (enc a) = true ∧ kcl (enc a) = kc
  few : ∀ L : List α, (∀ a ∈ L, R a) → (L.map fun a => (enc a).nk).Nodup → L.length ≤ N
  small : N < 2 ^ 23 ∧ b < 2 ^ 23
  same : ∀ a a', R a → R a' → (enc a).nk = (enc a').nk → (∀ d, d < b → (enc (stp a d)).nk = (enc (stp a' d)).nk) ∧ sg a = sg a'
def ps_walked (mt : MTab) : PSpec := fun vs S Q _ => match vs with
  | [.d (.ref p), .d v0] => ∃ (α β : Type) (enc : α → Val) (mk : β → Val) (stp : α → Nat → α) (sg : α → β) (R : α → Prop) (b N kc c mc : Nat) (a0 : α), Walker mt S p enc mk stp sg R b N kc c ∧ Mks mk mc ∧ R a0 ∧ v0 = enc a0 ∧
      ∀ st2 ms2 T, (∀ w, Figs b w → T w = sg (runA stp a0 w)) → Least b st2 ms2 T → st2.length ≤ N → Q (.d (.tup [.tup (st2.map stV), .tup (ms2.map mk)]))
  | _ => False
structure PWalkG (g : PCfg) (mt : MTab) : Prop where
  f11 : g.fn 11 = some ps_merged
  mts : ∀ c m, g.mt c m = mt c m
theorem Bfs.stOk {α : Type} {key : α → NestedKey} {nxt : α → List α} {a0 : α} {L : List α} {made : List (List Nat)} {b : Nat} (h : Bfs key nxt a0 L made []) (hl : made.length = L.length) (hb : ∀ a ∈ L, (nxt a).length = b) : StOk made b := by
  refine ⟨fun r hr => ?_, fun r hr t ht => ?_⟩
  all_goals
    obtain ⟨i, hi, rfl⟩ := List.getElem_of_mem hr
    obtain ⟨s, h1, h2, h3⟩ := h.rows i hi
    rw [List.getElem?_eq_getElem hi] at h3
    injection h3 with h3
  · rw [h3, List.length_map]
    exact hb s (List.mem_of_getElem? h1)
  · rw [h3] at ht
    obtain ⟨u, hu, rfl⟩ := List.mem_map.mp ht
    have := place_lt (h2 u hu)
    rw [List.length_map] at this
    omega
/-- the numbered machine runs as the object -/
theorem bfs_run {mt : MTab} {S : Sto} {p : Addr} {α β : Type} {enc : α → Val} {mk : β → Val} {stp : α → Nat → α} {sg : α → β} {R : α → Prop} {b N kc c : Nat} (W : Walker mt S p enc mk stp sg R b N kc c) {a0 : α} {L : List α} {made : List (List Nat)}
    (h : Bfs (fun a => (enc a).nk) (fun a => (List.range b).map (stp a)) a0 L made []) (hl : made.length = L.length) (hR : ∀ a ∈ L, R a) : ∀ (w : List Nat) (i : Nat) (a s : α), Figs b w → R a → L[i]? = some s → (enc s).nk = (enc a).nk → ∃ s', L[runL made i w]? = some s' ∧ (enc s').nk = (enc (runA stp a w)).nk ∧ sg s' = sg (runA stp a w)
  | [], i, a, s, _, hRa, hs, e => ⟨s, hs, e, (W.same s a (hR s (List.mem_of_getElem? hs)) hRa e).2⟩
  | d :: w, i, a, s, hw, hRa, hs, e => by
    have hd : d < b := hw d (by simp)
    have hRs := hR s (List.mem_of_getElem? hs)
    have hi : i < made.length := by rw [hl]; exact (List.getElem?_eq_some_iff.mp hs).1
    obtain ⟨s2, h1, h2, h3⟩ := h.rows i hi
    rw [hs] at h1
    cases h1
    have hm := h2 (stp s d) (List.mem_map.mpr ⟨d, List.mem_range.mpr hd, rfl⟩)
    have e1 : stepL made i d = place (enc (stp s d)).nk (L.map fun a => (enc a).nk) := by
      unfold stepL
      rw [h3]
      simp [hd]
    obtain ⟨s3, e2, hg⟩ := place_get (fun a => (enc a).nk) hm
    rw [runL_cons, e1]
    exact bfs_run W h hl hR w _ (stp a d) s3 (fun x hx => hw x (by simp [hx])) (W.nxt a d hRa hd) e2 (hg.trans ((W.same s a hRs hRa e).1 d hd))
theorem w_walked {g : PCfg} {mt : MTab} (G : PWalkG g mt) : Wp g (ps_walked mt) n_walked b_walked := by
  intro args S Q E h
  unfold ps_walked at h
  split at h <;> first | contradiction | skip
  rename_i p v0
  obtain ⟨α, β, enc, mk, stp, sg, R, b, N, kc, c, mc, a0, W, M, hR0, rfl, h2⟩ := h
  obtain ⟨fs, hobj, hbase, hstep, hsign⟩ := W.obj
  obtain ⟨psS, hmS, hS⟩ := W.step
  obtain ⟨psG, hmG, hG⟩ := W.sign
  have hN := W.small.1
  have hbb := W.small.2
  unfold b_walked
  refine pstep fun K hK => ?_
  simp! only [n_walked]
  refine ⟨kind_dctN (known := []) (c := kc) (fun k hk => by cases hk) (W.key a0), hK _ (pstep fun K2 hK2 => ?_)⟩
  simp! only []
  refine hK2 _ (pstep fun K3 hK3 => ?_)
  simp! only []
  refine hK3 _ (pstep fun K4 hK4 => ?_)
  refine pwhile_step (fun m e => ∃ (L : List α) (made : List (List Nat)) (v5 v6 v7 : Option PV), Bfs (fun a => (enc a).nk) (fun a => (List.range b).map (stp a)) a0 L made [] ∧ (∀ s ∈ L, R s) ∧ m = N - made.length ∧
      e = [some (.d (.ref p)), some (.d (enc a0)), some (.m true (dctN 0 (L.map enc))), some (.l true (L.map enc)), some (.l true (made.map stV)), v5, v6, v7, none])
    ⟨_, [a0], [], none, none, none, .start, by simpa using hR0, rfl, rfl⟩ ?_
  rintro B hB m e ⟨L, made, v5, v6, v7, bb, hL, rfl, rfl⟩
  have kinds : ∀ (L : List α) (x : α), kindOk (dctN 0 (L.map enc)) (enc x) = true := fun L x => kind_dctN (c := kc) (fun k hk => by
    obtain ⟨s, _, rfl⟩ := List.mem_map.mp hk
    exact (W.key s).2) (W.key x)
  have dg : ∀ (L : List α) (x : α), dget (dctN 0 (L.map enc)) (enc x) = if (enc x).nk ∈ L.map (fun a => (enc a).nk) then some (natV (place (enc x).nk (L.map fun a => (enc a).nk))) else none := fun L x => by
    rw [dget_dctN, List.map_map, Nat.zero_add]
    rfl
  simp! only [List.length_map]
  refine ⟨fun q => hB _ _ (pstep fun K8 hK8 => ?_), fun q => hK4 _ ?_⟩
  · have hlt : made.length < L.length := by simpa using q
    have hLn := W.few L hL bb.nodup
    simp! only []
    refine hK8 _ (pstep fun K9 hK9 => pfor_step fun B2 hB2 => ?_)
    have es : (L.map enc)[made.length]? = some (enc L[made.length]) := by rw [List.getElem?_map, List.getElem?_eq_getElem hlt]; rfl
    have hs : R L[made.length] := hL _ (List.getElem_mem hlt)
    simp! only [hobj, hbase]
    refine ⟨by omega, by omega, ?_⟩
    rw [Int.toNat_natCast, range_natV]
    refine pfor_invT natV (fun rest e => ∃ (L2 : List α) (done : List Nat) (v6 v7 : Option PV), Bfs (fun a => (enc a).nk) (fun a => (List.range b).map (stp a)) a0 L2 made ((done.map (stp L[made.length])).map fun t => place (enc t).nk (L2.map fun a => (enc a).nk)) ∧ (∀ s ∈ L2, R s) ∧ done ++ rest = List.range b ∧ (∀ t ∈ done, (enc (stp L[made.length] t)).nk ∈ L2.map fun a => (enc a).nk) ∧ L2[made.length]? = some L[made.length] ∧
        e = [some (.d (.ref p)), some (.d (enc a0)), some (.m true (dctN 0 (L2.map enc))), some (.l true (L2.map enc)), some (.l true (made.map stV)), some (.l true ((done.map fun t => place (enc (stp L[made.length] t)).nk (L2.map fun a => (enc a).nk)).map natV)), v6, v7, none]) ?_ ?_ _ _
      ⟨L, [], v6, v7, by simpa using bb, hL, rfl, by simp, List.getElem?_eq_getElem hlt, rfl⟩
    · rintro t rest e ⟨L2, done, w6, w7, b2, hL2, hd, hin, hLs, rfl⟩
      have ht : t < b := List.mem_range.mp (by rw [← hd]; simp)
      have hlen : done.length < line := by
        have := congrArg List.length hd
        simp only [List.length_append, List.length_cons, List.length_range] at this
        unfold line
        omega
      have hL2n := W.few L2 hL2 b2.nodup
      have es2 : (L2.map enc)[made.length]? = some (enc L[made.length]) := by rw [List.getElem?_map, hLs]; rfl
      simp! only []
      intro k hk
      refine hB2 _ _ (pstep fun K10 hK10 => ?_)
      simp! only [natV, atI_nat, es2, hobj, hstep, G.mts, hmS]
      refine hS _ t _ hs ht ?_
      simp! only []
      refine hK10 _ (pstep fun K11 hK11 => pite_step fun A B3 hA hB3 => ?_)
      simp! only [kinds, dg]
      by_cases hm : (enc (stp L[made.length] t)).nk ∈ L2.map (fun a => (enc a).nk)
      · simp! only [if_pos hm, Option.isNone_some]
        refine hB3 _ ?_
        simp! only []
        refine hK11 _ ?_
        simp! only [kinds, dg, if_pos hm]
        refine ⟨hlen, hk _ ⟨L2, done ++ [t], some (.d (.int t)), some (.d (enc (stp L[made.length] t))), by simpa using b2.old hm, hL2, by simpa using hd, fun u hu => ?_, hLs, ?_⟩⟩
        · rcases List.mem_append.mp hu with z | z
          · exact hin u z
          · simp at z; rw [z]; exact hm
        · simp [natV]
      · simp! only [if_neg hm, Option.isNone_none]
        have hput : dput (dctN 0 (L2.map enc)) (enc (stp L[made.length] t)) (natV L2.length) = dctN 0 ((L2 ++ [stp L[made.length] t]).map enc) := by
          have := dput_dctN (k := enc (stp L[made.length] t)) (L2.map enc) 0 (by rw [List.map_map]; exact hm)
          simpa using this
        have hmem : (enc (stp L[made.length] t)).nk ∈ (L2 ++ [stp L[made.length] t]).map (fun a => (enc a).nk) := by simp
        have hpl : place (enc (stp L[made.length] t)).nk ((L2 ++ [stp L[made.length] t]).map (fun a => (enc a).nk)) = L2.length := by
          rw [List.map_append, List.map_cons, List.map_nil]
          have : ∀ l : List NestedKey, (enc (stp L[made.length] t)).nk ∉ l → place (enc (stp L[made.length] t)).nk (l ++ [(enc (stp L[made.length] t)).nk]) = l.length := by
            intro l
            induction l with
            | nil => intro _; simp [place]
            | cons x l ih =>
              intro hx
              simp only [List.cons_append, place]
              rw [if_neg fun z => hx (by rw [z]; simp), ih fun z => hx (by simp [z])]
              rfl
          rw [this _ hm, List.length_map]
        refine hA _ (pstep fun K12 hK12 => ?_)
        simp! only [kinds, List.length_map, dctN_len]
        simp only [natV] at hput
        refine ⟨by unfold line; omega, hK12 _ ?_⟩
        simp! only []
        refine ⟨by unfold line; omega, hK11 _ ?_⟩
        simp! only []
        rw [hput]
        simp! only [kinds, dg, if_pos hmem, hpl]
        refine ⟨hlen, hk _ ⟨L2 ++ [stp L[made.length] t], done ++ [t], some (.d (.int t)), some (.d (enc (stp L[made.length] t))), ?_, fun s hs' => ?_, by simpa using hd, fun u hu => ?_, ?_, ?_⟩⟩
        · have := b2.new hm
          have e : ((done.map (stp L[made.length])).map fun u => place (enc u).nk ((L2 ++ [stp L[made.length] t]).map (fun a => (enc a).nk))) = (done.map (stp L[made.length])).map fun u => place (enc u).nk (L2.map (fun a => (enc a).nk)) := List.map_congr_left fun u hu => by
            obtain ⟨u', hu', rfl⟩ := List.mem_map.mp hu
            rw [List.map_append, place_app (hin u' hu')]
          rw [List.map_append (l₁ := done), List.map_append (l₁ := done.map _), e]
          simp only [List.map_cons, List.map_nil, hpl]
          exact this
        · rcases List.mem_append.mp hs' with z | z
          · exact hL2 s z
          · simp at z; rw [z]; exact W.nxt _ _ hs ht
        · rcases List.mem_append.mp hu with z | z
          · rw [List.map_append]; exact List.mem_append.mpr (.inl (hin u z))
          · simp at z; rw [z]; exact hmem
        · rw [List.getElem?_append_left (List.getElem?_eq_some_iff.mp hLs).1]
          exact hLs
        · have e : (done.map fun u => place (enc (stp L[made.length] u)).nk ((L2 ++ [stp L[made.length] t]).map (fun a => (enc a).nk))) = done.map fun u => place (enc (stp L[made.length] u)).nk (L2.map (fun a => (enc a).nk)) := List.map_congr_left fun u hu => by rw [List.map_append, place_app (hin u hu)]
          have e' : ((done ++ [t]).map fun u => place (enc (stp L[made.length] u)).nk ((L2 ++ [stp L[made.length] t]).map (fun a => (enc a).nk))) = (done.map fun u => place (enc (stp L[made.length] u)).nk (L2.map (fun a => (enc a).nk))) ++ [L2.length] := by rw [List.map_append, e]; simp only [List.map_cons, List.map_nil, hpl]
          rw [e']
          simp [natV]
    · rintro e ⟨L2, done, w6, w7, b2, hL2, hd, hin, hLs, rfl⟩
      have hL2n := W.few L2 hL2 b2.nodup
      rw [List.append_nil] at hd
      refine hK9 _ ?_
      simp! only []
      have hfl : (metN [0] made.flatten).length > made.length := bb.ahead0 hlt
      refine ⟨by unfold line; omega, N - (made.length + 1), by omega, L2, made ++ [done.map fun t => place (enc (stp L[made.length] t)).nk (L2.map fun a => (enc a).nk)], some (.l true ((done.map fun t => place (enc (stp L[made.length] t)).nk (L2.map fun a => (enc a).nk)).map natV)), w6, w7, ?_, hL2, by simp, ?_⟩
      · have := Bfs.fin' (nxt := fun a => (List.range b).map (stp a)) (s := L[made.length]) (by simp only [hd]) hLs b2 (fun t ht => by
          obtain ⟨u, hu, rfl⟩ := List.mem_map.mp ht
          exact hin u hu) hfl
        rw [List.map_map] at this
        exact this
      · simp [stV]
  · have hge : ¬ made.length < L.length := by simpa using q
    have hml2 : made.length = L.length := by have := bb.le; omega
    have hLn := W.few L hL bb.nodup
    have hL0 : 0 < L.length := (List.getElem?_eq_some_iff.mp bb.first).1
    have hst := bb.stOk hml2 (b := b) fun a _ => by simp
    simp! only []
    refine pturns_mapT enc (fun s => mk (sg s)) (fun s hs k hk => ?_) ?_
    · simp! only [hobj, hsign, G.mts, hmG]
      refine hG s _ (hL s hs) ?_
      simp! only []
      exact hk
    · simp! only [G.f11, ps_merged]
      refine ⟨β, mk, mc, made, L.map sg, b, M, rfl, by simp [seqP, lof], hst, by omega, by simp [hml2], by omega, by omega, fun st2 ms2 T hT hle hl => h2 st2 ms2 T (fun w hw => ?_) hle (by omega)⟩
      obtain ⟨s', e1, _, e3⟩ := bfs_run W bb hml2 hL w 0 a0 a0 hw hR0 bb.first rfl
      have := hT w
      rw [List.getElem?_map, e1] at this
      simp only [Option.map_some, Option.some.injEq] at this
      rw [← this, e3]
end DL

set_option autoImplicit true
set_option Elab.async false
set_option autoImplicit false
set_option linter.all false
set_option maxRecDepth 100000
set_option maxHeartbeats 4000000
/-! Own layer, plain: rules. -/
namespace DL
open PySem
local macro_rules
  | `(tactic| simp! only [$ls,*]) => `(tactic| try simp only [pSs, pS, pE, pEs, pO, pI, pIs, pC, pIf, pAsg, pAsgs, pSetI, pRet, pX, pMove, pUn, pBin, pLt_i, pLe_i, pGt_i, pGe_i, pLt_t, pEq_i, pNe_i, pEq_s, pNe_s, pEq_b, pNe_b, pIn_m, pNin_m, pSub_l, pSub_tup, pSub_lst, pSub_m, pSub_str, pSlice, pBt_len_l, pBt_tuple_l, pBt_list_l, pBt_len_m, pBt_len_tup, pBt_len_lst, pBt_len_str, pBt_list_tup, pBt_tuple_tup, pBt_int_int, pBt_int_bl, pBt_max2, pBt_min2, pBt_str_int, pIsi, pRecv, pMt, wBin, wSub, wSlice, wBt, wRng, startP_cons, startP_nil, List.replicate, getP_0, getP_s, withO_s, withB_b, withD_d, withPB_d, withPI_d, bor_d, bor_l, bor_m, isP_d, isP_l, isP_m, okA_d, okA_l, okA_m, lof_l, lof_m, lof_int, lof_bl, lof_str, lof_non, lof_tup, lof_lst, dof_l, dof_m, dof_int, dof_bl, dof_str, dof_non, dof_tup, dof_lst, dvl_int, dvl_bl, dvl_str, dvl_non, dvl_tup, dvl_lst, ds_nil, ds_cons, omap_some, pSee_d, iterP_l, iterP_tup, enP_l, enP_tup, pLend, see_int, see_bl, see_str, see_non, dep_int, dep_bl, dep_str, dep_non, Nat.zero_min, Nat.min_zero, Nat.zero_le, bindP_one, bindP_two, bindP_three, List.set_cons_zero, List.set_cons_succ, wipeP, Nat.zero_add, atI_0, atI_1, atI_2, atI_3, isV, frz, frz1, Bool.or_false, Bool.or_true, Bool.true_or, Bool.false_or, true_imp_iff, false_imp_iff, Bool.not_false, Bool.not_true, reduceCtorEq, and_true, true_and, List.length_cons, List.length_nil, List.map_cons, List.map_nil, List.length_map, tt_and, ff_and, $ls,*])
  | `(tactic| simp! only [$ls,*] $loc:location) => `(tactic| try simp only [pSs, pS, pE, pEs, pO, pI, pIs, pC, pIf, pAsg, pAsgs, pSetI, pRet, pX, pMove, pUn, pBin, pLt_i, pLe_i, pGt_i, pGe_i, pLt_t, pEq_i, pNe_i, pEq_s, pNe_s, pEq_b, pNe_b, pIn_m, pNin_m, pSub_l, pSub_tup, pSub_lst, pSub_m, pSub_str, pSlice, pBt_len_l, pBt_tuple_l, pBt_list_l, pBt_len_m, pBt_len_tup, pBt_len_lst, pBt_len_str, pBt_list_tup, pBt_tuple_tup, pBt_int_int, pBt_int_bl, pBt_max2, pBt_min2, pBt_str_int, pIsi, pRecv, pMt, wBin, wSub, wSlice, wBt, wRng, startP_cons, startP_nil, List.replicate, getP_0, getP_s, withO_s, withB_b, withD_d, withPB_d, withPI_d, bor_d, bor_l, bor_m, isP_d, isP_l, isP_m, okA_d, okA_l, okA_m, lof_l, lof_m, lof_int, lof_bl, lof_str, lof_non, lof_tup, lof_lst, dof_l, dof_m, dof_int, dof_bl, dof_str, dof_non, dof_tup, dof_lst, dvl_int, dvl_bl, dvl_str, dvl_non, dvl_tup, dvl_lst, ds_nil, ds_cons, omap_some, pSee_d, iterP_l, iterP_tup, enP_l, enP_tup, pLend, see_int, see_bl, see_str, see_non, dep_int, dep_bl, dep_str, dep_non, Nat.zero_min, Nat.min_zero, Nat.zero_le, bindP_one, bindP_two, bindP_three, List.set_cons_zero, List.set_cons_succ, wipeP, Nat.zero_add, atI_0, atI_1, atI_2, atI_3, isV, frz, frz1, Bool.or_false, Bool.or_true, Bool.true_or, Bool.false_or, true_imp_iff, false_imp_iff, Bool.not_false, Bool.not_true, reduceCtorEq, and_true, true_and, List.length_cons, List.length_nil, List.map_cons, List.map_nil, List.length_map, tt_and, ff_and, $ls,*] $loc:location)

def n_is_rule : List Str := ["base", "thing", "signs", "sign"]
def b_is_rule : Sms :=
  (.cons (.ite (.or (.not (.call 1 (.cons (.var 0) (.cons (.int 2) (.cons (.int 3) .nil))))) (.or (.not (.isi (.var 1) .tuple)) (.not (.chain .le .le (.int 1) (.blt .len (.cons (.var 1) .nil)) (.int 3)))))
    (.cons (.ret (.bl false))
      .nil)
    .nil)
  (.cons (.for (.one 2) (.val (.var 1))
    (.cons (.ite (.or (.not (.isi (.var 2) .tuple)) (.cmp .ne (.blt .len (.cons (.var 2) .nil)) (.var 0)))
        (.cons (.ret (.bl false))
          .nil)
        .nil)
      (.cons (.ite (.not (.bltc .all (.mk (.one 3) [3] (.call 1 (.cons (.var 3) (.cons (.int 0) (.cons (.bin .sub (.blt .len (.cons (.var 1) .nil)) (.int 1)) .nil)))) (.val (.var 2)) .none)))
        (.cons (.ret (.bl false))
          .nil)
        .nil)
      .nil)))
  (.cons (.ret (.cmp .eq (.sub (.sub (.var 1) (.int 0)) (.int 0)) (.int 0)))
  .nil)))

def n_need_rule : List Str := ["base", "rule"]
def b_need_rule : Sms :=
  (.cons (.ite (.not (.call 61 (.cons (.var 0) (.cons (.var 1) .nil))))
    (.cons (.raise 2 "NoRule")
      .nil)
    .nil)
  .nil)

def ps_between : PSpec := fun vs S Q _ => match vs with
  | [.d v, .d (.int lo), .d (.int hi)] => kn S v = true ∧ Q (.d (.bl (betw v lo hi)))
  | _ => False
theorem up_between (vs : List Val) (S : Sto) (Q : KV) (E : Nat → Sto → Prop) (h : up1 ps_between vs S Q E) : sp_between vs S Q E := by
  obtain ⟨pvs, S0, Qp, Ep, le, ar, hp, hr, hx⟩ := h
  unfold ps_between at hp
  split at hp
  · rename_i v lo hi
    match vs, ar with
    | [v', lo', hi'], ar =>
      have e1 : v' = v := ar.1
      have e2 : lo' = .int lo := ar.2.1
      have e3 : hi' = .int hi := ar.2.2.1
      subst e1 e2 e3
      exact ⟨kn_tyKnown (kn_le le _ hp.1), hr _ hp.2⟩
    | [], ar => exact ar.elim
    | [_], ar => exact ar.2.elim
    | [_, _], ar => exact ar.2.2.elim
    | _ :: _ :: _ :: _ :: _, ar => exact ar.2.2.2.elim
  · exact hp.elim
theorem w_between1 {G : Cfg} (f0 : G.fn 0 = some sp_is_whole) : Wk G sp_between n_between b_between := by
  intro args S Q E h
  unfold sp_between at h
  split at h <;> first | contradiction | skip
  rename_i v lo hi
  obtain ⟨h1, h2⟩ := h
  simp only [b_between, n_between, wSs, wS, wE, wEs, wO, wI, wC, wIf, wBin, wSub, startE_cons, startE_nil, List.replicate, getV_0, getV_s, withO_s, withB_b, bind_one, bind_two, List.set_cons_zero, List.set_cons_succ, wipeE, Nat.zero_add, atI_0, atI_1, atI_2, atI_3, see_int, see_bl, see_str, see_non, dep_int, dep_bl, dep_str, dep_non, Nat.zero_min, Nat.min_zero, Nat.zero_le, true_imp_iff, false_imp_iff, Bool.not_false, Bool.not_true, reduceCtorEq, and_true, true_and, List.length_cons, List.length_nil, f0, sp_is_whole]
  refine ⟨h1, fun a => ?_, fun a => rt_here ?_⟩
  · cases v <;> simp [isWhole] at a
    simp only [wCmp, withB_b]
    refine ⟨fun b => rt_here ?_, fun b => rt_here ?_⟩
    · simpa [betw, b] using h2
    · simpa [betw, b] using h2
  · cases v <;> simp_all [isWhole, betw]
def ruleV (rl : List (List Nat)) : Val := .tup (rl.map stV)
structure RuleOk (b : Nat) (rl : List (List Nat)) : Prop where
  ok : StOk rl b
  base : 2 ≤ b ∧ b ≤ 3
  few : 1 ≤ rl.length ∧ rl.length ≤ 3
  first : stepL rl 0 0 = 0
def ps_is_rule : PSpec := fun vs S Q _ => match vs with
  | [.d (.int bi), .d v] => ∃ (b : Nat) (rl : List (List Nat)), bi = b ∧ v = ruleV rl ∧ RuleOk b rl ∧ Q (.d (.bl true))
  | _ => False
def ps_need_rule : PSpec := fun vs S Q _ => match vs with
  | [.d (.int bi), .d v] => ∃ (b : Nat) (rl : List (List Nat)), bi = b ∧ v = ruleV rl ∧ RuleOk b rl ∧ Q (.d .non)
  | _ => False
structure PRuleG (g : PCfg) : Prop where
  f1 : g.fn 1 = some ps_between
  f61 : g.fn 61 = some ps_is_rule
  f62 : g.fn 62 = some ps_need_rule
theorem step_at {st : List (List Nat)} {b s a : Nat} (ok : StOk st b) (hs : s < st.length) (ha : a < b) : (st[s])[a]? = some (stepL st s a) := by
  have hw := ok.wide _ (List.getElem_mem hs)
  unfold stepL
  rw [List.getElem?_eq_getElem hs, Option.getD_some, List.getElem?_eq_getElem (by omega)]
  rfl
theorem w_is_rule {g : PCfg} (f1 : g.fn 1 = some ps_between) : Wp g ps_is_rule n_is_rule b_is_rule := by
  intro args S Q E h
  unfold ps_is_rule at h
  split at h <;> first | contradiction | skip
  obtain ⟨b, rl, rfl, rfl, R, h2⟩ := h
  have hb := R.base
  have hf := R.few
  unfold b_is_rule
  refine pstep fun K hK => pite_step fun A B hA hB => ?_
  simp! only [n_is_rule, ruleV, f1, ps_between]
  refine ⟨rfl, fun z => ?_, fun z => ?_⟩
  · simp [betw] at z; omega
  simp! only [tyOf, tyKnown, Bool.not_true, List.length_map]
  refine ⟨fun _ => ?_, fun z => ?_⟩
  rotate_left
  · simp at z; omega
  refine ⟨fun z => ?_, fun _ => hB _ ?_⟩
  · simp at z; omega
  simp! only []
  refine hK _ (pstep fun K2 hK2 => pfor_step fun B2 hB2 => ?_)
  simp! only []
  refine pfor_invT stV (fun rest e => ∃ (done : List (List Nat)) (v2 v3 : Option PV), done ++ rest = rl ∧ e = [some (.d (.int b)), some (.d (.tup (rl.map stV))), v2, v3]) ?_ ?_ _ _ ⟨[], none, none, rfl, rfl⟩
  · rintro r rest e ⟨done, v2, v3, hd, rfl⟩
    have hr : r ∈ rl := by rw [← hd]; simp
    have hw := R.ok.wide r hr
    simp! only []
    intro k hk
    refine hB2 _ _ (pstep fun K3 hK3 => pite_step fun A1 B1 hA1 hB1 => ?_)
    simp! only [stV, tyOf, tyKnown, Bool.not_true, List.length_map]
    refine ⟨fun z => ?_, fun _ => hB1 _ ?_⟩
    · simp at z; omega
    simp! only []
    refine hK3 _ (pstep fun K4 hK4 => pite_step fun A2 B3 hA2 hB3 => ?_)
    simp! only [f1, ps_between]
    refine pturns_allT natV (fun t => decide (t < rl.length)) (fun t ht k2 hk2 => ?_) ?_
    · have ht2 := R.ok.to r hr t ht
      simp! only [natV, List.length_map]
      refine ⟨rfl, ?_⟩
      simpa [betw, show (t : Int) ≤ (rl.length : Int) - 1 by omega, ht2] using hk2
    · have : (r.all fun t => decide (t < rl.length)) = true := by
        rw [List.all_eq_true]
        intro t ht
        simpa using R.ok.to r hr t ht
      simp! only [this, Bool.not_true]
      refine hB3 _ ?_
      simp! only []
      refine hK4 _ ?_
      simp! only []
      exact hk _ ⟨done ++ [r], _, v3, by simpa using hd, rfl⟩
  · rintro e ⟨done, v2, v3, hd, rfl⟩
    have h0 : 0 < rl.length := by omega
    have e0 := st_get h0
    have e1 := step_at R.ok h0 (a := 0) (by omega)
    rw [R.first] at e1
    have e2 : (rl[0].map natV)[0]? = some (natV 0) := by rw [List.getElem?_map, e1]; rfl
    refine hK2 _ ?_
    simp! only [show (0 : Int) = ((0 : Nat) : Int) from rfl, atI_nat, e0, stV, e2, natV]
    simpa using h2
theorem w_need_rule {g : PCfg} (f61 : g.fn 61 = some ps_is_rule) : Wp g ps_need_rule n_need_rule b_need_rule := by
  intro args S Q E h
  unfold ps_need_rule at h
  split at h <;> first | contradiction | skip
  obtain ⟨b, rl, rfl, rfl, R, h2⟩ := h
  unfold b_need_rule
  refine pstep fun K hK => pite_step fun A B hA hB => ?_
  simp! only [n_need_rule, f61, ps_is_rule]
  refine ⟨b, rl, rfl, rfl, R, ?_⟩
  simp! only [Bool.not_true]
  refine hB _ ?_
  simp! only []
  exact hK _ h2
end DL

set_option autoImplicit true
set_option Elab.async false
set_option autoImplicit false
set_option linter.all false
set_option maxRecDepth 100000
set_option maxHeartbeats 4000000
/-! Own layer, plain: what rules write. -/
namespace DL
open PySem
local macro_rules
  | `(tactic| simp! only [$ls,*]) => `(tactic| try simp only [pSs, pS, pE, pEs, pO, pI, pIs, pC, pIf, pAsg, pAsgs, pSetI, pRet, pX, pMove, pUn, pBin, pLt_i, pLe_i, pGt_i, pGe_i, pLt_t, pEq_i, pNe_i, pEq_s, pNe_s, pEq_b, pNe_b, pIn_m, pNin_m, pSub_l, pSub_tup, pSub_lst, pSub_m, pSub_str, pSlice, pBt_len_l, pBt_tuple_l, pBt_list_l, pBt_len_m, pBt_len_tup, pBt_len_lst, pBt_len_str, pBt_list_tup, pBt_tuple_tup, pBt_int_int, pBt_int_bl, pBt_max2, pBt_min2, pBt_str_int, pIsi, pRecv, pMt, wBin, wSub, wSlice, wBt, wRng, startP_cons, startP_nil, List.replicate, getP_0, getP_s, withO_s, withB_b, withD_d, withPB_d, withPI_d, bor_d, bor_l, bor_m, isP_d, isP_l, isP_m, okA_d, okA_l, okA_m, lof_l, lof_m, lof_int, lof_bl, lof_str, lof_non, lof_tup, lof_lst, dof_l, dof_m, dof_int, dof_bl, dof_str, dof_non, dof_tup, dof_lst, dvl_int, dvl_bl, dvl_str, dvl_non, dvl_tup, dvl_lst, ds_nil, ds_cons, omap_some, pSee_d, iterP_l, iterP_tup, enP_l, enP_tup, pLend, see_int, see_bl, see_str, see_non, dep_int, dep_bl, dep_str, dep_non, Nat.zero_min, Nat.min_zero, Nat.zero_le, bindP_one, bindP_two, bindP_three, List.set_cons_zero, List.set_cons_succ, wipeP, Nat.zero_add, atI_0, atI_1, atI_2, atI_3, isV, frz, frz1, Bool.or_false, Bool.or_true, Bool.true_or, Bool.false_or, true_imp_iff, false_imp_iff, Bool.not_false, Bool.not_true, reduceCtorEq, and_true, true_and, List.length_cons, List.length_nil, List.map_cons, List.map_nil, List.length_map, tt_and, ff_and, $ls,*])
  | `(tactic| simp! only [$ls,*] $loc:location) => `(tactic| try simp only [pSs, pS, pE, pEs, pO, pI, pIs, pC, pIf, pAsg, pAsgs, pSetI, pRet, pX, pMove, pUn, pBin, pLt_i, pLe_i, pGt_i, pGe_i, pLt_t, pEq_i, pNe_i, pEq_s, pNe_s, pEq_b, pNe_b, pIn_m, pNin_m, pSub_l, pSub_tup, pSub_lst, pSub_m, pSub_str, pSlice, pBt_len_l, pBt_tuple_l, pBt_list_l, pBt_len_m, pBt_len_tup, pBt_len_lst, pBt_len_str, pBt_list_tup, pBt_tuple_tup, pBt_int_int, pBt_int_bl, pBt_max2, pBt_min2, pBt_str_int, pIsi, pRecv, pMt, wBin, wSub, wSlice, wBt, wRng, startP_cons, startP_nil, List.replicate, getP_0, getP_s, withO_s, withB_b, withD_d, withPB_d, withPI_d, bor_d, bor_l, bor_m, isP_d, isP_l, isP_m, okA_d, okA_l, okA_m, lof_l, lof_m, lof_int, lof_bl, lof_str, lof_non, lof_tup, lof_lst, dof_l, dof_m, dof_int, dof_bl, dof_str, dof_non, dof_tup, dof_lst, dvl_int, dvl_bl, dvl_str, dvl_non, dvl_tup, dvl_lst, ds_nil, ds_cons, omap_some, pSee_d, iterP_l, iterP_tup, enP_l, enP_tup, pLend, see_int, see_bl, see_str, see_non, dep_int, dep_bl, dep_str, dep_non, Nat.zero_min, Nat.min_zero, Nat.zero_le, bindP_one, bindP_two, bindP_three, List.set_cons_zero, List.set_cons_succ, wipeP, Nat.zero_add, atI_0, atI_1, atI_2, atI_3, isV, frz, frz1, Bool.or_false, Bool.or_true, Bool.true_or, Bool.false_or, true_imp_iff, false_imp_iff, Bool.not_false, Bool.not_true, reduceCtorEq, and_true, true_and, List.length_cons, List.length_nil, List.map_cons, List.map_nil, List.length_map, tt_and, ff_and, $ls,*] $loc:location)

def n_written : List Str := ["base", "rule", "many", "made", "longer", "sign"]
def b_written : Sms :=
  (.cons (.expr (.call 62 (.cons (.var 0) (.cons (.var 1) .nil))))
  (.cons (.ite (.not (.call 1 (.cons (.var 2) (.cons (.int 0) (.cons (.glob "MOST") .nil)))))
    (.cons (.raise 5 "NoNumber")
      .nil)
    .nil)
  (.cons (.asg 3 (.lst (.cons (.int 0) .nil)))
  (.cons (.while (.cmp .lt (.blt .len (.cons (.var 3) .nil)) (.var 2))
    (.cons (.asg 4 (.lst .nil))
      (.cons (.for (.one 5) (.val (.var 3))
        (.cons (.expr (.meth (.var 4) .extend (.cons (.sub (.var 1) (.var 5)) .nil)))
          .nil))
      (.cons (.asg 3 (.var 4))
      .nil))))
  (.cons (.ret (.slice (.var 3) .none (.some (.var 2))))
  .nil)))))

/-- all signs replaced once -/
def exR (rl : List (List Nat)) (xs : List Nat) : List Nat := (xs.map fun s => (rl[s]?).getD []).flatten
def itR (rl : List (List Nat)) : Nat → List Nat
  | 0 => [0]
  | k + 1 => exR rl (itR rl k)
theorem exR_len {rl : List (List Nat)} {b : Nat} (ok : StOk rl b) : ∀ {xs : List Nat}, (∀ x ∈ xs, x < rl.length) → (exR rl xs).length = b * xs.length
  | [], _ => rfl
  | x :: xs, h => by
    have hx := h x (by simp)
    have ih := exR_len ok (xs := xs) fun y hy => h y (by simp [hy])
    unfold exR at ih ⊢
    rw [List.map_cons, List.flatten_cons, List.length_append, ih, List.getElem?_eq_getElem hx, Option.getD_some, ok.wide _ (List.getElem_mem hx), List.length_cons, Nat.mul_succ]
    omega
theorem exR_get {rl : List (List Nat)} {b : Nat} (ok : StOk rl b) (hb : 0 < b) : ∀ {xs : List Nat} (n : Nat), (∀ x ∈ xs, x < rl.length) → (exR rl xs)[n]? = (xs[n / b]?).map fun s => stepL rl s (n % b)
  | [], n, _ => by simp [exR]
  | x :: xs, n, h => by
    have hx := h x (by simp)
    have hw := ok.wide _ (List.getElem_mem hx)
    have ih := fun m => exR_get ok hb (xs := xs) m fun y hy => h y (by simp [hy])
    have e : exR rl (x :: xs) = rl[x] ++ exR rl xs := by
      unfold exR
      rw [List.map_cons, List.flatten_cons, List.getElem?_eq_getElem hx, Option.getD_some]
    rw [e]
    by_cases q : n < b
    · rw [List.getElem?_append_left (by omega), Nat.div_eq_of_lt q, Nat.mod_eq_of_lt q, step_at ok hx q]
      rfl
    · rw [List.getElem?_append_right (by omega), hw, ih]
      have e1 : n / b = (n - b) / b + 1 := by
        have : n = (n - b) + b := by omega
        rw [this, Nat.add_div_right _ hb]
        simp
      have e2 : (n - b) % b = n % b := by
        conv => rhs; rw [show n = (n - b) + b by omega]
        rw [Nat.add_mod_right]
      rw [e1, e2, List.getElem?_cons_succ]
theorem itR_lt {b : Nat} {rl : List (List Nat)} (R : RuleOk b rl) : ∀ k, ∀ x ∈ itR rl k, x < rl.length
  | 0, x, h => by
    simp [itR] at h
    have := R.few
    omega
  | k + 1, x, h => by
    unfold itR exR at h
    obtain ⟨r, hr, hx⟩ := List.mem_flatten.mp h
    obtain ⟨s, hs, rfl⟩ := List.mem_map.mp hr
    have hs' := itR_lt R k s hs
    rw [List.getElem?_eq_getElem hs', Option.getD_some] at hx
    exact R.ok.to _ (List.getElem_mem hs') x hx
/-- from the last figure to the first one -/
def pathR (rl : List (List Nat)) : List Nat → Nat → Nat
  | [], s => s
  | d :: w, s => stepL rl (pathR rl w s) d
theorem itR_get {b : Nat} {rl : List (List Nat)} (R : RuleOk b rl) : ∀ (k n : Nat), n < (itR rl k).length → (itR rl k)[n]? = some (pathR rl (digs b n) 0)
  | 0, n, h => by
    have e : n = 0 := by simp [itR] at h; exact h
    subst e
    rw [digs_zero]
    rfl
  | k + 1, n, h => by
    have hb := R.base
    have hlt := itR_lt R k
    have hl := exR_len R.ok hlt
    have hn : n / b < (itR rl k).length := by
      have h2 : n < b * (itR rl k).length := by rw [← hl]; exact h
      exact Nat.div_lt_of_lt_mul h2
    show (exR rl (itR rl k))[n]? = _
    rw [exR_get R.ok (by omega) n hlt, itR_get R k _ hn, Option.map_some]
    congr 1
    by_cases q : n = 0
    · subst q
      rw [Nat.zero_div, Nat.zero_mod, digs_zero]
      exact R.first
    · rw [digs_pos (b := b) (n := n) (by omega) (by omega)]
      rfl
theorem itR_take {b : Nat} {rl : List (List Nat)} (R : RuleOk b rl) {j k m : Nat} (hj : m ≤ (itR rl j).length) (hk : m ≤ (itR rl k).length) : (itR rl j).take m = (itR rl k).take m := by
  refine List.ext_getElem? fun i => ?_
  rw [List.getElem?_take, List.getElem?_take]
  split
  · rw [itR_get R j i (by omega), itR_get R k i (by omega)]
  · rfl
theorem itR_pos {b : Nat} {rl : List (List Nat)} (R : RuleOk b rl) : ∀ k, 0 < (itR rl k).length
  | 0 => by simp [itR]
  | k + 1 => by
    show 0 < (exR rl (itR rl k)).length
    rw [exR_len R.ok (itR_lt R k)]
    exact Nat.mul_pos (by have := R.base; omega) (itR_pos R k)
/-- one turn: all are replaced -/
theorem exR_turn (rl : List (List Nat)) (a : List Nat) (s : Nat) : exR rl (a ++ [s]) = exR rl a ++ (rl[s]?).getD [] := by
  unfold exR
  simp
theorem cut_to {α : Type} (xs : List α) (m : Nat) : cutL xs none (some (m : Int)) = xs.take m := by
  unfold cutL
  rw [HT.sIx_none, HT.sIx_nat, List.drop_zero, Nat.sub_zero]
  by_cases h : m ≤ xs.length
  · rw [Nat.min_eq_left h]
  · rw [Nat.min_eq_right (by omega), List.take_of_length_le (Nat.le_refl _), List.take_of_length_le (by omega)]
def ps_written : PSpec := fun vs S Q _ => match vs with
  | [.d (.int bi), .d v, .d (.int mi)] => ∃ (b m : Nat) (rl : List (List Nat)), bi = b ∧ v = ruleV rl ∧ mi = m ∧ RuleOk b rl ∧ m ≤ 3000 ∧ ∀ k, m ≤ (itR rl k).length → Q (.l true (((itR rl k).take m).map natV))
  | _ => False
structure PWritG (g : PCfg) : Prop where
  f1 : g.fn 1 = some ps_between
  f62 : g.fn 62 = some ps_need_rule
  cm : g.G.cv "MOST" = some (.int 3000)
theorem w_written {g : PCfg} (G : PWritG g) : Wp g ps_written n_written b_written := by
  intro args S Q E h
  unfold ps_written at h
  split at h <;> first | contradiction | skip
  obtain ⟨b, m, rl, rfl, rfl, rfl, R, hm, h2⟩ := h
  have hb := R.base
  unfold b_written
  refine pstep fun K hK => ?_
  simp! only [n_written, G.f62, ps_need_rule]
  refine ⟨b, rl, rfl, rfl, R, ?_⟩
  simp! only []
  refine hK _ (pstep fun K2 hK2 => pite_step fun A B hA hB => ?_)
  simp! only [G.f1, ps_between, G.cm]
  refine ⟨rfl, ?_⟩
  have e1 : betw (.int m) 0 3000 = true := by simp [betw]; omega
  simp! only [e1, Bool.not_true]
  refine hB _ ?_
  simp! only []
  refine hK2 _ (pstep fun K3 hK3 => ?_)
  simp! only []
  refine hK3 _ (pstep fun K4 hK4 => ?_)
  refine pwhile_step (fun q e => ∃ (k : Nat) (v4 v5 : Option PV), (itR rl k).length ≤ 9000 ∧ q = 9001 - (itR rl k).length ∧
      e = [some (.d (.int b)), some (.d (ruleV rl)), some (.d (.int m)), some (.l true ((itR rl k).map natV)), v4, v5])
    ⟨_, 0, none, none, by simp [itR], rfl, rfl⟩ ?_
  rintro B hB2 q e ⟨k, v4, v5, hl, rfl, rfl⟩
  have hlt := itR_lt R k
  have hex := exR_len R.ok hlt
  simp! only [List.length_map]
  refine ⟨fun z => hB2 _ _ (pstep fun K8 hK8 => ?_), fun z => hK4 _ ?_⟩
  · have hkm : (itR rl k).length < m := by simpa using z
    have hk0 : 0 < (itR rl k).length := by
      cases k with
      | zero => simp [itR]
      | succ k =>
        have := exR_len R.ok (itR_lt R k)
        show 0 < (exR rl (itR rl k)).length
        cases e : itR rl k with
        | nil =>
          exfalso
          have : ∀ k, 0 < (itR rl k).length := fun k => by
            induction k with
            | zero => simp [itR]
            | succ k ih => 
              show 0 < (exR rl (itR rl k)).length
              rw [exR_len R.ok (itR_lt R k)]
              exact Nat.mul_pos (by omega) ih
          have := this k
          rw [e] at this
          cases this
        | cons x xs =>
          rw [e] at this
          rw [this]
          exact Nat.mul_pos (by omega) (by simp)
    simp! only []
    refine hK8 _ (pstep fun K9 hK9 => pfor_step fun B3 hB3 => ?_)
    simp! only []
    refine pfor_invT natV (fun rest e => ∃ (done : List Nat) (v5 : Option PV), done ++ rest = itR rl k ∧
      e = [some (.d (.int b)), some (.d (ruleV rl)), some (.d (.int m)), some (.l false ((itR rl k).map natV)), some (.l true ((exR rl done).map natV)), v5]) ?_ ?_ _ _ ⟨[], v5, rfl, rfl⟩
    · rintro s rest e ⟨done, w5, hd, rfl⟩
      have hs : s < rl.length := hlt s (by rw [← hd]; simp)
      have hdl : (exR rl done).length ≤ 9000 := by
        rw [exR_len R.ok fun x hx => hlt x (by rw [← hd]; simp [hx])]
        have := congrArg List.length hd
        simp only [List.length_append, List.length_cons] at this
        have : b * done.length ≤ 3 * done.length := Nat.mul_le_mul_right _ hb.2
        omega
      simp! only []
      intro k2 hk2
      refine hB3 _ _ (pstep fun K10 hK10 => ?_)
      have hw := R.ok.wide _ (List.getElem_mem hs)
      simp! only [natV, ruleV, atI_nat, st_get hs, stV, extP]
      refine ⟨by simp only [List.length_map]; rw [hw]; unfold line; omega, hK10 _ ?_⟩
      simp! only []
      refine hk2 _ ⟨done ++ [s], some (.d (.int s)), by simpa using hd, ?_⟩
      rw [exR_turn, List.getElem?_eq_getElem hs, Option.getD_some]
      simp [natV, ruleV]
    · rintro e ⟨done, w5, hd, rfl⟩
      rw [List.append_nil] at hd
      subst hd
      refine hK9 _ ?_
      simp! only []
      have hx2 : 2 * (itR rl k).length ≤ b * (itR rl k).length := Nat.mul_le_mul_right _ hb.1
      have hx3 : b * (itR rl k).length ≤ 3 * (itR rl k).length := Nat.mul_le_mul_right _ hb.2
      have hl2 : (itR rl (k + 1)).length = b * (itR rl k).length := hex
      exact ⟨by decide, 9001 - (itR rl (k + 1)).length, by omega, k + 1, none, w5, by omega, rfl, rfl⟩
  · have hkm : m ≤ (itR rl k).length := by simp at z; omega
    simp! only []
    have := h2 k hkm
    rw [cut_to]
    simpa [List.map_take] using this
end DL

set_option autoImplicit true
set_option Elab.async false
set_option autoImplicit false
set_option linter.all false
set_option maxRecDepth 100000
set_option maxHeartbeats 4000000
/-! Own layer, plain: the row of a rule. -/
namespace DL
open PySem
local macro_rules
  | `(tactic| simp! only [$ls,*]) => `(tactic| try simp only [pSs, pS, pE, pEs, pO, pI, pIs, pC, pIf, pAsg, pAsgs, pSetI, pRet, pX, pMove, pUn, pBin, pLt_i, pLe_i, pGt_i, pGe_i, pLt_t, pEq_i, pNe_i, pEq_s, pNe_s, pEq_b, pNe_b, pIn_m, pNin_m, pSub_l, pSub_tup, pSub_lst, pSub_m, pSub_str, pSlice, pBt_len_l, pBt_tuple_l, pBt_list_l, pBt_len_m, pBt_len_tup, pBt_len_lst, pBt_len_str, pBt_list_tup, pBt_tuple_tup, pBt_int_int, pBt_int_bl, pBt_max2, pBt_min2, pBt_str_int, pIsi, pRecv, pMt, wBin, wSub, wSlice, wBt, wRng, startP_cons, startP_nil, List.replicate, getP_0, getP_s, withO_s, withB_b, withD_d, withPB_d, withPI_d, bor_d, bor_l, bor_m, isP_d, isP_l, isP_m, okA_d, okA_l, okA_m, lof_l, lof_m, lof_int, lof_bl, lof_str, lof_non, lof_tup, lof_lst, dof_l, dof_m, dof_int, dof_bl, dof_str, dof_non, dof_tup, dof_lst, dvl_int, dvl_bl, dvl_str, dvl_non, dvl_tup, dvl_lst, ds_nil, ds_cons, omap_some, pSee_d, iterP_l, iterP_tup, enP_l, enP_tup, pLend, see_int, see_bl, see_str, see_non, dep_int, dep_bl, dep_str, dep_non, Nat.zero_min, Nat.min_zero, Nat.zero_le, bindP_one, bindP_two, bindP_three, List.set_cons_zero, List.set_cons_succ, wipeP, Nat.zero_add, atI_0, atI_1, atI_2, atI_3, isV, frz, frz1, Bool.or_false, Bool.or_true, Bool.true_or, Bool.false_or, true_imp_iff, false_imp_iff, Bool.not_false, Bool.not_true, reduceCtorEq, and_true, true_and, List.length_cons, List.length_nil, List.map_cons, List.map_nil, List.length_map, tt_and, ff_and, $ls,*])
  | `(tactic| simp! only [$ls,*] $loc:location) => `(tactic| try simp only [pSs, pS, pE, pEs, pO, pI, pIs, pC, pIf, pAsg, pAsgs, pSetI, pRet, pX, pMove, pUn, pBin, pLt_i, pLe_i, pGt_i, pGe_i, pLt_t, pEq_i, pNe_i, pEq_s, pNe_s, pEq_b, pNe_b, pIn_m, pNin_m, pSub_l, pSub_tup, pSub_lst, pSub_m, pSub_str, pSlice, pBt_len_l, pBt_tuple_l, pBt_list_l, pBt_len_m, pBt_len_tup, pBt_len_lst, pBt_len_str, pBt_list_tup, pBt_tuple_tup, pBt_int_int, pBt_int_bl, pBt_max2, pBt_min2, pBt_str_int, pIsi, pRecv, pMt, wBin, wSub, wSlice, wBt, wRng, startP_cons, startP_nil, List.replicate, getP_0, getP_s, withO_s, withB_b, withD_d, withPB_d, withPI_d, bor_d, bor_l, bor_m, isP_d, isP_l, isP_m, okA_d, okA_l, okA_m, lof_l, lof_m, lof_int, lof_bl, lof_str, lof_non, lof_tup, lof_lst, dof_l, dof_m, dof_int, dof_bl, dof_str, dof_non, dof_tup, dof_lst, dvl_int, dvl_bl, dvl_str, dvl_non, dvl_tup, dvl_lst, ds_nil, ds_cons, omap_some, pSee_d, iterP_l, iterP_tup, enP_l, enP_tup, pLend, see_int, see_bl, see_str, see_non, dep_int, dep_bl, dep_str, dep_non, Nat.zero_min, Nat.min_zero, Nat.zero_le, bindP_one, bindP_two, bindP_three, List.set_cons_zero, List.set_cons_succ, wipeP, Nat.zero_add, atI_0, atI_1, atI_2, atI_3, isV, frz, frz1, Bool.or_false, Bool.or_true, Bool.true_or, Bool.false_or, true_imp_iff, false_imp_iff, Bool.not_false, Bool.not_true, reduceCtorEq, and_true, true_and, List.length_cons, List.length_nil, List.map_cons, List.map_nil, List.length_map, tt_and, ff_and, $ls,*] $loc:location)

def n_Replacer_init : List Str := ["self", "base", "rule"]
def b_Replacer_init : Sms :=
  (.cons (.setF (.var 0) "base" (.var 1))
  (.cons (.setF (.var 0) "rule" (.var 2))
  .nil))

def n_row_of : List Str := ["base", "rule", "made"]
def b_row_of (st : Str) : Sms :=
  (.cons (.expr (.call 62 (.cons (.var 0) (.cons (.var 1) .nil))))
  (.cons (.asg 2 (.call 14 (.cons (.new 5 (.cons (.var 0) (.cons (.var 1) .nil))) (.cons (.trng (.cons (.blt .len (.cons (.var 1) .nil)) .nil)) .nil))))
  (.cons (.ite (.cmp .gt (.blt .len (.cons (.sub (.var 2) (.int 0)) .nil)) (.glob st))
    (.cons (.raise 6 "TooBig")
      .nil)
    .nil)
  (.cons (.ret (.var 2))
  .nil))))

def n_Replacer_step : List Str := ["self", "state", "figure", "signs"]
def b_Replacer_step : Sms :=
  (.cons (.ret (.bltc .tuple (.mk (.one 3) [3] (.sub (.var 1) (.sub (.var 3) (.var 2))) (.val (.fld (.var 0) "rule")) .none)))
  .nil)

def n_Replacer_sign : List Str := ["self", "state"]
def b_Replacer_sign : Sms :=
  (.cons (.ret (.sub (.var 1) (.int 0)))
  .nil)

def n__law_told : List Str := ["_law_base", "_law_rule_here", "e"]
def b__law_told : Sms :=
  (.cons (.try1
    (.cons (.ret (.call 64 (.cons (.var 0) (.cons (.var 1) .nil))))
      .nil)
    6 (some 2) (.text "big" [(0, true), (99, true)]))
  .nil)

theorem key_stV (s : List Nat) : modKey (stV s) = true ∧ kcl (stV s) = 2 := by
  refine ⟨?_, rfl⟩
  unfold modKey stV
  rw [Bool.and_eq_true]
  have d1 : Val.dats (s.map natV) = true := dats_map natV (fun _ => rfl) s
  have d2 : NestedKey.depthAll (Val.nks (s.map natV)) = 0 := by
    rw [nks_map]
    induction s with
    | nil => rfl
    | cons x l ih => simp only [List.map_cons, NestedKey.depthAll, NestedKey.depth, ih (dats_map natV (fun _ => rfl) l)]; rfl
  refine ⟨by simp [Val.dat, d1], decide_eq_true ?_⟩
  simp only [Val.nk, NestedKey.depth, d2]
  decide
theorem nks_nat_inj : ∀ {s t : List Nat}, Val.nks (s.map natV) = Val.nks (t.map natV) → s = t
  | [], [], _ => rfl
  | [], _ :: _, h => by simp [Val.nks] at h
  | _ :: _, [], h => by simp [Val.nks] at h
  | a :: s, b :: t, h => by
    simp only [List.map_cons, Val.nks, List.cons.injEq] at h
    have h1 := h.1
    simp [natV_nk] at h1
    rw [nks_nat_inj h.2, show a = b by omega]
theorem stV_inj {s t : List Nat} (h : (stV s).nk = (stV t).nk) : s = t := by
  simp only [stV, Val.nk] at h
  injection h with h
  exact nks_nat_inj h
/-- all rows of k figures below m -/
def allL (m : Nat) : Nat → List (List Nat)
  | 0 => [[]]
  | k + 1 => (List.range m).flatMap fun a => (allL m k).map (a :: ·)
theorem allL_mem {m : Nat} : ∀ {k : Nat} {f : List Nat}, f.length = k → (∀ x ∈ f, x < m) → f ∈ allL m k
  | 0, [], _, _ => by simp [allL]
  | k + 1, a :: f, h, h2 => by
    unfold allL
    refine List.mem_flatMap.mpr ⟨a, List.mem_range.mpr (h2 a (by simp)), List.mem_map.mpr ⟨f, allL_mem (by simpa using h) fun x hx => h2 x (by simp [hx]), rfl⟩⟩
theorem allL_few {m : Nat} (h : 1 ≤ m ∧ m ≤ 3) : (allL m m).length ≤ 27 := by
  have : m = 1 ∨ m = 2 ∨ m = 3 := by omega
  rcases this with rfl | rfl | rfl <;> decide
def stepF (rl : List (List Nat)) (f : List Nat) (d : Nat) : List Nat := rl.map fun r => (f[(r[d]?).getD 0]?).getD 0
def headF (f : List Nat) : Nat := (f[0]?).getD 0
def ps_rstep : PSpec := fun vs S Q _ => match vs with
  | [.d (.ref p), .d v, .d (.int di)] => ∃ (b d : Nat) (rl : List (List Nat)) (f : List Nat) (c : Nat) (fs : List (Str × Val)), S p = some (.ins c fs) ∧ fs.lookup ("rule" : Str) = some (ruleV rl) ∧ v = stV f ∧ di = d ∧ d < b ∧ StOk rl b ∧ f.length = rl.length ∧ Q (.d (stV (stepF rl f d)))
  | _ => False
def ps_rsign : PSpec := fun vs S Q _ => match vs with
  | [.d (.ref p), .d v] => ∃ (f : List Nat), v = stV f ∧ 0 < f.length ∧ Q (.d (natV (headF f)))
  | _ => False
theorem w_rstep {g : PCfg} : Wp g ps_rstep n_Replacer_step b_Replacer_step := by
  intro args S Q E h
  unfold ps_rstep at h
  split at h <;> first | contradiction | skip
  obtain ⟨b, d, rl, f, c, fs, h1, h3, rfl, rfl, hd, ok, hf, h2⟩ := h
  unfold b_Replacer_step
  refine pstep fun K hK => ?_
  simp! only [n_Replacer_step, h1, h3, ruleV]
  refine pturns_mapT stV (fun r => natV ((f[(r[d]?).getD 0]?).getD 0)) (fun r hr k hk => ?_) ?_
  · have hw := ok.wide r hr
    have e1 : (r.map natV)[d]? = some (natV r[d]) := by rw [List.getElem?_map, List.getElem?_eq_getElem (by omega)]; rfl
    have ht := ok.to r hr r[d] (List.getElem_mem _)
    have e2 : (f.map natV)[r[d]]? = some (natV f[r[d]]) := by rw [List.getElem?_map, List.getElem?_eq_getElem (by omega)]; rfl
    have e3 : (r[d]?).getD 0 = r[d] := by rw [List.getElem?_eq_getElem (by omega)]; rfl
    have e4 : (f[r[d]]?).getD 0 = f[r[d]] := by rw [List.getElem?_eq_getElem (by omega)]; rfl
    rw [e3, e4] at hk
    simp! only [stV, atI_nat, e1, natV, e2] at hk ⊢
    simp! only [natV, e2, atI_nat]
    simpa [natV] using hk
  · simp! only [pBtL]
    have : (rl.map fun r => natV ((f[(r[d]?).getD 0]?).getD 0)) = (stepF rl f d).map natV := by
      unfold stepF
      rw [List.map_map]
      rfl
    rw [this]
    exact h2
theorem w_rsign {g : PCfg} : Wp g ps_rsign n_Replacer_sign b_Replacer_sign := by
  intro args S Q E h
  unfold ps_rsign at h
  split at h <;> first | contradiction | skip
  obtain ⟨f, rfl, hf, h2⟩ := h
  unfold b_Replacer_sign
  refine pstep fun K hK => ?_
  have e1 : (f.map natV)[0]? = some (natV (headF f)) := by
    unfold headF
    rw [List.getElem?_map, List.getElem?_eq_getElem hf]
    rfl
  simp! only [n_Replacer_sign, stV, show (0 : Int) = ((0 : Nat) : Int) from rfl, atI_nat, e1]
  simpa [natV, isP_d] using h2
def sp_rinit : Spec := fun vs S Q _ => match vs with
  | [.ref p, v, w] => ∃ c, S p = some (.ins c []) ∧ c = 5 ∧ Q .non (up S p (.ins c [("base", v), ("rule", w)]))
  | _ => False
theorem w_rinit {G : Cfg} (h1 : G.fl 5 "base" = true) (h2 : G.fl 5 "rule" = true) : Wk G sp_rinit n_Replacer_init b_Replacer_init := by
  intro args S Q E h
  unfold sp_rinit at h
  split at h <;> first | contradiction | skip
  rename_i p v w
  obtain ⟨c, hp, rfl, hq⟩ := h
  unfold b_Replacer_init
  refine step fun K hK => ?_
  simp only [n_Replacer_init, wSs, wS, wE, wEs, wO, wI, wC, wIf, wBin, wSub, startE_cons, startE_nil, List.replicate, getV_0, getV_s, withO_s, withB_b, bind_one, bind_two, List.set_cons_zero, List.set_cons_succ, wipeE, Nat.zero_add, atI_0, atI_1, atI_2, atI_3, see_int, see_bl, see_str, see_non, dep_int, dep_bl, dep_str, dep_non, Nat.zero_min, Nat.min_zero, Nat.zero_le, true_imp_iff, false_imp_iff, Bool.not_false, Bool.not_true, reduceCtorEq, and_true, true_and, List.length_cons, List.length_nil, hp]
  refine ⟨h1, by decide, hK _ _ (step fun K2 hK2 => ?_)⟩
  simp only [wSs, wS, wE, wEs, wO, wI, wC, wIf, wBin, wSub, startE_cons, startE_nil, List.replicate, getV_0, getV_s, withO_s, withB_b, bind_one, bind_two, List.set_cons_zero, List.set_cons_succ, wipeE, Nat.zero_add, atI_0, atI_1, atI_2, atI_3, see_int, see_bl, see_str, see_non, dep_int, dep_bl, dep_str, dep_non, Nat.zero_min, Nat.min_zero, Nat.zero_le, true_imp_iff, false_imp_iff, Bool.not_false, Bool.not_true, reduceCtorEq, and_true, true_and, List.length_cons, List.length_nil, up_same]
  refine ⟨h2, by show 1 < 900; decide, hK2 _ _ ?_⟩
  simp only [wSs, wS, wE, wEs, wO, wI, wC, wIf, wBin, wSub, startE_cons, startE_nil, List.replicate, getV_0, getV_s, withO_s, withB_b, bind_one, bind_two, List.set_cons_zero, List.set_cons_succ, wipeE, Nat.zero_add, atI_0, atI_1, atI_2, atI_3, see_int, see_bl, see_str, see_non, dep_int, dep_bl, dep_str, dep_non, Nat.zero_min, Nat.min_zero, Nat.zero_le, true_imp_iff, false_imp_iff, Bool.not_false, Bool.not_true, reduceCtorEq, and_true, true_and, List.length_cons, List.length_nil, up_up]
  exact rt_here hq
def mtR : MTab := fun c m => if c = 5 then (if m = ("step" : Str) then some ps_rstep else if m = ("sign" : Str) then some ps_rsign else none) else none
/-- states of a rule's row, figure by figure -/
theorem runF {rl : List (List Nat)} {b : Nat} (ok : StOk rl b) : ∀ (w f : List Nat) (s : Nat), Figs b w → f.length = rl.length → s < rl.length → ((runA (stepF rl) f w)[s]?).getD 0 = (f[pathR rl w s]?).getD 0
  | [], _, _, _, _, _ => rfl
  | d :: w, f, s, hw, hf, hs => by
    show ((runA (stepF rl) (stepF rl f d) w)[s]?).getD 0 = _
    have hp : ∀ w : List Nat, pathR rl w s < rl.length := by
      intro w
      induction w with
      | nil => exact hs
      | cons d w ih => exact step_lt ok (by omega) _ _
    rw [runF ok w (stepF rl f d) s (fun x hx => hw x (by simp [hx])) (by simp [stepF]) hs]
    unfold stepF
    rw [List.getElem?_map, List.getElem?_eq_getElem (hp w)]
    simp only [Option.map_some, Option.getD_some, pathR]
    congr 2
    unfold stepL
    rw [List.getElem?_eq_getElem (hp w)]
    rfl
theorem walker_rule {b : Nat} {rl : List (List Nat)} (R : RuleOk b rl) {S : Sto} {p : Addr} (hp : S p = some (.ins 5 [("base", .int b), ("rule", ruleV rl)])) : Walker mtR S p stV natV (stepF rl) headF (fun f => f.length = rl.length ∧ ∀ x ∈ f, x < rl.length) b 27 2 5 where
  obj := ⟨_, hp, rfl, rfl, rfl⟩
  nxt := fun a d ha hd => ⟨by simp [stepF], fun x hx => by
    unfold stepF at hx
    obtain ⟨r, hr, rfl⟩ := List.mem_map.mp hx
    have hw := R.ok.wide r hr
    have ht := R.ok.to r hr r[d] (List.getElem_mem (by omega))
    have e1 : (r[d]?).getD 0 = r[d] := by rw [List.getElem?_eq_getElem (by omega)]; rfl
    rw [e1, List.getElem?_eq_getElem (by omega), Option.getD_some]
    exact ha.2 _ (List.getElem_mem _)⟩
  step := ⟨ps_rstep, by simp [mtR], fun a d Q ha hd hq => ⟨b, d, rl, a, 5, _, hp, rfl, rfl, rfl, hd, R.ok, ha.1, hq⟩⟩
  sign := ⟨ps_rsign, by unfold mtR; rw [if_pos rfl, if_neg (by decide), if_pos rfl], fun a Q ha hq => ⟨a, rfl, by have := R.few; omega, hq⟩⟩
  key := key_stV
  few := fun L h1 h2 => by
    have h3 : L.Nodup := (List.pairwise_map.mp h2).imp fun h z => h (by rw [z])
    have := h3.length_le_of_subset (l₂ := allL rl.length rl.length) fun f hf => allL_mem (h1 f hf).1 (h1 f hf).2
    have := allL_few R.few
    omega
  small := ⟨by decide, by have := R.base; omega⟩
  same := fun a a' _ _ h => by rw [stV_inj h]; exact ⟨fun _ _ => rfl, rfl⟩
/-- the row of a rule: a least one, or too many states -/
def rowAns (b : Nat) (rl : List (List Nat)) (yes : List (List Nat) → List Nat → Prop) (no : Prop) : Prop :=
  ∀ st2 ms2 T, (∀ w, Figs b w → T w = pathR rl w 0) → Least b st2 ms2 T → st2.length ≤ 27 → (st2.length ≤ 8 → yes st2 ms2) ∧ (8 < st2.length → no)
def sp_row_of : Spec := fun vs S Q E => match vs with
  | [.int bi, v] => ∃ (b : Nat) (rl : List (List Nat)), bi = b ∧ v = ruleV rl ∧ RuleOk b rl ∧ rowAns b rl (fun st2 ms2 => Q (Row.val ⟨st2, ms2⟩) S) (E 6 S)
  | _ => False
def ps_row_of : PSpec := fun vs S Q E => match vs with
  | [.d (.int bi), .d v] => ∃ (b : Nat) (rl : List (List Nat)), bi = b ∧ v = ruleV rl ∧ RuleOk b rl ∧ rowAns b rl (fun st2 ms2 => Q (.d (Row.val ⟨st2, ms2⟩))) (E 6)
  | _ => False
theorem up_row_of (vs : List Val) (S : Sto) (Q : KV) (E : Nat → Sto → Prop) (h : up1 ps_row_of vs S Q E) : sp_row_of vs S Q E := by
  obtain ⟨pvs, S0, Qp, Ep, le, ar, hp, hr, hx⟩ := h
  unfold ps_row_of at hp
  split at hp
  · rename_i bi v
    match vs, ar with
    | [b', v'], ar =>
      have e1 : b' = .int bi := ar.1
      have e2 : v' = v := ar.2.1
      subst e1 e2
      obtain ⟨b, rl, rfl, rfl, R, ha⟩ := hp
      exact ⟨b, rl, rfl, rfl, R, fun st2 ms2 T hT hL h27 => ⟨fun z => hr _ ((ha st2 ms2 T hT hL h27).1 z), fun z => hx _ ((ha st2 ms2 T hT hL h27).2 z)⟩⟩
    | [], ar => exact ar.elim
    | [_], ar => exact ar.2.elim
    | _ :: _ :: _ :: _, ar => exact ar.2.2.elim
  · exact hp.elim
structure RowOfG (G : Cfg) (st : Str) : Prop where
  f62 : G.fn 62 = some (up1 ps_need_rule)
  f14 : G.fn 14 = some (up1 (ps_walked mtR))
  ini : G.mt 5 "__init__" = some sp_rinit
  cs : G.cv st = some (.int 8)
theorem w_row_of {G : Cfg} {st : Str} (g : RowOfG G st) : Wk G sp_row_of n_row_of (b_row_of st) := by
  intro args S Q E h
  unfold sp_row_of at h
  split at h <;> first | contradiction | skip
  obtain ⟨b, rl, rfl, rfl, R, ha⟩ := h
  unfold b_row_of
  refine step fun K hK => ?_
  simp only [n_row_of, wSs, wS, wE, wEs, wO, wI, wC, wIf, wBin, wSub, startE_cons, startE_nil, List.replicate, getV_0, getV_s, withO_s, withB_b, bind_one, bind_two, List.set_cons_zero, List.set_cons_succ, wipeE, Nat.zero_add, atI_0, atI_1, atI_2, atI_3, see_int, see_bl, see_str, see_non, dep_int, dep_bl, dep_str, dep_non, Nat.zero_min, Nat.min_zero, Nat.zero_le, true_imp_iff, false_imp_iff, Bool.not_false, Bool.not_true, reduceCtorEq, and_true, true_and, List.length_cons, List.length_nil, g.f62]
  refine up1_d ⟨b, rl, rfl, rfl, R, ?_⟩
  refine hK _ _ (step fun K2 hK2 => ?_)
  simp only [wSs, wS, wE, wEs, wO, wI, wC, wIf, wBin, wSub, startE_cons, startE_nil, List.replicate, getV_0, getV_s, withO_s, withB_b, bind_one, bind_two, List.set_cons_zero, List.set_cons_succ, wipeE, Nat.zero_add, atI_0, atI_1, atI_2, atI_3, see_int, see_bl, see_str, see_non, dep_int, dep_bl, dep_str, dep_non, Nat.zero_min, Nat.min_zero, Nat.zero_le, true_imp_iff, false_imp_iff, Bool.not_false, Bool.not_true, reduceCtorEq, and_true, true_and, List.length_cons, List.length_nil, g.f14, g.ini, sp_rinit]
  intro p np
  refine ⟨5, up_same, rfl, ?_⟩
  have e0 : S.le (up S p (.ins 5 [("base", .int b), ("rule", ruleV rl)])) := le_new (.refl S) np
  simp only [wSs, wS, wE, wEs, wO, wI, wC, wIf, wBin, wSub, startE_cons, startE_nil, List.replicate, getV_0, getV_s, withO_s, withB_b, bind_one, bind_two, List.set_cons_zero, List.set_cons_succ, wipeE, Nat.zero_add, atI_0, atI_1, atI_2, atI_3, see_int, see_bl, see_str, see_non, dep_int, dep_bl, dep_str, dep_non, Nat.zero_min, Nat.min_zero, Nat.zero_le, true_imp_iff, false_imp_iff, Bool.not_false, Bool.not_true, reduceCtorEq, and_true, true_and, List.length_cons, List.length_nil, up_up, wBt, ruleV, wRng, List.length_map]
  have hfew := R.few
  refine ⟨by omega, by omega, up1_d ?_⟩
  rw [Int.toNat_natCast, range_natV]
  refine ⟨List Nat, Nat, stV, natV, stepF rl, headF, _, b, 27, 2, 5, 0, List.range rl.length, walker_rule R up_same, mks_nat, ⟨by simp, by simp⟩, rfl, fun st2 ms2 T hT hL h27 => ?_⟩
  have hans := ha st2 ms2 T (fun w hw => by
    have h0 : 0 < rl.length := by have := R.few; omega
    rw [hT w hw]
    unfold headF
    rw [runF R.ok w _ 0 hw (by simp) h0]
    have hp : pathR rl w 0 < rl.length := by
      clear hT hw
      induction w with
      | nil => exact h0
      | cons d w ih => exact step_lt R.ok h0 _ _
    rw [List.getElem?_eq_getElem (by simpa using hp)]
    simp) hL h27
  show K2 _ _
  refine hK2 _ _ (step fun K3 hK3 => ite_step fun A B hA hB => ?_)
  simp only [wSs, wS, wE, wEs, wO, wI, wC, wIf, wBin, wSub, startE_cons, startE_nil, List.replicate, getV_0, getV_s, withO_s, withB_b, bind_one, bind_two, List.set_cons_zero, List.set_cons_succ, wipeE, Nat.zero_add, atI_0, atI_1, atI_2, atI_3, see_int, see_bl, see_str, see_non, dep_int, dep_bl, dep_str, dep_non, Nat.zero_min, Nat.min_zero, Nat.zero_le, true_imp_iff, false_imp_iff, Bool.not_false, Bool.not_true, reduceCtorEq, and_true, true_and, List.length_cons, List.length_nil, g.cs, wBt, wCmp, List.length_map]
  refine ⟨fun z => hA _ _ ?_, fun z => hB _ _ ?_⟩
  · simp only [wSs, wS, wE, wEs, wO, wI, wC, wIf, wBin, wSub, startE_cons, startE_nil, List.replicate, getV_0, getV_s, withO_s, withB_b, bind_one, bind_two, List.set_cons_zero, List.set_cons_succ, wipeE, Nat.zero_add, atI_0, atI_1, atI_2, atI_3, see_int, see_bl, see_str, see_non, dep_int, dep_bl, dep_str, dep_non, Nat.zero_min, Nat.min_zero, Nat.zero_le, true_imp_iff, false_imp_iff, Bool.not_false, Bool.not_true, reduceCtorEq, and_true, true_and, List.length_cons, List.length_nil]
    refine ⟨S, e0, hans.2 (by simp at z; omega)⟩
  · simp only [wSs, wS, wE, wEs, wO, wI, wC, wIf, wBin, wSub, startE_cons, startE_nil, List.replicate, getV_0, getV_s, withO_s, withB_b, bind_one, bind_two, List.set_cons_zero, List.set_cons_succ, wipeE, Nat.zero_add, atI_0, atI_1, atI_2, atI_3, see_int, see_bl, see_str, see_non, dep_int, dep_bl, dep_str, dep_non, Nat.zero_min, Nat.min_zero, Nat.zero_le, true_imp_iff, false_imp_iff, Bool.not_false, Bool.not_true, reduceCtorEq, and_true, true_and, List.length_cons, List.length_nil]
    refine hK3 _ _ ?_
    simp only [wSs, wS, wE, wEs, wO, wI, wC, wIf, wBin, wSub, startE_cons, startE_nil, List.replicate, getV_0, getV_s, withO_s, withB_b, bind_one, bind_two, List.set_cons_zero, List.set_cons_succ, wipeE, Nat.zero_add, atI_0, atI_1, atI_2, atI_3, see_int, see_bl, see_str, see_non, dep_int, dep_bl, dep_str, dep_non, Nat.zero_min, Nat.min_zero, Nat.zero_le, true_imp_iff, false_imp_iff, Bool.not_false, Bool.not_true, reduceCtorEq, and_true, true_and, List.length_cons, List.length_nil]
    exact ⟨S, e0, hans.1 (by simp at z; omega)⟩
def ps_told : PSpec := fun vs S Q _ => match vs with
  | [.d (.int bi), .d v] => ∃ (b : Nat) (rl : List (List Nat)), bi = b ∧ v = ruleV rl ∧ RuleOk b rl ∧ rowAns b rl (fun st2 ms2 => Q (.d (Row.val ⟨st2, ms2⟩))) (Q (.d (.str "big")))
  | _ => False
theorem w_told {g : PCfg} (f64 : g.fn 64 = some ps_row_of) (ek : g.G.ek 6 = true) (s66 : g.G.sub 6 6 = true) (s60 : g.G.sub 6 0 = true) (s69 : g.G.sub 6 99 = true) : Wp g ps_told n__law_told b__law_told := by
  intro args S Q E h
  unfold ps_told at h
  split at h <;> first | contradiction | skip
  obtain ⟨b, rl, rfl, rfl, R, ha⟩ := h
  unfold b__law_told
  refine pstep fun K hK => ?_
  simp! only [n__law_told, f64, ps_row_of]
  refine ⟨b, rl, rfl, rfl, R, fun st2 ms2 T hT hL h27 => ⟨fun z => (ha st2 ms2 T hT hL h27).1 z, fun z => ⟨ek, fun _ => ?_, fun q => by rw [s66] at q; cases q⟩⟩⟩
  have := (ha st2 ms2 T hT hL h27).2 z
  simpa [pH, s60, s69] using this
end DL

set_option autoImplicit true
set_option Elab.async false
set_option autoImplicit false
set_option linter.all false
set_option maxRecDepth 100000
set_option maxHeartbeats 4000000
/-! Own layer, plain: a rule is drawn. -/
namespace DL
open PySem
def n__law_rule : List Str := ["_law_script", "_law_m", "_law_base", "_law_many", "_law_sign_here", "_law_k", "_law_rule_here"]
def b__law_rule : Sms :=
  (.cons (.asg 3 (.bin .add (.int 1) (.call 102 (.cons (.var 0) (.cons (.var 1) (.cons (.int 3) .nil))))))
  (.cons (.asg 6 (.comp (.mk (.one 4) [4] (.bltc .tuple (.mk (.one 5) [5] (.call 102 (.cons (.var 0) (.cons (.var 1) (.cons (.var 3) .nil)))) (.rng (.cons (.var 2) .nil)) .none)) (.rng (.cons (.var 3) .nil)) .none)))
  (.cons (.setI (.var 6) (.int 0) (.bin .add (.tup (.cons (.int 0) .nil)) (.slice (.sub (.var 6) (.int 0)) (.some (.int 1)) .none)))
  (.cons (.ret (.blt .tuple (.cons (.var 6) .nil)))
  .nil))))

def sp_rule : Spec := fun vs S Q _ => match vs with
  | [.lst sc, .ref b, .int bi] => ∃ (ns : List Int) (m base : Nat), sc = ns.map .int ∧ S b = some (.lst [.int m]) ∧ bi = base ∧ (2 ≤ base ∧ base ≤ 3) ∧
      ∀ (rl : List (List Nat)) (j : Nat), RuleOk base rl → Q (ruleV rl) (up S b (.lst [.int j]))
  | _ => False
theorem w_rule {G : Cfg} (g : DrawG G) : Wk G sp_rule n__law_rule b__law_rule := by
  intro args S Q E h
  unfold sp_rule at h
  split at h <;> first | contradiction | skip
  rename_i sc b bi
  obtain ⟨ns, m, base, rfl, hb, rfl, hbase, h2⟩ := h
  unfold b__law_rule
  refine step fun K hK => ?_
  simp only [n__law_rule, wSs, wS, wE, wEs, wO, wI, wC, wIf, wBin, wSub, startE_cons, startE_nil, List.replicate, getV_0, getV_s, withO_s, withB_b, bind_one, bind_two, List.set_cons_zero, List.set_cons_succ, wipeE, Nat.zero_add, atI_0, atI_1, atI_2, atI_3, see_int, see_bl, see_str, see_non, dep_int, dep_bl, dep_str, dep_non, Nat.zero_min, Nat.min_zero, Nat.zero_le, true_imp_iff, false_imp_iff, Bool.not_false, Bool.not_true, reduceCtorEq, and_true, true_and, List.length_cons, List.length_nil, g.f102, sp_next]
  refine ⟨ns, m, rfl, hb, by omega, fun r r0 r1 => hK _ _ (step fun K2 hK2 => ?_)⟩
  obtain ⟨r, rfl⟩ := Int.eq_ofNat_of_zero_le r0
  have hmany : (1 : Int) + (r : Int) = ((r + 1 : Nat) : Int) := by omega
  rw [hmany]
  generalize hM : r + 1 = many
  have hmany1 : 1 ≤ many ∧ many ≤ 3 := by omega
  simp only [wSs, wS, wE, wEs, wO, wI, wC, wIf, wBin, wSub, startE_cons, startE_nil, List.replicate, getV_0, getV_s, withO_s, withB_b, bind_one, bind_two, List.set_cons_zero, List.set_cons_succ, wipeE, Nat.zero_add, atI_0, atI_1, atI_2, atI_3, see_int, see_bl, see_str, see_non, dep_int, dep_bl, dep_str, dep_non, Nat.zero_min, Nat.min_zero, Nat.zero_le, true_imp_iff, false_imp_iff, Bool.not_false, Bool.not_true, reduceCtorEq, and_true, true_and, List.length_cons, List.length_nil, g.f102, sp_next, wRng]
  refine ⟨by omega, by omega, ?_⟩
  rw [Int.toNat_natCast, range_natV]
  refine turns_inv (fun rest acc S' => ∃ (rl : List (List Nat)) (j : Nat), acc = rl.map stV ∧ (∀ q ∈ rl, q.length = base ∧ ∀ t ∈ q, t < many) ∧ rl.length + rest.length = many ∧ S' = up S b (.lst [.int j])) ?_ ?_ _ _ _ ⟨[], m + 1, rfl, by simp, by simp [rangeL], rfl⟩
  · rintro x rest acc S' ⟨rl, j, rfl, h3, h4, rfl⟩
    refine ⟨trivial, fun k hk => ⟨by omega, by omega, ?_⟩⟩
    refine turns_inv (fun rest2 acc S' => ∃ (q : List Nat) (j : Nat), acc = q.map natV ∧ (∀ t ∈ q, t < many) ∧ q.length + rest2.length = base ∧ S' = up S b (.lst [.int j])) ?_ ?_ _ _ _ ⟨[], j, rfl, by simp, by simp, rfl⟩
    · rintro x rest2 acc S' ⟨q, j, rfl, h5, h6, rfl⟩
      refine ⟨trivial, fun k2 hk2 => ⟨ns, j, rfl, up_same, by omega, fun z z0 z1 => ?_⟩⟩
      obtain ⟨z, rfl⟩ := Int.eq_ofNat_of_zero_le z0
      rw [up_up]
      refine hk2 _ _ ⟨q ++ [z], j + 1, by simp [natV], fun t ht => ?_, by simp at h6 ⊢; omega, rfl⟩
      rcases List.mem_append.mp ht with w | w
      · exact h5 t w
      · simp at w; omega
    · rintro acc S' ⟨q, j, rfl, h5, h6, rfl⟩
      refine ⟨trivial, ?_⟩
      simp only [wBtL]
      refine hk _ _ ⟨rl ++ [q], j, by simp [stV], fun t ht => ?_, by simp at h4 ⊢; omega, rfl⟩
      rcases List.mem_append.mp ht with w | w
      · exact h3 t w
      · simp at w h6; subst w; exact ⟨h6, h5⟩
  · rintro acc S' ⟨rl, j, rfl, h3, h4, rfl⟩
    refine ⟨trivial, fun p hp => ?_⟩
    have h4 : rl.length = many := by simpa using h4
    have hpb : b ≠ p := fun z => by rw [← z, DL.up_same] at hp; cases hp
    have hSp : S p = none := by rw [up_get (Ne.symm hpb)] at hp; exact hp
    cases rl with
    | nil => simp at h4; omega
    | cons q0 rl =>
      have hq := h3 q0 (by simp)
      cases q0 with
      | nil => simp at hq; omega
      | cons t0 q0 =>
        refine hK2 _ _ (step fun K3 hK3 => ?_)
        have c1 : cutL (natV t0 :: q0.map natV) (some 1) none = q0.map natV := by
          unfold cutL
          rw [show (1 : Int) = ((1 : Nat) : Int) from rfl, HT.sIx_nat, HT.sIx_none]
          simp [List.take_of_length_le]
        have hql : q0.length + 1 = base := hq.1
        simp only [wSs, wS, wE, wEs, wO, wI, wC, wIf, wBin, wSub, startE_cons, startE_nil, List.replicate, getV_0, getV_s, withO_s, withB_b, bind_one, bind_two, List.set_cons_zero, List.set_cons_succ, wipeE, Nat.zero_add, atI_0, atI_1, atI_2, atI_3, see_int, see_bl, see_str, see_non, dep_int, dep_bl, dep_str, dep_non, Nat.zero_min, Nat.min_zero, Nat.zero_le, true_imp_iff, false_imp_iff, Bool.not_false, Bool.not_true, reduceCtorEq, and_true, true_and, List.length_cons, List.length_nil, up_same, List.map_cons, stV, wSlice, c1]
        refine ⟨by simp only [List.length_map]; unfold line; omega, ?_⟩
        have ix : L2.ixN (Val.tup (natV t0 :: q0.map natV) :: rl.map stV).length 0 = some 0 := by simp [L2.ixN]
        simp only [wSetI, up_same, ix, withO_s]
        refine hK3 _ _ ?_
        simp only [wSs, wS, wE, wEs, wO, wI, wC, wIf, wBin, wSub, startE_cons, startE_nil, List.replicate, getV_0, getV_s, withO_s, withB_b, bind_one, bind_two, List.set_cons_zero, List.set_cons_succ, wipeE, Nat.zero_add, atI_0, atI_1, atI_2, atI_3, see_int, see_bl, see_str, see_non, dep_int, dep_bl, dep_str, dep_non, Nat.zero_min, Nat.min_zero, Nat.zero_le, true_imp_iff, false_imp_iff, Bool.not_false, Bool.not_true, reduceCtorEq, and_true, true_and, List.length_cons, List.length_nil, up_up, wBt, up_same, List.set_cons_zero]
        have RO : RuleOk base ((0 :: q0) :: rl) := by
          refine ⟨⟨fun q hq' => ?_, fun q hq' t ht => ?_⟩, hbase, by simp at h4 ⊢; omega, rfl⟩
          · rcases List.mem_cons.mp hq' with z | z
            · rw [z]; exact hql
            · exact (h3 q (by simp [z])).1
          · have hl : ((0 :: q0) :: rl).length = many := by simpa using h4
            rw [hl]
            rcases List.mem_cons.mp hq' with z | z
            · rw [z] at ht
              rcases List.mem_cons.mp ht with y | y
              · omega
              · exact hq.2 t (by simp [y])
            · exact (h3 q (by simp [z])).2 t ht
        have := h2 _ j RO
        refine ⟨_, le_new (.refl _) hp, ?_⟩
        simpa [ruleV, stV, natV] using this
end DL

set_option autoImplicit true
set_option Elab.async false
set_option autoImplicit false
set_option linter.all false
set_option maxRecDepth 100000
set_option maxHeartbeats 4000000
/-! Own layer, plain: how many states the least machine has. -/
namespace DL
open PySem
theorem metN_mem : ∀ (ks seen : List Nat) (x : Nat), x ∈ metN seen ks → x ∈ seen ∨ x ∈ ks
  | [], seen, x, h => .inl h
  | k :: ks, seen, x, h => by
    rcases metN_mem ks _ x h with z | z
    · split at z
      · exact .inl z
      · rcases List.mem_append.mp z with y | y
        · exact .inl y
        · simp at y; exact .inr (by simp [y])
    · exact .inr (by simp [z])
/-- each numbered state is met on some way -/
theorem reach_all {st : List (List Nat)} {b : Nat} (ok : StOk st b) (ord : metN [0] st.flatten = List.range st.length) (ahead : ∀ i, i < st.length → i < (metN [0] (st.take i).flatten).length) :
    ∀ (n i : Nat), i ≤ n → i < st.length → ∃ w, Figs b w ∧ runL st 0 w = i := by
  intro n
  induction n with
  | zero =>
    intro i hi _
    exact ⟨[], (fun x hx => by cases hx), by simp [runL]; omega⟩
  | succ n ih =>
    intro i hi hl
    have h1 := ahead i hl
    have h2 := least_prefix ord i
    have h3 : i ∈ metN [0] ((st.take i).flatten) := by rw [h2]; simpa using h1
    rcases metN_mem _ _ _ h3 with z | z
    · simp at z
      exact ⟨[], (fun x hx => by cases hx), by simp [runL]; omega⟩
    · obtain ⟨r, hr, hx⟩ := List.mem_flatten.mp z
      obtain ⟨j, hj, rfl⟩ := List.getElem_of_mem hr
      rw [List.length_take] at hj
      rw [List.getElem_take] at hx
      have hj2 : j < st.length := by omega
      obtain ⟨a, ha, e⟩ := List.getElem_of_mem hx
      have hw := ok.wide _ (List.getElem_mem hj2)
      obtain ⟨w, w1, w2⟩ := ih j (by omega) hj2
      have hs := step_at ok hj2 (a := a) (by omega)
      rw [List.getElem?_eq_getElem ha, e] at hs
      injection hs with hs
      refine ⟨w ++ [a], fun x hx => ?_, ?_⟩
      · rcases List.mem_append.mp hx with y | y
        · exact w1 x y
        · simp at y; omega
      · rw [runL_app, w2]
        show stepL st j a = i
        exact hs.symm
section
variable {β : Type} {st st2 : List (List Nat)} {ms ms2 : List β} {b : Nat} {T : List Nat → β}
/-- two machines that agree on all figures agree on all letters -/
theorem agree_all (okA : StOk st b) (okB : StOk st2 b) (pA : 0 < st.length) (pB : 0 < st2.length) (h : ∀ w, Figs b w → ms[runL st 0 w]? = ms2[runL st2 0 w]?) : ∀ w, ms[runL st 0 w]? = ms2[runL st2 0 w]? := by
  have out : ∀ (st : List (List Nat)) (ok : StOk st b) (s c : Nat), s < st.length → ¬ c < b → stepL st s c = 0 := by
    intro st ok s c hs hc
    unfold stepL
    rw [List.getElem?_eq_getElem hs]
    simp only [Option.getD_some]
    rw [List.getElem?_eq_none (by rw [ok.wide _ (List.getElem_mem hs)]; omega)]
    rfl
  have key : ∀ (w u : List Nat), Figs b u → ms[runL st (runL st 0 u) w]? = ms2[runL st2 (runL st2 0 u) w]? := by
    intro w
    induction w with
    | nil => intro u hu; exact h u hu
    | cons c w ih =>
      intro u hu
      by_cases hc : c < b
      · have := ih (u ++ [c]) fun d hd => by
          rcases List.mem_append.mp hd with z | z
          · exact hu d z
          · simp at z; omega
        rw [runL_app, runL_app] at this
        exact this
      · rw [runL_cons, runL_cons, out st okA _ _ (run_lt okA pA u 0 pA) hc, out st2 okB _ _ (run_lt okB pB u 0 pB) hc]
        exact ih [] fun d hd => by cases hd
  exact fun w => key w [] fun d hd => by cases hd
/-- the states that are told apart, one of each kind: as many as the least machine has -/
theorem least_count (okA : StOk st b) (pA : 0 < st.length) (reach : ∀ i, i < st.length → ∃ w, Figs b w ∧ runL st 0 w = i) (L : Least b st2 ms2 T) (h : ∀ w, Figs b w → ms[runL st 0 w]? = some (T w))
    {F : List Nat} (hF : ∀ f ∈ F, f < st.length) (apart : F.Pairwise fun i j => ¬ SameB st ms j i) (all : ∀ k, k < st.length → ∃ f ∈ F, SameB st ms k f) : F.length = st2.length := by
  have ag := agree_all (ms := ms) (ms2 := ms2) okA L.ok pA L.pos fun w hw => by rw [h w hw, L.tells]
  have r2 := fun i hi => reach_all L.ok L.ord L.ahead i i (Nat.le_refl i) hi
  have go : ∀ k, ∃ i, k < st.length → (i < st2.length ∧ ∃ u, runL st 0 u = k ∧ runL st2 0 u = i) := fun k => by
    by_cases q : k < st.length
    · obtain ⟨w, _, hw⟩ := reach k q
      exact ⟨runL st2 0 w, fun _ => ⟨run_lt L.ok L.pos w 0 L.pos, w, hw, rfl⟩⟩
    · exact ⟨0, fun z => absurd z q⟩
  have same : ∀ (k k' i i' : Nat) (u u' : List Nat), runL st 0 u = k → runL st2 0 u = i → runL st 0 u' = k' → runL st2 0 u' = i' → i < st2.length → i' < st2.length → (SameB st ms k k' ↔ i = i') := by
    rintro k k' i i' u u' rfl rfl rfl rfl hi hi'
    constructor
    · intro hs
      refine L.dist _ _ hi hi' fun w => ?_
      have := hs w
      rw [← runL_app, ← runL_app, ag, ag, runL_app, runL_app] at this
      exact this
    · intro e w
      rw [← runL_app, ← runL_app, ag, ag, runL_app, runL_app, e]
  let φ : Nat → Nat := fun k => Classical.choose (go k)
  have hφ : ∀ k, k < st.length → (φ k < st2.length ∧ ∃ u, runL st 0 u = k ∧ runL st2 0 u = φ k) := fun k hk => Classical.choose_spec (go k) hk
  have sφ : ∀ k k', k < st.length → k' < st.length → (SameB st ms k k' ↔ φ k = φ k') := fun k k' hk hk' => by
    obtain ⟨h1, u, u1, u2⟩ := hφ k hk
    obtain ⟨h2, v, v1, v2⟩ := hφ k' hk'
    exact same k k' _ _ u v u1 u2 v1 v2 h1 h2
  have nd : (F.map φ).Nodup := by
    refine List.pairwise_map.mpr (apart.imp_of_mem fun {i j} hi hj hn => ?_)
    exact fun e => hn ((sφ j i (hF j hj) (hF i hi)).mpr e.symm)
  have sub1 : ∀ x ∈ F.map φ, x ∈ List.range st2.length := fun x hx => by
    obtain ⟨f, hf, rfl⟩ := List.mem_map.mp hx
    exact List.mem_range.mpr (hφ f (hF f hf)).1
  have sub2 : ∀ x ∈ List.range st2.length, x ∈ F.map φ := fun x hx => by
    have hx := List.mem_range.mp hx
    obtain ⟨v, _, v2⟩ := r2 x hx
    have hk : runL st 0 v < st.length := run_lt okA pA v 0 pA
    obtain ⟨f, hf, hs⟩ := all _ hk
    obtain ⟨h1, u, u1, u2⟩ := hφ f (hF f hf)
    have := (same _ f x _ v u rfl v2 u1 u2 hx h1).mp hs
    exact List.mem_map.mpr ⟨f, hf, this.symm⟩
  have l1 := nd.length_le_of_subset sub1
  have l2 := (List.nodup_range (n := st2.length)).length_le_of_subset sub2
  simp at l1 l2
  omega
end
theorem findI_place {α : Type} {enc : α → Val} (inj : ∀ a c, (enc a).nk = (enc c).nk → a = c) (pl : ∀ a, (enc a).pl = true) (a : α) : ∀ (L : List α) (n : Nat), a ∈ L → findI (·.veq (enc a)) (L.map enc) n = some (n + place (enc a).nk (L.map fun a => (enc a).nk))
  | x :: L, n, h => by
    rw [List.map_cons, findI, List.map_cons, place]
    by_cases e : x = a
    · subst e
      rw [if_pos ((veq_pl _ _ (pl x) (pl x)).mpr rfl), if_pos rfl]
      rfl
    · rw [if_neg (fun z => e (inj _ _ (by rw [(veq_pl _ _ (pl x) (pl a)).mp z]))), if_neg (fun z => e (inj _ _ z)), findI_place inj pl a L (n + 1) (by
        rcases List.mem_cons.mp h with z | z
        · exact absurd z.symm e
        · exact z)]
      congr 1
      omega
theorem stV_lay (s : List Nat) : (stV s).py.canLay0 = true := by
  have : ∀ s : List Nat, PyData.canLayAll0 (Val.pys (s.map natV)) = true := fun s => by
    induction s with
    | nil => rfl
    | cons x s ih => simp [Val.pys, natV, Val.py, PyData.canLayAll0, PyData.canLay0, ih]
  simp [stV, Val.py, PyData.canLay0, this]
theorem stVs_lay : ∀ L : List (List Nat), PyData.canLayAll0 (Val.pys (L.map stV)) = true
  | [] => rfl
  | x :: L => by
    rw [List.map_cons, Val.pys, PyData.canLayAll0, stV_lay, stVs_lay L]
    rfl
end DL

set_option autoImplicit true
set_option Elab.async false
set_option autoImplicit false
set_option linter.all false
set_option maxRecDepth 100000
set_option maxHeartbeats 4000000
/-! Own layer, plain: the law's count of a rule's states. -/
namespace DL
open PySem
local macro_rules
  | `(tactic| simp! only [$ls,*]) => `(tactic| try simp only [pSs, pS, pE, pEs, pO, pI, pIs, pC, pIf, pAsg, pAsgs, pSetI, pRet, pX, pMove, pUn, pBin, pLt_i, pLe_i, pGt_i, pGe_i, pLt_t, pEq_i, pNe_i, pEq_s, pNe_s, pEq_b, pNe_b, pIn_m, pNin_m, pSub_l, pSub_tup, pSub_lst, pSub_m, pSub_str, pSlice, pBt_len_l, pBt_tuple_l, pBt_list_l, pBt_len_m, pBt_len_tup, pBt_len_lst, pBt_len_str, pBt_list_tup, pBt_tuple_tup, pBt_int_int, pBt_int_bl, pBt_max2, pBt_min2, pBt_str_int, pIsi, pRecv, pMt, wBin, wSub, wSlice, wBt, wRng, startP_cons, startP_nil, List.replicate, getP_0, getP_s, withO_s, withB_b, withD_d, withPB_d, withPI_d, bor_d, bor_l, bor_m, isP_d, isP_l, isP_m, okA_d, okA_l, okA_m, lof_l, lof_m, lof_int, lof_bl, lof_str, lof_non, lof_tup, lof_lst, dof_l, dof_m, dof_int, dof_bl, dof_str, dof_non, dof_tup, dof_lst, dvl_int, dvl_bl, dvl_str, dvl_non, dvl_tup, dvl_lst, ds_nil, ds_cons, omap_some, pSee_d, iterP_l, iterP_tup, enP_l, enP_tup, pLend, see_int, see_bl, see_str, see_non, dep_int, dep_bl, dep_str, dep_non, Nat.zero_min, Nat.min_zero, Nat.zero_le, bindP_one, bindP_two, bindP_three, List.set_cons_zero, List.set_cons_succ, wipeP, Nat.zero_add, atI_0, atI_1, atI_2, atI_3, isV, frz, frz1, Bool.or_false, Bool.or_true, Bool.true_or, Bool.false_or, true_imp_iff, false_imp_iff, Bool.not_false, Bool.not_true, reduceCtorEq, and_true, true_and, List.length_cons, List.length_nil, List.map_cons, List.map_nil, List.length_map, tt_and, ff_and, $ls,*])
  | `(tactic| simp! only [$ls,*] $loc:location) => `(tactic| try simp only [pSs, pS, pE, pEs, pO, pI, pIs, pC, pIf, pAsg, pAsgs, pSetI, pRet, pX, pMove, pUn, pBin, pLt_i, pLe_i, pGt_i, pGe_i, pLt_t, pEq_i, pNe_i, pEq_s, pNe_s, pEq_b, pNe_b, pIn_m, pNin_m, pSub_l, pSub_tup, pSub_lst, pSub_m, pSub_str, pSlice, pBt_len_l, pBt_tuple_l, pBt_list_l, pBt_len_m, pBt_len_tup, pBt_len_lst, pBt_len_str, pBt_list_tup, pBt_tuple_tup, pBt_int_int, pBt_int_bl, pBt_max2, pBt_min2, pBt_str_int, pIsi, pRecv, pMt, wBin, wSub, wSlice, wBt, wRng, startP_cons, startP_nil, List.replicate, getP_0, getP_s, withO_s, withB_b, withD_d, withPB_d, withPI_d, bor_d, bor_l, bor_m, isP_d, isP_l, isP_m, okA_d, okA_l, okA_m, lof_l, lof_m, lof_int, lof_bl, lof_str, lof_non, lof_tup, lof_lst, dof_l, dof_m, dof_int, dof_bl, dof_str, dof_non, dof_tup, dof_lst, dvl_int, dvl_bl, dvl_str, dvl_non, dvl_tup, dvl_lst, ds_nil, ds_cons, omap_some, pSee_d, iterP_l, iterP_tup, enP_l, enP_tup, pLend, see_int, see_bl, see_str, see_non, dep_int, dep_bl, dep_str, dep_non, Nat.zero_min, Nat.min_zero, Nat.zero_le, bindP_one, bindP_two, bindP_three, List.set_cons_zero, List.set_cons_succ, wipeP, Nat.zero_add, atI_0, atI_1, atI_2, atI_3, isV, frz, frz1, Bool.or_false, Bool.or_true, Bool.true_or, Bool.false_or, true_imp_iff, false_imp_iff, Bool.not_false, Bool.not_true, reduceCtorEq, and_true, true_and, List.length_cons, List.length_nil, List.map_cons, List.map_nil, List.length_map, tt_and, ff_and, $ls,*] $loc:location)

def n__law_least_size : List Str := ["_law_base", "_law_rule_here", "_law_row", "_law_steps", "_law_state", "_law_figure", "_law_signs", "_law_to", "_law_marks", "_law_firsts", "_law_k", "_law_other"]
def b__law_least_size : Sms :=
  (.cons (.asg 2 (.lst (.cons (.trng (.cons (.blt .len (.cons (.var 1) .nil)) .nil)) .nil)))
  (.cons (.asg 3 (.lst .nil))
  (.cons (.while (.cmp .lt (.blt .len (.cons (.var 3) .nil)) (.blt .len (.cons (.var 2) .nil)))
    (.cons (.asg 4 (.lst .nil))
      (.cons (.for (.one 5) (.rng (.cons (.var 0) .nil))
        (.cons (.asg 7 (.bltc .tuple (.mk (.one 6) [6] (.sub (.sub (.var 2) (.blt .len (.cons (.var 3) .nil))) (.sub (.var 6) (.var 5))) (.val (.var 1)) .none)))
          (.cons (.ite (.cmp .notin (.var 7) (.var 2))
            (.cons (.expr (.meth (.var 2) .append (.cons (.var 7) .nil)))
              .nil)
            .nil)
          (.cons (.expr (.meth (.var 4) .append (.cons (.meth (.var 2) .index (.cons (.var 7) .nil)) .nil)))
          .nil))))
      (.cons (.expr (.meth (.var 3) .append (.cons (.blt .tuple (.cons (.var 4) .nil)) .nil)))
      .nil))))
  (.cons (.asg 8 (.comp (.mk (.one 4) [4] (.sub (.var 4) (.int 0)) (.val (.var 2)) .none)))
  (.cons (.asg 9 (.lst .nil))
  (.cons (.for (.one 10) (.rng (.cons (.blt .len (.cons (.var 2) .nil)) .nil))
    (.cons (.ite (.cmp .eq (.comp (.mk (.one 11) [11] (.var 11) (.val (.var 9)) (.some (.not (.call 109 (.cons (.var 3) (.cons (.var 8) (.cons (.var 10) (.cons (.var 11) .nil))))))))) (.lst .nil))
        (.cons (.expr (.meth (.var 9) .append (.cons (.var 10) .nil)))
          .nil)
        .nil)
      .nil))
  (.cons (.ret (.blt .len (.cons (.var 9) .nil)))
  .nil)))))))

def ps_least_size : PSpec := fun vs S Q _ => match vs with
  | [.d (.int bi), .d v] => ∃ (b : Nat) (rl : List (List Nat)), bi = b ∧ v = ruleV rl ∧ RuleOk b rl ∧
      ∀ n : Nat, (∀ (st2 : List (List Nat)) (ms2 : List Nat) (T : List Nat → Nat), (∀ w, Figs b w → T w = pathR rl w 0) → Least b st2 ms2 T → n = st2.length) → Q (.d (.int n))
  | _ => False
structure PSizeG (g : PCfg) : Prop where
  f109 : g.fn 109 = some ps_are_apart
theorem stV_injV {a c : List Nat} (h : stV a = stV c) : a = c := stV_inj (by rw [h])
theorem stV_dep (s : List Nat) : (stV s).dep ≤ 2 := by
  have : ∀ s : List Nat, Val.deps (s.map natV) = 0 := fun s => by
    induction s with
    | nil => rfl
    | cons x s ih => simp [Val.deps, natV, Val.dep, ih]
  simp [stV, Val.dep, this]
theorem stVs_dep (L : List (List Nat)) : Val.deps (L.map stV) ≤ 2 := by
  induction L with
  | nil => simp [Val.deps]
  | cons x s ih =>
    have := stV_dep x
    simp only [List.map_cons, Val.deps]
    omega
open Classical in
theorem w_least_size {g : PCfg} (G : PSizeG g) : Wp g ps_least_size n__law_least_size b__law_least_size := by
  intro args S Q E h
  unfold ps_least_size at h
  split at h <;> first | contradiction | skip
  obtain ⟨b, rl, rfl, rfl, R, h2⟩ := h
  have W := walker_rule R (S := fun _ => some (.ins 5 [("base", .int b), ("rule", ruleV rl)])) (p := 0) rfl
  have hb := R.base
  have hfew := R.few
  have hR0 : (List.range rl.length).length = rl.length ∧ ∀ x ∈ List.range rl.length, x < rl.length := by simp
  unfold b__law_least_size
  refine pstep fun K hK => ?_
  simp! only [n__law_least_size, ruleV]
  refine ⟨by omega, by omega, hK _ (pstep fun K2 hK2 => ?_)⟩
  simp! only []
  refine hK2 _ (pstep fun K3 hK3 => ?_)
  refine pwhile_step (fun m e => ∃ (L made : List (List Nat)) (v4 v5 v7 : Option PV), Bfs (fun a => (stV a).nk) (fun a => (List.range b).map (stepF rl a)) (List.range rl.length) L made [] ∧ (∀ s ∈ L, s.length = rl.length ∧ ∀ x ∈ s, x < rl.length) ∧ m = 27 - made.length ∧
      e = [some (.d (.int b)), some (.d (.tup (rl.map stV))), some (.l true (L.map stV)), some (.l true (made.map stV)), v4, v5, none, v7, none, none, none, none])
    ⟨_, [List.range rl.length], [], none, none, none, .start, by simpa using hR0, rfl, by rw [Int.toNat_natCast, range_natV]; rfl⟩ ?_
  rintro B hB m e ⟨L, made, v4, v5, v7, bb, hL, rfl, rfl⟩
  simp! only [List.length_map]
  refine ⟨fun q => hB _ _ (pstep fun K8 hK8 => ?_), fun q => hK3 _ (pstep fun K8 hK8 => ?_)⟩
  · have hlt : made.length < L.length := by simpa using q
    have hLn := W.few L hL bb.nodup
    simp! only []
    refine hK8 _ (pstep fun K9 hK9 => pfor_step fun B2 hB2 => ?_)
    have hs := hL _ (List.getElem_mem hlt)
    simp! only []
    refine ⟨by omega, by omega, ?_⟩
    rw [Int.toNat_natCast, range_natV]
    refine pfor_invT natV (fun rest e => ∃ (L2 : List (List Nat)) (done : List Nat) (v5 v7 : Option PV), Bfs (fun a => (stV a).nk) (fun a => (List.range b).map (stepF rl a)) (List.range rl.length) L2 made ((done.map (stepF rl L[made.length])).map fun t => place (stV t).nk (L2.map fun a => (stV a).nk)) ∧ (∀ s ∈ L2, s.length = rl.length ∧ ∀ x ∈ s, x < rl.length) ∧ done ++ rest = List.range b ∧ (∀ t ∈ done, (stV (stepF rl L[made.length] t)).nk ∈ L2.map fun a => (stV a).nk) ∧ L2[made.length]? = some L[made.length] ∧
        e = [some (.d (.int b)), some (.d (.tup (rl.map stV))), some (.l true (L2.map stV)), some (.l true (made.map stV)), some (.l true ((done.map fun t => place (stV (stepF rl L[made.length] t)).nk (L2.map fun a => (stV a).nk)).map natV)), v5, none, v7, none, none, none, none]) ?_ ?_ _ _
      ⟨L, [], v5, v7, by simpa using bb, hL, rfl, by simp, List.getElem?_eq_getElem hlt, rfl⟩
    · rintro t rest e ⟨L2, done, w5, w7, b2, hL2, hd, hin, hLs, rfl⟩
      have ht : t < b := List.mem_range.mp (by rw [← hd]; simp)
      have hlen : done.length < line := by
        have := congrArg List.length hd
        simp only [List.length_append, List.length_cons, List.length_range] at this
        unfold line
        omega
      have hL2n := W.few L2 hL2 b2.nodup
      have es2 : (L2.map stV)[made.length]? = some (stV L[made.length]) := by rw [List.getElem?_map, hLs]; rfl
      simp! only []
      intro k hk
      refine hB2 _ _ (pstep fun K10 hK10 => ?_)
      simp! only [natV]
      refine pturns_mapT stV (fun r => natV ((L[made.length][(r[t]?).getD 0]?).getD 0)) (fun r hr k hk => ?_) ?_
      · have hw := R.ok.wide r hr
        have e1 : (r.map natV)[t]? = some (natV r[t]) := by rw [List.getElem?_map, List.getElem?_eq_getElem (by omega)]; rfl
        have ht2 := R.ok.to r hr r[t] (List.getElem_mem _)
        have e2 : (L[made.length].map natV)[r[t]]? = some (natV L[made.length][r[t]]) := by rw [List.getElem?_map, List.getElem?_eq_getElem (by omega)]; rfl
        have e3 : (r[t]?).getD 0 = r[t] := by rw [List.getElem?_eq_getElem (by omega)]; rfl
        have e4 : (L[made.length][r[t]]?).getD 0 = L[made.length][r[t]] := by rw [List.getElem?_eq_getElem (by omega)]; rfl
        rw [e3, e4] at hk
        simp! only [List.length_map, atI_nat, es2]
        simp! only [stV, atI_nat, e1, natV, e2] at hk ⊢
        simp! only [natV, e2, atI_nat]
        simpa [natV] using hk
      · simp! only [pBtL]
        have hto : Val.tup (rl.map fun r => natV ((L[made.length][(r[t]?).getD 0]?).getD 0)) = stV (stepF rl L[made.length] t) := by
          unfold stepF stV
          rw [List.map_map]
          rfl
        rw [hto]
        generalize hTT : stepF rl L[made.length] t = TT at *
        have hTR : TT.length = rl.length ∧ ∀ x ∈ TT, x < rl.length := by rw [← hTT]; exact W.nxt _ _ hs ht
        have hmemI : ∀ L2 : List (List Nat), (stV TT).nk ∈ L2.map (fun a => (stV a).nk) ↔ TT ∈ L2 := fun L2 => by
          rw [List.mem_map]
          exact ⟨fun ⟨a, h1, h2⟩ => by rw [← stV_inj h2]; exact h1, fun h => ⟨TT, h, rfl⟩⟩
        have dTT := stV_dep TT
        have idx : ∀ L2 : List (List Nat), ((stV TT).dat && Val.dats (L2.map stV) && decide ((stV TT).dep ≤ 60) && decide (Val.deps (L2.map stV) ≤ 60) && (stV TT).py.canLay0 && PyData.canLayAll0 (Val.pys (L2.map stV))) = true := fun L2 => by
          have := stVs_dep L2
          simp only [stV_lay, stVs_lay, pl_dat _ (stV_pl TT), dats_map stV (fun t => pl_dat _ (stV_pl t)), Bool.and_true, Bool.true_and, Bool.and_eq_true, decide_eq_true_eq]
          omega
        refine hK10 _ (pstep fun K11 hK11 => pite_step fun A B3 hA hB3 => ?_)
        simp! only []
        rw [pNin stV_pl (fun _ _ => stV_injV) (by omega)]
        simp! only []
        by_cases hm : TT ∈ L2
        · simp! only [hm, decide_true]
          refine hB3 _ ?_
          simp! only []
          refine hK11 _ ?_
          simp! only [idx, findI_place (fun _ _ => stV_inj) stV_pl TT L2 0 hm]
          refine ⟨rfl, hlen, hk _ ⟨L2, done ++ [t], some (.d (.int t)), some (.d (stV TT)), ?_, hL2, by simpa using hd, fun u hu => ?_, hLs, ?_⟩⟩
          · have := b2.old ((hmemI L2).mpr hm)
            simpa [hTT] using this
          · rcases List.mem_append.mp hu with z | z
            · exact hin u z
            · simp at z; rw [z, hTT]; exact (hmemI L2).mpr hm
          · simp [natV, hTT]
        · simp! only [hm, decide_false]
          have hm' := fun z => hm ((hmemI L2).mp z)
          have hmem : TT ∈ L2 ++ [TT] := by simp
          have hpl : place (stV TT).nk ((L2 ++ [TT]).map (fun a => (stV a).nk)) = L2.length := by
            rw [List.map_append, List.map_cons, List.map_nil]
            have : ∀ l : List NestedKey, (stV TT).nk ∉ l → place (stV TT).nk (l ++ [(stV TT).nk]) = l.length := by
              intro l
              induction l with
              | nil => intro _; simp [place]
              | cons x l ih =>
                intro hx
                simp only [List.cons_append, place]
                rw [if_neg fun z => hx (by rw [z]; simp), ih fun z => hx (by simp [z])]
                rfl
            rw [this _ hm', List.length_map]
          have e0 : L2.map stV ++ [stV TT] = (L2 ++ [TT]).map stV := by simp
          refine hA _ ?_
          simp! only [List.length_map]
          refine ⟨by unfold line; omega, hK11 _ ?_⟩
          rw [e0]
          simp! only [idx, findI_place (fun _ _ => stV_inj) stV_pl TT (L2 ++ [TT]) 0 hmem, hpl]
          refine ⟨rfl, hlen, hk _ ⟨L2 ++ [TT], done ++ [t], some (.d (.int t)), some (.d (stV TT)), ?_, fun s hs' => ?_, by simpa using hd, fun u hu => ?_, ?_, ?_⟩⟩
          · have := b2.new hm'
            have e : ((done.map (stepF rl L[made.length])).map fun u => place (stV u).nk ((L2 ++ [TT]).map (fun a => (stV a).nk))) = (done.map (stepF rl L[made.length])).map fun u => place (stV u).nk (L2.map (fun a => (stV a).nk)) := List.map_congr_left fun u hu => by
              obtain ⟨u', hu', rfl⟩ := List.mem_map.mp hu
              rw [List.map_append, place_app (hin u' hu')]
            rw [List.map_append (l₁ := done), List.map_append (l₁ := done.map _), e]
            simp only [List.map_cons, List.map_nil, hTT, hpl]
            exact this
          · rcases List.mem_append.mp hs' with z | z
            · exact hL2 s z
            · simp at z; rw [z]; exact hTR
          · rcases List.mem_append.mp hu with z | z
            · rw [List.map_append]; exact List.mem_append.mpr (.inl (hin u z))
            · simp at z; rw [z, hTT]; exact (hmemI _).mpr hmem
          · rw [List.getElem?_append_left (List.getElem?_eq_some_iff.mp hLs).1]
            exact hLs
          · have e : (done.map fun u => place (stV (stepF rl L[made.length] u)).nk ((L2 ++ [TT]).map (fun a => (stV a).nk))) = done.map fun u => place (stV (stepF rl L[made.length] u)).nk (L2.map (fun a => (stV a).nk)) := List.map_congr_left fun u hu => by rw [List.map_append, place_app (hin u hu)]
            have e' : ((done ++ [t]).map fun u => place (stV (stepF rl L[made.length] u)).nk ((L2 ++ [TT]).map (fun a => (stV a).nk))) = (done.map fun u => place (stV (stepF rl L[made.length] u)).nk (L2.map (fun a => (stV a).nk))) ++ [L2.length] := by rw [List.map_append, e]; simp only [List.map_cons, List.map_nil, hTT, hpl]
            rw [e']
            simp [natV]
    · rintro e ⟨L2, done, w5, w7, b2, hL2, hd, hin, hLs, rfl⟩
      have hL2n := W.few L2 hL2 b2.nodup
      rw [List.append_nil] at hd
      refine hK9 _ ?_
      simp! only []
      have hfl : (metN [0] made.flatten).length > made.length := bb.ahead0 hlt
      refine ⟨by unfold line; omega, 27 - (made.length + 1), by omega, L2, made ++ [done.map fun t => place (stV (stepF rl L[made.length] t)).nk (L2.map fun a => (stV a).nk)], some (.l true ((done.map fun t => place (stV (stepF rl L[made.length] t)).nk (L2.map fun a => (stV a).nk)).map natV)), w5, w7, ?_, hL2, by simp, ?_⟩
      · have := Bfs.fin' (nxt := fun a => (List.range b).map (stepF rl a)) (s := L[made.length]) (by simp only [hd]) hLs b2 (fun t ht => by
          obtain ⟨u, hu, rfl⟩ := List.mem_map.mp ht
          exact hin u hu) hfl
        rw [List.map_map] at this
        exact this
      · simp [stV]
  · have hge : ¬ made.length < L.length := by simpa using q
    have hml2 : made.length = L.length := by have := bb.le; omega
    have hLn := W.few L hL bb.nodup
    have hL0 : 0 < L.length := (List.getElem?_eq_some_iff.mp bb.first).1
    have hst := bb.stOk hml2 (b := b) fun a _ => by simp
    have hor : metN [0] made.flatten = List.range made.length := by have := bb.ord; rw [List.append_nil] at this; rw [this, hml2]
    have hrch := fun i hi => reach_all hst hor bb.ahead i i (Nat.le_refl i) hi
    simp! only []
    refine pturns_mapT stV (fun s => natV (headF s)) (fun s hs k hk => ?_) ?_
    · have hs' := hL s hs
      have e1 : (s.map natV)[0]? = some (natV (headF s)) := by
        unfold headF
        rw [List.getElem?_map, List.getElem?_eq_getElem (by omega)]
        rfl
      simp! only [stV, show (0 : Int) = ((0 : Nat) : Int) from rfl, atI_nat, e1]
      simpa using hk
    · simp! only []
      refine hK8 _ (pstep fun K9 hK9 => ?_)
      simp! only []
      refine hK9 _ (pstep fun K10 hK10 => pfor_step fun B2 hB2 => ?_)
      simp! only [List.length_map]
      refine ⟨by omega, by omega, ?_⟩
      rw [Int.toNat_natCast, range_natV]
      refine pfor_invT natV (fun rest e => ∃ (done F : List Nat) (v10 : Option PV), done ++ rest = List.range L.length ∧ (∀ f ∈ F, f < made.length) ∧ F.length ≤ done.length ∧ (F.Pairwise fun i j => ¬ SameB made (L.map headF) j i) ∧ (∀ k ∈ done, ∃ f ∈ F, SameB made (L.map headF) k f) ∧
          e = [some (.d (.int b)), some (.d (.tup (rl.map stV))), some (.l true (L.map stV)), some (.l true (made.map stV)), v4, v5, none, v7, some (.l true (L.map fun s => natV (headF s))), some (.l true (F.map natV)), v10, none]) ?_ ?_ _ _
        ⟨[], [], none, rfl, by simp, by simp, .nil, by simp, rfl⟩
      · rintro k rest e ⟨done, F, v10, hd, hF, hFl, hpw, hal, rfl⟩
        have hk' : k < L.length := List.mem_range.mp (by rw [← hd]; simp)
        have hdl : done.length < L.length := by
          have := congrArg List.length hd
          simp at this
          omega
        simp! only []
        intro kk hkk
        refine hB2 _ _ (pstep fun K11 hK11 => pite_step fun A B3 hA hB3 => ?_)
        simp! only [natV]
        refine pturns_filT natV (fun o => if SameB made (L.map headF) k o then some (natV o) else none) (fun o ho k2 hk2 => ?_) ?_
        · simp! only [natV, G.f109, ps_are_apart]
          refine ⟨Nat, natV, 0, made, L.map headF, b, k, o, rfl, rfl, mks_nat, by simp [seqP, lof], by simp [seqP, lof, natV], hst, by simp [hml2], by omega, by omega, hF o ho, fun r hr => ?_⟩
          cases r with
          | false =>
            have := hr.mp rfl
            simp! only []
            simpa [this, natV] using hk2
          | true =>
            have : ¬ SameB made (L.map headF) k o := fun z => by have := hr.mpr z; cases this
            simp! only []
            simpa [this, natV] using hk2
        · have hfil : (F.filterMap fun o => if SameB made (L.map headF) k o then some (natV o) else none) = (F.filter fun o => decide (SameB made (L.map headF) k o)).map natV := fil_map _ _ _
          rw [hfil]
          simp! only []
          rw [pEq_l (dats_map natV (fun _ => rfl) _) rfl (deps_nat _), lst_nil]
          simp! only []
          cases hq : F.filter fun o => decide (SameB made (L.map headF) k o) with
          | nil =>
            have hno : ∀ f ∈ F, ¬ SameB made (L.map headF) k f := fun f hf z => by
              have : f ∈ F.filter fun o => decide (SameB made (L.map headF) k o) := List.mem_filter.mpr ⟨hf, by simpa using z⟩
              rw [hq] at this
              cases this
            simp! only [List.map_nil, List.isEmpty_nil]
            refine hA _ ?_
            simp! only [List.length_map]
            refine ⟨by unfold line; omega, hK11 _ ?_⟩
            simp! only []
            refine hkk _ ⟨done ++ [k], F ++ [k], some (.d (.int k)), by simpa using hd, fun f hf => ?_, by simp; omega, ?_, fun k2 hk2 => ?_, ?_⟩
            · rcases List.mem_append.mp hf with z | z
              · exact hF f z
              · simp at z; omega
            · rw [List.pairwise_append]
              refine ⟨hpw, List.pairwise_singleton _ _, fun f hf k2 hk2 => ?_⟩
              simp at hk2
              subst hk2
              exact hno f hf
            · rcases List.mem_append.mp hk2 with z | z
              · obtain ⟨f, h1, h3⟩ := hal k2 z
                exact ⟨f, by simp [h1], h3⟩
              · simp at z
                subst z
                exact ⟨k2, by simp, fun _ => rfl⟩
            · simp [natV]
          | cons f fs =>
            have hf : f ∈ F.filter fun o => decide (SameB made (L.map headF) k o) := by rw [hq]; simp
            obtain ⟨f1, f2⟩ := List.mem_filter.mp hf
            simp! only [List.map_cons, List.isEmpty_cons]
            refine hB3 _ ?_
            simp! only []
            refine hK11 _ ?_
            simp! only []
            refine hkk _ ⟨done ++ [k], F, some (.d (.int k)), by simpa using hd, hF, by simp; omega, hpw, fun k2 hk2 => ?_, by simp [natV]⟩
            rcases List.mem_append.mp hk2 with z | z
            · exact hal k2 z
            · simp at z
              subst z
              exact ⟨f, f1, by simpa using f2⟩
      · rintro e ⟨done, F, v10, hd, hF, hFl, hpw, hal, rfl⟩
        rw [List.append_nil] at hd
        refine hK10 _ ?_
        simp! only [List.length_map]
        refine h2 F.length fun st2 ms2 T hT hLe => ?_
        refine least_count hst (by omega) hrch hLe (fun w hw => ?_) hF hpw (fun k hk => hal k (by rw [hd]; exact List.mem_range.mpr (by omega)))
        obtain ⟨s', e1, _, e3⟩ := bfs_run W bb hml2 hL w 0 _ _ hw hR0 bb.first rfl
        rw [List.getElem?_map, e1, Option.map_some, e3, hT w hw]
        congr 1
        have hp : pathR rl w 0 < rl.length := by
          clear e1 e3 hw
          induction w with
          | nil => show 0 < rl.length; omega
          | cons d w ih => exact step_lt R.ok (by omega) _ _
        unfold headF
        rw [runF R.ok w _ 0 hw (by simp) (by omega), List.getElem?_eq_getElem (by simpa using hp)]
        simp
end DL

set_option autoImplicit true
set_option Elab.async false
set_option autoImplicit false
set_option linter.all false
set_option maxRecDepth 100000
set_option maxHeartbeats 8000000
/-! Law k02, plain part. -/
namespace DL
open PySem
local macro_rules
  | `(tactic| simp! only [$ls,*]) => `(tactic| try simp only [pSs, pS, pE, pEs, pO, pI, pIs, pC, pIf, pAsg, pAsgs, pSetI, pRet, pX, pMove, pUn, pBin, pLt_i, pLe_i, pGt_i, pGe_i, pLt_t, pEq_i, pNe_i, pEq_s, pNe_s, pEq_b, pNe_b, pIn_m, pNin_m, pSub_l, pSub_tup, pSub_lst, pSub_m, pSub_str, pSlice, pBt_len_l, pBt_tuple_l, pBt_list_l, pBt_len_m, pBt_len_tup, pBt_len_lst, pBt_len_str, pBt_list_tup, pBt_tuple_tup, pBt_int_int, pBt_int_bl, pBt_max2, pBt_min2, pBt_str_int, pIsi, pRecv, pMt, wBin, wSub, wSlice, wBt, wRng, startP_cons, startP_nil, List.replicate, getP_0, getP_s, withO_s, withB_b, withD_d, withPB_d, withPI_d, bor_d, bor_l, bor_m, isP_d, isP_l, isP_m, okA_d, okA_l, okA_m, lof_l, lof_m, lof_int, lof_bl, lof_str, lof_non, lof_tup, lof_lst, dof_l, dof_m, dof_int, dof_bl, dof_str, dof_non, dof_tup, dof_lst, dvl_int, dvl_bl, dvl_str, dvl_non, dvl_tup, dvl_lst, ds_nil, ds_cons, omap_some, pSee_d, iterP_l, iterP_tup, enP_l, enP_tup, pLend, see_int, see_bl, see_str, see_non, dep_int, dep_bl, dep_str, dep_non, Nat.zero_min, Nat.min_zero, Nat.zero_le, bindP_one, bindP_two, bindP_three, List.set_cons_zero, List.set_cons_succ, wipeP, Nat.zero_add, atI_0, atI_1, atI_2, atI_3, isV, frz, frz1, Bool.or_false, Bool.or_true, Bool.true_or, Bool.false_or, true_imp_iff, false_imp_iff, Bool.not_false, Bool.not_true, reduceCtorEq, and_true, true_and, List.length_cons, List.length_nil, List.map_cons, List.map_nil, List.length_map, tt_and, ff_and, $ls,*])
  | `(tactic| simp! only [$ls,*] $loc:location) => `(tactic| try simp only [pSs, pS, pE, pEs, pO, pI, pIs, pC, pIf, pAsg, pAsgs, pSetI, pRet, pX, pMove, pUn, pBin, pLt_i, pLe_i, pGt_i, pGe_i, pLt_t, pEq_i, pNe_i, pEq_s, pNe_s, pEq_b, pNe_b, pIn_m, pNin_m, pSub_l, pSub_tup, pSub_lst, pSub_m, pSub_str, pSlice, pBt_len_l, pBt_tuple_l, pBt_list_l, pBt_len_m, pBt_len_tup, pBt_len_lst, pBt_len_str, pBt_list_tup, pBt_tuple_tup, pBt_int_int, pBt_int_bl, pBt_max2, pBt_min2, pBt_str_int, pIsi, pRecv, pMt, wBin, wSub, wSlice, wBt, wRng, startP_cons, startP_nil, List.replicate, getP_0, getP_s, withO_s, withB_b, withD_d, withPB_d, withPI_d, bor_d, bor_l, bor_m, isP_d, isP_l, isP_m, okA_d, okA_l, okA_m, lof_l, lof_m, lof_int, lof_bl, lof_str, lof_non, lof_tup, lof_lst, dof_l, dof_m, dof_int, dof_bl, dof_str, dof_non, dof_tup, dof_lst, dvl_int, dvl_bl, dvl_str, dvl_non, dvl_tup, dvl_lst, ds_nil, ds_cons, omap_some, pSee_d, iterP_l, iterP_tup, enP_l, enP_tup, pLend, see_int, see_bl, see_str, see_non, dep_int, dep_bl, dep_str, dep_non, Nat.zero_min, Nat.min_zero, Nat.zero_le, bindP_one, bindP_two, bindP_three, List.set_cons_zero, List.set_cons_succ, wipeP, Nat.zero_add, atI_0, atI_1, atI_2, atI_3, isV, frz, frz1, Bool.or_false, Bool.or_true, Bool.true_or, Bool.false_or, true_imp_iff, false_imp_iff, Bool.not_false, Bool.not_true, reduceCtorEq, and_true, true_and, List.length_cons, List.length_nil, List.map_cons, List.map_nil, List.length_map, tt_and, ff_and, $ls,*] $loc:location)

def n_law : List Str := ["_law_script", "_law_m", "_law_base", "_law_rule_here", "_law_row", "_law_longer", "_law_old", "_law_many", "_law_answer", "_law_found", "_law_place"]
def b_law : Sms :=
  (.cons (.asg 1 (.lst (.cons (.int 4) .nil)))
  (.cons (.asg 2 (.bin .add (.int 2) (.call 101 (.cons (.var 0) (.cons (.int 0) (.cons (.int 2) .nil))))))
  (.cons (.asg 3 (.drop (.call 119 (.cons (.var 0) (.cons (.var 1) (.cons (.var 2) .nil))))))
  (.cons (.asg 4 (.lst (.cons (.int 0) .nil)))
  (.cons (.while (.cmp .lt (.blt .len (.cons (.var 4) .nil)) (.int 200))
    (.cons (.asg 5 (.lst .nil))
      (.cons (.for (.one 6) (.val (.var 4))
        (.cons (.expr (.meth (.var 5) .extend (.cons (.sub (.var 3) (.var 6)) .nil)))
          .nil))
      (.cons (.asg 4 (.var 5))
      .nil))))
  (.cons (.asg 7 (.call 101 (.cons (.var 0) (.cons (.int 1) (.cons (.int 201) .nil)))))
  (.cons (.asg 8 (.call 63 (.cons (.var 2) (.cons (.var 3) (.cons (.var 7) .nil)))))
  (.cons (.ite (.or (.not (.isi (.var 8) .list)) (.cmp .ne (.var 8) (.slice (.var 4) .none (.some (.var 7)))))
    (.cons (.ret (.bl false))
      .nil)
    .nil)
  (.cons (.asg 9 (.call 120 (.cons (.var 2) (.cons (.var 3) .nil))))
  (.cons (.ite (.cmp .eq (.var 9) (.str "big"))
    (.cons (.ret (.cmp .gt (.call 121 (.cons (.var 2) (.cons (.var 3) .nil))) (.int 8)))
      .nil)
    .nil)
  (.cons (.ite (.cmp .ne (.comp (.mk (.one 10) [10] (.call 108 (.cons (.var 2) (.cons (.var 9) (.cons (.var 10) .nil)))) (.rng (.cons (.int 200) .nil)) .none)) (.slice (.var 4) .none (.some (.int 200))))
    (.cons (.ret (.bl false))
      .nil)
    .nil)
  (.cons (.ret (.and (.call 110 (.cons (.sub (.var 9) (.int 0)) (.cons (.sub (.var 9) (.int 1)) .nil))) (.cmp .eq (.blt .len (.cons (.sub (.var 9) (.int 0)) .nil)) (.call 121 (.cons (.var 2) (.cons (.var 3) .nil))))))
  .nil))))))))))))

def ps_mixed : PSpec := fun vs S Q _ => match vs with
  | [.d (.lst sc), .d (.int ki), .d (.int mi)] => ∃ (ns : List Int) (k m : Nat), sc = ns.map .int ∧ ki = k ∧ mi = m ∧ 0 < m ∧ ∀ r : Nat, r < m → Q (.d (.int r))
  | _ => False
def ls_rule : LSpec := fun vs S Q => match vs with
  | [.d (.lst sc), .l _ ms, .d (.int bi)] => ∃ (ns : List Int) (m base : Nat), sc = ns.map .int ∧ ms = [.int m] ∧ bi = base ∧ (2 ≤ base ∧ base ≤ 3) ∧
      ∀ (rl : List (List Nat)) (j : Nat), RuleOk base rl → Q (ruleV rl) [.int j]
  | _ => False
theorem up_rule (vs : List Val) (S : Sto) (Q : KV) (E : Nat → Sto → Prop) (h : upL ls_rule vs S Q E) : sp_rule vs S Q E := by
  obtain ⟨v0, b, vr, r0, xs, prs, S0, Qp, rfl, le, hb, a0, ar, hl, hq⟩ := lend3 h
  unfold ls_rule at hl
  split at hl
  · rename_i sc o ms bi heq
    simp only [List.cons.injEq, PV.l.injEq] at heq
    obtain ⟨rfl, ⟨_, rfl⟩, rfl⟩ := heq
    obtain ⟨ns, m, base, rfl, rfl, rfl, hm, hh⟩ := hl
    have e0 : v0 = .lst (ns.map .int) := a0
    subst e0
    match vr, ar with
    | [v], ar =>
      have e1 : v = .int base := ar.1
      subst e1
      exact ⟨ns, m, base, rfl, hb, rfl, hm, fun rl j h1 => hq _ _ (hh rl j h1)⟩
    | [], ar => exact ar.elim
    | _ :: _ :: _, ar => exact ar.2.elim
  · exact hl.elim
theorem up_mixed (vs : List Val) (S : Sto) (Q : KV) (E : Nat → Sto → Prop) (h : up1 ps_mixed vs S Q E) : sp_mixed vs S Q E := by
  obtain ⟨pvs, S0, Qp, Ep, le, ar, hp, hr, hx⟩ := h
  unfold ps_mixed at hp
  split at hp
  · rename_i sc ki mi
    match vs, ar with
    | [v', lo', hi'], ar =>
      have e1 : v' = .lst sc := ar.1
      have e2 : lo' = .int ki := ar.2.1
      have e3 : hi' = .int mi := ar.2.2.1
      subst e1 e2 e3
      obtain ⟨ns, k, m, rfl, rfl, rfl, hm, hq⟩ := hp
      refine ⟨ns, k, rfl, rfl, by omega, ?_⟩
      obtain ⟨h0, h1⟩ := mixed_in (ns := ns) (k := k) (many := (m : Int)) (by omega)
      obtain ⟨r, er⟩ := Int.eq_ofNat_of_zero_le h0
      rw [er]
      exact hr _ (hq r (by omega))
    | [], ar => exact ar.elim
    | [_], ar => exact ar.2.elim
    | [_, _], ar => exact ar.2.2.elim
    | _ :: _ :: _ :: _ :: _, ar => exact ar.2.2.2.elim
  · exact hp.elim
theorem pEq_tup_str {xs : List Val} {z : Str} {S : Sto} {Q : PK} (h : (Val.tup xs).dat = true) : pCmp .eq (.d (.tup xs)) (.d (.str z)) S Q = Q (.d (.bl false)) := by
  have e : (Val.tup xs).veq (.str z) = false := by simp [Val.veq, Val.py, PyData.eqv]
  simp only [pCmp, pSee_d, see_dat h, see_str, withO_s, dep_str, Nat.min_zero, Nat.zero_le, true_and, e]
theorem figs_digs {b : Nat} (hb : 0 < b) : ∀ n, Figs b (digs b n) := by
  intro n
  induction n using Nat.strongRecOn with
  | _ n ih =>
    by_cases q : n = 0
    · subst q
      rw [digs_zero]
      exact fun x hx => by cases hx
    · by_cases h1 : b = 1
      · subst h1
        exact fun x hx => by
          unfold digs at hx
          simp at hx
      · rw [digs_pos (by omega) (by omega)]
        intro x hx
        rcases List.mem_cons.mp hx with z | z
        · rw [z]; exact Nat.mod_lt _ hb
        · exact ih (n / b) (Nat.div_lt_self (by omega) (by omega)) x z
theorem mtR_cases {c : Nat} {m : Str} {ps : PSpec} (h : mtR c m = some ps) : (c = 5 ∧ m = "step" ∧ ps = ps_rstep) ∨ (c = 5 ∧ m = "sign" ∧ ps = ps_rsign) := by
  unfold mtR at h
  split at h
  · rename_i hc
    split at h
    · rename_i hm
      cases h
      exact .inl ⟨hc, hm, rfl⟩
    · split at h
      · rename_i hm
        cases h
        exact .inr ⟨hc, hm, rfl⟩
      · cases h
  · cases h
structure K02G (g : PCfg) : Prop where
  f101 : g.fn 101 = some ps_mixed
  l119 : g.ln 119 = some ls_rule
  f63 : g.fn 63 = some ps_written
  f120 : g.fn 120 = some ps_told
  f121 : g.fn 121 = some ps_least_size
  f108 : g.fn 108 = some ps_law_sign
  f110 : g.fn 110 = some ps_is_least
theorem w_law2 {g : PCfg} (G : K02G g) : Wp g ps_law n_law b_law := by
  intro args S Q E h
  unfold ps_law at h
  split at h <;> first | contradiction | skip
  obtain ⟨ns, rfl, h2⟩ := h
  unfold b_law
  refine pstep fun K hK => ?_
  simp! only [n_law]
  refine hK _ (pstep fun K2 hK2 => ?_)
  simp! only [G.f101, ps_mixed]
  refine ⟨ns, 0, 2, rfl, rfl, rfl, by omega, fun r0 hr0 => ?_⟩
  simp! only []
  generalize hb0 : 2 + r0 = b
  have hbI : (2 : Int) + (r0 : Int) = ((b : Nat) : Int) := by omega
  rw [hbI]
  have hb : 2 ≤ b ∧ b ≤ 3 := by omega
  refine hK2 _ (pstep fun K3 hK3 => ?_)
  simp! only [G.l119, ls_rule]
  refine ⟨ns, 4, b, rfl, rfl, rfl, hb, fun rl j R => ⟨rfl, hK3 _ (pstep fun K4 hK4 => ?_)⟩⟩
  simp! only []
  refine hK4 _ (pstep fun K5 hK5 => ?_)
  refine pwhile_step (fun q e => ∃ (k : Nat) (v5 v6 : Option PV), (itR rl k).length ≤ 600 ∧ q = 601 - (itR rl k).length ∧
      e = [some (.d (.lst (ns.map .int))), some (.l true [.int j]), some (.d (.int b)), some (.d (ruleV rl)), some (.l true ((itR rl k).map natV)), v5, v6, none, none, none, none])
    ⟨_, 0, none, none, by simp [itR], rfl, rfl⟩ ?_
  rintro B hB2 q e ⟨k, v5, v6, hl, rfl, rfl⟩
  have hlt := itR_lt R k
  have hex := exR_len R.ok hlt
  simp! only [List.length_map]
  refine ⟨fun z => hB2 _ _ (pstep fun K8 hK8 => ?_), fun z => hK5 _ (pstep fun K8 hK8 => ?_)⟩
  · have hkm : (itR rl k).length < 200 := by simp at z; omega
    have hk0 := itR_pos R k
    simp! only []
    refine hK8 _ (pstep fun K9 hK9 => pfor_step fun B3 hB3 => ?_)
    simp! only []
    refine pfor_invT natV (fun rest e => ∃ (done : List Nat) (v6 : Option PV), done ++ rest = itR rl k ∧
      e = [some (.d (.lst (ns.map .int))), some (.l true [.int j]), some (.d (.int b)), some (.d (ruleV rl)), some (.l false ((itR rl k).map natV)), some (.l true ((exR rl done).map natV)), v6, none, none, none, none]) ?_ ?_ _ _ ⟨[], v6, rfl, rfl⟩
    · rintro s rest e ⟨done, w5, hd, rfl⟩
      have hs : s < rl.length := hlt s (by rw [← hd]; simp)
      have hdl : (exR rl done).length ≤ 9000 := by
        rw [exR_len R.ok fun x hx => hlt x (by rw [← hd]; simp [hx])]
        have := congrArg List.length hd
        simp only [List.length_append, List.length_cons] at this
        have : b * done.length ≤ 3 * done.length := Nat.mul_le_mul_right _ hb.2
        omega
      simp! only []
      intro k2 hk2
      refine hB3 _ _ (pstep fun K10 hK10 => ?_)
      have hw := R.ok.wide _ (List.getElem_mem hs)
      simp! only [natV, ruleV, atI_nat, st_get hs, stV, extP]
      refine ⟨by simp only [List.length_map]; rw [hw]; unfold line; omega, hK10 _ ?_⟩
      simp! only []
      refine hk2 _ ⟨done ++ [s], some (.d (.int s)), by simpa using hd, ?_⟩
      rw [exR_turn, List.getElem?_eq_getElem hs, Option.getD_some]
      simp [natV, ruleV]
    · rintro e ⟨done, w5, hd, rfl⟩
      rw [List.append_nil] at hd
      subst hd
      refine hK9 _ ?_
      simp! only []
      have hx2 : 2 * (itR rl k).length ≤ b * (itR rl k).length := Nat.mul_le_mul_right _ hb.1
      have hx3 : b * (itR rl k).length ≤ 3 * (itR rl k).length := Nat.mul_le_mul_right _ hb.2
      have hl2 : (itR rl (k + 1)).length = b * (itR rl k).length := hex
      exact ⟨by decide, 601 - (itR rl (k + 1)).length, by omega, k + 1, none, w5, by omega, rfl, rfl⟩
  · have hkm : 200 ≤ (itR rl k).length := by simp at z; omega
    simp! only [G.f101, ps_mixed]
    refine ⟨ns, 1, 201, rfl, rfl, rfl, by omega, fun m hm => ?_⟩
    simp! only []
    refine hK8 _ (pstep fun K9 hK9 => ?_)
    simp! only [G.f63, ps_written]
    refine ⟨b, m, rl, rfl, rfl, rfl, R, by omega, fun k2 hk2 => ?_⟩
    simp! only []
    refine hK9 _ (pstep fun K10 hK10 => pite_step fun A1 B1 hA1 hB1 => ?_)
    simp! only []
    have htk : (itR rl k2).take m = (itR rl k).take m := itR_take R hk2 (by omega)
    refine ⟨fun z => by simp at z, fun _ => ?_⟩
    rw [cut_to, ← List.map_take, htk, pNe_l (dats_map natV (fun _ => rfl) _) (dats_map natV (fun _ => rfl) _) (deps_nat _), lst_refl (dats_map natV (fun _ => rfl) _)]
    simp! only []
    refine hB1 _ ?_
    simp! only []
    refine hK10 _ (pstep fun K11 hK11 => ?_)
    simp! only [G.f120, ps_told]
    refine ⟨b, rl, rfl, rfl, R, fun st2 ms2 T hT hL h27 => ⟨fun h8 => ?_, fun h9 => ?_⟩⟩
    · simp! only []
      have hsg : ∀ n, n < (itR rl k).length → some (sgn st2 ms2 b n) = (itR rl k)[n]? := fun n hn => by
        rw [itR_get R k n hn]
        unfold sgn
        rw [hL.tells, hT _ (figs_digs (by omega) n)]
        rfl
      refine hK11 _ (pstep fun K12 hK12 => pite_step fun A2 B2 hA2 hB2 => ?_)
      simp! only [row_val]
      rw [pEq_tup_str (by simp only [Val.dat, Val.dats, dats_map stV (fun t => pl_dat _ (stV_pl t)), dats_map natV (fun _ => rfl)]; rfl)]
      simp! only []
      refine hB2 _ ?_
      simp! only []
      refine hK12 _ (pstep fun K13 hK13 => pite_step fun A3 B3 hA3 hB3 => ?_)
      simp! only [G.f108, ps_law_sign]
      refine ⟨by omega, by omega, ?_⟩
      rw [show Int.toNat 200 = 200 from rfl, range_natV]
      refine pturns_mapT natV (fun n => natV (sgn st2 ms2 b n)) (fun n hn k3 hk3 => ?_) ?_
      · simp! only [natV]
        refine ⟨b, n, st2, ms2, rfl, rfl, rfl, rfl, by omega, by omega, hL.ok, hL.pos, hL.len, ?_⟩
        simp! only [natV]
        exact hk3
      · simp! only []
        have e5 : ((List.range 200).map fun n => natV (sgn st2 ms2 b n)) = ((itR rl k).take 200).map natV := by
          refine List.ext_getElem? fun i => ?_
          rw [List.getElem?_map, List.getElem?_map, List.getElem?_take]
          by_cases hi : i < 200
          · rw [if_pos hi, ← hsg i (by omega), List.getElem?_range hi]
            rfl
          · rw [if_neg hi, List.getElem?_eq_none (by simp; omega)]
            rfl
        have e6 : cutL ((itR rl k).map natV) none (some (200 : Int)) = ((itR rl k).take 200).map natV := by
          rw [show (200 : Int) = ((200 : Nat) : Int) from rfl, cut_to, List.map_take]
        rw [e5, e6, pNe_l (dats_map natV (fun _ => rfl) _) (dats_map natV (fun _ => rfl) _) (deps_nat _), lst_refl (dats_map natV (fun _ => rfl) _)]
        simp! only []
        refine hB3 _ ?_
        simp! only []
        refine hK13 _ (pstep fun K14 hK14 => ?_)
        simp! only [G.f110, ps_is_least]
        refine ⟨Nat, natV, 0, st2, ms2, b, mks_nat, rfl, rfl, hL.ok, hL.len, hL.pos, by omega, hL.dist, hL.ord, hL.ahead, ?_⟩
        simp! only [G.f121, ps_least_size]
        refine ⟨b, rl, rfl, rfl, R, fun n hn => ?_⟩
        have := hn st2 ms2 T hT hL
        subst this
        simp! only [List.length_map, decide_true]
        simpa using h2
    · simp! only []
      refine hK11 _ (pstep fun K12 hK12 => pite_step fun A2 B2 hA2 hB2 => ?_)
      simp! only [decide_true]
      refine hA2 _ (pstep fun K13 hK13 => ?_)
      simp! only [G.f121, ps_least_size]
      refine ⟨b, rl, rfl, rfl, R, fun n hn => ?_⟩
      have := hn st2 ms2 T hT hL
      subst this
      simp! only []
      have e7 : decide ((8 : Int) < (st2.length : Int)) = true := by simp; omega
      simpa [e7] using h2
end DL

set_option autoImplicit true
set_option Elab.async false
set_option linter.all false
set_option maxRecDepth 100000
set_option maxHeartbeats 8000000
/-! law_k02_rules: the end. -/
namespace DL
open PySem PySem.Spec PyProof.Rows L2
/-- the i-th statement of the program -/
def top (i : Nat) : Stmt := PySem.Challenge.pw_digitrow_k02_rules.main.body.getD i (.Pass ⟨0, 0, 0, 0⟩)
abbrev exsK : List (Str × Nat) := [("RowError", 0), ("NoRule", 2), ("NoNumber", 5), ("TooBig", 6)]
def fnK (n : Nat) : Option DL.Spec := match n with
    | 0 => some sp_is_whole
    | 1 => some sp_between
    | 10 => some sp_numbered
    | 11 => some (up1 ps_merged)
    | 14 => some (up1 (ps_walked mtR))
    | 61 => some (up1 ps_is_rule)
    | 62 => some (up1 ps_need_rule)
    | 63 => some (up1 ps_written)
    | 64 => some sp_row_of
    | 100 => some sp_cell_at
    | 101 => some sp_mixed
    | 102 => some sp_next
    | 108 => some (up1 ps_law_sign)
    | 109 => some (up1 ps_are_apart)
    | 110 => some (up1 ps_is_least)
    | 119 => some sp_rule
    | 120 => some (up1 ps_told)
    | 121 => some (up1 ps_least_size)
    | _ => none
def gC (mt : Nat → Str → Option DL.Spec) (fl : Nat → Str → Bool) : Cfg where
  fn := fnK
  mt := mt
  cv := fun x => if x = "STATES" then some (.int 8) else if x = "MOST" then some (.int 3000) else none
  fl := fl
  sub := fun x y => x == y || y == 0 || y == 99
  ek := fun x => [0, 2, 5, 6].contains x
def mt0 : Nat → Str → Option DL.Spec := fun _ _ => none
def fl0 : Nat → Str → Bool := fun _ _ => false
abbrev gK : Cfg := gC mt0 fl0
def fnP (n : Nat) : Option PSpec := match n with
    | 1 => some ps_between
    | 10 => some ps_numbered
    | 11 => some ps_merged
    | 14 => some (ps_walked mtR)
    | 61 => some ps_is_rule
    | 62 => some ps_need_rule
    | 63 => some ps_written
    | 64 => some ps_row_of
    | 101 => some ps_mixed
    | 108 => some ps_law_sign
    | 109 => some ps_are_apart
    | 110 => some ps_is_least
    | 120 => some ps_told
    | 121 => some ps_least_size
    | _ => none
def lnP (n : Nat) : Option LSpec := match n with
    | 119 => some ls_rule
    | _ => none
theorem okf_P (f : Nat) (ps : PSpec) (h : fnP f = some ps) : ∃ sp, fnK f = some sp ∧ ∀ vs S Q E, up1 ps vs S Q E → sp vs S Q E := by
  unfold fnP at h
  split at h
  · cases h; exact ⟨_, rfl, up_between⟩
  · cases h; exact ⟨_, rfl, up_numbered⟩
  · cases h; exact ⟨_, rfl, fun _ _ _ _ z => z⟩
  · cases h; exact ⟨_, rfl, fun _ _ _ _ z => z⟩
  · cases h; exact ⟨_, rfl, fun _ _ _ _ z => z⟩
  · cases h; exact ⟨_, rfl, fun _ _ _ _ z => z⟩
  · cases h; exact ⟨_, rfl, fun _ _ _ _ z => z⟩
  · cases h; exact ⟨_, rfl, up_row_of⟩
  · cases h; exact ⟨_, rfl, up_mixed⟩
  · cases h; exact ⟨_, rfl, fun _ _ _ _ z => z⟩
  · cases h; exact ⟨_, rfl, fun _ _ _ _ z => z⟩
  · cases h; exact ⟨_, rfl, fun _ _ _ _ z => z⟩
  · cases h; exact ⟨_, rfl, fun _ _ _ _ z => z⟩
  · cases h; exact ⟨_, rfl, fun _ _ _ _ z => z⟩
  · cases h
theorem okl_P (f : Nat) (ps : LSpec) (h : lnP f = some ps) : ∃ sp, fnK f = some sp ∧ ∀ vs S Q E, upL ps vs S Q E → sp vs S Q E := by
  unfold lnP at h
  split at h
  · cases h; exact ⟨_, rfl, up_rule⟩
  · cases h
def gPM (M : MTab) : PCfg := ⟨gC (fun c m => (M c m).map up1) fl0, fnP, M, lnP, okl_P, okf_P, fun c m ps h => ⟨up1 ps, by show (M c m).map up1 = _; rw [h]; rfl, fun _ _ _ _ z => z⟩⟩
def gP : PCfg := ⟨gK, fnP, fun _ _ => none, lnP, okl_P, okf_P, fun _ _ _ h => by cases h⟩
abbrev gP_walked : PCfg := gPM mtR
def fl_Replacer_init : Nat → Str → Bool := fun c f => c == 5 && [("base" : Str), ("rule" : Str)].contains f
def mt_row_of : Nat → Str → Option DL.Spec := fun c m => if c = 5 ∧ m = ("__init__" : Str) then some sp_rinit else none
theorem wk_names {G : Cfg} {sp : DL.Spec} {N N2 : List Str} {b : Sms} (e : N.length = N2.length) (h : Wk G sp N b) : Wk G sp N2 b := fun args S Q E q => by rw [← e]; exact h args S Q E q
abbrev m_is_whole : List Str := ["thing"]
abbrev t_is_whole : Tab := ⟨m_is_whole, [], [], exsK⟩
theorem sc_is_whole : FnScope m_is_whole ["thing"] (defScope (top 7)) := ⟨rfl, rfl, rfl, by decide +kernel, rfl, by decide +kernel, by decide +kernel⟩
theorem ck_is_whole : chkSs t_is_whole (defScope (top 7)) b_is_whole (defBody (top 7)) = true := by decide +kernel
abbrev m_between : List Str := ["thing", "low", "most"]
abbrev t_between : Tab := ⟨m_between, [("is_whole", 0)], [], exsK⟩
theorem sc_between : FnScope m_between ["thing", "low", "most"] (defScope (top 8)) := ⟨rfl, rfl, rfl, by decide +kernel, rfl, by decide +kernel, by decide +kernel⟩
theorem ck_between : chkSs t_between (defScope (top 8)) b_between (defBody (top 8)) = true := by decide +kernel
abbrev m_numbered : List Str := ["keys", "known", "made", "key"]
abbrev t_numbered : Tab := ⟨m_numbered, [], [], exsK⟩
theorem sc_numbered : FnScope m_numbered ["keys"] (defScope (top 9)) := ⟨rfl, rfl, rfl, by decide +kernel, rfl, by decide +kernel, by decide +kernel⟩
theorem ck_numbered : chkSs t_numbered (defScope (top 9)) b_numbered (defBody (top 9)) = true := by decide +kernel
abbrev m_merged : List Str := ["steps", "marks", "classes", "many", "before", "k", "to", "order", "firsts", "made", "row", "first"]
abbrev t_merged : Tab := ⟨m_merged, [("numbered", 10)], [], exsK⟩
theorem sc_merged : FnScope m_merged ["steps", "marks"] (defScope (top 10)) := ⟨rfl, rfl, rfl, by decide +kernel, rfl, by decide +kernel, by decide +kernel⟩
theorem ck_merged : chkSs t_merged (defScope (top 10)) b_merged (defBody (top 10)) = true := by decide +kernel
abbrev m_walked : List Str := ["walker", "first", "met", "row", "steps", "made", "figure", "to", "state"]
abbrev t_walked : Tab := ⟨m_walked, [("merged", 11)], [], exsK⟩
theorem sc_walked : FnScope m_walked ["walker", "first"] (defScope (top 11)) := ⟨rfl, rfl, rfl, by decide +kernel, rfl, by decide +kernel, by decide +kernel⟩
theorem ck_walked : chkSs t_walked (defScope (top 11)) b_walked (defBody (top 11)) = true := by decide +kernel
abbrev m_is_rule : List Str := ["base", "thing", "signs", "sign"]
abbrev t_is_rule : Tab := ⟨m_is_rule, [("between", 1)], [], exsK⟩
theorem sc_is_rule : FnScope m_is_rule ["base", "thing"] (defScope (top 14)) := ⟨rfl, rfl, rfl, by decide +kernel, rfl, by decide +kernel, by decide +kernel⟩
theorem ck_is_rule : chkSs t_is_rule (defScope (top 14)) b_is_rule (defBody (top 14)) = true := by decide +kernel
abbrev m_need_rule : List Str := ["base", "rule"]
abbrev t_need_rule : Tab := ⟨m_need_rule, [("is_rule", 61)], [], exsK⟩
theorem sc_need_rule : FnScope m_need_rule ["base", "rule"] (defScope (top 15)) := ⟨rfl, rfl, rfl, by decide +kernel, rfl, by decide +kernel, by decide +kernel⟩
theorem ck_need_rule : chkSs t_need_rule (defScope (top 15)) b_need_rule (defBody (top 15)) = true := by decide +kernel
abbrev m_written : List Str := ["base", "rule", "many", "made", "longer", "sign"]
abbrev t_written : Tab := ⟨m_written, [("between", 1), ("need_rule", 62)], [], exsK⟩
theorem sc_written : FnScope m_written ["base", "rule", "many"] (defScope (top 16)) := ⟨rfl, rfl, rfl, by decide +kernel, rfl, by decide +kernel, by decide +kernel⟩
theorem ck_written : chkSs t_written (defScope (top 16)) b_written (defBody (top 16)) = true := by decide +kernel
abbrev m_Replacer_init : List Str := ["self", "base", "rule"]
abbrev t_Replacer_init : Tab := ⟨m_Replacer_init, [], [], exsK⟩
theorem sc_Replacer_init : FnScope m_Replacer_init ["self", "base", "rule"] (defScope (inClass (top 17) 0)) := ⟨rfl, rfl, rfl, by decide +kernel, rfl, by decide +kernel, by decide +kernel⟩
theorem ck_Replacer_init : chkSs t_Replacer_init (defScope (inClass (top 17) 0)) b_Replacer_init (defBody (inClass (top 17) 0)) = true := by decide +kernel
abbrev m_Replacer_step : List Str := ["self", "state", "figure", "signs"]
abbrev t_Replacer_step : Tab := ⟨m_Replacer_step, [], [], exsK⟩
theorem sc_Replacer_step : FnScope m_Replacer_step ["self", "state", "figure"] (defScope (inClass (top 17) 1)) := ⟨rfl, rfl, rfl, by decide +kernel, rfl, by decide +kernel, by decide +kernel⟩
theorem ck_Replacer_step : chkSs t_Replacer_step (defScope (inClass (top 17) 1)) b_Replacer_step (defBody (inClass (top 17) 1)) = true := by decide +kernel
abbrev m_Replacer_sign : List Str := ["self", "state"]
abbrev t_Replacer_sign : Tab := ⟨m_Replacer_sign, [], [], exsK⟩
theorem sc_Replacer_sign : FnScope m_Replacer_sign ["self", "state"] (defScope (inClass (top 17) 2)) := ⟨rfl, rfl, rfl, by decide +kernel, rfl, by decide +kernel, by decide +kernel⟩
theorem ck_Replacer_sign : chkSs t_Replacer_sign (defScope (inClass (top 17) 2)) b_Replacer_sign (defBody (inClass (top 17) 2)) = true := by decide +kernel
abbrev m_row_of : List Str := ["base", "rule", "made"]
abbrev t_row_of : Tab := ⟨m_row_of, [("walked", 14), ("need_rule", 62)], [("Replacer", 5)], exsK⟩
theorem sc_row_of : FnScope m_row_of ["base", "rule"] (defScope (top 18)) := ⟨rfl, rfl, rfl, by decide +kernel, rfl, by decide +kernel, by decide +kernel⟩
theorem ck_row_of : chkSs t_row_of (defScope (top 18)) (b_row_of "STATES") (defBody (top 18)) = true := by decide +kernel
abbrev m__law_cell_at : List Str := ["_law_script", "_law_k"]
abbrev t__law_cell_at : Tab := ⟨m__law_cell_at, [], [], exsK⟩
theorem sc__law_cell_at : FnScope m__law_cell_at ["_law_script", "_law_k"] (defScope (top 20)) := ⟨rfl, rfl, rfl, by decide +kernel, rfl, by decide +kernel, by decide +kernel⟩
theorem ck__law_cell_at : chkSs t__law_cell_at (defScope (top 20)) b__law_cell_at (defBody (top 20)) = true := by decide +kernel
abbrev m__law_mixed : List Str := ["_law_script", "_law_k", "_law_many", "_law_drawn"]
abbrev t__law_mixed : Tab := ⟨m__law_mixed, [("_law_cell_at", 100)], [], exsK⟩
theorem sc__law_mixed : FnScope m__law_mixed ["_law_script", "_law_k", "_law_many"] (defScope (top 21)) := ⟨rfl, rfl, rfl, by decide +kernel, rfl, by decide +kernel, by decide +kernel⟩
theorem ck__law_mixed : chkSs t__law_mixed (defScope (top 21)) b__law_mixed (defBody (top 21)) = true := by decide +kernel
abbrev m__law_next : List Str := ["_law_script", "_law_m", "_law_many"]
abbrev t__law_next : Tab := ⟨m__law_next, [("_law_mixed", 101)], [], exsK⟩
theorem sc__law_next : FnScope m__law_next ["_law_script", "_law_m", "_law_many"] (defScope (top 22)) := ⟨rfl, rfl, rfl, by decide +kernel, rfl, by decide +kernel, by decide +kernel⟩
theorem ck__law_next : chkSs t__law_next (defScope (top 22)) b__law_next (defBody (top 22)) = true := by decide +kernel
abbrev m__law_sign : List Str := ["_law_base", "_law_row", "_law_place", "_law_state"]
abbrev t__law_sign : Tab := ⟨m__law_sign, [], [], exsK⟩
theorem sc__law_sign : FnScope m__law_sign ["_law_base", "_law_row", "_law_place"] (defScope (top 23)) := ⟨rfl, rfl, rfl, by decide +kernel, rfl, by decide +kernel, by decide +kernel⟩
theorem ck__law_sign : chkSs t__law_sign (defScope (top 23)) b__law_sign (defBody (top 23)) = true := by decide +kernel
abbrev m__law_are_apart : List Str := ["_law_steps", "_law_marks", "_law_one", "_law_other", "_law_row", "_law_at", "_law_here", "_law_there"]
abbrev t__law_are_apart : Tab := ⟨m__law_are_apart, [], [], exsK⟩
theorem sc__law_are_apart : FnScope m__law_are_apart ["_law_steps", "_law_marks", "_law_one", "_law_other"] (defScope (top 24)) := ⟨rfl, rfl, rfl, by decide +kernel, rfl, by decide +kernel, by decide +kernel⟩
theorem ck__law_are_apart : chkSs t__law_are_apart (defScope (top 24)) b__law_are_apart (defBody (top 24)) = true := by decide +kernel
abbrev m__law_is_least : List Str := ["_law_steps", "_law_marks", "_law_row", "_law_k", "_law_to", "_law_one", "_law_other"]
abbrev t__law_is_least : Tab := ⟨m__law_is_least, [("_law_are_apart", 109)], [], exsK⟩
theorem sc__law_is_least : FnScope m__law_is_least ["_law_steps", "_law_marks"] (defScope (top 25)) := ⟨rfl, rfl, rfl, by decide +kernel, rfl, by decide +kernel, by decide +kernel⟩
theorem ck__law_is_least : chkSs t__law_is_least (defScope (top 25)) b__law_is_least (defBody (top 25)) = true := by decide +kernel
abbrev m__law_rule : List Str := ["_law_script", "_law_m", "_law_base", "_law_many", "_law_sign_here", "_law_k", "_law_rule_here"]
abbrev t__law_rule : Tab := ⟨m__law_rule, [("_law_next", 102)], [], exsK⟩
theorem sc__law_rule : FnScope m__law_rule ["_law_script", "_law_m", "_law_base"] (defScope (top 26)) := ⟨rfl, rfl, rfl, by decide +kernel, rfl, by decide +kernel, by decide +kernel⟩
theorem ck__law_rule : chkSs t__law_rule (defScope (top 26)) b__law_rule (defBody (top 26)) = true := by decide +kernel
abbrev m__law_told : List Str := ["_law_base", "_law_rule_here", "e"]
abbrev t__law_told : Tab := ⟨m__law_told, [("row_of", 64)], [], exsK⟩
theorem sc__law_told : FnScope m__law_told ["_law_base", "_law_rule_here"] (defScope (top 27)) := ⟨rfl, rfl, rfl, by decide +kernel, rfl, by decide +kernel, by decide +kernel⟩
theorem ck__law_told : chkSs t__law_told (defScope (top 27)) b__law_told (defBody (top 27)) = true := by decide +kernel
abbrev m__law_least_size : List Str := ["_law_base", "_law_rule_here", "_law_row", "_law_steps", "_law_state", "_law_figure", "_law_signs", "_law_to", "_law_marks", "_law_firsts", "_law_k", "_law_other"]
abbrev t__law_least_size : Tab := ⟨m__law_least_size, [("_law_are_apart", 109)], [], exsK⟩
theorem sc__law_least_size : FnScope m__law_least_size ["_law_base", "_law_rule_here"] (defScope (top 28)) := ⟨rfl, rfl, rfl, by decide +kernel, rfl, by decide +kernel, by decide +kernel⟩
theorem ck__law_least_size : chkSs t__law_least_size (defScope (top 28)) b__law_least_size (defBody (top 28)) = true := by decide +kernel
abbrev m_law : List Str := ["_law_script", "_law_m", "_law_base", "_law_rule_here", "_law_row", "_law_longer", "_law_old", "_law_many", "_law_answer", "_law_found", "_law_place"]
abbrev t_law : Tab := ⟨m_law, [("written", 63), ("_law_mixed", 101), ("_law_sign", 108), ("_law_is_least", 110), ("_law_rule", 119), ("_law_told", 120), ("_law_least_size", 121)], [], exsK⟩
theorem sc_law : FnScope m_law ["_law_script"] (defScope (top 29)) := ⟨rfl, rfl, rfl, by decide +kernel, rfl, by decide +kernel, by decide +kernel⟩
theorem ck_law : chkSs t_law (defScope (top 29)) b_law (defBody (top 29)) = true := by decide +kernel
theorem ar_is_whole : Arity 1 sp_is_whole := fun args S Q E h => by
  unfold sp_is_whole at h
  split at h <;> first | rfl | contradiction
theorem ar_between : Arity 3 sp_between := fun args S Q E h => by
  unfold sp_between at h
  split at h <;> first | rfl | contradiction
theorem ar_numbered : Arity 1 sp_numbered := fun args S Q E h => by
  unfold sp_numbered at h
  split at h <;> first | rfl | contradiction
theorem ar_merged : Arity 2 (up1 ps_merged) := arity_up fun args S Q E h => by
  unfold ps_merged at h
  split at h <;> first | rfl | contradiction
theorem ar_walked : Arity 2 (up1 (ps_walked mtR)) := arity_up fun args S Q E h => by
  unfold ps_walked at h
  split at h <;> first | rfl | contradiction
theorem ar_is_rule : Arity 2 (up1 ps_is_rule) := arity_up fun args S Q E h => by
  unfold ps_is_rule at h
  split at h <;> first | rfl | contradiction
theorem ar_need_rule : Arity 2 (up1 ps_need_rule) := arity_up fun args S Q E h => by
  unfold ps_need_rule at h
  split at h <;> first | rfl | contradiction
theorem ar_written : Arity 3 (up1 ps_written) := arity_up fun args S Q E h => by
  unfold ps_written at h
  split at h <;> first | rfl | contradiction
theorem ar_Replacer_init : Arity 3 sp_rinit := fun args S Q E h => by
  unfold sp_rinit at h
  split at h <;> first | rfl | contradiction
theorem ar_Replacer_step : Arity 3 (up1 ps_rstep) := arity_up fun args S Q E h => by
  unfold ps_rstep at h
  split at h <;> first | rfl | contradiction
theorem ar_Replacer_sign : Arity 2 (up1 ps_rsign) := arity_up fun args S Q E h => by
  unfold ps_rsign at h
  split at h <;> first | rfl | contradiction
theorem ar_row_of : Arity 2 sp_row_of := fun args S Q E h => by
  unfold sp_row_of at h
  split at h <;> first | rfl | contradiction
theorem ar__law_cell_at : Arity 2 sp_cell_at := fun args S Q E h => by
  unfold sp_cell_at at h
  split at h <;> first | rfl | contradiction
theorem ar__law_mixed : Arity 3 sp_mixed := fun args S Q E h => by
  unfold sp_mixed at h
  split at h <;> first | rfl | contradiction
theorem ar__law_next : Arity 3 sp_next := fun args S Q E h => by
  unfold sp_next at h
  split at h <;> first | rfl | contradiction
theorem ar__law_sign : Arity 3 (up1 ps_law_sign) := arity_up fun args S Q E h => by
  unfold ps_law_sign at h
  split at h <;> first | rfl | contradiction
theorem ar__law_are_apart : Arity 4 (up1 ps_are_apart) := arity_up fun args S Q E h => by
  unfold ps_are_apart at h
  split at h <;> first | rfl | contradiction
theorem ar__law_is_least : Arity 2 (up1 ps_is_least) := arity_up fun args S Q E h => by
  unfold ps_is_least at h
  split at h <;> first | rfl | contradiction
theorem ar__law_rule : Arity 3 sp_rule := fun args S Q E h => by
  unfold sp_rule at h
  split at h <;> first | rfl | contradiction
theorem ar__law_told : Arity 2 (up1 ps_told) := arity_up fun args S Q E h => by
  unfold ps_told at h
  split at h <;> first | rfl | contradiction
theorem ar__law_least_size : Arity 2 (up1 ps_least_size) := arity_up fun args S Q E h => by
  unfold ps_least_size at h
  split at h <;> first | rfl | contradiction
theorem ar_law : Arity 1 sp_plaw := fun args S Q E h => by
  unfold sp_plaw at h
  split at h <;> first | rfl | contradiction
def spTop (K : PySem.W.Frag) : Sp := fun vs H Q _ => ∃ (a : Addr) (ns : List Int), vs = [.ref a] ∧ Only H ∧ SqL K H a (ns.map V.int) ∧ ∀ H', Q (.bl true) H'
theorem rv_script {K : PySem.W.Frag} {H : Hp} : ∀ ns : List Int, RVs K H (ns.map .int) (ns.map V.int)
  | [] => rfl
  | i :: r => ⟨.int i, r.map V.int, rfl, rfl, rv_script r⟩
theorem top_in {P : Program} {w : World} {K : PySem.W.Frag} {ca ex : Nat → Addr} {vs : List V} {H : Hp} {Q : VK} {E : XK} (h : spTop K vs H Q E) : lift ⟨P, w, K, ca, ex⟩ sp_plaw vs H Q E := by
  obtain ⟨a, ns, rfl, hO, hS, q⟩ := h
  have fz : FzL K H a (ns.map V.int) := by
    rcases hS with (z | z) | z
    · rcases hO a with e | ⟨o, xs, e⟩
      · rw [z] at e; cases e
      · rw [z] at e; cases e
    · exact .inl z
    · exact .inr z
  refine ⟨[.lst (ns.map .int)], fun _ => none, fun v _ => v = .bl true, noE, ⟨.ref a, [], rfl, ⟨a, _, rfl, fz, rv_script ns⟩, rfl⟩, fun _ _ z => (by cases z), ⟨ns, rfl, fun _ => rfl⟩, fun v S' u H' _ e _ rv => ?_, fun _ _ _ _ z => z.elim⟩
  subst e
  cases rv
  exact q H'
theorem cx_no {P : Program} {w : World} {outer : List PySem.Env} {H : Hp} {s : Shared} {e : Value} {s' : Shared} (z : L2.CX P w outer H s (fun _ _ _ => False) e s') : False := by
  obtain ⟨_, _, _, _, _, _, _, _, _, _, _, _, z⟩ := z
  exact z
theorem kitV_of {K : PySem.W.Frag} {a : Addr} (h : PySem.W.subIn K (.ref a) (.type "ValueError") = some true) : PySem.W.kitOne K (.ref a) (.type "ValueError") = some true := by
  unfold PySem.W.kitOne
  rw [if_neg (by intro z; cases z)]
  show (if PySem.W.kitMeta "ValueError" = true then PySem.W.subIn K (.ref a) (.type "ValueError") else none) = some true
  rw [if_pos (by decide +kernel)]
  exact h

/-- what the top has written -/
structure Fx (K : PySem.W.Frag) (mg : Str → Option Value) (c : LC) : Prop where
  blt : ∀ x : Str, x ∈ [("len" : Str), "all", "any", "tuple", "list", "dict", "sorted", "int", "max", "min", "sum", "str", "isinstance", "range", "enumerate", "zip", "bool"] → mg x = none
  vale : mg "ValueError" = none
  cv0 : ∃ t, mg "STATES" = some (.int 8 t)
  cv1 : ∃ t, mg "MOST" = some (.int 3000 t)
  exs : ∀ x ci, exsK.lookup x = some ci → ExAt K mg c x ci
  exc : ∀ x, gK.ek x = true → L2.ExcC K (c.ex x)
  exm : ∀ x y, gK.ek x = true → gK.ek y = true → PySem.W.exmOne K (.ref (c.ex x)) (.ref (c.ex y)) = some (gK.sub x y)
  kit : ∀ x y, gK.ek x = true → gK.ek y = true → PySem.W.kitOne K (.ref (c.ex x)) (.ref (c.ex y)) = some (gK.sub x y)
  kitV : ∀ x, gK.ek x = true → PySem.W.kitOne K (.ref (c.ex x)) (.type "ValueError") = some (gK.sub x 99)
section
variable {P : Program} {w : World} {K : PySem.W.Frag} {mg : Str → Option Value} {base : Heap} {c : LC}
theorem nm_of (F : Fx K mg c) {T : Tab} {k : Nat} {mt : Nat → Str → Option DL.Spec} {fl : Nat → Str → Bool} (ee : T.exs = exsK) (nd : T.N.Nodup) (h : ∀ p ∈ T.fns, ∃ sp, fnK p.2 = some sp ∧ FnAt P w K mg base c k p.1 sp) (hm : ∀ ci m sp, mt ci m = some sp → m ≠ ("__init__" : Str) → MtAt P w K mg base c k ci m sp) (hn : ∀ x ci, T.cls.lookup x = some ci → ∃ sp, mt ci "__init__" = some sp ∧ NewAt P w K mg base c k x ci sp) (hf : ∀ ci f, fl ci f = true → Cls K (c.ca ci) ∧ NoAttr K (c.ca ci) f) : Nm P w K mg base c (gC mt fl) T k where
  fns := fun x f q => h (x, f) (PySem.mem_of_lookup q)
  mts := hm
  news := hn
  cvs := fun x v q => by
    unfold gC at q
    simp only at q
    split at q
    · rename_i e
      subst e
      cases q
      obtain ⟨t, e⟩ := F.cv0
      exact ⟨_, .int 8, e, ⟨t, rfl⟩, fun _ => rfl⟩
    split at q
    · rename_i e
      subst e
      cases q
      obtain ⟨t, e⟩ := F.cv1
      exact ⟨_, .int 3000, e, ⟨t, rfl⟩, fun _ => rfl⟩
    cases q
  blt := F.blt
  nd := nd
  exs := fun x ci q => F.exs x ci (by rw [← ee]; exact q)
  exk := fun x ci q => by
    rw [ee] at q
    have m := PySem.mem_of_lookup q
    simp only [exsK, List.mem_cons, Prod.mk.injEq, List.not_mem_nil, or_false] at m
    rcases m with ⟨_, rfl⟩ | ⟨_, rfl⟩ | ⟨_, rfl⟩ | ⟨_, rfl⟩ <;> rfl
  exc := F.exc
  exm := F.exm
  kit := F.kit
  kitV := F.kitV
  vale := F.vale
  fls := hf
end
theorem all_mk {P : Program} {w : World} {K : PySem.W.Frag} {h : Heap} {mg : Str → Option Value} {fa : Addr} (X : K.In h) (G : h.Ns mainGlobals mg) (hfa : mg "law" = some (.ref fa))
    {f0 f1 f2 f3 f4 f5 f6 f7 f8 f9 f10 f11 f12 f13 f14 f15 f16 f17 f18 f19 f20 f21 x0 x2 x5 x6 C5 : Addr}
    {oc0 oc1 oc2 oc3 oc4 oc5 oc6 oc7 oc8 oc9 oc10 oc11 oc12 oc13 oc14 oc15 oc16 oc17 oc18 oc19 oc20 oc21 : Value}
    {kV0 kV1 kV2 kV3 kV4 kV5 kV6 kV7 kV8 kV9 kV10 kV11 kV12 kV13 kV14 kV15 kV16 kV17 kV18 kV19 kV20 kV21 : Value}
    {dc0 dc1 dc2 dc3 dc4 dc5 dc6 dc7 dc8 dc9 dc10 dc11 dc12 dc13 dc14 dc15 dc16 dc17 dc18 dc19 dc20 dc21 : Value}
    {pm0 pm1 pm2 pm3 pm4 pm5 pm6 pm7 pm8 pm9 pm10 pm11 pm12 pm13 pm14 pm15 pm16 pm17 pm18 pm19 pm20 pm21 : Value}
    {cd0 cd1 cd2 cd3 cd4 cd5 cd6 cd7 cd8 cd9 cd10 cd11 cd12 cd13 cd14 cd15 cd16 cd17 cd18 cd19 cd20 cd21 : Value}
    {ct0 ct1 ct2 ct3 ct4 ct5 ct6 ct7 ct8 ct9 ct10 ct11 ct12 ct13 ct14 ct15 ct16 ct17 ct18 ct19 ct20 ct21 : Value}
    {od0 od1 od2 od3 od4 od5 od6 od7 od8 od9 od10 od11 od12 od13 od14 od15 od16 od17 od18 od19 od20 od21 : Option Addr}
    {an0 an1 an2 an3 an4 an5 an6 an7 an8 an9 an10 an11 an12 an13 an14 an15 an16 an17 an18 an19 an20 an21 : Option Addr}
    {sl0 sl1 sl2 sl3 sl4 sl5 sl6 sl7 sl8 sl9 sl10 sl11 sl12 sl13 sl14 sl15 sl16 sl17 sl18 sl19 sl20 sl21 : Array (Option Value)}
    {tk0 tk1 : Tok}
    (cgC5 : PySem.W.nsIn K mainGlobals "Replacer" = some (some (.ref C5)))
    (pgC5 : PySem.W.plainGet K C5 Str.empty = true)
    (hdC5 : PySem.W.hasDictIn K C5 = true)
    (poC5 : PySem.W.plainOver K C5 = true)
    (saC5 : PySem.W.findIn K (.ref C5) "__setattr__" = some (some (.builtin "object.__setattr__")))
    (mkC5 : PySem.W.makesIn K C5 = true)
    (kcC5 : PySem.W.keepIn K (.ref C5) = true)
    (naC5_base : PySem.W.findIn K (.ref C5) "base" = some none)
    (naC5_rule : PySem.W.findIn K (.ref C5) "rule" = some none)
    (a0 : PySem.W.nsIn K mainGlobals "is_whole" = some (some (.ref f0)))
    (l0 : K.lookup f0 = some ⟨oc0, od0, .func (PySem.W.fnOf "is_whole" "is_whole" (defArgs (top 7)) (defBody (top 7)) (defScope (top 7)) .none kV0 dc0 pm0 an0 cd0 ct0), sl0⟩)
    (c0 : PySem.W.codeIn K cd0 "is_whole" = true)
    (k0 : PySem.W.keepIn K (.ref f0) = true)
    (a1 : PySem.W.nsIn K mainGlobals "between" = some (some (.ref f1)))
    (l1 : K.lookup f1 = some ⟨oc1, od1, .func (PySem.W.fnOf "between" "between" (defArgs (top 8)) (defBody (top 8)) (defScope (top 8)) .none kV1 dc1 pm1 an1 cd1 ct1), sl1⟩)
    (c1 : PySem.W.codeIn K cd1 "between" = true)
    (k1 : PySem.W.keepIn K (.ref f1) = true)
    (a2 : PySem.W.nsIn K mainGlobals "numbered" = some (some (.ref f2)))
    (l2 : K.lookup f2 = some ⟨oc2, od2, .func (PySem.W.fnOf "numbered" "numbered" (defArgs (top 9)) (defBody (top 9)) (defScope (top 9)) .none kV2 dc2 pm2 an2 cd2 ct2), sl2⟩)
    (c2 : PySem.W.codeIn K cd2 "numbered" = true)
    (k2 : PySem.W.keepIn K (.ref f2) = true)
    (a3 : PySem.W.nsIn K mainGlobals "merged" = some (some (.ref f3)))
    (l3 : K.lookup f3 = some ⟨oc3, od3, .func (PySem.W.fnOf "merged" "merged" (defArgs (top 10)) (defBody (top 10)) (defScope (top 10)) .none kV3 dc3 pm3 an3 cd3 ct3), sl3⟩)
    (c3 : PySem.W.codeIn K cd3 "merged" = true)
    (k3 : PySem.W.keepIn K (.ref f3) = true)
    (a4 : PySem.W.nsIn K mainGlobals "walked" = some (some (.ref f4)))
    (l4 : K.lookup f4 = some ⟨oc4, od4, .func (PySem.W.fnOf "walked" "walked" (defArgs (top 11)) (defBody (top 11)) (defScope (top 11)) .none kV4 dc4 pm4 an4 cd4 ct4), sl4⟩)
    (c4 : PySem.W.codeIn K cd4 "walked" = true)
    (k4 : PySem.W.keepIn K (.ref f4) = true)
    (a5 : PySem.W.nsIn K mainGlobals "is_rule" = some (some (.ref f5)))
    (l5 : K.lookup f5 = some ⟨oc5, od5, .func (PySem.W.fnOf "is_rule" "is_rule" (defArgs (top 14)) (defBody (top 14)) (defScope (top 14)) .none kV5 dc5 pm5 an5 cd5 ct5), sl5⟩)
    (c5 : PySem.W.codeIn K cd5 "is_rule" = true)
    (k5 : PySem.W.keepIn K (.ref f5) = true)
    (a6 : PySem.W.nsIn K mainGlobals "need_rule" = some (some (.ref f6)))
    (l6 : K.lookup f6 = some ⟨oc6, od6, .func (PySem.W.fnOf "need_rule" "need_rule" (defArgs (top 15)) (defBody (top 15)) (defScope (top 15)) .none kV6 dc6 pm6 an6 cd6 ct6), sl6⟩)
    (c6 : PySem.W.codeIn K cd6 "need_rule" = true)
    (k6 : PySem.W.keepIn K (.ref f6) = true)
    (a7 : PySem.W.nsIn K mainGlobals "written" = some (some (.ref f7)))
    (l7 : K.lookup f7 = some ⟨oc7, od7, .func (PySem.W.fnOf "written" "written" (defArgs (top 16)) (defBody (top 16)) (defScope (top 16)) .none kV7 dc7 pm7 an7 cd7 ct7), sl7⟩)
    (c7 : PySem.W.codeIn K cd7 "written" = true)
    (k7 : PySem.W.keepIn K (.ref f7) = true)
    (a8 : PySem.W.findIn K (.ref C5) "__init__" = some (some (.ref f8)))
    (i8 : PySem.W.isFn K (.ref f8) = true)
    (l8 : K.lookup f8 = some ⟨oc8, od8, .func (PySem.W.fnOf "__init__" "Replacer.__init__" (defArgs (inClass (top 17) 0)) (defBody (inClass (top 17) 0)) (defScope (inClass (top 17) 0)) .none kV8 dc8 pm8 an8 cd8 ct8), sl8⟩)
    (c8 : PySem.W.codeIn K cd8 "Replacer.__init__" = true)
    (k8 : PySem.W.keepIn K (.ref f8) = true)
    (a9 : PySem.W.findIn K (.ref C5) "step" = some (some (.ref f9)))
    (i9 : PySem.W.isFn K (.ref f9) = true)
    (l9 : K.lookup f9 = some ⟨oc9, od9, .func (PySem.W.fnOf "step" "Replacer.step" (defArgs (inClass (top 17) 1)) (defBody (inClass (top 17) 1)) (defScope (inClass (top 17) 1)) .none kV9 dc9 pm9 an9 cd9 ct9), sl9⟩)
    (c9 : PySem.W.codeIn K cd9 "Replacer.step" = true)
    (k9 : PySem.W.keepIn K (.ref f9) = true)
    (a10 : PySem.W.findIn K (.ref C5) "sign" = some (some (.ref f10)))
    (i10 : PySem.W.isFn K (.ref f10) = true)
    (l10 : K.lookup f10 = some ⟨oc10, od10, .func (PySem.W.fnOf "sign" "Replacer.sign" (defArgs (inClass (top 17) 2)) (defBody (inClass (top 17) 2)) (defScope (inClass (top 17) 2)) .none kV10 dc10 pm10 an10 cd10 ct10), sl10⟩)
    (c10 : PySem.W.codeIn K cd10 "Replacer.sign" = true)
    (k10 : PySem.W.keepIn K (.ref f10) = true)
    (a11 : PySem.W.nsIn K mainGlobals "row_of" = some (some (.ref f11)))
    (l11 : K.lookup f11 = some ⟨oc11, od11, .func (PySem.W.fnOf "row_of" "row_of" (defArgs (top 18)) (defBody (top 18)) (defScope (top 18)) .none kV11 dc11 pm11 an11 cd11 ct11), sl11⟩)
    (c11 : PySem.W.codeIn K cd11 "row_of" = true)
    (k11 : PySem.W.keepIn K (.ref f11) = true)
    (a12 : PySem.W.nsIn K mainGlobals "_law_cell_at" = some (some (.ref f12)))
    (l12 : K.lookup f12 = some ⟨oc12, od12, .func (PySem.W.fnOf "_law_cell_at" "_law_cell_at" (defArgs (top 20)) (defBody (top 20)) (defScope (top 20)) .none kV12 dc12 pm12 an12 cd12 ct12), sl12⟩)
    (c12 : PySem.W.codeIn K cd12 "_law_cell_at" = true)
    (k12 : PySem.W.keepIn K (.ref f12) = true)
    (a13 : PySem.W.nsIn K mainGlobals "_law_mixed" = some (some (.ref f13)))
    (l13 : K.lookup f13 = some ⟨oc13, od13, .func (PySem.W.fnOf "_law_mixed" "_law_mixed" (defArgs (top 21)) (defBody (top 21)) (defScope (top 21)) .none kV13 dc13 pm13 an13 cd13 ct13), sl13⟩)
    (c13 : PySem.W.codeIn K cd13 "_law_mixed" = true)
    (k13 : PySem.W.keepIn K (.ref f13) = true)
    (a14 : PySem.W.nsIn K mainGlobals "_law_next" = some (some (.ref f14)))
    (l14 : K.lookup f14 = some ⟨oc14, od14, .func (PySem.W.fnOf "_law_next" "_law_next" (defArgs (top 22)) (defBody (top 22)) (defScope (top 22)) .none kV14 dc14 pm14 an14 cd14 ct14), sl14⟩)
    (c14 : PySem.W.codeIn K cd14 "_law_next" = true)
    (k14 : PySem.W.keepIn K (.ref f14) = true)
    (a15 : PySem.W.nsIn K mainGlobals "_law_sign" = some (some (.ref f15)))
    (l15 : K.lookup f15 = some ⟨oc15, od15, .func (PySem.W.fnOf "_law_sign" "_law_sign" (defArgs (top 23)) (defBody (top 23)) (defScope (top 23)) .none kV15 dc15 pm15 an15 cd15 ct15), sl15⟩)
    (c15 : PySem.W.codeIn K cd15 "_law_sign" = true)
    (k15 : PySem.W.keepIn K (.ref f15) = true)
    (a16 : PySem.W.nsIn K mainGlobals "_law_are_apart" = some (some (.ref f16)))
    (l16 : K.lookup f16 = some ⟨oc16, od16, .func (PySem.W.fnOf "_law_are_apart" "_law_are_apart" (defArgs (top 24)) (defBody (top 24)) (defScope (top 24)) .none kV16 dc16 pm16 an16 cd16 ct16), sl16⟩)
    (c16 : PySem.W.codeIn K cd16 "_law_are_apart" = true)
    (k16 : PySem.W.keepIn K (.ref f16) = true)
    (a17 : PySem.W.nsIn K mainGlobals "_law_is_least" = some (some (.ref f17)))
    (l17 : K.lookup f17 = some ⟨oc17, od17, .func (PySem.W.fnOf "_law_is_least" "_law_is_least" (defArgs (top 25)) (defBody (top 25)) (defScope (top 25)) .none kV17 dc17 pm17 an17 cd17 ct17), sl17⟩)
    (c17 : PySem.W.codeIn K cd17 "_law_is_least" = true)
    (k17 : PySem.W.keepIn K (.ref f17) = true)
    (a18 : PySem.W.nsIn K mainGlobals "_law_rule" = some (some (.ref f18)))
    (l18 : K.lookup f18 = some ⟨oc18, od18, .func (PySem.W.fnOf "_law_rule" "_law_rule" (defArgs (top 26)) (defBody (top 26)) (defScope (top 26)) .none kV18 dc18 pm18 an18 cd18 ct18), sl18⟩)
    (c18 : PySem.W.codeIn K cd18 "_law_rule" = true)
    (k18 : PySem.W.keepIn K (.ref f18) = true)
    (a19 : PySem.W.nsIn K mainGlobals "_law_told" = some (some (.ref f19)))
    (l19 : K.lookup f19 = some ⟨oc19, od19, .func (PySem.W.fnOf "_law_told" "_law_told" (defArgs (top 27)) (defBody (top 27)) (defScope (top 27)) .none kV19 dc19 pm19 an19 cd19 ct19), sl19⟩)
    (c19 : PySem.W.codeIn K cd19 "_law_told" = true)
    (k19 : PySem.W.keepIn K (.ref f19) = true)
    (a20 : PySem.W.nsIn K mainGlobals "_law_least_size" = some (some (.ref f20)))
    (l20 : K.lookup f20 = some ⟨oc20, od20, .func (PySem.W.fnOf "_law_least_size" "_law_least_size" (defArgs (top 28)) (defBody (top 28)) (defScope (top 28)) .none kV20 dc20 pm20 an20 cd20 ct20), sl20⟩)
    (c20 : PySem.W.codeIn K cd20 "_law_least_size" = true)
    (k20 : PySem.W.keepIn K (.ref f20) = true)
    (a21 : PySem.W.nsIn K mainGlobals "law" = some (some (.ref f21)))
    (l21 : K.lookup f21 = some ⟨oc21, od21, .func (PySem.W.fnOf "law" "law" (defArgs (top 29)) (defBody (top 29)) (defScope (top 29)) .none kV21 dc21 pm21 an21 cd21 ct21), sl21⟩)
    (c21 : PySem.W.codeIn K cd21 "law" = true)
    (k21 : PySem.W.keepIn K (.ref f21) = true)
    (z0 : PySem.W.nsIn K mainGlobals "len" = some none)
    (z1 : PySem.W.nsIn K mainGlobals "all" = some none)
    (z2 : PySem.W.nsIn K mainGlobals "any" = some none)
    (z3 : PySem.W.nsIn K mainGlobals "tuple" = some none)
    (z4 : PySem.W.nsIn K mainGlobals "list" = some none)
    (z5 : PySem.W.nsIn K mainGlobals "dict" = some none)
    (z6 : PySem.W.nsIn K mainGlobals "sorted" = some none)
    (z7 : PySem.W.nsIn K mainGlobals "int" = some none)
    (z8 : PySem.W.nsIn K mainGlobals "max" = some none)
    (z9 : PySem.W.nsIn K mainGlobals "min" = some none)
    (z10 : PySem.W.nsIn K mainGlobals "sum" = some none)
    (z11 : PySem.W.nsIn K mainGlobals "str" = some none)
    (z12 : PySem.W.nsIn K mainGlobals "isinstance" = some none)
    (z13 : PySem.W.nsIn K mainGlobals "range" = some none)
    (z14 : PySem.W.nsIn K mainGlobals "enumerate" = some none)
    (z15 : PySem.W.nsIn K mainGlobals "zip" = some none)
    (z16 : PySem.W.nsIn K mainGlobals "bool" = some none)
    (z17 : PySem.W.nsIn K mainGlobals "ValueError" = some none)
    (v0 : PySem.W.nsIn K mainGlobals "STATES" = some (some (.int 8 tk0)))
    (v1 : PySem.W.nsIn K mainGlobals "MOST" = some (some (.int 3000 tk1)))
    (ea0 : PySem.W.nsIn K mainGlobals "RowError" = some (some (.ref x0)))
    (ex0 : PySem.W.excIn K x0 [.type "ValueError", .type "Exception", .type "BaseException", .type "object"] "ValueError.__new__" = true)
    (ek0 : PySem.W.keepIn K (.ref x0) = true)
    (eb0 : PySem.W.subIn K (.ref x0) (.type "BaseException") = some true)
    (et0 : PySem.W.typeIn K (.ref x0) = some (.type "type"))
    (eg0 : PySem.W.findIn K (.ref x0) "__getattribute__" = some (some (.builtin "BaseException.__getattribute__")))
    (eh0 : PySem.W.findIn K (.ref x0) "__getattr__" = some none)
    (ed0 : PySem.W.hasDictIn K x0 = true)
    (ec0 : PySem.W.findIn K (.ref x0) "__class__" = some (some (.builtin "object.__class__")))
    (em0 : PySem.W.mroIn K x0 (.type "object") = some true)
    (ev0 : PySem.W.subIn K (.ref x0) (.type "ValueError") = some true)
    (ea2 : PySem.W.nsIn K mainGlobals "NoRule" = some (some (.ref x2)))
    (ex2 : PySem.W.excIn K x2 [.type "ValueError", .type "Exception", .type "BaseException", .type "object"] "ValueError.__new__" = true)
    (ek2 : PySem.W.keepIn K (.ref x2) = true)
    (eb2 : PySem.W.subIn K (.ref x2) (.type "BaseException") = some true)
    (et2 : PySem.W.typeIn K (.ref x2) = some (.type "type"))
    (eg2 : PySem.W.findIn K (.ref x2) "__getattribute__" = some (some (.builtin "BaseException.__getattribute__")))
    (eh2 : PySem.W.findIn K (.ref x2) "__getattr__" = some none)
    (ed2 : PySem.W.hasDictIn K x2 = true)
    (ec2 : PySem.W.findIn K (.ref x2) "__class__" = some (some (.builtin "object.__class__")))
    (em2 : PySem.W.mroIn K x2 (.type "object") = some true)
    (ev2 : PySem.W.subIn K (.ref x2) (.type "ValueError") = some true)
    (ea5 : PySem.W.nsIn K mainGlobals "NoNumber" = some (some (.ref x5)))
    (ex5 : PySem.W.excIn K x5 [.type "ValueError", .type "Exception", .type "BaseException", .type "object"] "ValueError.__new__" = true)
    (ek5 : PySem.W.keepIn K (.ref x5) = true)
    (eb5 : PySem.W.subIn K (.ref x5) (.type "BaseException") = some true)
    (et5 : PySem.W.typeIn K (.ref x5) = some (.type "type"))
    (eg5 : PySem.W.findIn K (.ref x5) "__getattribute__" = some (some (.builtin "BaseException.__getattribute__")))
    (eh5 : PySem.W.findIn K (.ref x5) "__getattr__" = some none)
    (ed5 : PySem.W.hasDictIn K x5 = true)
    (ec5 : PySem.W.findIn K (.ref x5) "__class__" = some (some (.builtin "object.__class__")))
    (em5 : PySem.W.mroIn K x5 (.type "object") = some true)
    (ev5 : PySem.W.subIn K (.ref x5) (.type "ValueError") = some true)
    (ea6 : PySem.W.nsIn K mainGlobals "TooBig" = some (some (.ref x6)))
    (ex6 : PySem.W.excIn K x6 [.type "ValueError", .type "Exception", .type "BaseException", .type "object"] "ValueError.__new__" = true)
    (ek6 : PySem.W.keepIn K (.ref x6) = true)
    (eb6 : PySem.W.subIn K (.ref x6) (.type "BaseException") = some true)
    (et6 : PySem.W.typeIn K (.ref x6) = some (.type "type"))
    (eg6 : PySem.W.findIn K (.ref x6) "__getattribute__" = some (some (.builtin "BaseException.__getattribute__")))
    (eh6 : PySem.W.findIn K (.ref x6) "__getattr__" = some none)
    (ed6 : PySem.W.hasDictIn K x6 = true)
    (ec6 : PySem.W.findIn K (.ref x6) "__class__" = some (some (.builtin "object.__class__")))
    (em6 : PySem.W.mroIn K x6 (.type "object") = some true)
    (ev6 : PySem.W.subIn K (.ref x6) (.type "ValueError") = some true)
    (s0_0 : PySem.W.subIn K (.ref x0) (.ref x0) = some true)
    (t0_0 : PySem.W.kitOne K (.ref x0) (.ref x0) = some true)
    (s0_2 : PySem.W.subIn K (.ref x0) (.ref x2) = some false)
    (t0_2 : PySem.W.kitOne K (.ref x0) (.ref x2) = some false)
    (s0_5 : PySem.W.subIn K (.ref x0) (.ref x5) = some false)
    (t0_5 : PySem.W.kitOne K (.ref x0) (.ref x5) = some false)
    (s0_6 : PySem.W.subIn K (.ref x0) (.ref x6) = some false)
    (t0_6 : PySem.W.kitOne K (.ref x0) (.ref x6) = some false)
    (s2_0 : PySem.W.subIn K (.ref x2) (.ref x0) = some true)
    (t2_0 : PySem.W.kitOne K (.ref x2) (.ref x0) = some true)
    (s2_2 : PySem.W.subIn K (.ref x2) (.ref x2) = some true)
    (t2_2 : PySem.W.kitOne K (.ref x2) (.ref x2) = some true)
    (s2_5 : PySem.W.subIn K (.ref x2) (.ref x5) = some false)
    (t2_5 : PySem.W.kitOne K (.ref x2) (.ref x5) = some false)
    (s2_6 : PySem.W.subIn K (.ref x2) (.ref x6) = some false)
    (t2_6 : PySem.W.kitOne K (.ref x2) (.ref x6) = some false)
    (s5_0 : PySem.W.subIn K (.ref x5) (.ref x0) = some true)
    (t5_0 : PySem.W.kitOne K (.ref x5) (.ref x0) = some true)
    (s5_2 : PySem.W.subIn K (.ref x5) (.ref x2) = some false)
    (t5_2 : PySem.W.kitOne K (.ref x5) (.ref x2) = some false)
    (s5_5 : PySem.W.subIn K (.ref x5) (.ref x5) = some true)
    (t5_5 : PySem.W.kitOne K (.ref x5) (.ref x5) = some true)
    (s5_6 : PySem.W.subIn K (.ref x5) (.ref x6) = some false)
    (t5_6 : PySem.W.kitOne K (.ref x5) (.ref x6) = some false)
    (s6_0 : PySem.W.subIn K (.ref x6) (.ref x0) = some true)
    (t6_0 : PySem.W.kitOne K (.ref x6) (.ref x0) = some true)
    (s6_2 : PySem.W.subIn K (.ref x6) (.ref x2) = some false)
    (t6_2 : PySem.W.kitOne K (.ref x6) (.ref x2) = some false)
    (s6_5 : PySem.W.subIn K (.ref x6) (.ref x5) = some false)
    (t6_5 : PySem.W.kitOne K (.ref x6) (.ref x5) = some false)
    (s6_6 : PySem.W.subIn K (.ref x6) (.ref x6) = some true)
    (t6_6 : PySem.W.kitOne K (.ref x6) (.ref x6) = some true)
    (yn : PySem.W.specialIn K (.builtin "object.__class__") "__get__" = some (some (.builtin "getset_descriptor.__get__")))
    (yt : PySem.W.takesIn K (.builtin "object.__class__") = some true)
    : ∃ fd : FuncData, (∀ (s : Shared) (u : Value), BindsTo s fd ⟨[u], []⟩ [("_law_script", u)]) ∧ ∀ base : Heap, K.In base → base.Ns mainGlobals mg → FnOk P w K mg base (L2.CX P w) 7 fa fd ["_law_script"] (spTop K) := by
  have e := hfa.symm.trans (PySem.W.mg_of X G a21)
  cases e
  let c : LC := ⟨fun n => match n with
    | 5 => C5
    | _ => 0, fun n => match n with
    | 0 => x0
    | 2 => x2
    | 5 => x5
    | 6 => x6
    | _ => 0⟩
  have ek : ∀ x, gK.ek x = true → x = 0 ∨ x = 2 ∨ x = 5 ∨ x = 6 := fun x q => by
    unfold gK gC at q
    simpa using q
  have F : Fx K mg c := by
    refine ⟨fun x hx => ?_, PySem.W.mg_none_of X G z17, ⟨_, PySem.W.mg_of X G v0⟩, ⟨_, PySem.W.mg_of X G v1⟩, fun x ci q => ?_, fun x q => ?_, fun x y q r => ?_, fun x y q r => ?_, fun x q => ?_⟩
    · simp only [List.mem_cons, List.not_mem_nil, or_false] at hx
      rcases hx with rfl | rfl | rfl | rfl | rfl | rfl | rfl | rfl | rfl | rfl | rfl | rfl | rfl | rfl | rfl | rfl | rfl
      · exact PySem.W.mg_none_of X G z0
      · exact PySem.W.mg_none_of X G z1
      · exact PySem.W.mg_none_of X G z2
      · exact PySem.W.mg_none_of X G z3
      · exact PySem.W.mg_none_of X G z4
      · exact PySem.W.mg_none_of X G z5
      · exact PySem.W.mg_none_of X G z6
      · exact PySem.W.mg_none_of X G z7
      · exact PySem.W.mg_none_of X G z8
      · exact PySem.W.mg_none_of X G z9
      · exact PySem.W.mg_none_of X G z10
      · exact PySem.W.mg_none_of X G z11
      · exact PySem.W.mg_none_of X G z12
      · exact PySem.W.mg_none_of X G z13
      · exact PySem.W.mg_none_of X G z14
      · exact PySem.W.mg_none_of X G z15
      · exact PySem.W.mg_none_of X G z16
    · have m := PySem.mem_of_lookup q
      simp only [exsK, List.mem_cons, Prod.mk.injEq, List.not_mem_nil, or_false] at m
      rcases m with ⟨rfl, rfl⟩ | ⟨rfl, rfl⟩ | ⟨rfl, rfl⟩ | ⟨rfl, rfl⟩
      · exact ⟨_, _, _, _, PySem.F.excBase_ValueError, ex0, PySem.W.mg_of X G ea0, ek0, eb0, et0⟩
      · exact ⟨_, _, _, _, PySem.F.excBase_ValueError, ex2, PySem.W.mg_of X G ea2, ek2, eb2, et2⟩
      · exact ⟨_, _, _, _, PySem.F.excBase_ValueError, ex5, PySem.W.mg_of X G ea5, ek5, eb5, et5⟩
      · exact ⟨_, _, _, _, PySem.F.excBase_ValueError, ex6, PySem.W.mg_of X G ea6, ek6, eb6, et6⟩
    · rcases ek x q with rfl | rfl | rfl | rfl
      · exact ⟨eg0, eh0, eb0, ed0, ec0, yn, yt, em0⟩
      · exact ⟨eg2, eh2, eb2, ed2, ec2, yn, yt, em2⟩
      · exact ⟨eg5, eh5, eb5, ed5, ec5, yn, yt, em5⟩
      · exact ⟨eg6, eh6, eb6, ed6, ec6, yn, yt, em6⟩
    · rcases ek x q with rfl | rfl | rfl | rfl <;> rcases ek y r with rfl | rfl | rfl | rfl
      · exact PySem.W.exm_ref eb0 ed0 et0 s0_0
      · exact PySem.W.exm_ref eb2 ed2 et2 s0_2
      · exact PySem.W.exm_ref eb5 ed5 et5 s0_5
      · exact PySem.W.exm_ref eb6 ed6 et6 s0_6
      · exact PySem.W.exm_ref eb0 ed0 et0 s2_0
      · exact PySem.W.exm_ref eb2 ed2 et2 s2_2
      · exact PySem.W.exm_ref eb5 ed5 et5 s2_5
      · exact PySem.W.exm_ref eb6 ed6 et6 s2_6
      · exact PySem.W.exm_ref eb0 ed0 et0 s5_0
      · exact PySem.W.exm_ref eb2 ed2 et2 s5_2
      · exact PySem.W.exm_ref eb5 ed5 et5 s5_5
      · exact PySem.W.exm_ref eb6 ed6 et6 s5_6
      · exact PySem.W.exm_ref eb0 ed0 et0 s6_0
      · exact PySem.W.exm_ref eb2 ed2 et2 s6_2
      · exact PySem.W.exm_ref eb5 ed5 et5 s6_5
      · exact PySem.W.exm_ref eb6 ed6 et6 s6_6
    · rcases ek x q with rfl | rfl | rfl | rfl <;> rcases ek y r with rfl | rfl | rfl | rfl
      · exact t0_0
      · exact t0_2
      · exact t0_5
      · exact t0_6
      · exact t2_0
      · exact t2_2
      · exact t2_5
      · exact t2_6
      · exact t5_0
      · exact t5_2
      · exact t5_5
      · exact t5_6
      · exact t6_0
      · exact t6_2
      · exact t6_5
      · exact t6_6
    · rcases ek x q with rfl | rfl | rfl | rfl
      · exact kitV_of ev0
      · exact kitV_of ev2
      · exact kitV_of ev5
      · exact kitV_of ev6
  have U0 := fun_mk (st := (top 7)) l0 c0 k0
  have B0 := U0.binds (ps := ["thing"]) fun _ _ _ _ _ _ us hl => match us, hl with | [_], _ => rfl
  have U1 := fun_mk (st := (top 8)) l1 c1 k1
  have B1 := U1.binds (ps := ["thing", "low", "most"]) fun _ _ _ _ _ _ us hl => match us, hl with | [_, _, _], _ => rfl
  have U2 := fun_mk (st := (top 9)) l2 c2 k2
  have B2 := U2.binds (ps := ["keys"]) fun _ _ _ _ _ _ us hl => match us, hl with | [_], _ => rfl
  have U3 := fun_mk (st := (top 10)) l3 c3 k3
  have B3 := U3.binds (ps := ["steps", "marks"]) fun _ _ _ _ _ _ us hl => match us, hl with | [_, _], _ => rfl
  have U4 := fun_mk (st := (top 11)) l4 c4 k4
  have B4 := U4.binds (ps := ["walker", "first"]) fun _ _ _ _ _ _ us hl => match us, hl with | [_, _], _ => rfl
  have U5 := fun_mk (st := (top 14)) l5 c5 k5
  have B5 := U5.binds (ps := ["base", "thing"]) fun _ _ _ _ _ _ us hl => match us, hl with | [_, _], _ => rfl
  have U6 := fun_mk (st := (top 15)) l6 c6 k6
  have B6 := U6.binds (ps := ["base", "rule"]) fun _ _ _ _ _ _ us hl => match us, hl with | [_, _], _ => rfl
  have U7 := fun_mk (st := (top 16)) l7 c7 k7
  have B7 := U7.binds (ps := ["base", "rule", "many"]) fun _ _ _ _ _ _ us hl => match us, hl with | [_, _, _], _ => rfl
  have U8 := fun_mk (st := (inClass (top 17) 0)) l8 c8 k8
  have B8 := U8.binds (ps := ["self", "base", "rule"]) fun _ _ _ _ _ _ us hl => match us, hl with | [_, _, _], _ => rfl
  have U9 := fun_mk (st := (inClass (top 17) 1)) l9 c9 k9
  have B9 := U9.binds (ps := ["self", "state", "figure"]) fun _ _ _ _ _ _ us hl => match us, hl with | [_, _, _], _ => rfl
  have U10 := fun_mk (st := (inClass (top 17) 2)) l10 c10 k10
  have B10 := U10.binds (ps := ["self", "state"]) fun _ _ _ _ _ _ us hl => match us, hl with | [_, _], _ => rfl
  have U11 := fun_mk (st := (top 18)) l11 c11 k11
  have B11 := U11.binds (ps := ["base", "rule"]) fun _ _ _ _ _ _ us hl => match us, hl with | [_, _], _ => rfl
  have U12 := fun_mk (st := (top 20)) l12 c12 k12
  have B12 := U12.binds (ps := ["_law_script", "_law_k"]) fun _ _ _ _ _ _ us hl => match us, hl with | [_, _], _ => rfl
  have U13 := fun_mk (st := (top 21)) l13 c13 k13
  have B13 := U13.binds (ps := ["_law_script", "_law_k", "_law_many"]) fun _ _ _ _ _ _ us hl => match us, hl with | [_, _, _], _ => rfl
  have U14 := fun_mk (st := (top 22)) l14 c14 k14
  have B14 := U14.binds (ps := ["_law_script", "_law_m", "_law_many"]) fun _ _ _ _ _ _ us hl => match us, hl with | [_, _, _], _ => rfl
  have U15 := fun_mk (st := (top 23)) l15 c15 k15
  have B15 := U15.binds (ps := ["_law_base", "_law_row", "_law_place"]) fun _ _ _ _ _ _ us hl => match us, hl with | [_, _, _], _ => rfl
  have U16 := fun_mk (st := (top 24)) l16 c16 k16
  have B16 := U16.binds (ps := ["_law_steps", "_law_marks", "_law_one", "_law_other"]) fun _ _ _ _ _ _ us hl => match us, hl with | [_, _, _, _], _ => rfl
  have U17 := fun_mk (st := (top 25)) l17 c17 k17
  have B17 := U17.binds (ps := ["_law_steps", "_law_marks"]) fun _ _ _ _ _ _ us hl => match us, hl with | [_, _], _ => rfl
  have U18 := fun_mk (st := (top 26)) l18 c18 k18
  have B18 := U18.binds (ps := ["_law_script", "_law_m", "_law_base"]) fun _ _ _ _ _ _ us hl => match us, hl with | [_, _, _], _ => rfl
  have U19 := fun_mk (st := (top 27)) l19 c19 k19
  have B19 := U19.binds (ps := ["_law_base", "_law_rule_here"]) fun _ _ _ _ _ _ us hl => match us, hl with | [_, _], _ => rfl
  have U20 := fun_mk (st := (top 28)) l20 c20 k20
  have B20 := U20.binds (ps := ["_law_base", "_law_rule_here"]) fun _ _ _ _ _ _ us hl => match us, hl with | [_, _], _ => rfl
  have U21 := fun_mk (st := (top 29)) l21 c21 k21
  have B21 := U21.binds (ps := ["_law_script"]) fun _ _ _ _ _ _ us hl => match us, hl with | [_], _ => rfl
  refine ⟨PySem.W.fnOf "law" "law" (defArgs (top 29)) (defBody (top 29)) (defScope (top 29)) .none kV21 dc21 pm21 an21 cd21 ct21, fun s u => .of_eq rfl, fun base _ _ => ?_⟩
  have D0 : FnOk P w K mg base (L2.CX P w) 1 f0 _ _ (lift ⟨P, w, K, c.ca, c.ex⟩ sp_is_whole) := def_ok (k := 0) (c := c) (G := gC mt0 fl0) (T := t_is_whole) U0 sc_is_whole (nm_of F rfl (by decide +kernel) (fun p hp => by
    simp [t_is_whole] at hp
    )
    (fun _ _ _ q _ => by cases q)
    (fun _ _ q => by cases q)
    (fun _ _ q => by cases q)
    ) rfl ck_is_whole ar_is_whole (wk_names (N := n_is_whole) rfl (w_is_whole))
  have D2 : FnOk P w K mg base (L2.CX P w) 1 f2 _ _ (lift ⟨P, w, K, c.ca, c.ex⟩ sp_numbered) := def_ok (k := 0) (c := c) (G := gC mt0 fl0) (T := t_numbered) U2 sc_numbered (nm_of F rfl (by decide +kernel) (fun p hp => by
    simp [t_numbered] at hp
    )
    (fun _ _ _ q _ => by cases q)
    (fun _ _ q => by cases q)
    (fun _ _ q => by cases q)
    ) rfl ck_numbered ar_numbered (wk_names (N := n_numbered) rfl (w_numbered))
  have D8 : FnOk P w K mg base (L2.CX P w) 1 f8 _ _ (lift ⟨P, w, K, c.ca, c.ex⟩ sp_rinit) := def_ok (k := 0) (c := c) (G := gC mt0 fl_Replacer_init) (T := t_Replacer_init) U8 sc_Replacer_init (nm_of F rfl (by decide +kernel) (fun p hp => by
    simp [t_Replacer_init] at hp
    )
    (fun _ _ _ q _ => by cases q)
    (fun _ _ q => by cases q)
    (fun ci f q => by
      unfold fl_Replacer_init at q
      simp only [Bool.and_eq_true, beq_iff_eq, List.contains_iff_mem, List.mem_cons, List.not_mem_nil, or_false] at q
      obtain ⟨rfl, q⟩ := q
      refine ⟨⟨pgC5, hdC5, poC5, saC5⟩, ?_⟩
      rcases q with rfl | rfl
      · exact naC5_base
      · exact naC5_rule
      )
    ) rfl ck_Replacer_init ar_Replacer_init (wk_names (N := n_Replacer_init) rfl (w_rinit rfl rfl))
  have D9 : FnOk P w K mg base (L2.CX P w) 1 f9 _ _ (lift ⟨P, w, K, c.ca, c.ex⟩ (up1 ps_rstep)) := def_ok (k := 0) (c := c) (G := gC mt0 fl0) (T := t_Replacer_step) U9 sc_Replacer_step (nm_of F rfl (by decide +kernel) (fun p hp => by
    simp [t_Replacer_step] at hp
    )
    (fun _ _ _ q _ => by cases q)
    (fun _ _ q => by cases q)
    (fun _ _ q => by cases q)
    ) rfl ck_Replacer_step ar_Replacer_step (wk_names (N := n_Replacer_step) rfl (wk_of (g := gP) (w_rstep)))
  have D10 : FnOk P w K mg base (L2.CX P w) 1 f10 _ _ (lift ⟨P, w, K, c.ca, c.ex⟩ (up1 ps_rsign)) := def_ok (k := 0) (c := c) (G := gC mt0 fl0) (T := t_Replacer_sign) U10 sc_Replacer_sign (nm_of F rfl (by decide +kernel) (fun p hp => by
    simp [t_Replacer_sign] at hp
    )
    (fun _ _ _ q _ => by cases q)
    (fun _ _ q => by cases q)
    (fun _ _ q => by cases q)
    ) rfl ck_Replacer_sign ar_Replacer_sign (wk_names (N := n_Replacer_sign) rfl (wk_of (g := gP) (w_rsign)))
  have D12 : FnOk P w K mg base (L2.CX P w) 1 f12 _ _ (lift ⟨P, w, K, c.ca, c.ex⟩ sp_cell_at) := def_ok (k := 0) (c := c) (G := gC mt0 fl0) (T := t__law_cell_at) U12 sc__law_cell_at (nm_of F rfl (by decide +kernel) (fun p hp => by
    simp [t__law_cell_at] at hp
    )
    (fun _ _ _ q _ => by cases q)
    (fun _ _ q => by cases q)
    (fun _ _ q => by cases q)
    ) rfl ck__law_cell_at ar__law_cell_at (wk_names (N := n__law_cell_at) rfl (w_cell_at))
  have D15 : FnOk P w K mg base (L2.CX P w) 1 f15 _ _ (lift ⟨P, w, K, c.ca, c.ex⟩ (up1 ps_law_sign)) := def_ok (k := 0) (c := c) (G := gC mt0 fl0) (T := t__law_sign) U15 sc__law_sign (nm_of F rfl (by decide +kernel) (fun p hp => by
    simp [t__law_sign] at hp
    )
    (fun _ _ _ q _ => by cases q)
    (fun _ _ q => by cases q)
    (fun _ _ q => by cases q)
    ) rfl ck__law_sign ar__law_sign (wk_names (N := n__law_sign) rfl (wk_of (g := gP) (w_plaw_sign)))
  have D16 : FnOk P w K mg base (L2.CX P w) 1 f16 _ _ (lift ⟨P, w, K, c.ca, c.ex⟩ (up1 ps_are_apart)) := def_ok (k := 0) (c := c) (G := gC mt0 fl0) (T := t__law_are_apart) U16 sc__law_are_apart (nm_of F rfl (by decide +kernel) (fun p hp => by
    simp [t__law_are_apart] at hp
    )
    (fun _ _ _ q _ => by cases q)
    (fun _ _ q => by cases q)
    (fun _ _ q => by cases q)
    ) rfl ck__law_are_apart ar__law_are_apart (wk_names (N := n__law_are_apart) rfl (wk_of (g := gP) (w_are_apart)))
  have D1 : FnOk P w K mg base (L2.CX P w) 2 f1 _ _ (lift ⟨P, w, K, c.ca, c.ex⟩ sp_between) := def_ok (k := 1) (c := c) (G := gC mt0 fl0) (T := t_between) U1 sc_between (nm_of F rfl (by decide +kernel) (fun p hp => by
    simp only [t_between, List.mem_cons, List.not_mem_nil, or_false] at hp
    rcases hp with rfl
    · exact ⟨_, rfl, ⟨⟨_, _, _, D0.mono (by decide), PySem.W.mg_of X G a0, k0, B0⟩⟩⟩
    )
    (fun _ _ _ q _ => by cases q)
    (fun _ _ q => by cases q)
    (fun _ _ q => by cases q)
    ) rfl ck_between ar_between (wk_names (N := n_between) rfl (w_between1 rfl))
  have D3 : FnOk P w K mg base (L2.CX P w) 2 f3 _ _ (lift ⟨P, w, K, c.ca, c.ex⟩ (up1 ps_merged)) := def_ok (k := 1) (c := c) (G := gC mt0 fl0) (T := t_merged) U3 sc_merged (nm_of F rfl (by decide +kernel) (fun p hp => by
    simp only [t_merged, List.mem_cons, List.not_mem_nil, or_false] at hp
    rcases hp with rfl
    · exact ⟨_, rfl, ⟨⟨_, _, _, D2.mono (by decide), PySem.W.mg_of X G a2, k2, B2⟩⟩⟩
    )
    (fun _ _ _ q _ => by cases q)
    (fun _ _ q => by cases q)
    (fun _ _ q => by cases q)
    ) rfl ck_merged ar_merged (wk_names (N := n_merged) rfl (wk_of (g := gP) (w_merged (by repeat' (first | rfl | constructor)))))
  have D13 : FnOk P w K mg base (L2.CX P w) 2 f13 _ _ (lift ⟨P, w, K, c.ca, c.ex⟩ sp_mixed) := def_ok (k := 1) (c := c) (G := gC mt0 fl0) (T := t__law_mixed) U13 sc__law_mixed (nm_of F rfl (by decide +kernel) (fun p hp => by
    simp only [t__law_mixed, List.mem_cons, List.not_mem_nil, or_false] at hp
    rcases hp with rfl
    · exact ⟨_, rfl, ⟨⟨_, _, _, D12.mono (by decide), PySem.W.mg_of X G a12, k12, B12⟩⟩⟩
    )
    (fun _ _ _ q _ => by cases q)
    (fun _ _ q => by cases q)
    (fun _ _ q => by cases q)
    ) rfl ck__law_mixed ar__law_mixed (wk_names (N := n__law_mixed) rfl (w_mixed (by repeat' (first | rfl | constructor))))
  have D17 : FnOk P w K mg base (L2.CX P w) 2 f17 _ _ (lift ⟨P, w, K, c.ca, c.ex⟩ (up1 ps_is_least)) := def_ok (k := 1) (c := c) (G := gC mt0 fl0) (T := t__law_is_least) U17 sc__law_is_least (nm_of F rfl (by decide +kernel) (fun p hp => by
    simp only [t__law_is_least, List.mem_cons, List.not_mem_nil, or_false] at hp
    rcases hp with rfl
    · exact ⟨_, rfl, ⟨⟨_, _, _, D16.mono (by decide), PySem.W.mg_of X G a16, k16, B16⟩⟩⟩
    )
    (fun _ _ _ q _ => by cases q)
    (fun _ _ q => by cases q)
    (fun _ _ q => by cases q)
    ) rfl ck__law_is_least ar__law_is_least (wk_names (N := n__law_is_least) rfl (wk_of (g := gP) (w_is_least (by repeat' (first | rfl | constructor)))))
  have D20 : FnOk P w K mg base (L2.CX P w) 2 f20 _ _ (lift ⟨P, w, K, c.ca, c.ex⟩ (up1 ps_least_size)) := def_ok (k := 1) (c := c) (G := gC mt0 fl0) (T := t__law_least_size) U20 sc__law_least_size (nm_of F rfl (by decide +kernel) (fun p hp => by
    simp only [t__law_least_size, List.mem_cons, List.not_mem_nil, or_false] at hp
    rcases hp with rfl
    · exact ⟨_, rfl, ⟨⟨_, _, _, D16.mono (by decide), PySem.W.mg_of X G a16, k16, B16⟩⟩⟩
    )
    (fun _ _ _ q _ => by cases q)
    (fun _ _ q => by cases q)
    (fun _ _ q => by cases q)
    ) rfl ck__law_least_size ar__law_least_size (wk_names (N := n__law_least_size) rfl (wk_of (g := gP) (w_least_size (by repeat' (first | rfl | constructor)))))
  have D4 : FnOk P w K mg base (L2.CX P w) 3 f4 _ _ (lift ⟨P, w, K, c.ca, c.ex⟩ (up1 (ps_walked mtR))) := def_ok (k := 2) (c := c) (G := gC (fun c m => (mtR c m).map up1) fl0) (T := t_walked) U4 sc_walked (nm_of F rfl (by decide +kernel) (fun p hp => by
    simp only [t_walked, List.mem_cons, List.not_mem_nil, or_false] at hp
    rcases hp with rfl
    · exact ⟨_, rfl, ⟨⟨_, _, _, D3.mono (by decide), PySem.W.mg_of X G a3, k3, B3⟩⟩⟩
    )
    (fun ci m sp q _ => by
      obtain ⟨ps, q1, rfl⟩ := Option.map_eq_some_iff.mp q
      rcases mtR_cases q1 with ⟨rfl, rfl, rfl⟩ | ⟨rfl, rfl, rfl⟩
      · exact ⟨⟨_, _, _, D9.mono (by decide), ⟨a9, i9, k9⟩, B9⟩⟩
      · exact ⟨⟨_, _, _, D10.mono (by decide), ⟨a10, i10, k10⟩, B10⟩⟩
      )
    (fun _ _ q => by cases q)
    (fun _ _ q => by cases q)
    ) rfl ck_walked ar_walked (wk_names (N := n_walked) rfl (wk_of (g := gP_walked) (w_walked (mt := mtR) ⟨rfl, fun _ _ => rfl⟩)))
  have D5 : FnOk P w K mg base (L2.CX P w) 3 f5 _ _ (lift ⟨P, w, K, c.ca, c.ex⟩ (up1 ps_is_rule)) := def_ok (k := 2) (c := c) (G := gC mt0 fl0) (T := t_is_rule) U5 sc_is_rule (nm_of F rfl (by decide +kernel) (fun p hp => by
    simp only [t_is_rule, List.mem_cons, List.not_mem_nil, or_false] at hp
    rcases hp with rfl
    · exact ⟨_, rfl, ⟨⟨_, _, _, D1.mono (by decide), PySem.W.mg_of X G a1, k1, B1⟩⟩⟩
    )
    (fun _ _ _ q _ => by cases q)
    (fun _ _ q => by cases q)
    (fun _ _ q => by cases q)
    ) rfl ck_is_rule ar_is_rule (wk_names (N := n_is_rule) rfl (wk_of (g := gP) (w_is_rule rfl)))
  have D14 : FnOk P w K mg base (L2.CX P w) 3 f14 _ _ (lift ⟨P, w, K, c.ca, c.ex⟩ sp_next) := def_ok (k := 2) (c := c) (G := gC mt0 fl0) (T := t__law_next) U14 sc__law_next (nm_of F rfl (by decide +kernel) (fun p hp => by
    simp only [t__law_next, List.mem_cons, List.not_mem_nil, or_false] at hp
    rcases hp with rfl
    · exact ⟨_, rfl, ⟨⟨_, _, _, D13.mono (by decide), PySem.W.mg_of X G a13, k13, B13⟩⟩⟩
    )
    (fun _ _ _ q _ => by cases q)
    (fun _ _ q => by cases q)
    (fun _ _ q => by cases q)
    ) rfl ck__law_next ar__law_next (wk_names (N := n__law_next) rfl (w_next (by repeat' (first | rfl | constructor))))
  have D6 : FnOk P w K mg base (L2.CX P w) 4 f6 _ _ (lift ⟨P, w, K, c.ca, c.ex⟩ (up1 ps_need_rule)) := def_ok (k := 3) (c := c) (G := gC mt0 fl0) (T := t_need_rule) U6 sc_need_rule (nm_of F rfl (by decide +kernel) (fun p hp => by
    simp only [t_need_rule, List.mem_cons, List.not_mem_nil, or_false] at hp
    rcases hp with rfl
    · exact ⟨_, rfl, ⟨⟨_, _, _, D5.mono (by decide), PySem.W.mg_of X G a5, k5, B5⟩⟩⟩
    )
    (fun _ _ _ q _ => by cases q)
    (fun _ _ q => by cases q)
    (fun _ _ q => by cases q)
    ) rfl ck_need_rule ar_need_rule (wk_names (N := n_need_rule) rfl (wk_of (g := gP) (w_need_rule rfl)))
  have D18 : FnOk P w K mg base (L2.CX P w) 4 f18 _ _ (lift ⟨P, w, K, c.ca, c.ex⟩ sp_rule) := def_ok (k := 3) (c := c) (G := gC mt0 fl0) (T := t__law_rule) U18 sc__law_rule (nm_of F rfl (by decide +kernel) (fun p hp => by
    simp only [t__law_rule, List.mem_cons, List.not_mem_nil, or_false] at hp
    rcases hp with rfl
    · exact ⟨_, rfl, ⟨⟨_, _, _, D14.mono (by decide), PySem.W.mg_of X G a14, k14, B14⟩⟩⟩
    )
    (fun _ _ _ q _ => by cases q)
    (fun _ _ q => by cases q)
    (fun _ _ q => by cases q)
    ) rfl ck__law_rule ar__law_rule (wk_names (N := n__law_rule) rfl (w_rule (by repeat' (first | rfl | constructor))))
  have D7 : FnOk P w K mg base (L2.CX P w) 5 f7 _ _ (lift ⟨P, w, K, c.ca, c.ex⟩ (up1 ps_written)) := def_ok (k := 4) (c := c) (G := gC mt0 fl0) (T := t_written) U7 sc_written (nm_of F rfl (by decide +kernel) (fun p hp => by
    simp only [t_written, List.mem_cons, List.not_mem_nil, or_false] at hp
    rcases hp with rfl | rfl
    · exact ⟨_, rfl, ⟨⟨_, _, _, D1.mono (by decide), PySem.W.mg_of X G a1, k1, B1⟩⟩⟩
    · exact ⟨_, rfl, ⟨⟨_, _, _, D6.mono (by decide), PySem.W.mg_of X G a6, k6, B6⟩⟩⟩
    )
    (fun _ _ _ q _ => by cases q)
    (fun _ _ q => by cases q)
    (fun _ _ q => by cases q)
    ) rfl ck_written ar_written (wk_names (N := n_written) rfl (wk_of (g := gP) (w_written (by repeat' (first | rfl | constructor)))))
  have D11 : FnOk P w K mg base (L2.CX P w) 5 f11 _ _ (lift ⟨P, w, K, c.ca, c.ex⟩ sp_row_of) := def_ok (k := 4) (c := c) (G := gC mt_row_of fl0) (T := t_row_of) U11 sc_row_of (nm_of F rfl (by decide +kernel) (fun p hp => by
    simp only [t_row_of, List.mem_cons, List.not_mem_nil, or_false] at hp
    rcases hp with rfl | rfl
    · exact ⟨_, rfl, ⟨⟨_, _, _, D4.mono (by decide), PySem.W.mg_of X G a4, k4, B4⟩⟩⟩
    · exact ⟨_, rfl, ⟨⟨_, _, _, D6.mono (by decide), PySem.W.mg_of X G a6, k6, B6⟩⟩⟩
    )
    (fun ci m sp q hm => by unfold mt_row_of at q; split at q <;> rename_i z <;> first | exact absurd z.2 hm | cases q)
    (fun x ci q => by
      have m := PySem.mem_of_lookup q
      simp only [t_row_of, List.mem_cons, Prod.mk.injEq, List.not_mem_nil, or_false] at m
      obtain ⟨rfl, rfl⟩ := m
      exact ⟨_, if_pos ⟨rfl, rfl⟩, ⟨⟨3, _, _, _, rfl, D8.mono (by decide), ⟨mkC5, a8, i8, kcC5⟩, ⟨pgC5, hdC5, poC5, saC5⟩, PySem.W.mg_of X G cgC5, B8⟩⟩⟩)
    (fun _ _ q => by cases q)
    ) rfl ck_row_of ar_row_of (wk_names (N := n_row_of) rfl (w_row_of (st := "STATES") (by repeat' (first | rfl | constructor))))
  have D19 : FnOk P w K mg base (L2.CX P w) 6 f19 _ _ (lift ⟨P, w, K, c.ca, c.ex⟩ (up1 ps_told)) := def_ok (k := 5) (c := c) (G := gC mt0 fl0) (T := t__law_told) U19 sc__law_told (nm_of F rfl (by decide +kernel) (fun p hp => by
    simp only [t__law_told, List.mem_cons, List.not_mem_nil, or_false] at hp
    rcases hp with rfl
    · exact ⟨_, rfl, ⟨⟨_, _, _, D11.mono (by decide), PySem.W.mg_of X G a11, k11, B11⟩⟩⟩
    )
    (fun _ _ _ q _ => by cases q)
    (fun _ _ q => by cases q)
    (fun _ _ q => by cases q)
    ) rfl ck__law_told ar__law_told (wk_names (N := n__law_told) rfl (wk_of (g := gP) (w_told rfl rfl rfl rfl rfl)))
  have D21 : FnOk P w K mg base (L2.CX P w) 7 fa _ _ (lift ⟨P, w, K, c.ca, c.ex⟩ sp_plaw) := def_ok (k := 6) (c := c) (G := gC mt0 fl0) (T := t_law) U21 sc_law (nm_of F rfl (by decide +kernel) (fun p hp => by
    simp only [t_law, List.mem_cons, List.not_mem_nil, or_false] at hp
    rcases hp with rfl | rfl | rfl | rfl | rfl | rfl | rfl
    · exact ⟨_, rfl, ⟨⟨_, _, _, D7.mono (by decide), PySem.W.mg_of X G a7, k7, B7⟩⟩⟩
    · exact ⟨_, rfl, ⟨⟨_, _, _, D13.mono (by decide), PySem.W.mg_of X G a13, k13, B13⟩⟩⟩
    · exact ⟨_, rfl, ⟨⟨_, _, _, D15.mono (by decide), PySem.W.mg_of X G a15, k15, B15⟩⟩⟩
    · exact ⟨_, rfl, ⟨⟨_, _, _, D17.mono (by decide), PySem.W.mg_of X G a17, k17, B17⟩⟩⟩
    · exact ⟨_, rfl, ⟨⟨_, _, _, D18.mono (by decide), PySem.W.mg_of X G a18, k18, B18⟩⟩⟩
    · exact ⟨_, rfl, ⟨⟨_, _, _, D19.mono (by decide), PySem.W.mg_of X G a19, k19, B19⟩⟩⟩
    · exact ⟨_, rfl, ⟨⟨_, _, _, D20.mono (by decide), PySem.W.mg_of X G a20, k20, B20⟩⟩⟩
    )
    (fun _ _ _ q _ => by cases q)
    (fun _ _ q => by cases q)
    (fun _ _ q => by cases q)
    ) rfl ck_law ar_law (wk_names (N := n_law) rfl (law_wk (wk_of (g := gP) (w_law2 (by repeat' (first | rfl | constructor))))))
  exact D21.imp fun vs H Q E q => top_in q
theorem walk_law {l : PySem.W.OpenLaw} {q : Program} {loose : List Str} {XP : (Str → Option Value) → Heap → Prop} {YP : World → Heap → Prop} {d : DefRec} {K : Params → PySem.W.Frag} (hn : l.most = some 63) (hdf : d.params.defaults = [])
    (hY : ∀ (w : World) (h : Heap), YP w h → (K w.params).In h)
    (F : ∀ (w : World) (mg : Str → Option Value) (fa : Addr) (h : Heap), (K w.params).In h → h.Ns mainGlobals mg → mg d.name = some (.ref fa) →
      ∃ fd : FuncData, (∀ (s : Shared) (u : Value), BindsTo s fd ⟨[u], []⟩ [("_law_script", u)]) ∧ ∀ base : Heap, (K w.params).In base → base.Ns mainGlobals mg → FnOk l.prog w (K w.params) mg base (L2.CX l.prog w) 7 fa fd ["_law_script"] (spTop (K w.params))) :
    PySem.W.WalkO q loose XP YP l.row.toRowW d [] (fun f vs => PySem.call f vs) :=
  L2.walk_of (n := 63) (k := 7) (x := "_law_script") (CX := fun w => L2.CX l.prog w) (sp := fun w => spTop (K w.params)) hn (by decide) hdf ⟨rfl, by decide, by decide⟩ hY F (fun _ _ a ns hl hO hS => ⟨a, ns, rfl, hO, hS, fun _ => rfl⟩) (fun _ _ _ _ _ z => cx_no z)
end DL
open PySem PySem.W PyProof.Rows
theorem PySem.Challenge.cw_digitrow_k02_rules_holds : PySem.Challenge.rw_digitrow_k02_rules.Holds := by
  w_on; o_law; k_head; (case hw => w_witness2)
  k_fill
  refine DL.walk_law (l := PySem.Challenge.rw_digitrow_k02_rules) rfl rfl (fun w h Y => PySem.W.kIn_of Y) ?F
  case F =>
    intro w mg fa h KX G hmg
    refine' DL.all_mk KX G hmg ?cgC5 ?pgC5 ?hdC5 ?poC5 ?saC5 ?mkC5 ?kcC5 ?naC5_base ?naC5_rule ?a0 ?l0 ?c0 ?k0 ?a1 ?l1 ?c1 ?k1 ?a2 ?l2 ?c2 ?k2 ?a3 ?l3 ?c3 ?k3 ?a4 ?l4 ?c4 ?k4 ?a5 ?l5 ?c5 ?k5 ?a6 ?l6 ?c6 ?k6 ?a7 ?l7 ?c7 ?k7 ?a8 ?i8 ?l8 ?c8 ?k8 ?a9 ?i9 ?l9 ?c9 ?k9 ?a10 ?i10 ?l10 ?c10 ?k10 ?a11 ?l11 ?c11 ?k11 ?a12 ?l12 ?c12 ?k12 ?a13 ?l13 ?c13 ?k13 ?a14 ?l14 ?c14 ?k14 ?a15 ?l15 ?c15 ?k15 ?a16 ?l16 ?c16 ?k16 ?a17 ?l17 ?c17 ?k17 ?a18 ?l18 ?c18 ?k18 ?a19 ?l19 ?c19 ?k19 ?a20 ?l20 ?c20 ?k20 ?a21 ?l21 ?c21 ?k21 ?z0 ?z1 ?z2 ?z3 ?z4 ?z5 ?z6 ?z7 ?z8 ?z9 ?z10 ?z11 ?z12 ?z13 ?z14 ?z15 ?z16 ?z17 ?v0 ?v1 ?ea0 ?ex0 ?ek0 ?eb0 ?et0 ?eg0 ?eh0 ?ed0 ?ec0 ?em0 ?ev0 ?ea2 ?ex2 ?ek2 ?eb2 ?et2 ?eg2 ?eh2 ?ed2 ?ec2 ?em2 ?ev2 ?ea5 ?ex5 ?ek5 ?eb5 ?et5 ?eg5 ?eh5 ?ed5 ?ec5 ?em5 ?ev5 ?ea6 ?ex6 ?ek6 ?eb6 ?et6 ?eg6 ?eh6 ?ed6 ?ec6 ?em6 ?ev6 ?s0_0 ?t0_0 ?s0_2 ?t0_2 ?s0_5 ?t0_5 ?s0_6 ?t0_6 ?s2_0 ?t2_0 ?s2_2 ?t2_2 ?s2_5 ?t2_5 ?s2_6 ?t2_6 ?s5_0 ?t5_0 ?s5_2 ?t5_2 ?s5_5 ?t5_5 ?s5_6 ?t5_6 ?s6_0 ?t6_0 ?s6_2 ?t6_2 ?s6_5 ?t6_5 ?s6_6 ?t6_6 ?yn ?yt
    (case cgC5 => k_is)
    (case pgC5 => k_is)
    (case hdC5 => k_is)
    (case poC5 => k_is)
    (case saC5 => k_is)
    (case mkC5 => k_is)
    (case kcC5 => k_is)
    (case naC5_base => k_is)
    (case naC5_rule => k_is)
    (case a0 => k_is)
    (case l0 => k_is)
    (case c0 => k_is)
    (case k0 => k_is)
    (case a1 => k_is)
    (case l1 => k_is)
    (case c1 => k_is)
    (case k1 => k_is)
    (case a2 => k_is)
    (case l2 => k_is)
    (case c2 => k_is)
    (case k2 => k_is)
    (case a3 => k_is)
    (case l3 => k_is)
    (case c3 => k_is)
    (case k3 => k_is)
    (case a4 => k_is)
    (case l4 => k_is)
    (case c4 => k_is)
    (case k4 => k_is)
    (case a5 => k_is)
    (case l5 => k_is)
    (case c5 => k_is)
    (case k5 => k_is)
    (case a6 => k_is)
    (case l6 => k_is)
    (case c6 => k_is)
    (case k6 => k_is)
    (case a7 => k_is)
    (case l7 => k_is)
    (case c7 => k_is)
    (case k7 => k_is)
    (case a8 => k_is)
    (case i8 => k_is)
    (case l8 => k_is)
    (case c8 => k_is)
    (case k8 => k_is)
    (case a9 => k_is)
    (case i9 => k_is)
    (case l9 => k_is)
    (case c9 => k_is)
    (case k9 => k_is)
    (case a10 => k_is)
    (case i10 => k_is)
    (case l10 => k_is)
    (case c10 => k_is)
    (case k10 => k_is)
    (case a11 => k_is)
    (case l11 => k_is)
    (case c11 => k_is)
    (case k11 => k_is)
    (case a12 => k_is)
    (case l12 => k_is)
    (case c12 => k_is)
    (case k12 => k_is)
    (case a13 => k_is)
    (case l13 => k_is)
    (case c13 => k_is)
    (case k13 => k_is)
    (case a14 => k_is)
    (case l14 => k_is)
    (case c14 => k_is)
    (case k14 => k_is)
    (case a15 => k_is)
    (case l15 => k_is)
    (case c15 => k_is)
    (case k15 => k_is)
    (case a16 => k_is)
    (case l16 => k_is)
    (case c16 => k_is)
    (case k16 => k_is)
    (case a17 => k_is)
    (case l17 => k_is)
    (case c17 => k_is)
    (case k17 => k_is)
    (case a18 => k_is)
    (case l18 => k_is)
    (case c18 => k_is)
    (case k18 => k_is)
    (case a19 => k_is)
    (case l19 => k_is)
    (case c19 => k_is)
    (case k19 => k_is)
    (case a20 => k_is)
    (case l20 => k_is)
    (case c20 => k_is)
    (case k20 => k_is)
    (case a21 => k_is)
    (case l21 => k_is)
    (case c21 => k_is)
    (case k21 => k_is)
    (case z0 => k_is)
    (case z1 => k_is)
    (case z2 => k_is)
    (case z3 => k_is)
    (case z4 => k_is)
    (case z5 => k_is)
    (case z6 => k_is)
    (case z7 => k_is)
    (case z8 => k_is)
    (case z9 => k_is)
    (case z10 => k_is)
    (case z11 => k_is)
    (case z12 => k_is)
    (case z13 => k_is)
    (case z14 => k_is)
    (case z15 => k_is)
    (case z16 => k_is)
    (case z17 => k_is)
    (case v0 => k_is)
    (case v1 => k_is)
    (case ea0 => k_is)
    (case ex0 => k_exc)
    (case ek0 => k_is)
    (case eb0 => k_is)
    (case et0 => k_is)
    (case eg0 => k_is)
    (case eh0 => k_is)
    (case ed0 => k_is)
    (case ec0 => k_is)
    (case em0 => k_is)
    (case ev0 => k_is)
    (case ea2 => k_is)
    (case ex2 => k_exc)
    (case ek2 => k_is)
    (case eb2 => k_is)
    (case et2 => k_is)
    (case eg2 => k_is)
    (case eh2 => k_is)
    (case ed2 => k_is)
    (case ec2 => k_is)
    (case em2 => k_is)
    (case ev2 => k_is)
    (case ea5 => k_is)
    (case ex5 => k_exc)
    (case ek5 => k_is)
    (case eb5 => k_is)
    (case et5 => k_is)
    (case eg5 => k_is)
    (case eh5 => k_is)
    (case ed5 => k_is)
    (case ec5 => k_is)
    (case em5 => k_is)
    (case ev5 => k_is)
    (case ea6 => k_is)
    (case ex6 => k_exc)
    (case ek6 => k_is)
    (case eb6 => k_is)
    (case et6 => k_is)
    (case eg6 => k_is)
    (case eh6 => k_is)
    (case ed6 => k_is)
    (case ec6 => k_is)
    (case em6 => k_is)
    (case ev6 => k_is)
    (case s0_0 => first | rfl | k_is)
    (case t0_0 => first | rfl | k_is)
    (case s0_2 => first | rfl | k_is)
    (case t0_2 => first | rfl | k_is)
    (case s0_5 => first | rfl | k_is)
    (case t0_5 => first | rfl | k_is)
    (case s0_6 => first | rfl | k_is)
    (case t0_6 => first | rfl | k_is)
    (case s2_0 => first | rfl | k_is)
    (case t2_0 => first | rfl | k_is)
    (case s2_2 => first | rfl | k_is)
    (case t2_2 => first | rfl | k_is)
    (case s2_5 => first | rfl | k_is)
    (case t2_5 => first | rfl | k_is)
    (case s2_6 => first | rfl | k_is)
    (case t2_6 => first | rfl | k_is)
    (case s5_0 => first | rfl | k_is)
    (case t5_0 => first | rfl | k_is)
    (case s5_2 => first | rfl | k_is)
    (case t5_2 => first | rfl | k_is)
    (case s5_5 => first | rfl | k_is)
    (case t5_5 => first | rfl | k_is)
    (case s5_6 => first | rfl | k_is)
    (case t5_6 => first | rfl | k_is)
    (case s6_0 => first | rfl | k_is)
    (case t6_0 => first | rfl | k_is)
    (case s6_2 => first | rfl | k_is)
    (case t6_2 => first | rfl | k_is)
    (case s6_5 => first | rfl | k_is)
    (case t6_5 => first | rfl | k_is)
    (case s6_6 => first | rfl | k_is)
    (case t6_6 => first | rfl | k_is)
    (case yn => k_is)
    (case yt => k_is)
#print axioms PySem.Challenge.cw_digitrow_k02_rules_holds

