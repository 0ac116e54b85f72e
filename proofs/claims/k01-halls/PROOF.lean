import PyProof.Rows.All
import Wide.All
import OpenK.AllK
import Wide.FinOn
import HandS.ForMost
import HandS.ForExc
import KE.KeyNested
import KE.KDictKeyed
import KE.KDictCopyH
import KE.KDictWalk
import HandS.Wide
import HandS.TupAny
import KE.DataEq
import HandS.TupMul
import HandS.SortInts
import HandS.IsInst
import HandS.Walk
import HandS.CallSlots
import HandS.ExcIs
import HandS.TryOnly
import HandS.Exc
import HandS.ExcOwn
import HandS.Zip
import HandS.WordsExc
import PySem.Challenge.RW_digitrow_k01_halls
set_option Elab.async false
set_option linter.all false
set_option maxRecDepth 100000
/-! Own layer, part 1: values without addresses for tuples, a small tree of the text, what must hold ahead of a text (wE, wS). -/
namespace DL
open PySem

/-- a value: tuples by what they hold; ref: a list, a dict, an instance. lst: a list's snapshot, in comparisons only -/
inductive Val where
  | non | bl (b : Bool) | int (i : Int) | str (x : Str) | tup (xs : List Val) | ref (a : Addr) | lst (xs : List Val)
deriving Inhabited

mutual
/-- no address within -/
def Val.dat : Val → Bool
  | .tup xs => Val.dats xs
  | .ref _ => false
  | .lst _ => false
  | .non => true
  | .bl _ => true
  | .int _ => true
  | .str _ => true
def Val.dats : List Val → Bool
  | [] => true
  | x :: xs => x.dat && Val.dats xs
end
mutual
def Val.py : Val → PyData
  | .non => .none
  | .bl b => .bool b
  | .int i => .int i
  | .str x => .str x
  | .tup xs => .tuple (Val.pys xs)
  | .lst xs => .list (Val.pys xs)
  | .ref _ => .none
def Val.pys : List Val → List PyData
  | [] => []
  | x :: xs => x.py :: Val.pys xs
end
mutual
def Val.nk : Val → NestedKey
  | .non => .none
  | .bl b => .num (if b then 1 else 0)
  | .int i => .num i
  | .str x => .text x
  | .tup xs => .tup (Val.nks xs)
  | .lst _ => .none
  | .ref _ => .none
def Val.nks : List Val → List NestedKey
  | [] => []
  | x :: xs => x.nk :: Val.nks xs
end
mutual
def Val.dep : Val → Nat
  | .tup xs => Val.deps xs + 1
  | .lst xs => Val.deps xs + 1
  | .non => 0
  | .bl _ => 0
  | .int _ => 0
  | .str _ => 0
  | .ref _ => 0
def Val.deps : List Val → Nat
  | [] => 0
  | x :: xs => max x.dep (Val.deps xs)
end
/-- == -/
def Val.veq (x y : Val) : Bool := PyData.eqv x.py y.py

/-- what stands at an address; t: a dict's version -/
inductive Ob where
  | lst (xs : List Val) | dct (kvs : List (Val × Val)) (t : Nat) | ins (c : Nat) (fs : List (Str × Val))
abbrev Sto := Addr → Option Ob
def up (S : Sto) (a : Addr) (o : Ob) : Sto := fun b => if b = a then some o else S b
/-- what S had, and v -/
def isRef : Val → Addr → Bool
  | .ref b, a => b == a
  | _, _ => false
def keep (S S' : Sto) (v : Val) : Sto := fun a => if ((S a).isSome || isRef v a) = true then S' a else none

abbrev Env := List (Option Val)
abbrev KV := Val → Sto → Prop
def withO {α : Type} : Option α → (α → Prop) → Prop
  | some a, k => k a
  | none, _ => False
def withB : Val → (Bool → Prop) → Prop
  | .bl b, k => k b
  | _, _ => False
def getV (e : Env) (i : Nat) : Option Val := (e[i]?).join

inductive Bop where
  | add | sub | mul | fdiv | mod | pow
deriving DecidableEq
inductive Cop where
  | eq | ne | lt | le | gt | ge | isin | notin
deriving DecidableEq
inductive Ty where
  | int | bool | str | tuple | list
deriving DecidableEq
/-- built-ins: of values; max1, min1: of one sequence -/
inductive Bt where
  | len | all | any | tuple | list | dict | sorted | int | max1 | max2 | min1 | min2 | sum | str
deriving DecidableEq
/-- methods of built-in types -/
inductive Mt where
  | append | extend | index | count | pop | reverse | setdefault | get | split | find
deriving DecidableEq

inductive Tg where
  | one (i : Nat) | many (is : List Nat)

mutual
inductive Ex where
  | var (i : Nat) | glob (x : Str) | int (i : Int) | bl (b : Bool) | non | str (x : Str)
  | bin (o : Bop) (a b : Ex) | neg (a : Ex) | not (a : Ex)
  | cmp (o : Cop) (a b : Ex) | isN (a : Ex) | notN (a : Ex) | chain (o p : Cop) (a b c : Ex)
  | and (a b : Ex) | or (a b : Ex)
  | tup (es : Exs) | lst (es : Exs) | dict0 | dict1 (k v : Ex)
  | sub (a i : Ex) | slice (a : Ex) (lo hi : Oe) | fld (a : Ex) (f : Str)
  | call (f : Nat) (es : Exs) | new (c : Nat) (es : Exs) | blt (b : Bt) (es : Exs) | bltc (b : Bt) (c : Cmp)
  | isi (a : Ex) (t : Ty) | meth (a : Ex) (m : Mt) (es : Exs) | umeth (a : Ex) (m : Str) (es : Exs)
  | comp (c : Cmp)
  | lzip (a b : Ex) | lrng (es : Exs) | trng (es : Exs)
  | drop (e : Ex)
inductive Exs where
  | nil | cons (e : Ex) (es : Exs)
inductive Oe where
  | none | some (e : Ex)
inductive Itr where
  | val (e : Ex) | rng (es : Exs) | enum (e : Ex) | zip (a b : Ex)
/-- a comprehension: target, its own slots, the element, what is walked, the test -/
inductive Cmp where
  | mk (tg : Tg) (own : List Nat) (elt : Ex) (it : Itr) (cond : Oe)
end

/-- an exception clause's suite: a return of whether the exception is (not) of some own classes; of a text where it is; of a value; a raise -/
inductive Hd where
  | conj (cs : List (Nat × Bool)) | text (x : Str) (cs : List (Nat × Bool)) | bl (b : Bool) | non | str (x : Str) | raise (c : Nat)
mutual
inductive Sm where
  | asg (i : Nat) (e : Ex) | asgs (is : List Nat) (e : Ex) | par (i j : Nat) (a b : Ex)
  | setI (a i e : Ex) | setF (a : Ex) (f : Str) (e : Ex)
  | expr (e : Ex) | ret (e : Ex) | ret0 | pass
  | ite (c : Ex) (a b : Sms) | while (c : Ex) (b : Sms) | for (tg : Tg) (it : Itr) (b : Sms)
  | raise (c : Nat) (x : Str)
  | try1 (b : Sms) (c : Nat) (n : Option Nat) (h : Hd)
inductive Sms where
  | nil | cons (s : Sm) (r : Sms)
end

/-! ### values' operations -/
def Val.ints : List Val → Option (List Int)
  | [] => some []
  | .int i :: r => (Val.ints r).map (i :: ·)
  | _ :: _ => none
def Val.bls : List Val → Option (List Bool)
  | [] => some []
  | .bl i :: r => (Val.bls r).map (i :: ·)
  | _ :: _ => none
def Val.strs : List Val → Option (List Str)
  | [] => some []
  | .str i :: r => (Val.strs r).map (i :: ·)
  | _ :: _ => none
/-- pairs -/
def Val.prs : List Val → Option (List (Val × Val))
  | [] => some []
  | .tup [a, b] :: r => (Val.prs r).map ((a, b) :: ·)
  | _ :: _ => none
mutual
/-- a list's content, at most n lists deep -/
def Sto.see (S : Sto) : Nat → Val → Option Val
  | 0, v => if v.dat then some v else none
  | n + 1, v => if v.dat then some v else match v with
    | .ref a => match S a with
      | some (.lst xs) => (Sto.sees S n xs).map .lst
      | _ => none
    | .lst xs => (Sto.sees S n xs).map .lst
    | _ => none
def Sto.sees (S : Sto) : Nat → List Val → Option (List Val)
  | _, [] => some []
  | n, x :: xs => match Sto.see S n x, Sto.sees S n xs with
    | some y, some ys => some (y :: ys)
    | _, _ => none
end

def line : Nat := 16777216
/-- a factor's size -/
def mulOk (i j : Int) : Prop := L2.CMul i j ∨ i.natAbs.log2 + j.natAbs.log2 < 1000000
def modKey (k : Val) : Bool := k.dat && decide (k.nk.depth ≤ 8)

def dget (kvs : List (Val × Val)) (k : Val) : Option Val := match kvs with
  | [] => none
  | (a, v) :: r => if a.nk = k.nk then some v else dget r k
def dput (kvs : List (Val × Val)) (k v : Val) : List (Val × Val) := match kvs with
  | [] => [(k, v)]
  | (a, w) :: r => if a.nk = k.nk then (a, v) :: r else (a, w) :: dput r k v
/-- a key's kind: whole numbers and texts, tuples, the others; a dict's keys are of one kind -/
def isTup : Val → Bool
  | .tup _ => true
  | _ => false
def kcl : Val → Nat
  | .int _ => 0
  | .str _ => 0
  | .tup _ => 2
  | _ => 1
def kindOk (kvs : List (Val × Val)) (k : Val) : Bool := modKey k && match kvs with
  | [] => true
  | (a, _) :: _ => kcl a == kcl k

def wBin (o : Bop) (x y : Val) (S : Sto) (Q : KV) : Prop := match o, x, y with
  | .add, .int i, .int j => Q (.int (i + j)) S
  | .add, .str i, .str j => i.length + j.length ≤ line ∧ Q (.str (i ++ j)) S
  | .add, .tup i, .tup j => i.length + j.length ≤ line ∧ Q (.tup (i ++ j)) S
  | .add, .ref a, .ref b => match S a, S b with
    | some (.lst i), some (.lst j) => i.length + j.length ≤ line ∧ ∀ p, S p = none → Q (.ref p) (up S p (.lst (i ++ j)))
    | _, _ => False
  | .sub, .int i, .int j => Q (.int (i - j)) S
  | .mul, .int i, .int j => mulOk i j ∧ Q (.int (i * j)) S
  | .mul, .tup xs, .int k => (xs ≠ [] ∧ 0 ≤ k ∧ k ≤ 1000 ∧ xs.length ≤ 1000) ∧ Q (.tup (List.replicate k.toNat xs).flatten) S
  | .mul, .ref a, .int k => match S a with
    | some (.lst xs) => (0 ≤ k ∧ k < 2 ^ 62 ∧ xs.length * k.toNat ≤ line) ∧ ∀ p, S p = none → Q (.ref p) (up S p (.lst (List.replicate k.toNat xs).flatten))
    | _ => False
  | .fdiv, .int i, .int j => 0 < j ∧ j < 1073741824 ∧ Q (.int (i / j)) S
  | .mod, .int i, .int j => 0 < j ∧ Q (.int (i % j)) S
  | .pow, .int i, .int j => (0 ≤ j ∧ j ≤ 1000000 ∧ i.natAbs < 2 ^ 64) ∧ Q (.int (i ^ j.toNat)) S
  | _, _, _ => False

def veqAny (x : Val) : List Val → Bool
  | [] => false
  | y :: ys => y.veq x || veqAny x ys

def wCmp (o : Cop) (x y : Val) (S : Sto) (Q : KV) : Prop := match o with
  | .eq => withO (S.see 3 x) fun a => withO (S.see 3 y) fun b => min a.dep b.dep ≤ 100 ∧ Q (.bl (a.veq b)) S
  | .ne => withO (S.see 3 x) fun a => withO (S.see 3 y) fun b => min a.dep b.dep ≤ 100 ∧ Q (.bl (!a.veq b)) S
  | .lt => match x, y with
    | .int i, .int j => Q (.bl (decide (i < j))) S
    | .tup xs, .tup ys => withO (Val.ints xs) fun ns => withO (Val.ints ys) fun ms => Q (.bl (HT.lexLt ns ms)) S
    | _, _ => False
  | .le => match x, y with
    | .int i, .int j => Q (.bl (decide (i ≤ j))) S
    | _, _ => False
  | .gt => match x, y with
    | .int i, .int j => Q (.bl (decide (j < i))) S
    | _, _ => False
  | .ge => match x, y with
    | .int i, .int j => Q (.bl (decide (j ≤ i))) S
    | _, _ => False
  | .isin => match y with
    | .str z => match x with
      | .str w => Q (.bl (!(Builtin.Str.occurrences z w 0 z.length 1).isEmpty)) S
      | _ => False
    | .tup ys => (x.dat && Val.dats ys) = true ∧ x.dep ≤ 100 ∧ Q (.bl (veqAny x ys)) S
    | .ref a => match S a with
      | some (.lst ys) => x.dat = true ∧ x.dep ≤ 100 ∧ withO (S.sees 3 ys) fun zs => Q (.bl (veqAny x zs)) S
      | some (.dct kvs _) => kindOk kvs x = true ∧ Q (.bl (dget kvs x).isSome) S
      | _ => False
    | _ => False
  | .notin => match y with
    | .str z => match x with
      | .str w => Q (.bl (Builtin.Str.occurrences z w 0 z.length 1).isEmpty) S
      | _ => False
    | .tup ys => (x.dat && Val.dats ys) = true ∧ x.dep ≤ 100 ∧ Q (.bl (!veqAny x ys)) S
    | .ref a => match S a with
      | some (.lst ys) => x.dat = true ∧ x.dep ≤ 100 ∧ withO (S.sees 3 ys) fun zs => Q (.bl (!veqAny x zs)) S
      | some (.dct kvs _) => kindOk kvs x = true ∧ Q (.bl (dget kvs x).isNone) S
      | _ => False
    | _ => False

def wSub (x y : Val) (S : Sto) (Q : KV) : Prop := match x, y with
  | .lst xs, .int i => withO (L2.atI xs i) fun v => Q v S
  | .tup xs, .int i => withO (L2.atI xs i) fun v => Q v S
  | .str z, .int i => z.length ≤ line ∧ withO (L2.atI z.cps.toList i) fun c => Q (.str ⟨#[c]⟩) S
  | .ref a, k => match S a, k with
    | some (.lst xs), .int i => withO (L2.atI xs i) fun v => Q v S
    | some (.dct kvs _), k => kindOk kvs k = true ∧ withO (dget kvs k) fun v => Q v S
    | _, _ => False
  | _, _ => False

def cutL {α : Type} (xs : List α) (lo hi : Option Int) : List α := (xs.drop (HT.sIx xs.length 0 lo)).take (HT.sIx xs.length xs.length hi - HT.sIx xs.length 0 lo)
def wSlice (x : Val) (lo hi : Option Int) (S : Sto) (Q : KV) : Prop := match x with
  | .tup xs => Q (.tup (cutL xs lo hi)) S
  | .str z => z.length ≤ line ∧ Q (.str ⟨(cutL z.cps.toList lo hi).toArray⟩) S
  | .ref a => match S a with
    | some (.lst xs) => ∀ p, S p = none → Q (.ref p) (up S p (.lst (cutL xs lo hi)))
    | _ => False
  | _ => False

def tyOf : Ty → Val → Sto → Bool
  | .int, .int _, _ => true
  | .int, .bl _, _ => true
  | .bool, .bl _, _ => true
  | .str, .str _, _ => true
  | .tuple, .tup _, _ => true
  | .list, .ref a, S => match S a with
    | some (.lst _) => true
    | _ => false
  | _, _, _ => false
/-- isinstance is told of plain values and lists -/
def tyKnown : Val → Sto → Bool
  | .ref a, S => match S a with
    | some (.lst _) => true
    | _ => false
  | .lst _, _ => false
  | _, _ => true

def maxL : Int → List Int → Int
  | a, [] => a
  | a, b :: r => maxL (if b > a then b else a) r
def minL : Int → List Int → Int
  | a, [] => a
  | a, b :: r => minL (if b < a then b else a) r
/-- sorted: the rising list of the same items -/
def ins (i : Int) : List Int → List Int
  | [] => [i]
  | j :: r => if i ≤ j then i :: j :: r else j :: ins i r
def isort : List Int → List Int
  | [] => []
  | i :: r => ins i (isort r)

/-- a built-in of a list's content, told without the list -/
def wBtL (b : Bt) (xs : List Val) (S : Sto) (Q : KV) : Prop := match b with
  | .len => Q (.int xs.length) S
  | .all => withO (Val.bls xs) fun bs => Q (.bl (bs.all id)) S
  | .any => withO (Val.bls xs) fun bs => Q (.bl (bs.any id)) S
  | .tuple => Q (.tup xs) S
  | .sum => withO (Val.ints xs) fun ns => Q (.int ns.sum) S
  | .max1 => withO (Val.ints xs) fun ns => 0 < ns.length ∧ ∀ m, m ∈ ns → (∀ y, y ∈ ns → y ≤ m) → Q (.int m) S
  | .min1 => withO (Val.ints xs) fun ns => 0 < ns.length ∧ ∀ m, m ∈ ns → (∀ y, y ∈ ns → m ≤ y) → Q (.int m) S
  | .dict => withO (Val.prs xs) fun ps => (ps.map (·.1)).all (kindOk [] ·) = true ∧ (ps.all fun p => isTup p.1) = false ∧ (ps.all fun p => !isTup p.1) = true ∧ ∀ p t, S p = none → Q (.ref p) (up S p (.dct (ps.foldl (fun m q => dput m q.1 q.2) []) t))
  | .sorted => (∃ ns, Val.ints xs = some ns ∧ ∀ (p : Addr) (ms : List Int), ms.Perm ns → ms.Pairwise (· ≤ ·) → S p = none → Q (.ref p) (up S p (.lst (ms.map .int)))) ∨
      (∃ ss, Val.strs xs = some ss ∧ ss.length < 64 ∧ ∀ (p : Addr) (ms : List Str), ms.Perm ss → PyProof.Rows.sortedS ms = true → S p = none → Q (.ref p) (up S p (.lst (ms.map .str))))
  | .list => ∀ p, S p = none → Q (.ref p) (up S p (.lst xs))
  | _ => False

def wBt (b : Bt) (vs : List Val) (S : Sto) (Q : KV) : Prop := match b, vs with
  | .len, [.tup xs] => Q (.int xs.length) S
  | .len, [.lst xs] => Q (.int xs.length) S
  | .len, [.str x] => x.length ≤ line ∧ Q (.int x.length) S
  | .len, [.ref a] => match S a with
    | some (.lst xs) => Q (.int xs.length) S
    | some (.dct kvs _) => Q (.int kvs.length) S
    | _ => False
  | .list, [.tup xs] => ∀ p, S p = none → Q (.ref p) (up S p (.lst xs))
  | .list, [.ref a] => match S a with
    | some (.lst xs) => ∀ p, S p = none → Q (.ref p) (up S p (.lst xs))
    | _ => False
  | .tuple, [.tup xs] => Q (.tup xs) S
  | .int, [.int i] => Q (.int i) S
  | .int, [.bl b] => Q (.int (if b then 1 else 0)) S
  | .max2, [.int i, .int j] => Q (.int (if j > i then j else i)) S
  | .min2, [.int i, .int j] => Q (.int (if j < i then j else i)) S
  | .str, [.int i] => i.natAbs.log2 < 1920 ∧ Q (.str (toString i)) S
  | .dict, [.ref a] => match S a with
    | some (.lst xs) => wBtL .dict xs S Q
    | _ => False
  | b, [.ref a] => match S a with
    | some (.lst xs) => wBtL b xs S Q
    | _ => False
  | _, _ => False

def findI (p : Val → Bool) : List Val → Nat → Option Nat
  | [], _ => none
  | x :: xs, n => if p x then some n else findI p xs (n + 1)
def countV (x : Val) : List Val → Nat
  | [] => 0
  | y :: ys => (if y.veq x then 1 else 0) + countV x ys
def wMt (m : Mt) (x : Val) (vs : List Val) (S : Sto) (Q : KV) : Prop := match m, x, vs with
  | .append, .ref a, [v] => match S a with
    | some (.lst xs) => xs.length < line ∧ Q .non (up S a (.lst (xs ++ [v])))
    | _ => False
  | .extend, .ref a, [.ref b] => match S a, S b with
    | some (.lst xs), some (.lst ys) => a ≠ b ∧ xs.length + ys.length ≤ line ∧ Q .non (up S a (.lst (xs ++ ys)))
    | _, _ => False
  | .extend, .ref a, [.tup ys] => match S a with
    | some (.lst xs) => xs.length + ys.length ≤ line ∧ Q .non (up S a (.lst (xs ++ ys)))
    | _ => False
  | .pop, .ref a, [] => match S a with
    | some (.lst xs) => withO (xs[xs.length - 1]?) fun v => Q v (up S a (.lst xs.dropLast))
    | _ => False
  | .reverse, .ref a, [] => match S a with
    | some (.lst xs) => Q .non (up S a (.lst xs.reverse))
    | _ => False
  | .index, .ref a, [v] => match S a with
    | some (.lst xs) => (v.dat && Val.dats xs && decide (v.dep ≤ 60)) = true ∧ withO (findI (·.veq v) xs 0) fun j => Q (.int j) S
    | _ => False
  | .index, .tup xs, [v] => (v.dat && Val.dats xs && decide (v.dep ≤ 60)) = true ∧ withO (findI (·.veq v) xs 0) fun j => Q (.int j) S
  | .count, .ref a, [v] => match S a with
    | some (.lst xs) => (v.dat && Val.dats xs && decide (v.dep ≤ 60)) = true ∧ Q (.int (countV v xs)) S
    | _ => False
  | .setdefault, .ref a, [k, v] => match S a with
    | some (.dct kvs _) => kindOk kvs k = true ∧ kvs.length < line ∧ match dget kvs k with
      | some w => ∀ t, Q w (up S a (.dct kvs t))
      | none => ∀ t, Q v (up S a (.dct (dput kvs k v) t))
    | _ => False
  | .get, .ref a, [k, v] => match S a with
    | some (.dct kvs _) => kindOk kvs k = true ∧ Q ((dget kvs k).getD v) S
    | _ => False
  | _, _, _ => False

/-- whose method it is -/
def recv (m : Mt) (x : Val) (S : Sto) : Bool := match m, x with
  | .setdefault, .ref p => match S p with
    | some (.dct _ _) => true
    | _ => false
  | .get, .ref p => match S p with
    | some (.dct _ _) => true
    | _ => false
  | .split, _ => false
  | .find, _ => false
  | _, .ref p => match S p with
    | some (.lst _) => true
    | _ => false
  | _, _ => false

def wSetI (x i v : Val) (S : Sto) (Q : Sto → Prop) : Prop := match x with
  | .ref a => match S a, i with
    | some (.lst xs), .int k => withO (L2.ixN xs.length k) fun j => Q (up S a (.lst (xs.set j v)))
    | some (.dct kvs _), k => kindOk kvs k = true ∧ kvs.length < line ∧ ∀ t, Q (up S a (.dct (dput kvs k v) t))
    | _, _ => False
  | _ => False

def fput (f : Str) (v : Val) : List (Str × Val) → List (Str × Val)
  | [] => [(f, v)]
  | (g, w) :: r => if g = f then (f, v) :: r else (g, w) :: fput f v r

/-- what a def asks: its arguments, the store, what is wanted behind, what is wanted of a refusal (by its class's number) -/
abbrev Spec := List Val → Sto → KV → (Nat → Sto → Prop) → Prop
structure Cfg where
  fn : Nat → Option Spec
  mt : Nat → Str → Option Spec
  cv : Str → Option Val
  fl : Nat → Str → Bool
  /-- a class of exceptions is below another -/
  sub : Nat → Nat → Bool
  /-- the own classes of exceptions that are there -/
  ek : Nat → Bool
/-- nothing is raised -/
def noE : Nat → Sto → Prop := fun _ _ => False

def wipeE (e : Env) : List Nat → Env
  | [] => e
  | i :: r => (wipeE e r).set i none
def bindMany (e : Env) : List Nat → List Val → Option Env
  | [], [] => some e
  | i :: r, v :: vs => bindMany (e.set i (some v)) r vs
  | _, _ => none
def bindT (tg : Tg) (e : Env) (v : Val) : Option Env := match tg, v with
  | .one i, v => some (e.set i (some v))
  | .many is, .tup vs => bindMany e is vs
  | .many _, _ => none

/-- the turns of a comprehension: acc what is made so far; grd: what is walked stands -/
def wTurns (body : Val → Sto → (Option Val → Sto → Prop) → Prop) (grd : Sto → Prop) (Q : List Val → Sto → Prop) : List Val → List Val → Sto → Prop
  | [], acc, S => grd S ∧ Q acc S
  | x :: xs, acc, S => grd S ∧ body x S fun r S' => wTurns body grd Q xs (acc ++ r.toList) S'

def enumL : Nat → List Val → List Val
  | _, [] => []
  | n, x :: xs => .tup [.int n, x] :: enumL (n + 1) xs
def zipL : List Val → List Val → List Val
  | x :: xs, y :: ys => .tup [x, y] :: zipL xs ys
  | _, _ => []
def rangeL (lo : Int) (n : Nat) (st : Int) : List Val := (List.range n).map fun (k : Nat) => Val.int (lo + (k : Int) * st)
/-- what a sequence holds, and that it stands -/
def seqOf (v : Val) (S : Sto) : Option (List Val × (Sto → Prop)) := match v with
  | .tup xs => some (xs, fun _ => True)
  | .ref a => match S a with
    | some (.lst xs) => some (xs, fun S' => S' a = some (.lst xs))
    | _ => none
  | _ => none
/-- keys are walked where they are whole numbers and texts, or tuples -/
def keysOk : List (Val × Val) → Bool
  | [] => true
  | (a, _) :: _ => kcl a != 1
def iterOf (v : Val) (S : Sto) : Option (List Val × (Sto → Prop)) := match v with
  | .tup xs => some (xs, fun _ => True)
  | .str z => if z.cps.size ≤ line then some (z.cps.toList.map fun c => .str ⟨#[c]⟩, fun _ => True) else none
  | .ref a => match S a with
    | some (.lst xs) => some (xs, fun S' => S' a = some (.lst xs))
    | some (.dct kvs t) => if keysOk kvs then some (kvs.map (·.1), fun S' => S' a = some (.dct kvs t)) else none
    | _ => none
  | _ => none
def listOf (v : Val) (S : Sto) : Option (List Val × (Sto → Prop)) := match v with
  | .ref a => match S a with
    | some (.lst xs) => some (xs, fun S' => S' a = some (.lst xs))
    | _ => none
  | _ => none
def zipOf (x y : Val) (S : Sto) : Option (List Val × (Sto → Prop)) := match x, y with
  | .tup xs, .tup ys => some (zipL xs ys, fun _ => True)
  | .ref a, .ref b => match S a, S b with
    | some (.lst xs), some (.lst ys) => some (zipL xs ys, fun S' => S' a = some (.lst xs) ∧ S' b = some (.lst ys))
    | _, _ => none
  | _, _ => none
def wRng (vs : List Val) (K : Int → Nat → Int → Prop) : Prop := match vs with
  | [.int n] => n < 2 ^ 24 ∧ -(2 ^ 24) < n ∧ K 0 n.toNat 1
  | [.int a, .int b] => (-(2 ^ 23) < a ∧ a < 2 ^ 23 ∧ -(2 ^ 23) < b ∧ b < 2 ^ 23) ∧ K a (b - a).toNat 1
  | [.int a, .int b, .int c] => c = -1 ∧ (-(2 ^ 23) < a ∧ a < 2 ^ 23 ∧ -(2 ^ 23) < b ∧ b < 2 ^ 23) ∧ K a (a - b).toNat (-1)
  | _ => False

mutual
def wE (G : Cfg) (E : Nat → Sto → Prop) : Ex → Env → Sto → KV → Prop
  | .var i, e, S, Q => withO (getV e i) fun v => Q v S
  | .glob x, e, S, Q => withO (G.cv x) fun v => Q v S
  | .int i, e, S, Q => Q (.int i) S
  | .bl b, e, S, Q => Q (.bl b) S
  | .non, e, S, Q => Q .non S
  | .str x, e, S, Q => Q (.str x) S
  | .bin o a b, e, S, Q => wE G E a e S fun x S1 => wE G E b e S1 fun y S2 => wBin o x y S2 Q
  | .neg a, e, S, Q => wE G E a e S fun x S1 => match x with
    | .int i => Q (.int (-i)) S1
    | _ => False
  | .not a, e, S, Q => wE G E a e S fun x S1 => withB x fun b => Q (.bl (!b)) S1
  | .cmp o a b, e, S, Q => wE G E a e S fun x S1 => wE G E b e S1 fun y S2 => wCmp o x y S2 Q
  | .isN a, e, S, Q => wE G E a e S fun x S1 => match x with
    | .non => Q (.bl true) S1
    | _ => Q (.bl false) S1
  | .notN a, e, S, Q => wE G E a e S fun x S1 => match x with
    | .non => Q (.bl false) S1
    | _ => Q (.bl true) S1
  | .chain o p a b c, e, S, Q => wE G E a e S fun x S1 => wE G E b e S1 fun y S2 => wCmp o x y S2 fun z S3 => withB z fun k =>
      (k = true → wE G E c e S3 fun u S4 => wCmp p y u S4 Q) ∧ (k = false → Q (.bl false) S3)
  | .and a b, e, S, Q => wE G E a e S fun x S1 => withB x fun k => (k = true → wE G E b e S1 Q) ∧ (k = false → Q (.bl false) S1)
  | .or a b, e, S, Q => wE G E a e S fun x S1 => withB x fun k => (k = true → Q (.bl true) S1) ∧ (k = false → wE G E b e S1 Q)
  | .tup es, e, S, Q => wEs G E es e S fun vs S1 => Q (.tup vs) S1
  | .lst es, e, S, Q => wEs G E es e S fun vs S1 => ∀ p, S1 p = none → Q (.ref p) (up S1 p (.lst vs))
  | .dict0, e, S, Q => ∀ p t, S p = none → Q (.ref p) (up S p (.dct [] t))
  | .dict1 k v, e, S, Q => wE G E k e S fun x S1 => wE G E v e S1 fun y S2 => kindOk [] x = true ∧ ∀ p t, S2 p = none → Q (.ref p) (up S2 p (.dct [(x, y)] t))
  | .sub a i, e, S, Q => wE G E a e S fun x S1 => wE G E i e S1 fun y S2 => wSub x y S2 Q
  | .slice a lo hi, e, S, Q => wE G E a e S fun x S1 => wO G E lo e S1 fun l S2 => wO G E hi e S2 fun h S3 => wSlice x l h S3 Q
  | .fld a f, e, S, Q => wE G E a e S fun x S1 => match x with
    | .ref p => match S1 p with
      | some (.ins _ fs) => withO (fs.lookup f) fun v => Q v S1
      | _ => False
    | _ => False
  | .call f es, e, S, Q => wEs G E es e S fun vs S1 => withO (G.fn f) fun sp => sp vs S1 Q E
  | .new c es, e, S, Q => wEs G E es e S fun vs S1 => withO (G.mt c "__init__") fun sp => ∀ p, S1 p = none → sp (.ref p :: vs) (up S1 p (.ins c [])) (fun v S2 => (match v with | .non => Q (.ref p) S2 | _ => False)) noE
  | .blt b es, e, S, Q => wEs G E es e S fun vs S1 => wBt b vs S1 Q
  | .bltc b c, e, S, Q => wC G E c e S fun vs S1 => wBtL b vs S1 Q
  | .isi a t, e, S, Q => wE G E a e S fun x S1 => tyKnown x S1 = true ∧ Q (.bl (tyOf t x S1)) S1
  | .meth a m es, e, S, Q => wE G E a e S fun x S1 => recv m x S1 = true ∧ wEs G E es e S1 fun vs S2 => wMt m x vs S2 Q
  | .umeth a m es, e, S, Q => wE G E a e S fun x S1 => match x with
    | .ref p => match S1 p with
      | some (.ins c fs) => fs.lookup m = none ∧ withO (G.mt c m) fun sp => wEs G E es e S1 fun vs S2 => sp (.ref p :: vs) S2 Q noE
      | _ => False
    | _ => False
  | .comp c, e, S, Q => wC G E c e S fun vs S1 => ∀ p, S1 p = none → Q (.ref p) (up S1 p (.lst vs))
  | .lzip a b, e, S, Q => wE G E a e S fun x S1 => wE G E b e S1 fun y S2 => withO (seqOf x S2) fun xs => withO (seqOf y S2) fun ys =>
      ∀ p, S2 p = none → Q (.ref p) (up S2 p (.lst (zipL xs.1 ys.1)))
  | .lrng es, e, S, Q => wEs G E es e S fun vs S1 => wRng vs fun lo n st => st = 1 ∧ ∀ p, S1 p = none → Q (.ref p) (up S1 p (.lst (rangeL lo n 1)))
  | .trng es, e, S, Q => wEs G E es e S fun vs S1 => wRng vs fun lo n st => st = 1 ∧ Q (.tup (rangeL lo n 1)) S1
  | .drop a, e, S, Q => wE G E a e S fun v S' => Q v (keep S S' v)
def wEs (G : Cfg) (E : Nat → Sto → Prop) : Exs → Env → Sto → (List Val → Sto → Prop) → Prop
  | .nil, e, S, Q => Q [] S
  | .cons a r, e, S, Q => wE G E a e S fun x S1 => wEs G E r e S1 fun xs S2 => Q (x :: xs) S2
def wO (G : Cfg) (E : Nat → Sto → Prop) : Oe → Env → Sto → (Option Int → Sto → Prop) → Prop
  | .none, e, S, Q => Q none S
  | .some a, e, S, Q => wE G E a e S fun x S1 => match x with
    | .int i => Q (some i) S1
    | _ => False
/-- what is walked: its items, and that it stands -/
def wI (G : Cfg) (E : Nat → Sto → Prop) : Itr → Env → Sto → (List Val → (Sto → Prop) → Sto → Prop) → Prop
  | .val a, e, S, Q => wE G E a e S fun x S1 => withO (iterOf x S1) fun p => Q p.1 p.2 S1
  | .rng es, e, S, Q => wEs G E es e S fun vs S1 => wRng vs fun lo n st => Q (rangeL lo n st) (fun _ => True) S1
  | .enum a, e, S, Q => wE G E a e S fun x S1 => withO (listOf x S1) fun p => Q (enumL 0 p.1) p.2 S1
  | .zip a b, e, S, Q => wE G E a e S fun x S1 => wE G E b e S1 fun y S2 => withO (zipOf x y S2) fun p => Q p.1 p.2 S2
def wC (G : Cfg) (E : Nat → Sto → Prop) : Cmp → Env → Sto → (List Val → Sto → Prop) → Prop
  | .mk tg own elt it cond, e, S, Q => wI G E it e S fun xs grd S1 =>
      wTurns (fun x S2 k => withO (bindT tg (wipeE e own) x) fun e' => wIf G cond e' S2 fun b S3 => (b = true → wE G noE elt e' S3 fun v S4 => k (some v) S4) ∧ (b = false → k none S3)) grd Q xs [] S1
def wIf (G : Cfg) : Oe → Env → Sto → (Bool → Sto → Prop) → Prop
  | .none, e, S, Q => Q true S
  | .some a, e, S, Q => wE G noE a e S fun x S1 => withB x fun b => Q b S1
end

/-- the turns of a for -/
def wFor (tg : Tg) (body : (Env → Sto → Prop) → Env → Sto → Prop) (grd : Sto → Prop) (nx : Env → Sto → Prop) : List Val → Env → Sto → Prop
  | [], e, S => grd S ∧ nx e S
  | x :: xs, e, S => grd S ∧ withO (bindT tg e x) fun e' => body (fun e2 S2 => wFor tg body grd nx xs e2 S2) e' S

/-- a clause's suite -/
def wH (G : Cfg) (E : Nat → Sto → Prop) (rt : KV) : Hd → Nat → Sto → Prop
  | .conj cs, x, S => rt (.bl (cs.all fun p => G.sub x p.1 == p.2)) S
  | .text z cs, x, S => rt (.str (if (cs.all fun p => G.sub x p.1 == p.2) = true then z else "")) S
  | .bl b, _, S => rt (.bl b) S
  | .non, _, S => rt .non S
  | .str z, _, S => rt (.str z) S
  | .raise c, _, S => E c S
mutual
def wS (G : Cfg) (E : Nat → Sto → Prop) (rt : KV) : Sm → (Env → Sto → Prop) → Env → Sto → Prop
  | .asg i a, nx, e, S => wE G E a e S fun v S1 => nx (e.set i (some v)) S1
  | .asgs is a, nx, e, S => wE G E a e S fun v S1 => withO (bindT (.many is) e v) fun e' => nx e' S1
  | .par i j a b, nx, e, S => wE G E a e S fun v S1 => wE G E b e S1 fun w S2 => nx ((e.set i (some v)).set j (some w)) S2
  | .setI a i c, nx, e, S => wE G E c e S fun v S1 => wE G E a e S1 fun x S2 => wE G E i e S2 fun y S3 => wSetI x y v S3 fun S4 => nx e S4
  | .setF a f c, nx, e, S => wE G E c e S fun v S1 => wE G E a e S1 fun x S2 => match x with
    | .ref p => match S2 p with
      | some (.ins c fs) => G.fl c f = true ∧ fs.length < 900 ∧ nx e (up S2 p (.ins c (fput f v fs)))
      | _ => False
    | _ => False
  | .expr a, nx, e, S => wE G E a e S fun _ S1 => nx e S1
  | .ret a, nx, e, S => wE G E a e S fun v S1 => rt v S1
  | .ret0, nx, e, S => rt .non S
  | .pass, nx, e, S => nx e S
  | .ite c a b, nx, e, S => wE G E c e S fun x S1 => withB x fun k => (k = true → wSs G E rt a nx e S1) ∧ (k = false → wSs G E rt b nx e S1)
  | .while c b, nx, e, S => ∃ W : Nat → Env → Sto → Prop, (∃ m, W m e S) ∧ ∀ m e S, W m e S → wE G E c e S fun x S1 => withB x fun k =>
      (k = true → wSs G E rt b (fun e' S' => ∃ m', m' < m ∧ W m' e' S') e S1) ∧ (k = false → nx e S1)
  | .for tg it b, nx, e, S => wI G E it e S fun xs grd S1 => wFor tg (fun k e' S' => wSs G E rt b k e' S') grd nx xs e S1
  | .raise c _, nx, e, S => E c S
  | .try1 b c _ h, nx, e, S => wSs G (fun x S' => G.ek x = true ∧ (G.sub x c = true → wH G E rt h x S') ∧ (G.sub x c = false → E x S')) rt b nx e S
def wSs (G : Cfg) (E : Nat → Sto → Prop) (rt : KV) : Sms → (Env → Sto → Prop) → Env → Sto → Prop
  | .nil, nx, e, S => nx e S
  | .cons s r, nx, e, S => wS G E rt s (fun e' S' => wSs G E rt r nx e' S') e S
end
end DL

set_option Elab.async false
set_option linter.all false
set_option maxRecDepth 100000
set_option maxHeartbeats 1000000
/-! Own layer, part 2: how a value lies in the abstract heap. -/
namespace DL
open PySem PySem.Spec PyProof.Rows L2

/-- where classes stand -/
structure Lay where
  P : Program
  w : World
  K : PySem.W.Frag
  ca : Nat → Addr
  ex : Nat → Addr

/-- a list that nobody changes -/
def FzL (K : PySem.W.Frag) (H : Hp) (a : Addr) (xs : List V) : Prop := (∃ ob, H a = some (.frz ob (.lst xs))) ∨
  ∃ (o : Obj) (its : Array Value) (n : Nat), K.lookup a = some o ∧ o.cls = .type "list" ∧ o.dict = none ∧ o.data = .seq its n ∧ its.size ≤ sizeLine ∧ Vals xs its.toList
theorem FzL.sq {K : PySem.W.Frag} {H : Hp} {a : Addr} {xs : List V} (h : FzL K H a xs) : SqL K H a xs := by
  rcases h with h | h
  · exact .inl (.inr h)
  · exact .inr h
mutual
def RV (K : PySem.W.Frag) (H : Hp) : Val → V → Prop
  | .non, u => u = .non
  | .bl b, u => u = .bl b
  | .int i, u => u = .int i
  | .str x, u => u = .str x
  | .tup xs, u => ∃ a vs, u = .ref a ∧ SqT K H a vs ∧ RVs K H xs vs
  | .ref a, u => u = .ref a
  | .lst xs, u => ∃ a vs, u = .ref a ∧ FzL K H a vs ∧ RVs K H xs vs
def RVs (K : PySem.W.Frag) (H : Hp) : List Val → List V → Prop
  | [], us => us = []
  | x :: xs, us => ∃ u r, us = u :: r ∧ RV K H x u ∧ RVs K H xs r
end
theorem RVs.length {K : PySem.W.Frag} {H : Hp} : ∀ {xs : List Val} {us : List V}, RVs K H xs us → xs.length = us.length
  | [], us, h => by
    have e : us = [] := h
    subst e
    rfl
  | x :: xs, us, h => by
    obtain ⟨u, r, rfl, _, h2⟩ := h
    simp [RVs.length h2]

/-- the tuples stay -/
def Tp (K : PySem.W.Frag) (H H' : Hp) : Prop := (∀ a xs, SqT K H a xs → SqT K H' a xs) ∧ ∀ a xs, FzL K H a xs → FzL K H' a xs
mutual
theorem RV.mono {K : PySem.W.Frag} {H H' : Hp} (t : Tp K H H') : ∀ (x : Val) (u : V), RV K H x u → RV K H' x u
  | .non, _, h => h
  | .bl _, _, h => h
  | .int _, _, h => h
  | .str _, _, h => h
  | .tup xs, _, h => by
    obtain ⟨a, vs, e, hq, hr⟩ := h
    exact ⟨a, vs, e, t.1 _ _ hq, RVs.mono t xs vs hr⟩
  | .ref _, _, h => h
  | .lst xs, _, h => by
    obtain ⟨a, vs, e, hq, hr⟩ := h
    exact ⟨a, vs, e, t.2 _ _ hq, RVs.mono t xs vs hr⟩
theorem RVs.mono {K : PySem.W.Frag} {H H' : Hp} (t : Tp K H H') : ∀ (xs : List Val) (us : List V), RVs K H xs us → RVs K H' xs us
  | [], _, h => h
  | x :: xs, _, h => by
    obtain ⟨u, r, e, h1, h2⟩ := h
    exact ⟨u, r, e, RV.mono t x u h1, RVs.mono t xs r h2⟩
end
theorem RVs.append {K : PySem.W.Frag} {H : Hp} : ∀ {xs ys : List Val} {us ws : List V}, RVs K H xs us → RVs K H ys ws → RVs K H (xs ++ ys) (us ++ ws)
  | [], ys, us, ws, h, h' => by
    have e : us = [] := h
    subst e
    exact h'
  | x :: xs, ys, us, ws, h, h' => by
    obtain ⟨u, r, rfl, h1, h2⟩ := h
    exact ⟨u, r ++ ws, rfl, h1, RVs.append h2 h'⟩
theorem RVs.get {K : PySem.W.Frag} {H : Hp} : ∀ {xs : List Val} {us : List V} {i : Nat} {x : Val}, RVs K H xs us → xs[i]? = some x → ∃ u, us[i]? = some u ∧ RV K H x u
  | [], _, _, _, _, e => by simp at e
  | y :: xs, us, 0, x, h, e => by
    obtain ⟨u, r, rfl, h1, h2⟩ := h
    simp at e
    subst e
    exact ⟨u, rfl, h1⟩
  | y :: xs, us, i + 1, x, h, e => by
    obtain ⟨u, r, rfl, h1, h2⟩ := h
    obtain ⟨v, e1, e2⟩ := RVs.get (i := i) (x := x) h2 (by simpa using e)
    exact ⟨v, by simpa using e1, e2⟩
theorem RVs.getr {K : PySem.W.Frag} {H : Hp} : ∀ {xs : List Val} {us : List V} {i : Nat} {u : V}, RVs K H xs us → us[i]? = some u → ∃ x, xs[i]? = some x ∧ RV K H x u
  | [], us, _, _, h, e => by
    have e' : us = [] := h
    subst e'
    simp at e
  | y :: xs, us, 0, v, h, e => by
    obtain ⟨u, r, rfl, h1, h2⟩ := h
    simp at e
    subst e
    exact ⟨y, rfl, h1⟩
  | y :: xs, us, i + 1, v, h, e => by
    obtain ⟨u, r, rfl, h1, h2⟩ := h
    obtain ⟨x, e1, e2⟩ := RVs.getr (i := i) (u := v) h2 (by simpa using e)
    exact ⟨x, by simpa using e1, e2⟩
theorem RVs.take {K : PySem.W.Frag} {H : Hp} : ∀ {xs : List Val} {us : List V} (n : Nat), RVs K H xs us → RVs K H (xs.take n) (us.take n)
  | _, _, 0, _ => by simp [RVs]
  | [], us, n + 1, h => by
    have e' : us = [] := h
    subst e'
    simp [RVs]
  | y :: xs, us, n + 1, h => by
    obtain ⟨u, r, rfl, h1, h2⟩ := h
    exact ⟨u, r.take n, rfl, h1, RVs.take n h2⟩
theorem RVs.drop {K : PySem.W.Frag} {H : Hp} : ∀ {xs : List Val} {us : List V} (n : Nat), RVs K H xs us → RVs K H (xs.drop n) (us.drop n)
  | _, _, 0, h => by simpa using h
  | [], us, n + 1, h => by
    have e' : us = [] := h
    subst e'
    simp [RVs]
  | y :: xs, us, n + 1, h => by
    obtain ⟨u, r, rfl, h1, h2⟩ := h
    simpa using RVs.drop n h2
theorem RVs.set {K : PySem.W.Frag} {H : Hp} {x : Val} {u : V} (r : RV K H x u) : ∀ {xs : List Val} {us : List V} (i : Nat), RVs K H xs us → RVs K H (xs.set i x) (us.set i u)
  | [], us, i, h => by
    have e' : us = [] := h
    subst e'
    simp [RVs]
  | y :: xs, us, 0, h => by
    obtain ⟨v, w, rfl, h1, h2⟩ := h
    exact ⟨u, w, rfl, r, h2⟩
  | y :: xs, us, i + 1, h => by
    obtain ⟨v, w, rfl, h1, h2⟩ := h
    exact ⟨v, w.set i u, rfl, h1, RVs.set r i h2⟩
theorem RVs.reverse {K : PySem.W.Frag} {H : Hp} : ∀ {xs : List Val} {us : List V}, RVs K H xs us → RVs K H xs.reverse us.reverse
  | [], us, h => by
    have e' : us = [] := h
    subst e'
    simp [RVs]
  | y :: xs, us, h => by
    obtain ⟨u, r, rfl, h1, h2⟩ := h
    simp only [List.reverse_cons]
    exact RVs.append (RVs.reverse h2) ⟨u, [], rfl, h1, rfl⟩
theorem RVs.dropLast {K : PySem.W.Frag} {H : Hp} {xs : List Val} {us : List V} (h : RVs K H xs us) : RVs K H xs.dropLast us.dropLast := by
  rw [List.dropLast_eq_take, List.dropLast_eq_take, h.length]
  exact h.take _
theorem RVs.rep {K : PySem.W.Frag} {H : Hp} {xs : List Val} {us : List V} (h : RVs K H xs us) : ∀ n : Nat, RVs K H (List.replicate n xs).flatten (List.replicate n us).flatten
  | 0 => rfl
  | n + 1 => by
    rw [List.replicate_succ, List.replicate_succ, List.flatten_cons, List.flatten_cons]
    exact RVs.append h (RVs.rep h n)
theorem RVs.one {K : PySem.W.Frag} {H : Hp} {x : Val} {us : List V} (h : RVs K H [x] us) : ∃ u, us = [u] ∧ RV K H x u := by
  obtain ⟨u, r, rfl, h1, h2⟩ := h
  have e : r = [] := h2
  subst e
  exact ⟨u, rfl, h1⟩
theorem RVs.two {K : PySem.W.Frag} {H : Hp} {x y : Val} {us : List V} (h : RVs K H [x, y] us) : ∃ u v, us = [u, v] ∧ RV K H x u ∧ RV K H y v := by
  obtain ⟨u, r, rfl, h1, h2⟩ := h
  obtain ⟨v, rfl, h3⟩ := RVs.one h2
  exact ⟨u, v, rfl, h1, h3⟩
theorem RVs.of1 {K : PySem.W.Frag} {H : Hp} {x : Val} {u : V} (h : RV K H x u) : RVs K H [x] [u] := ⟨u, [], rfl, h, rfl⟩

/-! ### kinds of sequences -/
theorem ints_rv {K : PySem.W.Frag} {H : Hp} : ∀ {xs : List Val} {us : List V} {ns : List Int}, Val.ints xs = some ns → RVs K H xs us → us = ns.map V.int
  | [], us, ns, e, h => by
    simp [Val.ints] at e
    subst e
    exact h
  | .int i :: xs, us, ns, e, h => by
    obtain ⟨u, r, rfl, h1, h2⟩ := h
    cases q : Val.ints xs with
    | none => rw [Val.ints, q] at e; cases e
    | some ms =>
      rw [Val.ints, q] at e
      have e' : i :: ms = ns := Option.some.inj e
      subst e'
      have h1' : u = .int i := h1
      rw [h1', ints_rv q h2]
      rfl
  | .non :: _, _, _, e, _ => by cases e
  | .bl _ :: _, _, _, e, _ => by cases e
  | .str _ :: _, _, _, e, _ => by cases e
  | .tup _ :: _, _, _, e, _ => by cases e
  | .ref _ :: _, _, _, e, _ => by cases e
  | .lst _ :: _, _, _, e, _ => by cases e
theorem bls_rv {K : PySem.W.Frag} {H : Hp} : ∀ {xs : List Val} {us : List V} {ns : List Bool}, Val.bls xs = some ns → RVs K H xs us → us = ns.map V.bl
  | [], us, ns, e, h => by
    simp [Val.bls] at e
    subst e
    exact h
  | .bl i :: xs, us, ns, e, h => by
    obtain ⟨u, r, rfl, h1, h2⟩ := h
    cases q : Val.bls xs with
    | none => rw [Val.bls, q] at e; cases e
    | some ms =>
      rw [Val.bls, q] at e
      have e' : i :: ms = ns := Option.some.inj e
      subst e'
      have h1' : u = .bl i := h1
      rw [h1', bls_rv q h2]
      rfl
  | .non :: _, _, _, e, _ => by cases e
  | .int _ :: _, _, _, e, _ => by cases e
  | .str _ :: _, _, _, e, _ => by cases e
  | .tup _ :: _, _, _, e, _ => by cases e
  | .ref _ :: _, _, _, e, _ => by cases e
  | .lst _ :: _, _, _, e, _ => by cases e
theorem strs_rv {K : PySem.W.Frag} {H : Hp} : ∀ {xs : List Val} {us : List V} {ns : List Str}, Val.strs xs = some ns → RVs K H xs us → us = ns.map V.str
  | [], us, ns, e, h => by
    simp [Val.strs] at e
    subst e
    exact h
  | .str i :: xs, us, ns, e, h => by
    obtain ⟨u, r, rfl, h1, h2⟩ := h
    cases q : Val.strs xs with
    | none => rw [Val.strs, q] at e; cases e
    | some ms =>
      rw [Val.strs, q] at e
      have e' : i :: ms = ns := Option.some.inj e
      subst e'
      have h1' : u = .str i := h1
      rw [h1', strs_rv q h2]
      rfl
  | .non :: _, _, _, e, _ => by cases e
  | .int _ :: _, _, _, e, _ => by cases e
  | .bl _ :: _, _, _, e, _ => by cases e
  | .tup _ :: _, _, _, e, _ => by cases e
  | .ref _ :: _, _, _, e, _ => by cases e
  | .lst _ :: _, _, _, e, _ => by cases e
theorem rv_ints {K : PySem.W.Frag} {H : Hp} : ∀ (ns : List Int), RVs K H (ns.map Val.int) (ns.map V.int)
  | [] => rfl
  | n :: ns => ⟨_, _, rfl, rfl, rv_ints ns⟩
theorem rv_strs {K : PySem.W.Frag} {H : Hp} : ∀ (ns : List Str), RVs K H (ns.map Val.str) (ns.map V.str)
  | [] => rfl
  | n :: ns => ⟨_, _, rfl, rfl, rv_strs ns⟩

/-! ### the store -/
def leafOf : Val → Option Leaf
  | .non => some .none
  | .bl b => some (.num (if b then 1 else 0))
  | _ => none
def keyOf : Val → Option Key
  | .int i => some (.inl i)
  | .str x => some (.inr x)
  | _ => none
/-- how keys that are no tuples are told -/
structure KEnc (P : Program) (w : World) where
  κ : Type
  dec : DecidableEq κ
  knd : KeyKind P w κ
  enc : Val → Option κ
  key : κ → NestedKey
  nk : ∀ {v l}, enc v = some l → v.nk = key l
  inj : ∀ {a b}, key a = key b → a = b
  is : ∀ {K : PySem.W.Frag} {H : Hp} {v l u z}, enc v = some l → RV K H v u → RelV u z → knd.is l z = true
  /-- the value of a key, from its kind -/
  cl : Nat
  ecl : ∀ {v l}, enc v = some l → kcl v = cl
  some : ∀ {v}, kcl v = cl → v.dat = true → ∃ l, enc v = some l
instance {P : Program} {w : World} (B : KEnc P w) : DecidableEq B.κ := B.dec
/-- a dict whose keys are no tuples -/
structure LeafD (L : Lay) (B : KEnc L.P L.w) (H : Hp) (kvs : List (Val × Val)) (es : Array DictEntry) (lvs : List (B.κ × Value)) : Prop where
  keys : KeysOf B.knd es
  prs : Pairs B.knd es.toList lvs
  nd : (lvs.map (·.1)).Nodup
  rep : Paired (fun (p : Val × Val) (q : B.κ × Value) => B.enc p.1 = some q.1 ∧ ∃ u, RV L.K H p.2 u ∧ RelV u q.2) kvs lvs
/-- a dict of tuples -/
structure TupD (L : Lay) (H : Hp) (kvs : List (Val × Val)) (es : Array DictEntry) (xs : List (NestedKey × Addr × Value)) : Prop where
  ents : es.toList = xs.map (entryOfKey (nestedKind L.P L.w))
  nd : (xs.map (·.1)).Nodup
  rep : Paired (fun (p : Val × Val) (q : NestedKey × Addr × Value) => isTup p.1 = true ∧ p.1.dat = true ∧ q.1 = p.1.nk ∧ p.1.nk.depth ≤ 8 ∧ RV L.K H p.1 (.ref q.2.1) ∧ ∃ u, RV L.K H p.2 u ∧ RelV u q.2.2) kvs xs
theorem leaf_key : ∀ {v : Val} {l : Leaf}, leafOf v = some l → v.nk = l.key
  | .non, _, h => by cases h; rfl
  | .bl b, _, h => by cases h; rfl
  | .int _, _, h => by cases h
  | .str _, _, h => by cases h
  | .tup _, _, h => by cases h
  | .ref _, _, h => by cases h
  | .lst _, _, h => by cases h
theorem leaf_is {P : Program} {w : World} {K : PySem.W.Frag} {H : Hp} : ∀ {v : Val} {l : Leaf} {u : V} {z : Value}, leafOf v = some l → RV K H v u → RelV u z → (leafKind P w).is l z = true
  | .non, _, u, z, h, r, q => by
    cases h
    have e : u = .non := r
    subst e
    have e : z = Value.none := q
    subst e
    rfl
  | .bl b, _, u, z, h, r, q => by
    cases h
    have e : u = .bl b := r
    subst e
    have e : z = Value.bool b := q
    subst e
    cases b <;> rfl
  | .int i, _, _, _, h, _, _ => by cases h
  | .str x, _, _, _, h, _, _ => by cases h
  | .tup _, _, _, _, h, _, _ => by cases h
  | .ref _, _, _, _, h, _, _ => by cases h
  | .lst _, _, _, _, h, _, _ => by cases h
def leafE (P : Program) (w : World) : KEnc P w where
  κ := Leaf
  dec := inferInstance
  knd := leafKind P w
  enc := leafOf
  key := Leaf.key
  nk := leaf_key
  inj := Leaf.key_inj
  is := leaf_is
  cl := 1
  ecl := fun {v l} h => by cases v <;> first | rfl | cases h
  some := fun {v} h d => by cases v <;> first | exact ⟨_, rfl⟩ | (cases d; done) | (cases h; done)
def keyN : Key → NestedKey
  | .inl i => .num i
  | .inr x => .text x
def mixE (P : Program) (w : World) : KEnc P w where
  κ := Key
  dec := inferInstance
  knd := mixKind P w
  enc := keyOf
  key := keyN
  nk := fun {v l} h => by cases v <;> first | (cases h; rfl) | cases h
  inj := fun {a b} h => by
    cases a <;> cases b <;> first | (injection h with h; rw [h]) | cases h
  is := fun {K H v l u z} h r q => by
    cases v <;> first | cases h | skip
    · have e : u = .int _ := r
      subst e
      obtain ⟨t, rfl⟩ := q
      exact keyIs_int _ t
    · have e : u = .str _ := r
      subst e
      obtain ⟨t, rfl⟩ := q
      exact keyIs_str _ t
  cl := 0
  ecl := fun {v l} h => by cases v <;> first | rfl | cases h
  some := fun {v} h d => by cases v <;> first | exact ⟨_, rfl⟩ | (cases d; done) | (cases h; done)
/-- the two of them -/
def encOf (P : Program) (w : World) : Bool → KEnc P w
  | true => mixE P w
  | false => leafE P w
def dctO (a : Addr) (es : Array DictEntry) (t : Nat) : HO := .ext fun h => h.DictRaw a es t
def RD (L : Lay) (H : Hp) (a : Addr) (kvs : List (Val × Val)) (t : Nat) : Prop :=
  ∃ es, H a = some (dctO a es t) ∧ (a == sysModules) = false ∧ kvs.length ≤ sizeLine ∧ es.size = kvs.length ∧ ((∃ b lvs, LeafD L (encOf L.P L.w b) H kvs es lvs) ∨ ∃ xs, TupD L H kvs es xs)
def RO (L : Lay) (H : Hp) (a : Addr) : Ob → Prop
  | .lst xs => ∃ vs, H a = some (.lst vs) ∧ RVs L.K H xs vs
  | .dct kvs t => RD L H a kvs t
  | .ins c fs => ∃ dx gs, H a = some (.ins (L.ca c) dx gs) ∧ Cls L.K (L.ca c) ∧ Paired (fun (p : Str × Val) (q : Str × V) => p.1 = q.1 ∧ NoAttr L.K (L.ca c) p.1 ∧ RV L.K H p.2 q.2) fs gs
def RS (L : Lay) (H : Hp) (S : Sto) : Prop := ∀ a o, S a = some o → RO L H a o

theorem Paired.imp {α β : Type} {F G : α → β → Prop} : ∀ {l₁ : List α} {l₂ : List β}, Paired F l₁ l₂ → (∀ a b, F a b → G a b) → Paired G l₁ l₂
  | _, _, .nil, _ => .nil
  | _, _, .cons r t, f => .cons (f _ _ r) (Paired.imp t f)
theorem LeafD.mono {L : Lay} {B : KEnc L.P L.w} {H H' : Hp} {kvs es lvs} (t : Tp L.K H H') (x : LeafD L B H kvs es lvs) : LeafD L B H' kvs es lvs :=
  ⟨x.keys, x.prs, x.nd, Paired.imp x.rep fun p q ⟨h1, u, h2, h3⟩ => ⟨h1, u, RV.mono t _ _ h2, h3⟩⟩
theorem TupD.mono {L : Lay} {H H' : Hp} {kvs es xs} (t : Tp L.K H H') (x : TupD L H kvs es xs) : TupD L H' kvs es xs :=
  ⟨x.ents, x.nd, Paired.imp x.rep fun p q ⟨h1, h0, h2, h3, h4, u, h5, h6⟩ => ⟨h1, h0, h2, h3, RV.mono t _ _ h4, u, RV.mono t _ _ h5, h6⟩⟩
/-- what is told of an object stays where its own place and the tuples stay -/
theorem RO.mono {L : Lay} {H H' : Hp} {a : Addr} (t : Tp L.K H H') (e : H' a = H a) : ∀ {o : Ob}, RO L H a o → RO L H' a o
  | .lst xs, h => by
    obtain ⟨vs, h1, h2⟩ := h
    exact ⟨vs, by rw [e]; exact h1, RVs.mono t _ _ h2⟩
  | .dct kvs v, h => by
    obtain ⟨es, h1, h2, h3, h4, h5⟩ := h
    refine ⟨es, by rw [e]; exact h1, h2, h3, h4, ?_⟩
    rcases h5 with ⟨b, l, h5⟩ | ⟨l, h5⟩
    · exact .inl ⟨b, l, h5.mono t⟩
    · exact .inr ⟨l, h5.mono t⟩
  | .ins c fs, h => by
    obtain ⟨dx, gs, h1, h2, h3⟩ := h
    exact ⟨dx, gs, by rw [e]; exact h1, h2, Paired.imp h3 fun p q ⟨z1, z2, z3⟩ => ⟨z1, z2, RV.mono t _ _ z3⟩⟩
theorem RO.has {L : Lay} {H : Hp} {a : Addr} {o : Ob} (h : RO L H a o) : ∃ u, H a = some u ∧ (∀ xs, u ≠ .tup xs) ∧ ∀ ob v, u ≠ .frz ob v := by
  cases o with
  | lst xs => obtain ⟨vs, h1, _⟩ := h; exact ⟨_, h1, (fun _ e => by cases e), (fun _ _ e => by cases e)⟩
  | dct kvs t => obtain ⟨es, h1, _⟩ := h; exact ⟨_, h1, (fun _ e => by cases e), (fun _ _ e => by cases e)⟩
  | ins c fs => obtain ⟨dx, gs, h1, _⟩ := h; exact ⟨_, h1, (fun _ e => by cases e), (fun _ _ e => by cases e)⟩
theorem RS.off {L : Lay} {H : Hp} {S : Sto} (h : RS L H S) {a : Addr} (e : H a = none) : S a = none := by
  cases q : S a with
  | none => rfl
  | some o =>
    obtain ⟨u, h1, _⟩ := (h a o q).has
    rw [e] at h1
    cases h1
theorem RS.there {L : Lay} {H : Hp} {S : Sto} (h : RS L H S) {a : Addr} {o : Ob} (q : S a = some o) : H a ≠ none := by
  obtain ⟨u, h1, _⟩ := (h a o q).has
  rw [h1]
  exact fun z => by cases z

/-- from here to there: tuples stay, what is tracked stays tracked, new places were free -/
structure Stp (L : Lay) (H : Hp) (S : Sto) (H' : Hp) (S' : Sto) : Prop where
  tp : Tp L.K H H'
  more : ∀ a, H a ≠ none → H' a ≠ none
  dom : ∀ a, S' a ≠ none → S a ≠ none ∨ H a = none
  frm : ∀ a u, H a = some u → S a = none → H' a = some u
theorem Stp.refl {L : Lay} {H : Hp} {S : Sto} : Stp L H S H S := ⟨⟨fun _ _ h => h, fun _ _ h => h⟩, fun _ h => h, fun _ h => .inl h, fun _ _ h _ => h⟩
theorem Stp.off {L : Lay} {H H' : Hp} {S S' : Sto} (st : Stp L H S H' S') {a : Addr} {u : HO} (h : H a = some u) (n : S a = none) : S' a = none := by
  cases q : S' a with
  | none => rfl
  | some b =>
    rcases st.dom a (by rw [q]; exact fun z => by cases z) with z | z
    · exact absurd n z
    · rw [h] at z; cases z
theorem Stp.trans {L : Lay} {H H1 H2 : Hp} {S S1 S2 : Sto} (a : Stp L H S H1 S1) (b : Stp L H1 S1 H2 S2) : Stp L H S H2 S2 :=
  ⟨⟨fun x xs h => b.tp.1 x xs (a.tp.1 x xs h), fun x xs h => b.tp.2 x xs (a.tp.2 x xs h)⟩, fun x h => b.more x (a.more x h), fun x h => by
    rcases b.dom x h with q | q
    · exact a.dom x q
    · refine .inr ?_
      cases e : H x with
      | none => rfl
      | some u => exact absurd q (a.more x (by rw [e]; exact fun z => by cases z)),
   fun x u h n => b.frm x u (a.frm x u h n) (a.off h n)⟩
theorem Tp.fresh {K : PySem.W.Frag} {H : Hp} {p : Addr} {o : HO} (n : H p = none) : Tp K H (upd H p o) := ⟨fun a xs h => by
  rcases h with (h | ⟨ob, h⟩) | h
  · exact .inl (.inl (by rw [upd_ne (ne_of_none h n)]; exact h))
  · exact .inl (.inr ⟨ob, by rw [upd_ne (ne_of_none h n)]; exact h⟩)
  · exact .inr h, fun a xs h => by
  rcases h with ⟨ob, h⟩ | h
  · exact .inl ⟨ob, by rw [upd_ne (ne_of_none h n)]; exact h⟩
  · exact .inr h⟩
theorem Tp.write {K : PySem.W.Frag} {H : Hp} {p : Addr} {o u : HO} (e : H p = some u) (h1 : ∀ xs, u ≠ .tup xs) (h2 : ∀ ob v, u ≠ .frz ob v) : Tp K H (upd H p o) := ⟨fun a xs h => by
  rcases h with (h | ⟨ob, h⟩) | h
  · refine .inl (.inl ?_)
    rw [upd_ne]
    · exact h
    · intro z; subst z; rw [e] at h; cases h; exact h1 _ rfl
  · refine .inl (.inr ⟨ob, ?_⟩)
    rw [upd_ne]
    · exact h
    · intro z; subst z; rw [e] at h; cases h; exact h2 _ _ rfl
  · exact .inr h, fun a xs h => by
  rcases h with ⟨ob, h⟩ | h
  · refine .inl ⟨ob, ?_⟩
    rw [upd_ne]
    · exact h
    · intro z; subst z; rw [e] at h; cases h; exact h2 _ _ rfl
  · exact .inr h⟩
theorem Tp.refl {K : PySem.W.Frag} {H : Hp} : Tp K H H := ⟨fun _ _ h => h, fun _ _ h => h⟩
theorem Tp.trans {K : PySem.W.Frag} {H H1 H2 : Hp} (a : Tp K H H1) (b : Tp K H1 H2) : Tp K H H2 := ⟨fun x xs h => b.1 x xs (a.1 x xs h), fun x xs h => b.2 x xs (a.2 x xs h)⟩
theorem up_same {S : Sto} {a : Addr} {o : Ob} : up S a o a = some o := by unfold up; rw [if_pos rfl]
theorem up_ne {S : Sto} {a b : Addr} {o : Ob} (h : b ≠ a) : up S a o b = S b := by unfold up; rw [if_neg h]
theorem Stp.new {L : Lay} {H : Hp} {S : Sto} {p : Addr} {o : HO} (n : H p = none) : Stp L H S (upd H p o) S :=
  ⟨Tp.fresh n, fun a h => by
    by_cases e : a = p
    · subst e; rw [upd_same]; exact fun z => by cases z
    · rw [upd_ne e]; exact h, fun _ h => .inl h, fun a u h _ => by rw [upd_ne (ne_of_none h n)]; exact h⟩
theorem Stp.alloc {L : Lay} {H : Hp} {S : Sto} {p : Addr} {o : HO} {b : Ob} (n : H p = none) : Stp L H S (upd H p o) (up S p b) :=
  ⟨Tp.fresh n, (Stp.new (L := L) (S := S) n).more, fun a h => by
    by_cases e : a = p
    · subst e; exact .inr n
    · rw [up_ne e] at h; exact .inl h, fun a u h _ => by rw [upd_ne (ne_of_none h n)]; exact h⟩
theorem Stp.write {L : Lay} {H : Hp} {S : Sto} {p : Addr} {o u : HO} {b c : Ob} (e : H p = some u) (h1 : ∀ xs, u ≠ .tup xs) (h2 : ∀ ob v, u ≠ .frz ob v) (q : S p = some c) : Stp L H S (upd H p o) (up S p b) :=
  ⟨Tp.write e h1 h2, fun a h => by
    by_cases e : a = p
    · subst e; rw [upd_same]; exact fun z => by cases z
    · rw [upd_ne e]; exact h, fun a h => by
    by_cases e : a = p
    · subst e; rw [q]; exact .inl fun z => by cases z
    · rw [up_ne e] at h; exact .inl h, fun a v h n => by
    rw [upd_ne]
    · exact h
    · intro z; subst z; rw [q] at n; cases n⟩
/-- the store behind a new or a changed object -/
theorem RS.upd {L : Lay} {H : Hp} {S : Sto} {p : Addr} {o : HO} {b : Ob} (h : RS L H S) (t : Tp L.K H (upd H p o)) (new : RO L (L2.upd H p o) p b) : RS L (L2.upd H p o) (up S p b) := fun a c q => by
  by_cases e : a = p
  · subst e; rw [up_same] at q; cases q; exact new
  · rw [up_ne e] at q
    exact (h a c q).mono t (upd_ne e)
/-- .. an untracked new object -/
theorem RS.new {L : Lay} {H : Hp} {S : Sto} {p : Addr} {o : HO} (h : RS L H S) (n : H p = none) : RS L (L2.upd H p o) S := fun a c q => (h a c q).mono (Tp.fresh n) (upd_ne fun z => by
  subst z
  exact RS.there h q n)
theorem RS.sub {L : Lay} {H : Hp} {S S' : Sto} (h : RS L H S) (s : ∀ a o, S' a = some o → S a = some o) : RS L H S' := fun a o q => h a o (s a o q)
theorem keep_sub {S S' : Sto} {v : Val} : ∀ a o, keep S S' v a = some o → S' a = some o := fun a o q => by
  unfold keep at q
  split at q
  · exact q
  · cases q

/-! ### slots -/
def RE (K : PySem.W.Frag) (H : Hp) (e : Env) (σ : L2.St) : Prop := e.length = σ.length ∧ ∀ (i : Nat) (v : Val), e[i]? = some (some v) → ∃ u, σ[i]? = some (some u) ∧ RV K H v u
theorem RE.mono {K : PySem.W.Frag} {H H' : Hp} {e : Env} {σ : L2.St} (t : Tp K H H') (h : RE K H e σ) : RE K H' e σ :=
  ⟨h.1, fun i v q => by
    obtain ⟨u, h1, h2⟩ := h.2 i v q
    exact ⟨u, h1, RV.mono t _ _ h2⟩⟩
theorem RE.set {K : PySem.W.Frag} {H : Hp} {e : Env} {σ : L2.St} {v : Val} {u : V} (h : RE K H e σ) (i : Nat) (r : RV K H v u) : RE K H (e.set i (some v)) (σ.set i (some u)) := by
  refine ⟨by simp [h.1], fun j x q => ?_⟩
  by_cases e1 : i = j
  · subst e1
    by_cases l : i < e.length
    · rw [List.getElem?_set_self l] at q
      cases q
      exact ⟨u, by rw [List.getElem?_set_self (by rw [← h.1]; exact l)], r⟩
    · rw [List.getElem?_eq_none (by simpa using l)] at q
      cases q
  · rw [List.getElem?_set_ne e1] at q
    obtain ⟨z, h1, h2⟩ := h.2 j x q
    exact ⟨z, by rw [List.getElem?_set_ne e1]; exact h1, h2⟩
theorem RE.set_none {K : PySem.W.Frag} {H : Hp} {e : Env} {σ : L2.St} (h : RE K H e σ) (i : Nat) : RE K H (e.set i none) (σ.set i none) := by
  refine ⟨by simp [h.1], fun j x q => ?_⟩
  by_cases e1 : i = j
  · subst e1
    by_cases l : i < e.length
    · rw [List.getElem?_set_self l] at q
      cases q
    · rw [List.getElem?_eq_none (by simpa using l)] at q
      cases q
  · rw [List.getElem?_set_ne e1] at q
    obtain ⟨z, h1, h2⟩ := h.2 j x q
    exact ⟨z, by rw [List.getElem?_set_ne e1]; exact h1, h2⟩
theorem RE.wipe {K : PySem.W.Frag} {H : Hp} {e : Env} {σ : L2.St} (h : RE K H e σ) : ∀ l : List Nat, RE K H (wipeE e l) (wipe σ l)
  | [] => h
  | i :: r => (RE.wipe h r).set_none i
theorem RE.get {K : PySem.W.Frag} {H : Hp} {e : Env} {σ : L2.St} (h : RE K H e σ) {i : Nat} {v : Val} (q : getV e i = some v) : ∃ u, σ[i]? = some (some u) ∧ RV K H v u := by
  refine h.2 i v ?_
  unfold getV at q
  cases z : e[i]? with
  | none => rw [z] at q; cases q
  | some o =>
    rw [z] at q
    have q' : o = some v := q
    rw [q']
end DL

set_option Elab.async false
set_option linter.all false
set_option maxRecDepth 100000
set_option maxHeartbeats 1000000
/-! Own layer, part 3: the operations on values over the hand layer's rules. -/
namespace DL
open PySem PySem.Spec PyProof.Rows L2

structure LC where
  ca : Nat → Addr
  ex : Nat → Addr
abbrev lay (X : Cx) (c : LC) : Lay := ⟨X.prog, X.w, X.K, c.ca, c.ex⟩

/-- what is wanted behind, by what is wanted of values -/
def Cont (L : Lay) (H : Hp) (S : Sto) (Qd : KV) (Q : VK) : Prop :=
  ∀ v S' u H', Stp L H S H' S' → Qd v S' → RS L H' S' → RV L.K H' v u → Q u H'
section
variable {L : Lay} {H : Hp} {S : Sto} {Qd : KV} {Q : VK}
theorem Cont.here {v : Val} {u : V} (c : Cont L H S Qd Q) (q : Qd v S) (s : RS L H S) (r : RV L.K H v u) : Q u H := c v S u H .refl q s r
theorem Cont.tup {xs : List Val} {us : List V} {p : Addr} (c : Cont L H S Qd Q) (q : Qd (.tup xs) S) (s : RS L H S) (r : RVs L.K H xs us) (n : H p = none) : Q (.ref p) (upd H p (.tup us)) :=
  c (.tup xs) S (.ref p) _ (Stp.new n) q (s.new n) ⟨p, us, rfl, SqT.of upd_same, RVs.mono (Tp.fresh n) _ _ r⟩
theorem Cont.lst {xs : List Val} {us : List V} {p : Addr} (c : Cont L H S Qd Q) (q : ∀ p, S p = none → Qd (.ref p) (up S p (.lst xs))) (s : RS L H S) (r : RVs L.K H xs us) (n : H p = none) : Q (.ref p) (upd H p (.lst us)) :=
  c (.ref p) _ (.ref p) _ (Stp.alloc n) (q p (RS.off s n)) (RS.upd s (Tp.fresh n) ⟨us, upd_same, RVs.mono (Tp.fresh n) _ _ r⟩) rfl
theorem Cont.set {xs ys : List Val} {us ws : List V} {p : Addr} {v : Val} {u : V} (c : Cont L H S Qd Q) (q : Qd v (up S p (.lst ys))) (s : RS L H S) (h : H p = some (.lst us)) (hs : S p = some (.lst xs)) (r : RVs L.K H ys ws) (rv : RV L.K H v u) :
    Q u (upd H p (.lst ws)) := by
  have t : Tp L.K H (upd H p (.lst ws)) := Tp.write h (fun _ e => by cases e) (fun _ _ e => by cases e)
  exact c v _ u _ (Stp.write h (fun _ e => by cases e) (fun _ _ e => by cases e) hs) q (RS.upd s t ⟨ws, upd_same, RVs.mono t _ _ r⟩) (RV.mono t _ _ rv)
end

/-- by values -/
def rv2 (L : Lay) (f : Val → Val → Sto → KV → Prop) : R2 := fun x y H Q => ∃ v1 v2 S Qd, RV L.K H v1 x ∧ RV L.K H v2 y ∧ RS L H S ∧ f v1 v2 S Qd ∧ Cont L H S Qd Q
def rv1 (L : Lay) (f : Val → Sto → KV → Prop) : V → Hp → VK → Prop := fun x H Q => ∃ v S Qd, RV L.K H v x ∧ RS L H S ∧ f v S Qd ∧ Cont L H S Qd Q
def rvs (L : Lay) (f : List Val → Sto → KV → Prop) : List V → Hp → VK → Prop := fun xs H Q => ∃ vs S Qd, RVs L.K H vs xs ∧ RS L H S ∧ f vs S Qd ∧ Cont L H S Qd Q

theorem line_eq : line = sizeLine := by rw [sizeLine_eq]; rfl
section
variable {X : Cx} {c : LC}
theorem o_add : OpR X (binaryOp .Add) (rv2 (lay X c) (wBin .add)) := by
  intro pins s σ H x y v u Q I rx ry h
  obtain ⟨v1, v2, S, Qd, h1, h2, hs, hf, k⟩ := h
  cases v1 with
  | int i =>
    cases v2 with
    | int j =>
      cases h1; cases h2
      exact op_add pins s σ H _ _ v u Q I rx ry ⟨i, j, rfl, rfl, k.here hf hs rfl⟩
    | _ => exact hf.elim
  | str i =>
    cases v2 with
    | str j =>
      cases h1; cases h2
      exact op_add_str pins s σ H _ _ v u Q I rx ry ⟨i, j, rfl, rfl, by rw [← line_eq]; exact hf.1, k.here hf.2 hs rfl⟩
    | _ => exact hf.elim
  | tup i =>
    cases v2 with
    | tup j =>
      obtain ⟨a, us, rfl, ha, ra⟩ := h1
      obtain ⟨b, ws, rfl, hb, rb⟩ := h2
      obtain ⟨z, hf⟩ := hf
      refine op_catA pins s σ H _ _ v u Q I rx ry ⟨a, b, us, ws, rfl, rfl, ha, hb, by rw [← line_eq, ← ra.length, ← rb.length]; exact z, fun e => ?_, fun _ e => ?_, fun _ _ p n => ?_⟩
      · subst e
        have e : i = [] := List.eq_nil_of_length_eq_zero ra.length
        subst e
        exact k.here hf hs ⟨b, ws, rfl, hb, rb⟩
      · subst e
        have e : j = [] := List.eq_nil_of_length_eq_zero rb.length
        subst e
        rw [List.append_nil] at hf
        exact k.here hf hs ⟨a, us, rfl, ha, ra⟩
      · exact k.tup hf hs (RVs.append ra rb) n
    | _ => exact hf.elim
  | ref a =>
    cases v2 with
    | ref b =>
      have e1 : x = .ref a := h1
      have e2 : y = .ref b := h2
      subst e1; subst e2
      change (match S a, S b with
        | some (.lst i), some (.lst j) => i.length + j.length ≤ line ∧ ∀ p, S p = none → Qd (.ref p) (up S p (.lst (i ++ j)))
        | _, _ => False) at hf
      split at hf
      · rename_i i j ea eb
        obtain ⟨us, ha, ra⟩ := hs a _ ea
        obtain ⟨ws, hb, rb⟩ := hs b _ eb
        exact op_cat pins s σ H _ _ v u Q I rx ry ⟨a, b, us, ws, rfl, rfl, ha, hb, by rw [← line_eq, ← ra.length, ← rb.length]; exact hf.1, fun p n => k.lst hf.2 hs (RVs.append ra rb) n⟩
      · exact hf.elim
    | _ => exact hf.elim
  | _ => exact hf.elim
theorem o_sub : OpR X (binaryOp .Sub) (rv2 (lay X c) (wBin .sub)) := by
  intro pins s σ H x y v u Q I rx ry h
  obtain ⟨v1, v2, S, Qd, h1, h2, hs, hf, k⟩ := h
  cases v1 with
  | int i =>
    cases v2 with
    | int j =>
      cases h1; cases h2
      exact op_sub pins s σ H _ _ v u Q I rx ry ⟨i, j, rfl, rfl, k.here hf hs rfl⟩
    | _ => exact hf.elim
  | _ => exact hf.elim
theorem o_fdiv : OpR X (binaryOp .FloorDiv) (rv2 (lay X c) (wBin .fdiv)) := by
  intro pins s σ H x y v u Q I rx ry h
  obtain ⟨v1, v2, S, Qd, h1, h2, hs, hf, k⟩ := h
  cases v1 with
  | int i =>
    cases v2 with
    | int j =>
      cases h1; cases h2
      exact op_fdiv pins s σ H _ _ v u Q I rx ry ⟨i, j, rfl, rfl, ⟨hf.1, hf.2.1⟩, k.here hf.2.2 hs rfl⟩
    | _ => exact hf.elim
  | _ => exact hf.elim
theorem o_mod : OpR X (binaryOp .Mod) (rv2 (lay X c) (wBin .mod)) := by
  intro pins s σ H x y v u Q I rx ry h
  obtain ⟨v1, v2, S, Qd, h1, h2, hs, hf, k⟩ := h
  cases v1 with
  | int i =>
    cases v2 with
    | int j =>
      cases h1; cases h2
      exact op_mod pins s σ H _ _ v u Q I rx ry ⟨i, j, rfl, rfl, hf.1, k.here hf.2 hs rfl⟩
    | _ => exact hf.elim
  | _ => exact hf.elim
theorem o_pow : OpR X (binaryOp .Pow) (rv2 (lay X c) (wBin .pow)) := by
  intro pins s σ H x y v u Q I rx ry h
  obtain ⟨v1, v2, S, Qd, h1, h2, hs, hf, k⟩ := h
  cases v1 with
  | int i =>
    cases v2 with
    | int j =>
      cases h1; cases h2
      exact op_pow pins s σ H _ _ v u Q I rx ry ⟨i, j, rfl, rfl, hf.1, k.here hf.2 hs rfl⟩
    | _ => exact hf.elim
  | _ => exact hf.elim
end
end DL

set_option Elab.async false
set_option linter.all false
set_option maxRecDepth 100000
set_option maxHeartbeats 1000000
/-! Own layer, part 3a: dicts by their keys' values. -/
namespace DL
open PySem PySem.Spec PyProof.Rows L2

mutual
theorem nested_of {X : Cx} {pins : List (Addr × Obj)} {σ : L2.St} {H : Hp} {s : Shared} (I : Inv X pins σ H s) : ∀ (v : Val) (u : V) (w : Value), v.dat = true → RV X.K H v u → RelV u w → NestedIs s.heap v.nk w
  | .non, u, w, _, h, r => by
    have e : u = .non := h
    subst e
    have e : w = Value.none := r
    subst e
    exact .none
  | .bl b, u, w, _, h, r => by
    have e : u = .bl b := h
    subst e
    have e : w = Value.bool b := r
    subst e
    exact .bool rfl
  | .int i, u, w, _, h, r => by
    have e : u = .int i := h
    subst e
    obtain ⟨t, rfl⟩ := r
    exact .int i t
  | .str x, u, w, _, h, r => by
    have e : u = .str x := h
    subst e
    obtain ⟨t, rfl⟩ := r
    exact .text x t
  | .tup xs, u, w, d, h, r => by
    obtain ⟨a, vs, rfl, hq, hr⟩ := h
    have e : w = Value.ref a := r
    subst e
    obtain ⟨its, rv, ⟨o, h1, h2, n, h3⟩, _⟩ := I.tuple hq
    exact .tup h1 h2 h3 (by simpa using nesteds_of I xs vs its d hr rv)
  | .ref _, _, _, d, _, _ => by cases d
  | .lst _, _, _, d, _, _ => by cases d
theorem nesteds_of {X : Cx} {pins : List (Addr × Obj)} {σ : L2.St} {H : Hp} {s : Shared} (I : Inv X pins σ H s) : ∀ (vs : List Val) (us : List V) (ws : List Value), Val.dats vs = true → RVs X.K H vs us → Vals us ws → NestedAll s.heap (Val.nks vs) ws
  | [], us, ws, _, h, r => by
    have e : us = [] := h
    subst e
    cases r
    exact .nil
  | v :: vs, us, ws, d, h, r => by
    obtain ⟨u, q, rfl, h1, h2⟩ := h
    cases r with
    | cons r1 r2 =>
      have d' : v.dat = true ∧ Val.dats vs = true := by simpa [Val.dats] using d
      exact .cons (nested_of I v u _ d'.1 h1 r1) (nesteds_of I vs q _ d'.2 h2 r2)
end

/-- what both say -/
def RelD (K : PySem.W.Frag) (H : Hp) : Option Val → Option Value → Prop
  | some v, some w => ∃ u, RV K H v u ∧ RelV u w
  | none, none => True
  | _, _ => False
theorem RelD.isSome {K : PySem.W.Frag} {H : Hp} {a : Option Val} {b : Option Value} (h : RelD K H a b) : a.isSome = b.isSome := by
  cases a <;> cases b <;> first | rfl | exact h.elim
theorem valueAt_one {K : Type} [DecidableEq K] (a : K) (w : Value) (r : List (K × Value)) (k : K) : valueAt ((a, w) :: r) k = if a = k then some w else valueAt r k := by
  unfold valueAt
  rw [List.find?_cons]
  by_cases e : a = k
  · simp [e]
  · simp [e]
theorem leaf_get {L : Lay} {B : KEnc L.P L.w} {H : Hp} {k : Val} {l : B.κ} (hl : B.enc k = some l) : ∀ {kvs : List (Val × Val)} {lvs : List (B.κ × Value)},
    Paired (fun (p : Val × Val) (q : B.κ × Value) => B.enc p.1 = some q.1 ∧ ∃ u, RV L.K H p.2 u ∧ RelV u q.2) kvs lvs → RelD L.K H (dget kvs k) (valueAt lvs l)
  | _, _, .nil => trivial
  | (a, v) :: kvs, (b, w) :: lvs, .cons ⟨h1, h2⟩ t => by
    have e1 : a.nk = B.key b := B.nk h1
    have e2 : k.nk = B.key l := B.nk hl
    rw [valueAt_one]
    show RelD L.K H (if a.nk = k.nk then some v else dget kvs k) _
    by_cases e : b = l
    · rw [if_pos e, if_pos (by rw [e1, e2, e])]
      exact h2
    · rw [if_neg e, if_neg (fun z => e (B.inj (by rw [← e1, ← e2]; exact z)))]
      exact leaf_get hl t
theorem stored_one {K : Type} [DecidableEq K] (a : K) (w : Value) (r : List (K × Value)) (k : K) (v : Value) (nd : (((a, w) :: r).map (·.1)).Nodup) : stored ((a, w) :: r) k v = if a = k then (a, v) :: r else (a, w) :: stored r k v := by
  unfold stored
  by_cases e : a = k
  · subst e
    have hn : a ∉ r.map (·.1) := by
      have := List.nodup_cons.mp nd
      exact this.1
    simp [map_store_of_not_mem r a v hn]
  · simp only [List.any_cons, decide_eq_false e, Bool.false_or, List.map_cons, if_neg e]
    by_cases h : (r.any fun kv => decide (kv.1 = k)) = true
    · rw [if_pos h, if_pos h]
    · rw [if_neg h, if_neg h]
      rfl
theorem leaf_put {L : Lay} {B : KEnc L.P L.w} {H : Hp} {k v : Val} {l : B.κ} {u : V} {w : Value} (hl : B.enc k = some l) (hv : RV L.K H v u) (hw : RelV u w) : ∀ {kvs : List (Val × Val)} {lvs : List (B.κ × Value)}, (lvs.map (·.1)).Nodup →
    Paired (fun (p : Val × Val) (q : B.κ × Value) => B.enc p.1 = some q.1 ∧ ∃ u, RV L.K H p.2 u ∧ RelV u q.2) kvs lvs →
    Paired (fun (p : Val × Val) (q : B.κ × Value) => B.enc p.1 = some q.1 ∧ ∃ u, RV L.K H p.2 u ∧ RelV u q.2) (dput kvs k v) (stored lvs l w)
  | _, _, _, .nil => .cons ⟨hl, u, hv, hw⟩ .nil
  | (a, x) :: kvs, (b, y) :: lvs, nd, .cons ⟨h1, h2⟩ t => by
    have e1 : a.nk = B.key b := B.nk h1
    have e2 : k.nk = B.key l := B.nk hl
    rw [stored_one _ _ _ _ _ nd]
    show Paired _ (if a.nk = k.nk then (a, v) :: kvs else (a, x) :: dput kvs k v) _
    by_cases e : b = l
    · rw [if_pos e, if_pos (by rw [e1, e2, e])]
      exact .cons ⟨h1, u, hv, hw⟩ t
    · rw [if_neg e, if_neg (fun z => e (B.inj (by rw [← e1, ← e2]; exact z)))]
      exact .cons ⟨h1, h2⟩ (leaf_put hl hv hw (List.nodup_cons.mp nd).2 t)
theorem dput_length (k v : Val) : ∀ kvs : List (Val × Val), (dput kvs k v).length ≤ kvs.length + 1
  | [] => Nat.le_refl _
  | (a, w) :: r => by
    show (if a.nk = k.nk then (a, v) :: r else (a, w) :: dput r k v).length ≤ _
    split
    · simp
    · simp [dput_length k v r]

abbrev TupR (L : Lay) (H : Hp) := fun (p : Val × Val) (q : NestedKey × Addr × Value) => isTup p.1 = true ∧ p.1.dat = true ∧ q.1 = p.1.nk ∧ p.1.nk.depth ≤ 8 ∧ RV L.K H p.1 (.ref q.2.1) ∧ ∃ u, RV L.K H p.2 u ∧ RelV u q.2.2
theorem tup_get {L : Lay} {H : Hp} {k : Val} : ∀ {kvs : List (Val × Val)} {xs : List (NestedKey × Addr × Value)}, Paired (TupR L H) kvs xs → RelD L.K H (dget kvs k) (valueAt (pairsH xs) k.nk)
  | _, _, .nil => trivial
  | (a, v) :: kvs, (b, p, w) :: xs, .cons ⟨h1, h0, h2, h3, h4, h5⟩ t => by
    have e1 : b = a.nk := h2
    show RelD L.K H (if a.nk = k.nk then some v else dget kvs k) (valueAt ((b, w) :: pairsH xs) k.nk)
    rw [valueAt_one]
    by_cases e : a.nk = k.nk
    · rw [if_pos e, if_pos (by rw [e1, e])]
      exact h5
    · rw [if_neg e, if_neg (by rw [e1]; exact e)]
      exact tup_get t
theorem storedH_one (a : NestedKey) (b : Addr) (w : Value) (r : List (NestedKey × Addr × Value)) (k : NestedKey) (p : Addr) (v : Value) (nd : (((a, b, w) :: r).map (·.1)).Nodup) :
    storedH ((a, b, w) :: r) k p v = if a = k then (a, b, v) :: r else (a, b, w) :: storedH r k p v := by
  unfold storedH
  by_cases e : a = k
  · subst e
    have hn : a ∉ r.map (·.1) := (List.nodup_cons.mp nd).1
    have hm : r.map (putAt a v) = r := by
      conv => rhs; rw [← List.map_id r]
      refine List.map_congr_left fun x hx => ?_
      unfold putAt
      rw [if_neg (fun z => hn (List.mem_map.mpr ⟨x, hx, z⟩))]
      rfl
    have h1 : (atKey ((a, b, w) :: r) a).isSome = true := by simp [atKey]
    rw [if_pos h1, if_pos rfl, List.map_cons, hm]
    simp [putAt]
  · rw [if_neg e]
    have h1 : atKey ((a, b, w) :: r) k = atKey r k := by simp [atKey, e]
    rw [h1, List.map_cons]
    have h2 : putAt k v (a, b, w) = (a, b, w) := by simp [putAt, e]
    rw [h2]
    split <;> rfl
theorem tup_put {L : Lay} {H : Hp} {k v : Val} {b : Addr} {u : V} {w : Value} (hk : isTup k = true) (hd : k.dat = true) (h8 : k.nk.depth ≤ 8) (hb : RV L.K H k (.ref b)) (hv : RV L.K H v u) (hw : RelV u w) :
    ∀ {kvs : List (Val × Val)} {xs : List (NestedKey × Addr × Value)}, (xs.map (·.1)).Nodup → Paired (TupR L H) kvs xs → Paired (TupR L H) (dput kvs k v) (storedH xs k.nk b w)
  | _, _, _, .nil => .cons ⟨hk, hd, rfl, h8, hb, u, hv, hw⟩ .nil
  | (a, x) :: kvs, (c, p, y) :: xs, nd, .cons ⟨h1, h0, h2, h3, h4, h5⟩ t => by
    have e1 : c = a.nk := h2
    rw [storedH_one _ _ _ _ _ _ _ nd]
    show Paired _ (if a.nk = k.nk then (a, v) :: kvs else (a, x) :: dput kvs k v) _
    by_cases e : a.nk = k.nk
    · rw [if_pos e, if_pos (by rw [e1, e])]
      exact .cons ⟨h1, h0, h2, h3, h4, u, hv, hw⟩ t
    · rw [if_neg e, if_neg (by rw [e1]; exact e)]
      exact .cons ⟨h1, h0, h2, h3, h4, h5⟩ (tup_put hk hd h8 hb hv hw (List.nodup_cons.mp nd).2 t)

theorem kind_mod {kvs : List (Val × Val)} {k : Val} (h : kindOk kvs k = true) : k.dat = true ∧ k.nk.depth ≤ 8 := by
  unfold kindOk at h
  have h1 := (Bool.and_eq_true_iff.mp h).1
  unfold modKey at h1
  have h2 := Bool.and_eq_true_iff.mp h1
  exact ⟨h2.1, of_decide_eq_true h2.2⟩
theorem kcl_tup : ∀ {v : Val}, isTup v = true → kcl v = 2
  | .tup _, _ => rfl
  | .non, h => by cases h
  | .bl _, h => by cases h
  | .int _, h => by cases h
  | .str _, h => by cases h
  | .ref _, h => by cases h
  | .lst _, h => by cases h
theorem kcl_not : ∀ {v : Val}, isTup v = false → kcl v = 0 ∨ kcl v = 1
  | .tup _, h => by cases h
  | .non, h => .inr rfl
  | .bl _, h => .inr rfl
  | .int _, h => .inl rfl
  | .str _, h => .inl rfl
  | .ref _, h => .inr rfl
  | .lst _, h => .inr rfl
theorem enc_cl (P : Program) (w : World) : ∀ b, (encOf P w b).cl = if b then 0 else 1
  | true => rfl
  | false => rfl
theorem kind_cl {a v k : Val} {r : List (Val × Val)} (h : kindOk ((a, v) :: r) k = true) : kcl a = kcl k := by
  unfold kindOk at h
  exact beq_iff_eq.mp (Bool.and_eq_true_iff.mp h).2
/-- a dict with keys that are none is a dict of leaves for a leaf, of tuples for a tuple -/
theorem RD.leaf {L : Lay} {H : Hp} {a : Addr} {kvs : List (Val × Val)} {t : Nat} {k : Val} (h : RD L H a kvs t) (ok : kindOk kvs k = true) (nt : isTup k = false) :
    ∃ (es : Array DictEntry) (b : Bool) (lvs : List ((encOf L.P L.w b).κ × Value)) (l : (encOf L.P L.w b).κ), H a = some (dctO a es t) ∧ (a == sysModules) = false ∧ kvs.length ≤ sizeLine ∧ (encOf L.P L.w b).enc k = some l ∧ LeafD L (encOf L.P L.w b) H kvs es lvs := by
  obtain ⟨es, h1, h2, h3, h4, h5⟩ := h
  cases kvs with
  | nil =>
    have e : es = #[] := Array.eq_empty_of_size_eq_zero h4
    subst e
    have hb : ∃ b, kcl k = (encOf L.P L.w b).cl := by
      rcases kcl_not nt with z | z
      · exact ⟨true, z⟩
      · exact ⟨false, z⟩
    obtain ⟨b, hb⟩ := hb
    obtain ⟨l, hl⟩ := (encOf L.P L.w b).some hb (kind_mod ok).1
    exact ⟨_, b, [], l, h1, h2, h3, hl, ⟨fun e he => by simp at he, .nil, by simp, .nil⟩⟩
  | cons p r =>
    obtain ⟨a', v'⟩ := p
    have ek := kind_cl ok
    rcases h5 with ⟨b, lvs, h5⟩ | ⟨xs, h5⟩
    · have q := h5.rep
      cases q with
      | cons z _ =>
        have z1 : kcl a' = (encOf L.P L.w b).cl := (encOf L.P L.w b).ecl z.1
        obtain ⟨l, hl⟩ := (encOf L.P L.w b).some (v := k) (by rw [← ek]; exact z1) (kind_mod ok).1
        exact ⟨es, b, _, l, h1, h2, h3, hl, h5⟩
    · have q := h5.rep
      cases q with
      | cons z _ =>
        have z1 : kcl a' = 2 := kcl_tup z.1
        rcases kcl_not nt with y | y <;> omega
theorem RD.tup {L : Lay} {H : Hp} {a : Addr} {kvs : List (Val × Val)} {t : Nat} {k : Val} (h : RD L H a kvs t) (ok : kindOk kvs k = true) (nt : isTup k = true) :
    ∃ es xs, H a = some (dctO a es t) ∧ (a == sysModules) = false ∧ kvs.length ≤ sizeLine ∧ TupD L H kvs es xs := by
  obtain ⟨es, h1, h2, h3, h4, h5⟩ := h
  rcases h5 with ⟨b, lvs, h5⟩ | ⟨xs, h5⟩
  · cases kvs with
    | nil =>
      have e : es = #[] := Array.eq_empty_of_size_eq_zero h4
      subst e
      exact ⟨_, [], h1, h2, h3, ⟨rfl, by simp, .nil⟩⟩
    | cons p r =>
      obtain ⟨a', v'⟩ := p
      have ek := kind_cl ok
      have q := h5.rep
      cases q with
      | cons z _ =>
        have z1 : kcl a' = (encOf L.P L.w b).cl := (encOf L.P L.w b).ecl z.1
        rw [enc_cl] at z1
        have := kcl_tup nt
        cases b <;> simp at z1 <;> omega
  · exact ⟨es, xs, h1, h2, h3, h5⟩

section
variable {X : Cx} {c : LC} {pins : List (Addr × Obj)} {σ : L2.St} {H : Hp} {s : Shared} {a : Addr} {es : Array DictEntry} {t : Nat} {kvs : List (Val × Val)}
theorem raw_of (I : Inv X pins σ H s) (h : H a = some (dctO a es t)) : s.heap.DictRaw a es t := (show ObjOk X.prog X.w H s.heap a (dctO a es t) from I.hok a _ h).1
theorem dictOf_of {B : KEnc X.prog X.w} {lvs : List (B.κ × Value)} (I : Inv X pins σ H s) (h : H a = some (dctO a es t)) (d : LeafD (lay X c) B H kvs es lvs) : s.heap.DictOf B.knd a lvs := by
  obtain ⟨o, h1, h2, h3⟩ := raw_of I h
  exact ⟨o, es, t, h1, h2, h3, d.keys, d.prs, d.nd⟩
theorem keyH_of {k : Val} {b : Addr} (I : Inv X pins σ H s) (hk : k.dat = true) (h8 : k.nk.depth ≤ 8) (r : RV X.K H k (.ref b)) : (nestedKind X.prog X.w).is s.heap k.nk b := ⟨nested_of I k _ _ hk r rfl, h8⟩
theorem keysH_of (I : Inv X pins σ H s) : ∀ {kvs : List (Val × Val)} {xs : List (NestedKey × Addr × Value)}, Paired (TupR (lay X c) H) kvs xs → ∀ x ∈ xs, (nestedKind X.prog X.w).is s.heap x.1 x.2.1
  | _, _, .nil, x, hx => by simp at hx
  | _, _, .cons (a := p) (b := q) ⟨_, h0, h2, h3, h4, _⟩ t, x, hx => by
    rcases List.mem_cons.mp hx with e | hx
    · subst e
      rw [h2]
      exact keyH_of I h0 h3 h4
    · exact keysH_of I t x hx
theorem dictH_of {xs : List (NestedKey × Addr × Value)} (I : Inv X pins σ H s) (h : H a = some (dctO a es t)) (d : TupD (lay X c) H kvs es xs) : s.heap.DictOfH (nestedKind X.prog X.w) a xs := by
  obtain ⟨o, h1, h2, h3⟩ := raw_of I h
  exact ⟨o, es, t, h1, h2, h3, d.ents, keysH_of I d.rep, d.nd⟩
theorem dct_okT {h' : Heap} (x : h'.DictRaw a es t) {H' : Hp} : ObjOk X.prog X.w H' h' a (dctO a es t) :=
  ⟨x, let ⟨o, e, _⟩ := x; ⟨o, e⟩, fun h1 h2 q k => q.at k⟩
theorem notTup_dct {es : Array DictEntry} : (∀ xs, dctO a es t ≠ .tup xs) ∧ ∀ ob v, dctO a es t ≠ .frz ob v := ⟨(fun _ e => by cases e), (fun _ _ e => by cases e)⟩
/-- a dict's object is replaced -/
theorem dct_write {h' : Heap} {tk : Nat} {es' : Array DictEntry} {t' : Nat} (I : Inv X pins σ H s) (h : H a = some (dctO a es t)) (hs : Heap.SameBut a s.heap h') (new : h'.DictRaw a es' t') :
    Inv X pins σ (upd H a (dctO a es' t')) { s with heap := h', toks := tk } :=
  I.write (x := a) (e := a) (by rw [h]; exact True.intro) (.inl rfl) (fun b q hb z => (hs.2 b hb).trans z) (let ⟨o, e, _⟩ := new; ⟨o, e⟩) (dct_okT new)
end
end DL

set_option Elab.async false
set_option linter.all false
set_option maxRecDepth 100000
set_option maxHeartbeats 1000000
/-! Own layer, part 3b: what a dict is asked. -/
namespace DL
open PySem PySem.Spec PyProof.Rows L2

theorem isTup_ref {K : PySem.W.Frag} {H : Hp} : ∀ {k : Val} {x : V}, isTup k = true → RV K H k x → ∃ b, x = .ref b
  | .tup xs, x, _, h => by
    obtain ⟨a, _, e, _⟩ := h
    exact ⟨a, e⟩
  | .non, _, h, _ => by cases h
  | .bl _, _, h, _ => by cases h
  | .int _, _, h, _ => by cases h
  | .str _, _, h, _ => by cases h
  | .ref _, _, h, _ => by cases h
  | .lst _, _, h, _ => by cases h
theorem DictOf.es_size {P : Program} {w : World} {B : KEnc P w} {es : Array DictEntry} {lvs : List (B.κ × Value)} (h : Pairs B.knd es.toList lvs) : es.size = lvs.length := by
  rw [← Array.length_toList]
  exact h.length
section
variable {X : Cx} {c : LC} {pins : List (Addr × Obj)} {σ : L2.St} {H : Hp} {s : Shared} {S : Sto} {a : Addr} {t : Nat} {kvs : List (Val × Val)} {k v : Val} {x y : V} {u r : Value} {A : Around} {E : Value → Shared → Prop}
theorem dct_in {Q : Value → Shared → Prop} (hu : A.units + 10 < cLine) (I : Inv X pins σ H s) (rd : RD (lay X c) H a kvs t) (ok : kindOk kvs k = true) (rk : RV X.K H k x) (ru : RelV x u)
    (h : ∀ s', Inv X pins σ H s' → Q (.bool (dget kvs k).isSome) s') : wpAny (model X.prog X.w) A (compareOp .In u (.ref a)) Q E s := by
  cases nt : isTup k with
  | false =>
    obtain ⟨es, B, lvs, l, h1, h2, h3, hl, d⟩ := rd.leaf ok nt
    refine wpAny_in_of ((encOf X.prog X.w B).is hl rk ru) h2 (dictOf_of I h1 d).mapOf ?_
    rw [← (leaf_get hl d.rep).isSome]
    exact h _ (I.tok _)
  | true =>
    obtain ⟨es, xs, h1, h2, h3, d⟩ := rd.tup ok nt
    obtain ⟨b, rfl⟩ := isTup_ref nt rk
    cases ru
    refine in_keyed (knd := nestedKind X.prog X.w) (by show A.units + 1 + 8 < cLine; omega) (keyH_of I (kind_mod ok).1 (kind_mod ok).2 rk) h2 ⟨xs, dictH_of I h1 d, rfl⟩ ?_
    rw [← (tup_get (k := k) d.rep).isSome]
    exact h _ (I.tok _)
theorem dct_notIn {Q : Value → Shared → Prop} (hu : A.units + 10 < cLine) (I : Inv X pins σ H s) (rd : RD (lay X c) H a kvs t) (ok : kindOk kvs k = true) (rk : RV X.K H k x) (ru : RelV x u)
    (h : ∀ s', Inv X pins σ H s' → Q (.bool (dget kvs k).isNone) s') : wpAny (model X.prog X.w) A (compareOp .NotIn u (.ref a)) Q E s := by
  have e : ∀ o : Option Val, o.isNone = !o.isSome := fun o => by cases o <;> rfl
  cases nt : isTup k with
  | false =>
    obtain ⟨es, B, lvs, l, h1, h2, h3, hl, d⟩ := rd.leaf ok nt
    refine wpAny_notIn_of ((encOf X.prog X.w B).is hl rk ru) h2 (dictOf_of I h1 d).mapOf ?_
    rw [← (leaf_get hl d.rep).isSome, ← e]
    exact h _ (I.tok _)
  | true =>
    obtain ⟨es, xs, h1, h2, h3, d⟩ := rd.tup ok nt
    obtain ⟨b, rfl⟩ := isTup_ref nt rk
    cases ru
    refine notIn_keyed (knd := nestedKind X.prog X.w) (by show A.units + 1 + 8 < cLine; omega) (keyH_of I (kind_mod ok).1 (kind_mod ok).2 rk) h2 ⟨xs, dictH_of I h1 d, rfl⟩ ?_
    rw [← (tup_get (k := k) d.rep).isSome, ← e]
    exact h _ (I.tok _)
theorem RelD.some_of {K : PySem.W.Frag} {v : Val} {b : Option Value} (h : RelD K H (some v) b) : ∃ w u, b = some w ∧ RV K H v u ∧ RelV u w := by
  cases b with
  | none => exact h.elim
  | some w =>
    obtain ⟨u, h1, h2⟩ := h
    exact ⟨w, u, rfl, h1, h2⟩
theorem RelD.none_of {K : PySem.W.Frag} {b : Option Value} (h : RelD K H none b) : b = none := by
  cases b with
  | none => rfl
  | some w => exact h.elim
theorem dct_getItem {Q : Value → Shared → Prop} (hu : A.units + 10 < cLine) (I : Inv X pins σ H s) (rd : RD (lay X c) H a kvs t) (ok : kindOk kvs k = true) (rk : RV X.K H k x) (ru : RelV x u) (e : dget kvs k = some v)
    (h : ∀ s' w z, Inv X pins σ H s' → RV X.K H v w → RelV w z → Q z s') : wpAny (model X.prog X.w) A (getItem (.ref a) u) Q E s := by
  cases nt : isTup k with
  | false =>
    obtain ⟨es, B, lvs, l, h1, h2, h3, hl, d⟩ := rd.leaf ok nt
    have q := leaf_get hl d.rep
    rw [e] at q
    obtain ⟨z, w, e2, rw', rz⟩ := q.some_of
    exact wpAny_getItem_of ((encOf X.prog X.w B).is hl rk ru) (dictOf_of I h1 d).mapOf e2 (h _ w z (I.tok _) rw' rz)
  | true =>
    obtain ⟨es, xs, h1, h2, h3, d⟩ := rd.tup ok nt
    obtain ⟨b, rfl⟩ := isTup_ref nt rk
    cases ru
    have q := tup_get (k := k) d.rep
    rw [e] at q
    obtain ⟨z, w, e2, rw', rz⟩ := q.some_of
    exact getItem_keyed (knd := nestedKind X.prog X.w) (by show A.units + 1 + 8 < cLine; omega) (keyH_of I (kind_mod ok).1 (kind_mod ok).2 rk) ⟨xs, dictH_of I h1 d, rfl⟩ e2 (h _ w z (I.tok _) rw' rz)
theorem dct_getD {Q : Value → Shared → Prop} (hu : A.units + 10 < cLine) (I : Inv X pins σ H s) (rd : RD (lay X c) H a kvs t) (ok : kindOk kvs k = true) (rk : RV X.K H k x) (ru : RelV x u) (rv : RV X.K H v y) (rr : RelV y r)
    (h : ∀ s' w z, Inv X pins σ H s' → RV X.K H ((dget kvs k).getD v) w → RelV w z → Q z s') : wpAny (model X.prog X.w) A (call (.builtin "dict.get") [.ref a, u, r]) Q E s := by
  cases nt : isTup k with
  | false =>
    obtain ⟨es, B, lvs, l, h1, h2, h3, hl, d⟩ := rd.leaf ok nt
    have q := leaf_get hl d.rep
    have dd := dictOf_of I h1 d
    refine call_meetsIn PySem.F.slot_dict_get dd.typeIs PySem.F.entry_dict_get (PySem.F.args_dict_get_3 _ _ _) (meets_dict_get_default (encOf X.prog X.w B).knd a ((encOf X.prog X.w B).is hl rk ru) h2 r) ⟨_, dd.mapOf, ?_⟩
    cases e : dget kvs k with
    | none =>
      rw [e] at q h
      rw [q.none_of]
      exact h _ y r (I.tok _) rv rr
    | some v' =>
      rw [e] at q h
      obtain ⟨z, w, e2, rw', rz⟩ := q.some_of
      rw [e2]
      exact h _ w z (I.tok _) rw' rz
  | true =>
    obtain ⟨es, xs, h1, h2, h3, d⟩ := rd.tup ok nt
    obtain ⟨b, rfl⟩ := isTup_ref nt rk
    cases ru
    have q := tup_get (k := k) d.rep
    refine getOr_keyed (knd := nestedKind X.prog X.w) (by show A.units + 1 + 8 < cLine; omega) (keyH_of I (kind_mod ok).1 (kind_mod ok).2 rk) h2 ⟨xs, dictH_of I h1 d, rfl⟩ ?_
    cases e : dget kvs k with
    | none =>
      rw [e] at q h
      rw [q.none_of]
      exact h _ y r (I.tok _) rv rr
    | some v' =>
      rw [e] at q h
      obtain ⟨z, w, e2, rw', rz⟩ := q.some_of
      rw [e2]
      exact h _ w z (I.tok _) rw' rz
/-- what is tracked behind a store -/
theorem leaf_new {L : Lay} {B : Bool} {es : Array DictEntry} {lvs' : List ((encOf L.P L.w B).κ × Value)} {kvs' : List (Val × Val)} {es' : Array DictEntry} {t' : Nat} (h1 : H a = some (dctO a es t)) (h2 : (a == sysModules) = false) (hz : kvs'.length ≤ sizeLine) (k1 : KeysOf (encOf L.P L.w B).knd es') (p1 : Pairs (encOf L.P L.w B).knd es'.toList lvs') (n1 : (lvs'.map (·.1)).Nodup)
    (rep : Paired (fun (p : Val × Val) (q : (encOf L.P L.w B).κ × Value) => (encOf L.P L.w B).enc p.1 = some q.1 ∧ ∃ u, RV L.K H p.2 u ∧ RelV u q.2) kvs' lvs') : RD L (upd H a (dctO a es' t')) a kvs' t' :=
  ⟨es', upd_same, h2, hz, by rw [DictOf.es_size p1]; exact (Paired.length rep).symm, .inl ⟨B, lvs', (LeafD.mono (Tp.write h1 notTup_dct.1 notTup_dct.2) ⟨k1, p1, n1, rep⟩)⟩⟩
theorem tup_new {L : Lay} {es : Array DictEntry} {xs' : List (NestedKey × Addr × Value)} {kvs' : List (Val × Val)} {es' : Array DictEntry} {t' : Nat} (h1 : H a = some (dctO a es t)) (h2 : (a == sysModules) = false) (hz : kvs'.length ≤ sizeLine)
    (e1 : es'.toList = xs'.map (entryOfKey (nestedKind L.P L.w))) (n1 : (xs'.map (·.1)).Nodup) (rep : Paired (TupR L H) kvs' xs') : RD L (upd H a (dctO a es' t')) a kvs' t' :=
  ⟨es', upd_same, h2, hz, by rw [← Array.length_toList, e1, List.length_map]; exact (Paired.length rep).symm, .inr ⟨xs', (TupD.mono (Tp.write h1 notTup_dct.1 notTup_dct.2) ⟨e1, n1, rep⟩)⟩⟩
theorem dct_set {Q : Unit → Shared → Prop} (hu : A.units + 10 < cLine) (I : Inv X pins σ H s) (rs : RS (lay X c) H S) (hs : S a = some (.dct kvs t)) (ok : kindOk kvs k = true) (rk : RV X.K H k x) (ru : RelV x u) (rv : RV X.K H v y) (rr : RelV y r) (hz : kvs.length < line)
    (h : ∀ s' H' t', Inv X pins σ H' s' → Stp (lay X c) H S H' (up S a (.dct (dput kvs k v) t')) → RS (lay X c) H' (up S a (.dct (dput kvs k v) t')) → Q () s') : wpAny (model X.prog X.w) A (setItem (.ref a) u r) Q E s := by
  have rd : RD (lay X c) H a kvs t := rs a _ hs
  have hl : (dput kvs k v).length ≤ sizeLine := by
    have := dput_length k v kvs
    rw [line_eq] at hz
    omega
  cases nt : isTup k with
  | false =>
    obtain ⟨es, B, lvs, l, h1, h2, h3, hk, d⟩ := rd.leaf ok nt
    have dd := dictOf_of I h1 d
    refine wpAny_setItem_pairs (hsz := by rw [← Paired.length d.rep]; exact h3) ((encOf X.prog X.w B).is hk rk ru) dd fun h' dd' sb => ?_
    obtain ⟨o, es', t', e1, e2, e3, e4, e5, e6⟩ := dd'
    have J := dct_write (t' := t') (tk := s.toks + 1) I h1 sb ⟨o, e1, e2, e3⟩
    have tp : Tp X.K H (upd H a (dctO a es' t')) := Tp.write h1 notTup_dct.1 notTup_dct.2
    exact h _ _ t' J (Stp.write h1 notTup_dct.1 notTup_dct.2 hs) (RS.upd rs tp (leaf_new (L := lay X c) (B := B) h1 h2 hl e4 e5 e6 (leaf_put hk rv rr d.nd d.rep)))
  | true =>
    obtain ⟨es, xs, h1, h2, h3, d⟩ := rd.tup ok nt
    obtain ⟨b, rfl⟩ := isTup_ref nt rk
    cases ru
    refine wpAny_setItem_heap (knd := nestedKind X.prog X.w) (hsz := by rw [← Paired.length d.rep]; exact h3) (by show A.units + 1 + 8 < cLine; omega) (keyH_of I (kind_mod ok).1 (kind_mod ok).2 rk) (dictH_of I h1 d) fun h' dd' sb => ?_
    obtain ⟨o, es', t', e1, e2, e3, e4, e5, e6⟩ := dd'
    have J := dct_write (t' := t') (tk := s.toks + (nestedKind X.prog X.w).draws k.nk) I h1 sb ⟨o, e1, e2, e3⟩
    have tp : Tp X.K H (upd H a (dctO a es' t')) := Tp.write h1 notTup_dct.1 notTup_dct.2
    exact h _ _ t' J (Stp.write h1 notTup_dct.1 notTup_dct.2 hs) (RS.upd rs tp (tup_new (L := lay X c) h1 h2 hl e4 e6 (tup_put nt (kind_mod ok).1 (kind_mod ok).2 rk rv rr d.nd d.rep)))
theorem dct_len {Q : Value → Shared → Prop} (I : Inv X pins σ H s) (rd : RD (lay X c) H a kvs t) (h : ∀ tk s', Inv X pins σ H s' → Q (.int kvs.length tk) s') : wpAny (model X.prog X.w) A (call (.builtin "len") [.ref a]) Q E s := by
  obtain ⟨es, h1, h2, h3, h4, h5⟩ := rd
  have z := raw_of I h1
  have hl : (kvs.length : Int) < 2 ^ 63 := by rw [sizeLine_eq] at h3; omega
  have h' : ∀ tk s', Inv X pins σ H s' → Q (.int es.size tk) s' := by rw [h4]; exact h
  exact PyProof.Rows.call_len_slot (n := es.size) z.typeIs F.slot_dict_len (fun Q' hq => call_meetsIn F.slot_dict_len z.typeIs F.entry_dict_len (F.args_dict_len_1 _) (meets_dict_len_raw a h2) ⟨es, t, z, hq⟩) (by omega) (by omega) (h' _ _ (I.tok _))
end
end DL

set_option Elab.async false
set_option linter.all false
set_option maxRecDepth 100000
set_option maxHeartbeats 1000000
/-! Own layer, part 3c: comparisons, subscripts, built-ins by values. -/
namespace DL
open PySem PySem.Spec PyProof.Rows L2

mutual
theorem dp_of {K : PySem.W.Frag} {H : Hp} : ∀ (v : Val) (u : V), v.dat = true → RV K H v u → Dp K H u v.py
  | .non, u, _, h => by cases h; exact .non
  | .bl b, u, _, h => by cases h; exact .bl b
  | .int i, u, _, h => by cases h; exact .int i
  | .str x, u, _, h => by cases h; exact .str x
  | .tup xs, u, d, h => by
    obtain ⟨a, vs, rfl, hq, hr⟩ := h
    exact .tup hq (dps_of xs vs d hr)
  | .ref _, _, d, _ => by cases d
  | .lst _, _, d, _ => by cases d
theorem dps_of {K : PySem.W.Frag} {H : Hp} : ∀ (vs : List Val) (us : List V), Val.dats vs = true → RVs K H vs us → DpAll K H us (Val.pys vs)
  | [], us, _, h => by cases h; exact .nil
  | v :: vs, us, d, h => by
    obtain ⟨u, q, rfl, h1, h2⟩ := h
    have d' : v.dat = true ∧ Val.dats vs = true := by simpa [Val.dats] using d
    exact .cons (dp_of v u d'.1 h1) (dps_of vs q d'.2 h2)
end
mutual
theorem see_dp {L : Lay} {H : Hp} {S : Sto} (rs : RS L H S) : ∀ (n : Nat) (v : Val) (w : Val) (u : V), Sto.see S n v = some w → RV L.K H v u → Dp L.K H u w.py
  | 0, v, w, u, e, h => by
    unfold Sto.see at e
    split at e
    · rename_i d
      cases e
      exact dp_of v u d h
    · cases e
  | n + 1, v, w, u, e, h => by
    unfold Sto.see at e
    split at e
    · rename_i d
      cases e
      exact dp_of v u d h
    · cases v with
      | ref a =>
        cases h
        simp only at e
        split at e
        · rename_i xs q
          cases z : Sto.sees S n xs with
          | none => rw [z] at e; cases e
          | some ys =>
            rw [z] at e
            have e' : Val.lst ys = w := Option.some.inj e
            subst e'
            obtain ⟨vs, h1, h2⟩ := rs a _ q
            exact .lst (SqL.of h1) (sees_dp rs n xs ys vs z h2)
        · cases e
      | lst xs =>
        simp only at e
        obtain ⟨a, vs, rfl, h1, h2⟩ := h
        cases z : Sto.sees S n xs with
        | none => rw [z] at e; cases e
        | some ys =>
          rw [z] at e
          have e' : Val.lst ys = w := Option.some.inj e
          subst e'
          exact .lst h1.sq (sees_dp rs n xs ys vs z h2)
      | _ => cases e
theorem sees_dp {L : Lay} {H : Hp} {S : Sto} (rs : RS L H S) : ∀ (n : Nat) (vs : List Val) (ws : List Val) (us : List V), Sto.sees S n vs = some ws → RVs L.K H vs us → DpAll L.K H us (Val.pys ws)
  | n, [], ws, us, e, h => by
    unfold Sto.sees at e
    cases e
    cases h
    exact .nil
  | n, v :: vs, ws, us, e, h => by
    unfold Sto.sees at e
    obtain ⟨u, q, rfl, h1, h2⟩ := h
    cases z : Sto.see S n v with
    | none => rw [z] at e; cases e
    | some y =>
      cases z2 : Sto.sees S n vs with
      | none => rw [z, z2] at e; cases e
      | some ys =>
        rw [z, z2] at e
        have e' : y :: ys = ws := Option.some.inj e
        subst e'
        exact .cons (see_dp rs n v y u z h1) (sees_dp rs n vs ys q z2 h2)
end
mutual
theorem py_plain : ∀ v : Val, v.py.plain = true
  | .non => rfl
  | .bl _ => rfl
  | .int _ => rfl
  | .str _ => rfl
  | .tup xs => pys_plain xs
  | .lst xs => pys_plain xs
  | .ref _ => rfl
theorem pys_plain : ∀ vs : List Val, PyData.plainAll (Val.pys vs) = true
  | [] => rfl
  | v :: vs => by
    show (v.py.plain && PyData.plainAll (Val.pys vs)) = true
    rw [py_plain v, pys_plain vs]
    rfl
end
mutual
theorem py_depth : ∀ v : Val, v.py.depth = v.dep
  | .non => rfl
  | .bl _ => rfl
  | .int _ => rfl
  | .str _ => rfl
  | .tup xs => congrArg (· + 1) (pys_depth xs)
  | .lst xs => congrArg (· + 1) (pys_depth xs)
  | .ref _ => rfl
theorem pys_depth : ∀ vs : List Val, PyData.depthAll (Val.pys vs) = Val.deps vs
  | [] => rfl
  | v :: vs => by
    show max v.py.depth (PyData.depthAll (Val.pys vs)) = max v.dep (Val.deps vs)
    rw [py_depth v, pys_depth vs]
end
theorem withO_some {α : Type} {o : Option α} {k : α → Prop} (h : withO o k) : ∃ a, o = some a ∧ k a := by
  cases o with
  | none => exact h.elim
  | some a => exact ⟨a, rfl, h⟩
theorem withB_some {v : Val} {k : Bool → Prop} (h : withB v k) : ∃ b, v = .bl b ∧ k b := by
  cases v with
  | bl b => exact ⟨b, rfl, h⟩
  | _ => exact h.elim
theorem veqAny_any (x : Val) : ∀ ys : List Val, veqAny x ys = (Val.pys ys).any fun y => PyData.eqv y x.py
  | [] => rfl
  | y :: ys => by
    show (y.veq x || veqAny x ys) = (PyData.eqv y.py x.py || (Val.pys ys).any fun y => PyData.eqv y x.py)
    rw [veqAny_any x ys]
    rfl

section
variable {X : Cx} {c : LC}
theorem o_eq (hu : X.A.units + 120 < cLine) : OpR X (compareOp .Eq) (rv2 (lay X c) (wCmp .eq)) := by
  intro pins s σ H x y v u Q I rx ry h
  obtain ⟨v1, v2, S, Qd, h1, h2, hs, hf, k⟩ := h
  obtain ⟨a, ea, hf⟩ := withO_some hf
  obtain ⟨b, eb, hz, hf⟩ := withO_some hf
  obtain ⟨as, ra⟩ := Dp.reads I _ _ _ (see_dp hs 3 v1 a x ea h1) rx
  obtain ⟨bs, rb⟩ := Dp.reads I _ _ _ (see_dp hs 3 v2 b y eb h2) ry
  exact SeqAt.eq_plain ra rb (py_plain a) (py_plain b) (by rw [py_depth, py_depth]; omega) ⟨.bl _, H, I, rfl, k.here hf hs rfl⟩
theorem o_ne (hu : X.A.units + 120 < cLine) : OpR X (compareOp .NotEq) (rv2 (lay X c) (wCmp .ne)) := by
  intro pins s σ H x y v u Q I rx ry h
  obtain ⟨v1, v2, S, Qd, h1, h2, hs, hf, k⟩ := h
  obtain ⟨a, ea, hf⟩ := withO_some hf
  obtain ⟨b, eb, hz, hf⟩ := withO_some hf
  obtain ⟨as, ra⟩ := Dp.reads I _ _ _ (see_dp hs 3 v1 a x ea h1) rx
  obtain ⟨bs, rb⟩ := Dp.reads I _ _ _ (see_dp hs 3 v2 b y eb h2) ry
  exact SeqAt.ne_plain ra rb (py_plain a) (py_plain b) (by rw [py_depth, py_depth]; omega) ⟨.bl _, H, I, rfl, k.here hf hs rfl⟩
theorem o_lt (hu : X.A.units + 120 < cLine) : OpR X (compareOp .Lt) (rv2 (lay X c) (wCmp .lt)) := by
  intro pins s σ H x y v u Q I rx ry h
  obtain ⟨v1, v2, S, Qd, h1, h2, hs, hf, k⟩ := h
  cases v1 with
  | int i =>
    cases v2 with
    | int j =>
      cases h1; cases h2
      exact op_lt pins s σ H _ _ v u Q I rx ry ⟨i, j, rfl, rfl, k.here hf hs rfl⟩
    | _ => exact hf.elim
  | tup xs =>
    cases v2 with
    | tup ys =>
      obtain ⟨ns, e1, hf⟩ := withO_some hf
      obtain ⟨ms, e2, hf⟩ := withO_some hf
      obtain ⟨a, us, rfl, ha, ra⟩ := h1
      obtain ⟨b, ws, rfl, hb, rb⟩ := h2
      have q1 := ints_rv e1 ra
      have q2 := ints_rv e2 rb
      subst q1; subst q2
      exact op_ltT (by omega) pins s σ H _ _ v u Q I rx ry ⟨a, b, ns, ms, rfl, rfl, ha, hb, k.here hf hs rfl⟩
    | _ => exact hf.elim
  | _ => exact hf.elim
theorem o_le : OpR X (compareOp .LtE) (rv2 (lay X c) (wCmp .le)) := by
  intro pins s σ H x y v u Q I rx ry h
  obtain ⟨v1, v2, S, Qd, h1, h2, hs, hf, k⟩ := h
  cases v1 with
  | int i =>
    cases v2 with
    | int j =>
      cases h1; cases h2
      exact op_le pins s σ H _ _ v u Q I rx ry ⟨i, j, rfl, rfl, k.here hf hs rfl⟩
    | _ => exact hf.elim
  | _ => exact hf.elim
theorem o_gt : OpR X (compareOp .Gt) (rv2 (lay X c) (wCmp .gt)) := by
  intro pins s σ H x y v u Q I rx ry h
  obtain ⟨v1, v2, S, Qd, h1, h2, hs, hf, k⟩ := h
  cases v1 with
  | int i =>
    cases v2 with
    | int j =>
      cases h1; cases h2
      exact op_gt pins s σ H _ _ v u Q I rx ry ⟨i, j, rfl, rfl, k.here hf hs rfl⟩
    | _ => exact hf.elim
  | _ => exact hf.elim
theorem o_ge : OpR X (compareOp .GtE) (rv2 (lay X c) (wCmp .ge)) := by
  intro pins s σ H x y v u Q I rx ry h
  obtain ⟨v1, v2, S, Qd, h1, h2, hs, hf, k⟩ := h
  cases v1 with
  | int i =>
    cases v2 with
    | int j =>
      cases h1; cases h2
      exact op_ge pins s σ H _ _ v u Q I rx ry ⟨i, j, rfl, rfl, k.here hf hs rfl⟩
    | _ => exact hf.elim
  | _ => exact hf.elim
theorem o_in (hu : X.A.units + 120 < cLine) : OpR X (compareOp .In) (rv2 (lay X c) (wCmp .isin)) := by
  intro pins s σ H x y v u Q I rx ry h
  obtain ⟨v1, v2, S, Qd, h1, h2, hs, hf, k⟩ := h
  cases v2 with
  | str z =>
    cases v1 with
    | str w =>
      cases h1; cases h2
      exact op_in_str pins s σ H _ _ v u Q I rx ry ⟨w, z, rfl, rfl, k.here hf hs rfl⟩
    | _ => exact hf.elim
  | tup ys =>
    obtain ⟨d, hz, hf⟩ := hf
    obtain ⟨d1, d2⟩ := Bool.and_eq_true_iff.mp d
    obtain ⟨as, ra⟩ := Dp.reads I _ _ _ (dp_of v1 x d1 h1) rx
    obtain ⟨bs, rb⟩ := Dp.reads I _ _ _ (dp_of (.tup ys) y d2 h2) ry
    refine SeqAt.in_tuple_data rb ra (pys_plain ys) (py_plain v1) (by rw [py_depth]; omega) ⟨.bl _, H, I, rfl, k.here (v := .bl _) ?_ hs rfl⟩
    rw [← veqAny_any]
    exact hf
  | ref a =>
    have e2 : y = .ref a := h2
    subst e2
    cases ry
    cases q : S a with
    | none =>
      simp only [wCmp, q] at hf
    | some o =>
      cases o with
      | lst ys =>
        simp only [wCmp, q] at hf
        obtain ⟨d1, hz, hf⟩ := hf
        obtain ⟨zs, e, hf⟩ := withO_some hf
        obtain ⟨us, hl, hr⟩ := hs a _ q
        obtain ⟨as, ra⟩ := Dp.reads I _ _ _ (dp_of v1 x d1 h1) rx
        obtain ⟨bs, rb⟩ := Dp.reads I (.list (Val.pys zs)) (.ref a) (Value.ref a) (Dp.lst (SqL.of hl) (sees_dp hs 3 ys zs us e hr)) rfl
        refine SeqAt.in_list_data rb ra (pys_plain zs) (py_plain v1) (by rw [py_depth]; omega) ⟨.bl _, H, I, rfl, k.here (v := .bl _) ?_ hs rfl⟩
        rw [← veqAny_any]
        exact hf
      | dct kvs t =>
        simp only [wCmp, q] at hf
        exact dct_in (c := c) (by omega) I (hs a _ q) hf.1 h1 rx fun s' J => ⟨.bl _, H, J, rfl, k.here hf.2 hs rfl⟩
      | ins cc fs => simp only [wCmp, q] at hf
  | _ => exact hf.elim
theorem o_notin (hu : X.A.units + 120 < cLine) : OpR X (compareOp .NotIn) (rv2 (lay X c) (wCmp .notin)) := by
  intro pins s σ H x y v u Q I rx ry h
  obtain ⟨v1, v2, S, Qd, h1, h2, hs, hf, k⟩ := h
  cases v2 with
  | str z =>
    cases v1 with
    | str w =>
      cases h1; cases h2
      exact op_notIn_str pins s σ H _ _ v u Q I rx ry ⟨w, z, rfl, rfl, by rw [Bool.not_not]; exact k.here hf hs rfl⟩
    | _ => exact hf.elim
  | tup ys =>
    obtain ⟨d, hz, hf⟩ := hf
    obtain ⟨d1, d2⟩ := Bool.and_eq_true_iff.mp d
    obtain ⟨as, ra⟩ := Dp.reads I _ _ _ (dp_of v1 x d1 h1) rx
    obtain ⟨bs, rb⟩ := Dp.reads I _ _ _ (dp_of (.tup ys) y d2 h2) ry
    refine SeqAt.notIn_tuple_data rb ra (pys_plain ys) (py_plain v1) (by rw [py_depth]; omega) ⟨.bl _, H, I, rfl, k.here (v := .bl _) ?_ hs rfl⟩
    rw [← veqAny_any]
    exact hf
  | ref a =>
    have e2 : y = .ref a := h2
    subst e2
    cases ry
    cases q : S a with
    | none =>
      simp only [wCmp, q] at hf
    | some o =>
      cases o with
      | lst ys =>
        simp only [wCmp, q] at hf
        obtain ⟨d1, hz, hf⟩ := hf
        obtain ⟨zs, e, hf⟩ := withO_some hf
        obtain ⟨us, hl, hr⟩ := hs a _ q
        obtain ⟨as, ra⟩ := Dp.reads I _ _ _ (dp_of v1 x d1 h1) rx
        obtain ⟨bs, rb⟩ := Dp.reads I (.list (Val.pys zs)) (.ref a) (Value.ref a) (Dp.lst (SqL.of hl) (sees_dp hs 3 ys zs us e hr)) rfl
        refine SeqAt.notIn_list_data rb ra (pys_plain zs) (py_plain v1) (by rw [py_depth]; omega) ⟨.bl _, H, I, rfl, k.here (v := .bl _) ?_ hs rfl⟩
        rw [← veqAny_any]
        exact hf
      | dct kvs t =>
        simp only [wCmp, q] at hf
        exact dct_notIn (c := c) (by omega) I (hs a _ q) hf.1 h1 rx fun s' J => ⟨.bl _, H, J, rfl, k.here hf.2 hs rfl⟩
      | ins cc fs => simp only [wCmp, q] at hf
  | _ => exact hf.elim

/-! ### subscripts -/
theorem atI_rv {K : PySem.W.Frag} {H : Hp} {xs : List Val} {us : List V} {i : Int} {v : Val} (r : RVs K H xs us) (e : atI xs i = some v) : ∃ u, atI us i = some u ∧ RV K H v u := by
  unfold atI at e ⊢
  rw [← r.length]
  cases q : ixN xs.length i with
  | none => rw [q] at e; cases e
  | some j =>
    rw [q] at e
    exact r.get e
theorem i_sub (hu : X.A.units + 120 < cLine) : IxR X (rv2 (lay X c) wSub) := by
  intro value slice pins s σ H x y v u Q I rx ry h sub
  obtain ⟨v1, v2, S, Qd, h1, h2, hs, hf, k⟩ := h
  cases v1 with
  | lst xs =>
    cases v2 with
    | int i =>
      obtain ⟨w, e, hf⟩ := withO_some hf
      obtain ⟨a, us, rfl, ha, ra⟩ := h1
      cases h2
      obtain ⟨z, e2, rz⟩ := atI_rv ra e
      exact ix_list value slice pins s σ H _ _ v u Q I rx ry ⟨a, us, i, z, rfl, rfl, ha.sq, e2, k.here hf hs rz⟩ sub
    | _ => exact hf.elim
  | tup xs =>
    cases v2 with
    | int i =>
      obtain ⟨w, e, hf⟩ := withO_some hf
      obtain ⟨a, us, rfl, ha, ra⟩ := h1
      cases h2
      obtain ⟨z, e2, rz⟩ := atI_rv ra e
      exact ix_tup value slice pins s σ H _ _ v u Q I rx ry ⟨a, us, i, z, rfl, rfl, ha, e2, k.here hf hs rz⟩ sub
    | _ => exact hf.elim
  | str z =>
    cases v2 with
    | int i =>
      obtain ⟨hz, hf⟩ := hf
      obtain ⟨w, e, hf⟩ := withO_some hf
      cases h1; cases h2
      exact ix_str value slice pins s σ H _ _ v u Q I rx ry ⟨z, i, w, rfl, rfl, by rw [← line_eq]; exact hz, e, k.here hf hs rfl⟩ sub
    | _ => exact hf.elim
  | ref a =>
    have e1 : x = .ref a := h1
    subst e1
    cases q : S a with
    | none => simp only [wSub, q] at hf
    | some o =>
      cases o with
      | lst xs =>
        cases v2 with
        | int i =>
          simp only [wSub, q] at hf
          obtain ⟨w, e, hf⟩ := withO_some hf
          obtain ⟨us, hl, hr⟩ := hs a _ q
          cases h2
          obtain ⟨z, e2, rz⟩ := atI_rv hr e
          exact ix_list value slice pins s σ H _ _ v u Q I rx ry ⟨a, us, i, z, rfl, rfl, SqL.of hl, e2, k.here hf hs rz⟩ sub
        | _ => simp only [wSub, q] at hf
      | dct kvs t =>
        simp only [wSub, q] at hf
        obtain ⟨ok, hf⟩ := hf
        obtain ⟨w, e, hf⟩ := withO_some hf
        cases rx
        obtain ⟨es, z1, _⟩ := id (hs a _ q)
        exact tail_any (ops := [.ref a, u]) (raw_of I z1).typeIs PySem.F.slot_dict_getitem.lookup (dct_getItem (c := c) (by omega) I (hs a _ q) ok h2 ry e fun s' w' z' J rw' rz => ⟨w', H, J, rz, k.here hf hs rw'⟩) sub
      | ins cc fs => simp only [wSub, q] at hf
  | _ => exact hf.elim
end
end DL

set_option Elab.async false
set_option linter.all false
set_option maxRecDepth 100000
set_option maxHeartbeats 1000000
/-! Own layer, part 3d: slices, factors, built-ins, methods of lists, isinstance. -/
namespace DL
open PySem PySem.Spec PyProof.Rows L2

theorem cut_rv {K : PySem.W.Frag} {H : Hp} {xs : List Val} {us : List V} {lo hi : Option Int} (r : RVs K H xs us) : RVs K H (cutL xs lo hi) (cutV us lo hi) := by
  unfold cutL cutV
  rw [r.length]
  exact RVs.take _ (RVs.drop _ r)
def rvsl (L : Lay) : V → Option Int → Option Int → Hp → VK → Prop := fun x lo hi H Q => ∃ v S Qd, RV L.K H v x ∧ RS L H S ∧ wSlice v lo hi S Qd ∧ Cont L H S Qd Q
section
variable {X : Cx} {c : LC}
theorem s_slice : SlR X (rvsl (lay X c)) := by
  intro pins s σ H x v vl vu lo hi sl Q I rx hsl pl pu h
  obtain ⟨v1, S, Qd, h1, hs, hf, k⟩ := h
  cases v1 with
  | tup xs =>
    obtain ⟨a, us, rfl, ha, ra⟩ := h1
    refine sl_tupA pins s σ H _ v vl vu lo hi sl Q I rx hsl pl pu ⟨a, us, rfl, ha, fun e => ?_, fun _ p n => k.tup hf hs (cut_rv ra) n⟩
    have e' : cutL xs lo hi = xs := by
      unfold cutL
      rw [ra.length, e.1, e.2]
      simp [← ra.length]
    have hf' : Qd (.tup (cutL xs lo hi)) S := hf
    rw [e'] at hf'
    exact k.here hf' hs ⟨a, us, rfl, ha, ra⟩
  | str z =>
    obtain ⟨hz, hf⟩ := hf
    cases h1
    refine sl_str pins s σ H _ v vl vu lo hi sl Q I rx hsl pl pu ⟨z, rfl, by rw [← line_eq]; exact hz, ?_⟩
    have e : cutS z lo hi = ⟨(cutL z.cps.toList lo hi).toArray⟩ := by
      unfold cutS cutL
      have : z.cps.toList.length = z.length := by simp [Str.length]
      rw [this]
    rw [e]
    exact k.here hf hs rfl
  | ref a =>
    have e1 : x = .ref a := h1
    subst e1
    cases q : S a with
    | none => simp only [wSlice, q] at hf
    | some o =>
      cases o with
      | lst xs =>
        simp only [wSlice, q] at hf
        obtain ⟨us, hl, hr⟩ := hs a _ q
        exact sl_list pins s σ H _ v vl vu lo hi sl Q I rx hsl pl pu ⟨a, us, rfl, SqL.of hl, fun p n => k.lst hf hs (cut_rv hr) n⟩
      | dct kvs t => simp only [wSlice, q] at hf
      | ins cc fs => simp only [wSlice, q] at hf
  | _ => exact hf.elim

/-! ### factors -/
theorem tuple_mul1 (l : Addr) (items : Array Value) (n : Nat) (dd : Option Addr) (sl : Array (Option Value)) (x : Int) (u : Tok) (c0 : (decide (x < -(2 ^ 63)) || decide (x ≥ 2 ^ 63)) = false) (c1 : (items.isEmpty || x == 1) = true) :
    Meets (Builtin.«tuple.__mul__» ⟨[.ref l, .int x u], []⟩) (fun _ R s => s.heap.get? l = some { cls := .type "tuple", dict := dd, data := .seq items n, slots := sl } ∧ R (.ok (.ret (Value.ref l))) s) :=
  .of_wp fun prog w A R s h => by
    obtain ⟨hp, g, d, tk, os⟩ := s
    obtain ⟨hl, h⟩ := h
    have f1 := AutoSeq1.idx_int
    wp_walk using wpAny_loadPart' hl
    repeat (first
      | (refine wpAny_ite_false (decide_eq_false (by rw [c0]; exact Bool.false_ne_true)) ?_; wp_walk using wpAny_loadPart' hl)
      | (refine wpAny_ite_true (decide_eq_true c1) ?_; wp_walk using wpAny_loadPart' hl))
    exact ⟨_, rfl, h⟩
theorem tuple_mul0 (l : Addr) (items : Array Value) (n : Nat) (dd : Option Addr) (sl : Array (Option Value)) (x : Int) (u : Tok) (c0 : (decide (x < -(2 ^ 63)) || decide (x ≥ 2 ^ 63)) = false) (c1 : (items.isEmpty || x == 1) = false) (c2 : (decide (x ≤ 0) || items.isEmpty) = true) :
    Meets (Builtin.«tuple.__mul__» ⟨[.ref l, .int x u], []⟩) (fun _ R s => s.heap.get? l = some { cls := .type "tuple", dict := dd, data := .seq items n, slots := sl } ∧
      R (.ok (.ret (Value.ref s.heap.objs.size))) { s with heap := s.heap.push { cls := Value.type "tuple", data := Data.seq #[] }, toks := s.toks }) :=
  .of_wp fun prog w A R s h => by
    obtain ⟨hp, g, d, tk, os⟩ := s
    obtain ⟨hl, h⟩ := h
    have f1 := AutoSeq1.idx_int
    wp_walk using wpAny_loadPart' hl
    repeat (first
      | (refine wpAny_ite_false (decide_eq_false (by rw [c0]; exact Bool.false_ne_true)) ?_; wp_walk using wpAny_loadPart' hl)
      | (refine wpAny_ite_false (decide_eq_false (by rw [c1]; exact Bool.false_ne_true)) ?_; wp_walk using wpAny_loadPart' hl)
      | (refine wpAny_ite_true (decide_eq_true c2) ?_; wp_walk using wpAny_loadPart' hl))
    exact ⟨_, rfl, h⟩
end
end DL

set_option Elab.async false
set_option linter.all false
set_option maxRecDepth 100000
set_option maxHeartbeats 1000000
/-! Own layer, part 3e: products, built-ins. -/
namespace DL
open PySem PySem.Spec PyProof.Rows L2
section
variable {X : Cx} {c : LC}
theorem rep1 (xs : List Val) : (List.replicate 1 xs).flatten = xs := by simp
theorem o_mul : OpR X (binaryOp .Mult) (rv2 (lay X c) (wBin .mul)) := by
  intro pins s σ H x y v u Q I rx ry h
  obtain ⟨v1, v2, S, Qd, h1, h2, hs, hf, k⟩ := h
  cases v1 with
  | int i =>
    cases v2 with
    | int j =>
      cases h1; cases h2
      obtain ⟨ok, hf⟩ := hf
      rcases ok with ok | ok
      · exact op_mul pins s σ H _ _ v u Q I rx ry ⟨i, j, rfl, rfl, ok, k.here hf hs rfl⟩
      · exact op_mulW pins s σ H _ _ v u Q I rx ry ⟨i, j, rfl, rfl, ok, k.here hf hs rfl⟩
    | _ => exact hf.elim
  | tup xs =>
    cases v2 with
    | int n =>
      obtain ⟨⟨ne, n0, n1, n2⟩, hf⟩ := hf
      obtain ⟨a, us, rfl, ha, ra⟩ := h1
      cases h2
      have hne : us ≠ [] := fun e => ne (by subst e; exact List.eq_nil_of_length_eq_zero ra.length)
      by_cases hn : 2 ≤ n
      · exact op_repT pins s σ H _ _ v u Q I rx ry ⟨a, n, us, rfl, rfl, ha, hne, hn, n1, by rw [← ra.length]; exact n2, fun p np => k.tup hf hs (RVs.rep ra _) np⟩
      · cases rx
        obtain ⟨t, rfl⟩ := ry
        obtain ⟨its, r, ⟨⟨cls, dd, data, sl⟩, ho, hc, nn, hd⟩, hsz⟩ := I.tuple ha
        simp only at hc hd
        subst hc hd
        have hni : its ≠ [] := fun e => hne (by subst e; cases r; rfl)
        have hi : its.toArray.isEmpty = false := by
          cases its with
          | nil => exact absurd rfl hni
          | cons a b => rfl
        have c0 : (decide (n < -(2 ^ 63)) || decide (n ≥ 2 ^ 63)) = false := by
          rw [decide_eq_false (by omega), decide_eq_false (by omega)] <;> rfl
        by_cases e1 : n = 1
        · subst e1
          refine wpAny_binaryOp_repeat_ref (T := "tuple") (U := "int") (by decide) ⟨_, ho, rfl⟩ (fun s' => typeIs_int s' 1 t) noFill_tuple_mul F.fills_int_mul F.slot_int_rmul repeat_tuple F.slot_int_index.lookup
            (call_meets F.slot_int_rmul (typeIs_int s 1 t) F.entry_int_rmul (F.args_int_rmul_2 _ _) (int_rmul_tuple 1 t a its.toArray nn dd sl)
              ⟨ho, rfl, ⟨_, ho, rfl⟩, call_meets F.slot_tuple_mul ⟨_, ho, rfl⟩ F.entry_tuple_mul (F.args_tuple_mul_2 _ _) (tuple_mul1 a its.toArray nn dd sl 1 t c0 (by rw [hi]; rfl)) ⟨ho, ?_⟩⟩)
          have hf' : Qd (.tup (List.replicate 1 xs).flatten) S := hf
          rw [rep1] at hf'
          exact ⟨.ref a, H, I, rfl, k.here hf' hs ⟨a, us, rfl, ha, ra⟩⟩
        · have e0 : n = 0 := by omega
          subst e0
          refine wpAny_binaryOp_repeat_ref (T := "tuple") (U := "int") (by decide) ⟨_, ho, rfl⟩ (fun s' => typeIs_int s' 0 t) noFill_tuple_mul F.fills_int_mul F.slot_int_rmul repeat_tuple F.slot_int_index.lookup
            (call_meets F.slot_int_rmul (typeIs_int s 0 t) F.entry_int_rmul (F.args_int_rmul_2 _ _) (int_rmul_tuple 0 t a its.toArray nn dd sl)
              ⟨ho, rfl, ⟨_, ho, rfl⟩, call_meets F.slot_tuple_mul ⟨_, ho, rfl⟩ F.entry_tuple_mul (F.args_tuple_mul_2 _ _) (tuple_mul0 a its.toArray nn dd sl 0 t c0 (by rw [hi]; rfl) (by rfl)) ⟨ho, ?_⟩⟩)
          refine ⟨.ref s.heap.objs.size, _, I.laid (t' := s.toks) (o := .tup []) (fun b ob q => Heap.get?_push_of_some _ q) (Nat.le_refl _) ?_, rfl, k.tup (xs := []) hf hs rfl (I.hok.fresh (Nat.le_refl _))⟩
          exact ⟨by rw [sizeLine_eq]; exact Nat.zero_le _, [], .nil, IsTup.new _ _⟩
    | _ => exact hf.elim
  | ref a =>
    cases v2 with
    | int n =>
      have e1 : x = .ref a := h1
      subst e1
      cases h2
      cases q : S a with
      | none => simp only [wBin, q] at hf
      | some o =>
        cases o with
        | lst xs =>
          simp only [wBin, q] at hf
          obtain ⟨⟨n0, n1, n2⟩, hf⟩ := hf
          obtain ⟨us, hl, hr⟩ := hs a _ q
          exact op_rep pins s σ H _ _ v u Q I rx ry ⟨a, n, us, rfl, rfl, hl, by omega, by omega, by rw [← line_eq, ← hr.length]; exact n2, fun p np => k.lst hf hs (RVs.rep hr _) np⟩
        | dct kvs t => simp only [wBin, q] at hf
        | ins cc fs => simp only [wBin, q] at hf
    | _ => exact hf.elim
  | _ => exact hf.elim

/-- the built-in that is called -/
def bf : Bt → Value
  | .len => .builtin "len" | .all => .builtin "all" | .any => .builtin "any" | .tuple => .type "tuple" | .list => .type "list" | .dict => .type "dict" | .sorted => .builtin "sorted"
  | .int => .type "int" | .max1 => .builtin "max" | .max2 => .builtin "max" | .min1 => .builtin "min" | .min2 => .builtin "min" | .sum => .builtin "sum" | .str => .type "str"
/-- a list's content, told without the list -/
def rvl (L : Lay) (b : Bt) : List V → Hp → VK → Prop := fun xs H Q => ∃ (a : Addr) (us : List V) (vs : List Val) (S : Sto) (Qd : KV), xs = [.ref a] ∧ H a = some (.lst us) ∧ RVs L.K H vs us ∧ RS L H S ∧ wBtL b vs S Qd ∧ Cont L H S Qd Q
theorem b_list (hc : X.calm = true) : ∀ b : Bt, b ≠ .dict → CallR X (bf b) (rvl (lay X c) b)
  | .len, _ => by
    intro pins s σ H xs us Q I r h
    obtain ⟨a, ws, vs, S, Qd, rfl, hl, rv, hs, hf, k⟩ := h
    exact call_len_seq pins s σ H _ us Q I r ⟨a, ws, rfl, .inl (SqL.of hl), k.here (v := .int ws.length) (by rw [← rv.length]; exact hf) hs rfl⟩
  | .all, _ => by
    intro pins s σ H xs us Q I r h
    obtain ⟨a, ws, vs, S, Qd, rfl, hl, rv, hs, hf, k⟩ := h
    obtain ⟨bs, e, hf⟩ := withO_some hf
    have q := bls_rv e rv
    subst q
    exact cr_all hc pins s σ H _ us Q I r ⟨a, bs, rfl, SqL.of hl, k.here hf hs rfl⟩
  | .any, _ => by
    intro pins s σ H xs us Q I r h
    obtain ⟨a, ws, vs, S, Qd, rfl, hl, rv, hs, hf, k⟩ := h
    obtain ⟨bs, e, hf⟩ := withO_some hf
    have q := bls_rv e rv
    subst q
    exact cr_any hc pins s σ H _ us Q I r ⟨a, bs, rfl, SqL.of hl, k.here hf hs rfl⟩
  | .tuple, _ => by
    intro pins s σ H xs us Q I r h
    obtain ⟨a, ws, vs, S, Qd, rfl, hl, rv, hs, hf, k⟩ := h
    exact call_tuple_of pins s σ H _ us Q I r ⟨a, ws, rfl, .inl ⟨SqL.of hl, fun p n => k.tup hf hs rv n⟩⟩
  | .list, _ => by
    intro pins s σ H xs us Q I r h
    obtain ⟨a, ws, vs, S, Qd, rfl, hl, rv, hs, hf, k⟩ := h
    exact call_list_of pins s σ H _ us Q I r ⟨a, ws, rfl, .inl (SqL.of hl), fun p n => k.lst hf hs rv n⟩
  | .sum, _ => by
    intro pins s σ H xs us Q I r h
    obtain ⟨a, ws, vs, S, Qd, rfl, hl, rv, hs, hf, k⟩ := h
    obtain ⟨bs, e, hf⟩ := withO_some hf
    have q := ints_rv e rv
    subst q
    exact cr_sum hc pins s σ H _ us Q I r ⟨a, bs, rfl, SqL.of hl, k.here hf hs rfl⟩
  | .max1, _ => by
    intro pins s σ H xs us Q I r h
    obtain ⟨a, ws, vs, S, Qd, rfl, hl, rv, hs, hf, k⟩ := h
    obtain ⟨bs, e, h0, hf⟩ := withO_some hf
    have q := ints_rv e rv
    subst q
    exact cr_max hc pins s σ H _ us Q I r ⟨a, bs, rfl, SqL.of hl, h0, fun m h1 h2 => k.here (hf m h1 h2) hs rfl⟩
  | .min1, _ => by
    intro pins s σ H xs us Q I r h
    obtain ⟨a, ws, vs, S, Qd, rfl, hl, rv, hs, hf, k⟩ := h
    obtain ⟨bs, e, h0, hf⟩ := withO_some hf
    have q := ints_rv e rv
    subst q
    exact cr_min hc pins s σ H _ us Q I r ⟨a, bs, rfl, SqL.of hl, h0, fun m h1 h2 => k.here (hf m h1 h2) hs rfl⟩
  | .sorted, _ => by
    intro pins s σ H xs us Q I r h
    obtain ⟨a, ws, vs, S, Qd, rfl, hl, rv, hs, hf, k⟩ := h
    rcases hf with ⟨ns, e, hf⟩ | ⟨ss, e, hz, hf⟩
    · have q := ints_rv e rv
      subst q
      exact cr_sortedI pins s σ H _ us Q I r ⟨a, ns, rfl, SqL.of hl, fun ms p h1 h2 n => k.lst (fun p hp => hf p ms h1 h2 hp) hs (rv_ints ms) n⟩
    · have q := strs_rv e rv
      subst q
      exact cr_sortedS pins s σ H _ us Q I r ⟨a, ss, rfl, SqL.of hl, hz, fun ms p h1 h2 n => k.lst (fun p hp => hf p ms h1 h2 hp) hs (rv_strs ms) n⟩
  | .dict, h => absurd rfl h
  | .int, _ => fun pins s σ H xs us Q I r h => by obtain ⟨a, ws, vs, S, Qd, _, _, _, _, hf, _⟩ := h; exact hf.elim
  | .max2, _ => fun pins s σ H xs us Q I r h => by obtain ⟨a, ws, vs, S, Qd, _, _, _, _, hf, _⟩ := h; exact hf.elim
  | .min2, _ => fun pins s σ H xs us Q I r h => by obtain ⟨a, ws, vs, S, Qd, _, _, _, _, hf, _⟩ := h; exact hf.elim
  | .str, _ => fun pins s σ H xs us Q I r h => by obtain ⟨a, ws, vs, S, Qd, _, _, _, _, hf, _⟩ := h; exact hf.elim
end
end DL

set_option Elab.async false
set_option linter.all false
set_option maxRecDepth 100000
set_option maxHeartbeats 2000000
/-! Own layer, part 3f: built-ins of values, methods of lists, stores, isinstance. -/
namespace DL
open PySem PySem.Spec PyProof.Rows L2
section
variable {X : Cx} {c : LC}
/-- what is asked where the argument is a list -/
theorem wBt_ref {b : Bt} {a : Addr} {S : Sto} {Q : KV} (hb : b ≠ .dict) (h : wBt b [.ref a] S Q) : (∃ xs, S a = some (.lst xs) ∧ wBtL b xs S Q) ∨ (b = .len ∧ ∃ kvs t, S a = some (.dct kvs t) ∧ Q (.int kvs.length) S) := by
  cases q : S a with
  | none => cases b <;> simp only [wBt, q] at h
  | some o =>
    cases o with
    | lst xs => exact .inl ⟨xs, rfl, by cases b <;> simp only [wBt, q] at h <;> first | exact h | exact absurd rfl hb⟩
    | dct kvs t => cases b <;> simp only [wBt, q] at h <;> exact .inr ⟨rfl, kvs, t, rfl, h⟩
    | ins cc fs => cases b <;> simp only [wBt, q] at h
theorem b_vals (hc : X.calm = true) (b : Bt) (hb : b ≠ .dict) : CallR X (bf b) (rvs (lay X c) (wBt b)) := by
  intro pins s σ H xs us Q I r h
  obtain ⟨vs, S, Qd, h1, hs, hf, k⟩ := h
  cases vs with
  | nil => cases b <;> exact hf.elim
  | cons v vs =>
    cases vs with
    | nil =>
      obtain ⟨x, rfl, rx⟩ := h1.one
      cases v with
      | ref a =>
        have ex : x = .ref a := rx
        subst ex
        rcases wBt_ref hb hf with ⟨ys, q, hf⟩ | ⟨rfl, kvs, t, q, hf⟩
        · obtain ⟨ws, hl, hr⟩ := hs a _ q
          exact b_list (c := c) hc b hb pins s σ H _ us Q I r ⟨a, ws, ys, S, Qd, rfl, hl, hr, hs, hf, k⟩
        · obtain ⟨u, rfl, ru⟩ := vals1 r
          cases ru
          exact dct_len (c := c) I (hs a _ q) fun tk s' J => ⟨.int _, H, J, ⟨_, rfl⟩, k.here hf hs rfl⟩
      | lst ys =>
        obtain ⟨a, ws, rfl, ha, ra⟩ := rx
        cases b with
        | len => exact call_len_seq pins s σ H _ us Q I r ⟨a, ws, rfl, .inl ha.sq, k.here (v := .int ws.length) (by rw [← ra.length]; exact hf) hs rfl⟩
        | _ => exact hf.elim
      | tup ys =>
        obtain ⟨a, ws, rfl, ha, ra⟩ := rx
        cases b with
        | len => exact call_len_seq pins s σ H _ us Q I r ⟨a, ws, rfl, .inr ha, k.here (v := .int ws.length) (by rw [← ra.length]; exact hf) hs rfl⟩
        | list => exact call_list_of pins s σ H _ us Q I r ⟨a, ws, rfl, .inr ha, fun p n => k.lst hf hs ra n⟩
        | tuple => exact call_tuple_of pins s σ H _ us Q I r ⟨a, ws, rfl, .inr ⟨ha, k.here hf hs ⟨a, ws, rfl, ha, ra⟩⟩⟩
        | _ => exact hf.elim
      | str z =>
        cases rx
        cases b with
        | len => exact call_len_str pins s σ H _ us Q I r ⟨z, rfl, by rw [← line_eq]; exact hf.1, k.here hf.2 hs rfl⟩
        | str => exact hf.elim
        | _ => exact hf.elim
      | int i =>
        cases rx
        cases b with
        | int => exact call_int1 pins s σ H _ us Q I r (.inl ⟨i, rfl, k.here hf hs rfl⟩)
        | str => exact call_str_int pins s σ H _ us Q I r ⟨i, rfl, hf.1, k.here hf.2 hs rfl⟩
        | _ => exact hf.elim
      | bl i =>
        cases rx
        cases b with
        | int => exact call_int1 pins s σ H _ us Q I r (.inr ⟨i, rfl, k.here hf hs rfl⟩)
        | _ => exact hf.elim
      | _ => cases b <;> exact hf.elim
    | cons w ws =>
      cases ws with
      | nil =>
        obtain ⟨x, y, rfl, rx, ry⟩ := h1.two
        cases v with
        | int i =>
          cases w with
          | int j =>
            cases rx; cases ry
            cases b with
            | max2 => exact call_max2 hc pins s σ H _ us Q I r ⟨i, j, rfl, k.here hf hs rfl⟩
            | min2 => exact call_min2 hc pins s σ H _ us Q I r ⟨i, j, rfl, k.here hf hs rfl⟩
            | _ => exact hf.elim
          | _ => cases b <;> exact hf.elim
        | _ => cases b <;> exact hf.elim
      | cons z zs => cases v <;> cases w <;> cases b <;> exact hf.elim
end
end DL

set_option Elab.async false
set_option linter.all false
set_option maxRecDepth 100000
set_option maxHeartbeats 2000000
/-! Own layer, part 3g: methods of lists, stores, isinstance. -/
namespace DL
open PySem PySem.Spec PyProof.Rows L2
/-- a method of a list by values -/
def rvm (L : Lay) (m : Mt) : V → List V → Hp → VK → Prop := fun x xs H Q => ∃ (v : Val) (vs : List Val) (S : Sto) (Qd : KV), RV L.K H v x ∧ RVs L.K H vs xs ∧ RS L H S ∧ wMt m v vs S Qd ∧ Cont L H S Qd Q
section
variable {X : Cx} {c : LC}
theorem m_append : MtR X "list.append" (rvm (lay X c) .append) := by
  intro pins s σ H x xs v us Q I rx rv h
  obtain ⟨w, vs, S, Qd, h1, h2, hs, hf, k⟩ := h
  cases w with
  | ref a =>
    cases h1
    cases vs with
    | nil => exact hf.elim
    | cons y ys =>
      cases ys with
      | nil =>
        obtain ⟨u, rfl, ru⟩ := h2.one
        cases q : S a with
        | none => simp only [wMt, q] at hf
        | some o =>
          cases o with
          | lst zs =>
            simp only [wMt, q] at hf
            obtain ⟨ws, hl, hr⟩ := hs a _ q
            exact mt_append pins s σ H _ _ v us Q I rx rv ⟨a, ws, u, rfl, rfl, hl, by rw [← line_eq, ← hr.length]; exact hf.1, k.set hf.2 hs hl q (RVs.append hr (RVs.of1 ru)) rfl⟩
          | dct kvs t => simp only [wMt, q] at hf
          | ins cc fs => simp only [wMt, q] at hf
      | cons _ _ => exact hf.elim
  | _ => exact hf.elim
theorem m_pop : MtR X "list.pop" (rvm (lay X c) .pop) := by
  intro pins s σ H x xs v us Q I rx rv h
  obtain ⟨w, vs, S, Qd, h1, h2, hs, hf, k⟩ := h
  cases w with
  | ref a =>
    cases h1
    cases vs with
    | nil =>
      cases h2
      cases q : S a with
      | none => simp only [wMt, q] at hf
      | some o =>
        cases o with
        | lst zs =>
          simp only [wMt, q] at hf
          obtain ⟨y, e, hf⟩ := withO_some hf
          obtain ⟨ws, hl, hr⟩ := hs a _ q
          obtain ⟨u, e2, ru⟩ := hr.get e
          exact mt_pop pins s σ H _ _ v us Q I rx rv ⟨a, ws, u, rfl, rfl, hl, by rw [← hr.length]; exact e2, k.set hf hs hl q hr.dropLast ru⟩
        | dct kvs t => simp only [wMt, q] at hf
        | ins cc fs => simp only [wMt, q] at hf
    | cons y ys => exact hf.elim
  | _ => exact hf.elim
theorem m_reverse : MtR X "list.reverse" (rvm (lay X c) .reverse) := by
  intro pins s σ H x xs v us Q I rx rv h
  obtain ⟨w, vs, S, Qd, h1, h2, hs, hf, k⟩ := h
  cases w with
  | ref a =>
    cases h1
    cases vs with
    | nil =>
      cases h2
      cases q : S a with
      | none => simp only [wMt, q] at hf
      | some o =>
        cases o with
        | lst zs =>
          simp only [wMt, q] at hf
          obtain ⟨ws, hl, hr⟩ := hs a _ q
          exact mt_reverse pins s σ H _ _ v us Q I rx rv ⟨a, ws, rfl, rfl, hl, k.set hf hs hl q hr.reverse rfl⟩
        | dct kvs t => simp only [wMt, q] at hf
        | ins cc fs => simp only [wMt, q] at hf
    | cons y ys => exact hf.elim
  | _ => exact hf.elim
/-- xs.extend(t), t a tuple -/
theorem list_extend_tup (l : Addr) (items : Array Value) (n : Nat) (b : Addr) (items2 : Array Value) (n2 : Nat) (dd : Option Addr) (sl : Array (Option Value)) (hs0 : ¬(!items.isEmpty && Builtin.List.listTooLong (items.size + items2.size)) = true) (hs1 : items.size ≤ sizeLine) (hs2 : items.size + items2.size ≤ sizeLine + 1) :
    Meets (Builtin.«list.extend» ⟨[.ref l, .ref b], []⟩) (fun _ R s => s.heap.get? l = some { cls := .type "list", dict := none, data := .seq items n, slots := #[] } ∧ s.heap.get? b = some { cls := .type "tuple", dict := dd, data := .seq items2 n2, slots := sl } ∧ R (.ok (.ret Value.none)) { s with heap := s.heap.update l (Obj.mapSeq fun x => x ++ items2), toks := s.toks }) :=
  .of_wp fun prog w A R s h => by
    obtain ⟨hp, g, d, tk, os⟩ := s; obtain ⟨hl, hb, h⟩ := h; have f1 := AutoSeq1.idx_int; have f2 := AutoSeq1.sub_tuple_tuple; have f3 := AutoSeq1.sub_list_list; have f4 := AutoSeq1.sub_tuple_list; have f5 := AutoSeq1.sub_list_tuple;
    have hz' : (items ++ items2).size ≤ sizeLine + 1 := by rw [Array.size_append]; exact hs2
    wp_walk using (wpAny_updateSeq hl rfl (hz := hs1) (_hz' := hz')), wpAny_loadPart' hl, wpAny_loadPart' hb; exact ⟨_, rfl, h⟩
theorem extend_tup {pins : List (Addr × Obj)} {s : Shared} {σ : L2.St} {H : Hp} {l b : Addr} {xs zs : List V} {Q : VK} (I : Inv X pins σ H s) (hH : H l = some (.lst xs)) (hB : SqT X.K H b zs) (hz : xs.length + zs.length ≤ sizeLine) (q : Q .non (upd H l (.lst (xs ++ zs)))) :
    wpAny (model X.prog X.w) X.A (call (.builtin "list.extend") [.ref l, .ref b]) (EP X pins σ Q) X.xe s := by
  obtain ⟨z, its, n, r, hl, e⟩ := I.lstM hH
  obtain ⟨its2, r2, p2, _⟩ := I.tuple hB
  obtain ⟨⟨cls, dd, data, sl⟩, e2, hc, n2, hd⟩ := id p2
  simp only at hc hd
  subst hc hd
  have hl2 := r2.length
  have hsz : its.toArray.size + its2.toArray.size ≤ sizeLine := by rw [List.size_toArray, List.size_toArray]; omega
  have hlong : ¬ (!its.toArray.isEmpty && Builtin.List.listTooLong (its.toArray.size + its2.toArray.size)) = true := by
    rw [notLongL hsz, Bool.and_false]
    exact Bool.false_ne_true
  refine call_meets F.slot_list_extend ⟨_, e, rfl⟩ F.entry_list_extend (F.args_list_extend_2 _ _)
    (list_extend_tup l its.toArray n b its2.toArray n2 dd sl hlong (by rw [List.size_toArray]; omega) (by omega)) ⟨e, e2, ?_⟩
  refine ⟨.non, _, I.lset (its' := its ++ its2) hH e (by simp) (r.append r2) ?_, rfl, q⟩
  rw [List.length_append]
  omega
theorem m_extend : MtR X "list.extend" (rvm (lay X c) .extend) := by
  intro pins s σ H x xs v us Q I rx rv h
  obtain ⟨w, vs, S, Qd, h1, h2, hs, hf, k⟩ := h
  cases w with
  | ref a =>
    cases h1
    cases vs with
    | nil => exact hf.elim
    | cons y ys =>
      cases ys with
      | nil =>
        obtain ⟨u, rfl, ru⟩ := h2.one
        cases y with
        | ref b =>
          have eu : u = .ref b := ru
          subst eu
          cases q : S a with
          | none => simp only [wMt, q] at hf
          | some o =>
            cases o with
            | lst zs =>
              cases q2 : S b with
              | none => simp only [wMt, q, q2] at hf
              | some o2 =>
                cases o2 with
                | lst ts =>
                  simp only [wMt, q, q2] at hf
                  obtain ⟨ws, hl, hr⟩ := hs a _ q
                  obtain ⟨ps, hl2, hr2⟩ := hs b _ q2
                  exact mt_extend pins s σ H _ _ v us Q I rx rv ⟨a, b, ws, ps, rfl, rfl, hl, hl2, by rw [← line_eq, ← hr.length, ← hr2.length]; exact hf.2.1, k.set hf.2.2 hs hl q (RVs.append hr hr2) rfl⟩
                | dct kvs t => simp only [wMt, q, q2] at hf
                | ins cc fs => simp only [wMt, q, q2] at hf
            | dct kvs t => simp only [wMt, q] at hf
            | ins cc fs => simp only [wMt, q] at hf
        | tup ts =>
          obtain ⟨b, ps, rfl, hb, hr2⟩ := ru
          cases q : S a with
          | none => simp only [wMt, q] at hf
          | some o =>
            cases o with
            | lst zs =>
              simp only [wMt, q] at hf
              obtain ⟨ws, hl, hr⟩ := hs a _ q
              cases rx
              obtain ⟨u, rfl, ru⟩ := rv.one
              cases ru
              exact extend_tup I hl hb (by rw [← line_eq, ← hr.length, ← hr2.length]; exact hf.1) (k.set hf.2 hs hl q (RVs.append hr hr2) rfl)
            | dct kvs t => simp only [wMt, q] at hf
            | ins cc fs => simp only [wMt, q] at hf
        | _ => exact hf.elim
      | cons _ _ => cases y <;> exact hf.elim
  | _ => exact hf.elim

/-! ### o[i] = v -/
def rvset (L : Lay) : V → V → V → Hp → (Hp → Prop) → Prop := fun o i v H Q => ∃ (a b d : Val) (S : Sto) (Qd : Sto → Prop), RV L.K H a o ∧ RV L.K H b i ∧ RV L.K H d v ∧ RS L H S ∧ wSetI a b d S Qd ∧ ∀ S' H', Stp L H S H' S' → Qd S' → RS L H' S' → Q H'
theorem p_set (hu : X.A.units + 120 < cLine) : PSet X (rvset (lay X c)) := by
  intro pins s σ H o i v ov iv u Q I ro ri rv h
  obtain ⟨a, b, d, S, Qd, h1, h2, h3, hs, hf, k⟩ := h
  cases a with
  | ref p =>
    have e1 : o = .ref p := h1
    subst e1
    cases q : S p with
    | none => simp only [wSetI, q] at hf
    | some ob =>
      cases ob with
      | lst xs =>
        cases b with
        | int j =>
          simp only [wSetI, q] at hf
          obtain ⟨m, e, hf⟩ := withO_some hf
          obtain ⟨us, hl, hr⟩ := hs p _ q
          cases h2
          have t : Tp X.K H (upd H p (.lst (us.set m v))) := Tp.write hl (fun _ e => by cases e) (fun _ _ e => by cases e)
          exact set_list pins s σ H _ _ _ ov iv u Q I ro ri rv ⟨p, us, j, m, rfl, rfl, hl, by rw [← hr.length]; exact e,
            k _ _ (Stp.write hl (fun _ e => by cases e) (fun _ _ e => by cases e) q) hf (RS.upd hs t ⟨_, upd_same, RVs.mono t _ _ (RVs.set h3 m hr)⟩)⟩
        | _ => simp only [wSetI, q] at hf
      | dct kvs t =>
        simp only [wSetI, q] at hf
        cases ro
        exact dct_set (c := c) (by omega) I hs q hf.1 h2 ri h3 rv hf.2.1 fun s' H' t' J st rs' => ⟨H', J, k _ _ st (hf.2.2 t') rs'⟩
      | ins cc fs => simp only [wSetI, q] at hf
  | _ => exact hf.elim

/-! ### isinstance -/
def tyN : Ty → String
  | .int => "int" | .bool => "bool" | .str => "str" | .tuple => "tuple" | .list => "list"
theorem kb_int : ∀ t : Ty, kitB "int" (tyN t) = some (decide (t = .int))
  | .int => by decide +kernel
  | .bool => by decide +kernel
  | .str => by decide +kernel
  | .tuple => by decide +kernel
  | .list => by decide +kernel
theorem kb_bool : ∀ t : Ty, kitB "bool" (tyN t) = some (decide (t = .int) || decide (t = .bool))
  | .int => by decide +kernel
  | .bool => by decide +kernel
  | .str => by decide +kernel
  | .tuple => by decide +kernel
  | .list => by decide +kernel
theorem kb_str : ∀ t : Ty, kitB "str" (tyN t) = some (decide (t = .str))
  | .int => by decide +kernel
  | .bool => by decide +kernel
  | .str => by decide +kernel
  | .tuple => by decide +kernel
  | .list => by decide +kernel
theorem kb_tuple : ∀ t : Ty, kitB "tuple" (tyN t) = some (decide (t = .tuple))
  | .int => by decide +kernel
  | .bool => by decide +kernel
  | .str => by decide +kernel
  | .tuple => by decide +kernel
  | .list => by decide +kernel
theorem kb_list : ∀ t : Ty, kitB "list" (tyN t) = some (decide (t = .list))
  | .int => by decide +kernel
  | .bool => by decide +kernel
  | .str => by decide +kernel
  | .tuple => by decide +kernel
  | .list => by decide +kernel
theorem kb_none : ∀ t : Ty, kitB "NoneType" (tyN t) = some false
  | .int => by decide +kernel
  | .bool => by decide +kernel
  | .str => by decide +kernel
  | .tuple => by decide +kernel
  | .list => by decide +kernel
def rvisi (L : Lay) (t : Ty) : List V → Hp → VK → Prop := fun xs H Q => ∃ (x : V) (v : Val) (S : Sto) (Qd : KV), xs = [x, .ty (tyN t)] ∧ RV L.K H v x ∧ RS L H S ∧ tyKnown v S = true ∧ Qd (.bl (tyOf t v S)) S ∧ Cont L H S Qd Q
theorem tyx_tup {K : PySem.W.Frag} {H : Hp} {a : Addr} {vs : List V} (h : SqT K H a vs) : TyX K H (.ref a) (.type "tuple") := by
  rcases h with (h | ⟨o, h⟩) | ⟨o, its, n, h1, h2, _⟩
  · exact .base (.tup h)
  · exact .fTuple h
  · exact .kTuple h1 h2
theorem b_isi (t : Ty) : CallR X (.builtin "isinstance") (rvisi (lay X c) t) := by
  intro pins s σ H xs us Q I r h
  obtain ⟨x, v, S, Qd, rfl, h1, hs, kn, hf, k⟩ := h
  have go : ∀ (T : String) (b : Bool), TyX X.K H x (.type T) → kitB T (tyN t) = some b → b = tyOf t v S → wpAny (model X.prog X.w) X.A (call (.builtin "isinstance") us) (EP X pins σ Q) X.xe s := fun T b ty e eb =>
    call_isi pins s σ H _ us Q I r ⟨x, .ty (tyN t), .type T, .type (tyN t), b, rfl, .ty _, ty, kit_ty e, k.here (v := .bl b) (by rw [eb]; exact hf) hs rfl⟩
  cases v with
  | non => cases h1; exact go _ _ (.base .non) (kb_none t) (by cases t <;> rfl)
  | bl b => cases h1; exact go _ _ (.base (.bl b)) (kb_bool t) (by cases t <;> rfl)
  | int i => cases h1; exact go _ _ (.base (.int i)) (kb_int t) (by cases t <;> rfl)
  | str z => cases h1; exact go _ _ (.base (.str z)) (kb_str t) (by cases t <;> rfl)
  | tup ys =>
    obtain ⟨a, ws, rfl, ha, ra⟩ := h1
    exact go _ _ (tyx_tup ha) (kb_tuple t) (by cases t <;> rfl)
  | ref a =>
    have ex : x = .ref a := h1
    subst ex
    cases q : S a with
    | none => simp only [tyKnown, q] at kn; cases kn
    | some o =>
      cases o with
      | lst ys =>
        obtain ⟨ws, hl, hr⟩ := hs a _ q
        exact go _ _ (.base (.lst hl)) (kb_list t) (by cases t <;> simp [tyOf, q])
      | dct kvs t => simp only [tyKnown, q] at kn; cases kn
      | ins cc fs => simp only [tyKnown, q] at kn; cases kn
  | lst _ => cases kn
end
end DL

set_option Elab.async false
set_option linter.all false
set_option maxRecDepth 100000
set_option maxHeartbeats 2000000
/-! Own layer, part 4: a text is the tree; what is known of names. -/
namespace DL
open PySem PySem.Spec PyProof.Rows L2

/-- names of a def: slots; defs and classes by number (with how many arguments) -/
structure Tab where
  N : List Str
  fns : List (Str × Nat)
  cls : List (Str × Nat)
  exs : List (Str × Nat)
def visC (sc : Scope) (x : Str) : Bool := match sc.names.lookup x with
  | some .local => true
  | some .cell => true
  | some .free => true
  | _ => false
def locC (sc : Scope) (x : Str) : Bool := match sc.names.lookup x with
  | some .local => true
  | some .cell => true
  | _ => false
def gloC (sc : Scope) (x : Str) : Bool := match sc.names.lookup x with
  | some .globalImplicit => true
  | _ => false
def nameC (x : Str) : Bool := !(x == ("__debug__" : Str)) && !(x == ("__classdict__" : Str)) && !decide (x = ("__name__" : Str))
def bN : Bt → Str
  | .len => "len" | .all => "all" | .any => "any" | .tuple => "tuple" | .list => "list" | .dict => "dict" | .sorted => "sorted"
  | .int => "int" | .max1 => "max" | .max2 => "max" | .min1 => "min" | .min2 => "min" | .sum => "sum" | .str => "str"
def mN : Mt → Str
  | .append => "append" | .extend => "extend" | .index => "index" | .count => "count" | .pop => "pop" | .reverse => "reverse" | .setdefault => "setdefault" | .get => "get" | .split => "split" | .find => "find"
def mOk : Mt → Bool
  | .append => true | .extend => true | .pop => true | .reverse => true | _ => false
def tN : Ty → Str
  | .int => "int" | .bool => "bool" | .str => "str" | .tuple => "tuple" | .list => "list"
def bopC : Bop → Operator → Bool
  | .add, .Add => true | .sub, .Sub => true | .mul, .Mult => true | .fdiv, .FloorDiv => true | .mod, .Mod => true | .pow, .Pow => true | _, _ => false
def copC : Cop → CmpOp → Bool
  | .eq, .Eq => true | .ne, .NotEq => true | .lt, .Lt => true | .le, .LtE => true | .gt, .Gt => true | .ge, .GtE => true | .isin, .In => true | .notin, .NotIn => true | _, _ => false
/-- neither a set's display, a slice, a starred one, nor a call without arguments -/
def plainX : Expr → Bool
  | .Set .. => false
  | .Slice .. => false
  | .Starred .. => false
  | .Call (.Name _ _) [] [] _ => false
  | _ => true
def Exs.len : Exs → Nat
  | .nil => 0
  | .cons _ r => r.len + 1
def tgC (T : Tab) (sc : Scope) : List Nat → List Expr → Bool
  | [], [] => true
  | i :: r, .Name x _ :: es => decide (T.N[i]? = some x) && locC sc x && tgC T sc r es
  | _, _ => false
def tgtC (T : Tab) (sc : Scope) : Tg → Expr → Bool
  | .one i, .Name x _ => decide (T.N[i]? = some x) && locC sc x
  | .many is, .Tuple es _ _ => tgC T sc is es
  | _, _ => false
def tgSlots : Tg → List Nat
  | .one i => [i]
  | .many is => is
def callC (sc : Scope) (x y : Str) : Bool := decide (x = y) && gloC sc y && nameC y

mutual
def chkE (T : Tab) (sc : Scope) : Ex → Expr → Bool
  | .var i, .Name x _ => decide (T.N[i]? = some x) && visC sc x && nameC x
  | .glob x, .Name y _ => callC sc x y
  | .int i, .Constant (.int j) _ _ => decide (i = j)
  | .bl i, .Constant (.bool j) _ _ => decide (i = j)
  | .str i, .Constant (.str j) _ _ => decide (i = j)
  | .non, .Constant .none _ _ => true
  | .bin o a b, .BinOp pa po pb _ => bopC o po && chkE T sc a pa && chkE T sc b pb
  | .neg a, .UnaryOp .USub pa _ => chkE T sc a pa
  | .not a, .UnaryOp .Not pa _ => chkE T sc a pa
  | .cmp o a b, .Compare pa [po] [pb] _ => copC o po && chkE T sc a pa && chkE T sc b pb && plainX pb
  | .isN a, .Compare pa [.Is] [.Constant .none _ _] _ => chkE T sc a pa
  | .notN a, .Compare pa [.IsNot] [.Constant .none _ _] _ => chkE T sc a pa
  | .chain o p a b c, .Compare pa [po, pp] [pb, pc] _ => copC o po && copC p pp && chkE T sc a pa && chkE T sc b pb && chkE T sc c pc && plainX pb && plainX pc
  | .and a b, .BoolOp .And [pa, pb] _ => chkE T sc a pa && chkE T sc b pb
  | .and a b, .BoolOp .And (pa :: pb :: pc :: r) pos => chkE T sc a pa && chkE T sc b (.BoolOp .And (pb :: pc :: r) pos)
  | .or a b, .BoolOp .Or [pa, pb] _ => chkE T sc a pa && chkE T sc b pb
  | .or a b, .BoolOp .Or (pa :: pb :: pc :: r) pos => chkE T sc a pa && chkE T sc b (.BoolOp .Or (pb :: pc :: r) pos)
  | .tup es, .Tuple pes _ _ => chkEs T sc es pes && decide (es.len ≤ 1000)
  | .lst es, .List pes _ => chkEs T sc es pes && decide (es.len ≤ 1000)
  | .sub a i, .Subscript pa pi _ => chkE T sc a pa && chkE T sc i pi && plainX pi
  | .slice a lo hi, .Subscript pa (.Slice plo phi none _) _ => chkE T sc a pa && chkO T sc lo plo && chkO T sc hi phi
  | .fld a f, .Attribute pa g _ => decide (f = g) && chkE T sc a pa && plainX pa
  | .call f es, .Call (.Name x _) (pe :: pes) [] _ => decide (T.fns.lookup x = some f) && gloC sc x && nameC x && chkEs T sc es (pe :: pes)
  | .new c es, .Call (.Name x _) (pe :: pes) [] _ => decide (T.cls.lookup x = some c) && gloC sc x && nameC x && chkEs T sc es (pe :: pes)
  | .blt b es, .Call (.Name x _) (pe :: pes) [] _ => decide (b ≠ .dict) && callC sc (bN b) x && chkEs T sc es (pe :: pes)
  | .bltc b c, .Call (.Name x _) [pe] [] _ => decide (b ≠ .dict) && callC sc (bN b) x && chkC T sc c pe
  | .isi a t, .Call (.Name x _) [pa, .Name y _] [] _ => callC sc "isinstance" x && callC sc (tN t) y && chkE T sc a pa
  | .meth a m es, .Call (.Attribute pa g apos) pes [] pos => mOk m && decide (g = mN m) && (apos.endLine == pos.line) && plainX pa && chkE T sc a pa && chkEs T sc es pes && decide (es.len < 20)
  | .umeth a m es, .Call (.Attribute pa g apos) pes [] pos => decide (m ≠ "__init__") && decide (g = m) && (apos.endLine == pos.line) && plainX pa && chkE T sc a pa && chkEs T sc es pes && decide (es.len < 20)
  | .comp c, pe => chkC T sc c pe
  | .drop a, pe => chkE T sc a pe
  | _, _ => false
def chkEs (T : Tab) (sc : Scope) : Exs → List Expr → Bool
  | .nil, [] => true
  | .cons a r, pa :: pr => chkE T sc a pa && plainX pa && chkEs T sc r pr
  | _, _ => false
def chkO (T : Tab) (sc : Scope) : Oe → Option Expr → Bool
  | .none, none => true
  | .some a, some pa => chkE T sc a pa
  | _, _ => false
def chkI (T : Tab) (sc : Scope) : Itr → Expr → Expr → Bool
  | .val a, _, pa => chkE T sc a pa && plainX pa
  | .rng es, _, .Call (.Name x _) pes [] _ => callC sc "range" x && chkEs T sc es pes && decide (1 ≤ es.len ∧ es.len ≤ 3)
  | .enum a, .Tuple _ _ _, .Call (.Name x _) [pa] [] _ => callC sc "enumerate" x && chkE T sc a pa && plainX pa
  | .zip a b, .Tuple _ _ _, .Call (.Name x _) [pa, pb] [] _ => callC sc "zip" x && chkE T sc a pa && chkE T sc b pb && plainX pa && plainX pb
  | _, _, _ => false
def chkC (T : Tab) (sc : Scope) : Cmp → Expr → Bool
  | .mk tg own elt it cond, .ListComp pelt [⟨ptg, pit, ifs, 0⟩] scope _ =>
    blkC T.N sc scope (own.map fun i => (T.N.getD i "", i)) && tgtC T scope tg ptg && (tgSlots tg).all (fun i => decide (i ∈ own)) && chkI T sc it ptg pit && plainX pit && chkE T (relS scope sc) elt pelt && chkIf T (relS scope sc) cond ifs
  | _, _ => false
def chkIf (T : Tab) (sc : Scope) : Oe → List Expr → Bool
  | .none, [] => true
  | .some a, [pa] => chkE T sc a pa
  | _, _ => false
end

/-- a promise over the hand layer's heap -/
def lift (L : Lay) (sp : Spec) : Sp := fun vs H Q E => ∃ (args : List Val) (S : Sto) (Qd : KV) (Ed : Nat → Sto → Prop), RVs L.K H args vs ∧ RS L H S ∧ sp args S Qd Ed ∧ Cont L H S Qd Q ∧
  ∀ x S' H', Stp L H S H' S' → Ed x S' → RS L H' S' → E (.ref (L.ex x)) none H'
def Arity (n : Nat) (sp : Spec) : Prop := ∀ args S Q E, sp args S Q E → args.length = n
theorem lift_len {L : Lay} {n : Nat} {sp : Spec} (a : Arity n sp) (vs : List V) (H : Hp) (Q : VK) (E : XK) (h : lift L sp vs H Q E) : vs.length = n := by
  obtain ⟨args, S, Qd, Ed, r, _, h, _⟩ := h
  rw [← r.length]
  exact a _ _ _ _ h

/-- a def stands under a name -/
structure FnAt (P : Program) (w : World) (K : PySem.W.Frag) (mg : Str → Option Value) (base : Heap) (c : LC) (k : Nat) (x : Str) (sp : Spec) : Prop where
  ex : ∃ (a : Addr) (fd : FuncData) (ps : List Str), FnOk P w K mg base (L2.CX P w) k a fd ps (lift ⟨P, w, K, c.ca, c.ex⟩ sp) ∧ mg x = some (.ref a) ∧ PySem.W.keepIn K (.ref a) = true ∧ Binds K fd ps []
theorem FnAt.mono {P : Program} {w : World} {K : PySem.W.Frag} {mg : Str → Option Value} {base : Heap} {c : LC} {k k' : Nat} {x : Str} {sp : Spec} (h : FnAt P w K mg base c k x sp) (l : k ≤ k') : FnAt P w K mg base c k' x sp := by
  obtain ⟨a, fd, ps, h2, h3⟩ := h.ex
  exact ⟨a, fd, ps, h2.mono l, h3⟩
/-- a method of a class -/
structure MtAt (P : Program) (w : World) (K : PySem.W.Frag) (mg : Str → Option Value) (base : Heap) (c : LC) (k : Nat) (ci : Nat) (m : Str) (sp : Spec) : Prop where
  ex : ∃ (a : Addr) (fd : FuncData) (ps : List Str), FnOk P w K mg base (L2.CX P w) k a fd ps (lift ⟨P, w, K, c.ca, c.ex⟩ sp) ∧ Meth K (c.ca ci) m a ∧ Binds K fd ps []
theorem MtAt.mono {P : Program} {w : World} {K : PySem.W.Frag} {mg : Str → Option Value} {base : Heap} {c : LC} {k k' : Nat} {ci : Nat} {m : Str} {sp : Spec} (h : MtAt P w K mg base c k ci m sp) (l : k ≤ k') : MtAt P w K mg base c k' ci m sp := by
  obtain ⟨a, fd, ps, h2, h3⟩ := h.ex
  exact ⟨a, fd, ps, h2.mono l, h3⟩
/-- a class's making -/
structure NewAt (P : Program) (w : World) (K : PySem.W.Frag) (mg : Str → Option Value) (base : Heap) (c : LC) (k : Nat) (x : Str) (ci : Nat) (sp : Spec) : Prop where
  ex : ∃ (j : Nat) (a : Addr) (fd : FuncData) (ps : List Str), j + 1 = k ∧ FnOk P w K mg base (L2.CX P w) j a fd ps (lift ⟨P, w, K, c.ca, c.ex⟩ sp) ∧ Mk K (c.ca ci) a ∧ Cls K (c.ca ci) ∧ mg x = some (.ref (c.ca ci)) ∧ Binds K fd ps []
theorem NewAt.mono {P : Program} {w : World} {K : PySem.W.Frag} {mg : Str → Option Value} {base : Heap} {c : LC} {k k' : Nat} {x : Str} {ci : Nat} {sp : Spec} (h : NewAt P w K mg base c k x ci sp) (l : k ≤ k') : NewAt P w K mg base c k' x ci sp := by
  obtain ⟨j, a, fd, ps, e, h2, h3⟩ := h.ex
  exact ⟨k' - 1, a, fd, ps, by omega, h2.mono (by omega), h3⟩
/-- an own class of exceptions -/
structure ExAt (K : PySem.W.Frag) (mg : Str → Option Value) (c : LC) (x : Str) (ci : Nat) : Prop where
  ex : ∃ (bmB : List Value) (B newId initId : String), ExcBaseFacts B newId initId bmB ∧ PySem.W.excIn K (c.ex ci) bmB newId = true ∧ mg x = some (.ref (c.ex ci)) ∧ PySem.W.keepIn K (.ref (c.ex ci)) = true ∧
    PySem.W.subIn K (.ref (c.ex ci)) (.type "BaseException") = some true ∧ PySem.W.typeIn K (.ref (c.ex ci)) = some (.type "type")
/-- what a text's names mean -/
structure Nm (P : Program) (w : World) (K : PySem.W.Frag) (mg : Str → Option Value) (base : Heap) (c : LC) (G : Cfg) (T : Tab) (k : Nat) : Prop where
  fns : ∀ x f, T.fns.lookup x = some f → ∃ sp, G.fn f = some sp ∧ FnAt P w K mg base c k x sp
  mts : ∀ ci m sp, G.mt ci m = some sp → m ≠ ("__init__" : Str) → MtAt P w K mg base c k ci m sp
  news : ∀ x ci, T.cls.lookup x = some ci → ∃ sp, G.mt ci "__init__" = some sp ∧ NewAt P w K mg base c k x ci sp
  cvs : ∀ x v, G.cv x = some v → ∃ (u : Value) (vv : V), mg x = some u ∧ RelV vv u ∧ ∀ H, RV K H v vv
  blt : ∀ x : Str, x ∈ [("len" : Str), "all", "any", "tuple", "list", "dict", "sorted", "int", "max", "min", "sum", "str", "isinstance", "range", "enumerate", "zip", "bool"] → mg x = none
  nd : T.N.Nodup
  exs : ∀ x ci, T.exs.lookup x = some ci → ExAt K mg c x ci
  exk : ∀ x ci, T.exs.lookup x = some ci → G.ek ci = true
  exc : ∀ x, G.ek x = true → L2.ExcC K (c.ex x)
  exm : ∀ x y, G.ek x = true → G.ek y = true → PySem.W.exmOne K (.ref (c.ex x)) (.ref (c.ex y)) = some (G.sub x y)
  kit : ∀ x y, G.ek x = true → G.ek y = true → PySem.W.kitOne K (.ref (c.ex x)) (.ref (c.ex y)) = some (G.sub x y)
  kitV : ∀ x, G.ek x = true → PySem.W.kitOne K (.ref (c.ex x)) (.type "ValueError") = some (G.sub x 99)
  vale : mg "ValueError" = none
  fls : ∀ ci f, G.fl ci f = true → Cls K (c.ca ci) ∧ NoAttr K (c.ca ci) f

structure XOk (X : Cx) (c : LC) (G : Cfg) (T : Tab) (k : Nat) (sc : Scope) : Prop where
  nm : Nm X.prog X.w X.K X.mg X.base c G T k
  room : Room k X.A
  calm : X.calm = true
  N : X.N = T.N
  sc : X.env.scope = sc
end DL

set_option Elab.async false
set_option linter.all false
set_option maxRecDepth 100000
set_option maxHeartbeats 2000000
/-! Own layer, part 5: each construct. -/
namespace DL
open PySem PySem.Spec PyProof.Rows L2

/-! ### facts of forms -/
theorem plain_star {e : Expr} (h : plainX e = true) (es : List Expr) (env : PySem.Env) : starEach (e :: es) env = (false, eval e env) :: starEach es env := by
  cases e <;> first | rfl | cases h
theorem plain_mark {e : Expr} (h : plainX e = true) (op : CmpOp) : behindInMarks op e = false := by
  cases e <;> first | rfl | cases h
theorem plain_ix {e : Expr} (h : plainX e = true) : PlainIx e := by
  intro o i
  cases e <;> first | rfl | cases h
theorem plain_attr {e : Expr} (h : plainX e = true) (f : Str) (env : PySem.Env) : attributeBase e f env (eval e env) = eval e env := by
  cases e with
  | Call fn args kws pos =>
    cases fn with
    | Name id p =>
      cases args with
      | nil =>
        cases kws with
        | nil => cases h
        | cons _ _ => rfl
      | cons _ _ => rfl
    | _ => rfl
  | _ => rfl
theorem plain_fold {e : Expr} (h : plainX e = true) (env : PySem.Env) (x : Value) : foldedSetIterable e env x = pure x := by
  cases e <;> first | rfl | cases h
theorem back_plain {pos : Pos} : ∀ {l : List (Bool × Sem Value)}, (∀ p ∈ l, p.1 = false) → (backTo pos l).any (·.1) = false
  | [], _ => rfl
  | p :: r, h => by
    have h1 := h p (by simp)
    have h2 := back_plain (pos := pos) (l := r) fun q hq => h q (by simp [hq])
    show (p.1 || (backTo pos r).any (·.1)) = false
    rw [h1, h2]
    rfl
theorem PE.imp {X : Cx} {e : Expr} {t t' : TE} (h : PE X e t) (hh : ∀ σ H Q, t' σ H Q → t σ H Q) : PE X e t' := ⟨fun pins s σ H Q I q => h.run pins s σ H Q I (hh _ _ _ q)⟩
theorem PT.imp {X : Cx} {e : Expr} {t t' : TT} (h : PT X e t) (hh : ∀ σ H Q, t' σ H Q → t σ H Q) : PT X e t' := ⟨fun pins s σ H Q I q => h.run pins s σ H Q I (hh _ _ _ q)⟩
theorem PW.imp {X : Cx} {e : Expr} {t t' : TT} (h : PW X e t) (hh : ∀ σ H Q, t' σ H Q → t σ H Q) : PW X e t' := ⟨fun wh pins s σ H Q I q => h.run wh pins s σ H Q I (hh _ _ _ q)⟩
theorem PA.imp {X : Cx} {e : List Expr} {t t' : TA} (h : PA X e t) (hh : ∀ σ H Q, t' σ H Q → t σ H Q) : PA X e t' := ⟨fun pos pins s σ H Q I q => h.run pos pins s σ H Q I (hh _ _ _ q)⟩

/-- what is wanted of a refusal -/
def XW (L : Lay) (W : WX) (E : Nat → Sto → Prop) (σ : L2.St) (H : Hp) (S : Sto) : Prop := ∀ x S' H', Stp L H S H' S' → E x S' → RS L H' S' → W (.ref (L.ex x)) none σ H'
theorem XW.step {L : Lay} {W : WX} {E : Nat → Sto → Prop} {σ : L2.St} {H H' : Hp} {S S' : Sto} (h : XW L W E σ H S) (st : Stp L H S H' S') : XW L W E σ H' S' := fun x S2 H2 st2 e r => h x S2 H2 (st.trans st2) e r
theorem Cont.step {L : Lay} {H H' : Hp} {S S' : Sto} {Qd : KV} {Q : VK} (h : Cont L H S Qd Q) (st : Stp L H S H' S') : Cont L H' S' Qd Q := fun v S2 u H2 st2 q r rv => h v S2 u H2 (st.trans st2) q r rv
def tE (L : Lay) (W : WX) (E : Nat → Sto → Prop) (f : Env → Sto → KV → Prop) : TE := fun σ H Q => ∃ e S Qd, RE L.K H e σ ∧ RS L H S ∧ f e S Qd ∧ Cont L H S Qd Q ∧ XW L W E σ H S
def tT (L : Lay) (W : WX) (E : Nat → Sto → Prop) (f : Env → Sto → KV → Prop) : TT := fun σ H Q => tE L W E f σ H fun x H1 => ∃ b, x = .bl b ∧ Q b H1
def tA (L : Lay) (W : WX) (E : Nat → Sto → Prop) (n : Nat) (f : Env → Sto → (List Val → Sto → Prop) → Prop) : TA := fun σ H Q => ∃ e S Qd, RE L.K H e σ ∧ RS L H S ∧ f e S Qd ∧
  (∀ vs S' us H', Stp L H S H' S' → Qd vs S' → RS L H' S' → RVs L.K H' vs us → vs.length = n → Q us H') ∧ XW L W E σ H S

section
variable {X : Cx} {c : LC} {W : WX} {E : Nat → Sto → Prop} {G : Cfg} {pos : Pos}
theorem q_bin {o : Bop} {po : Operator} {pa pb : Expr} {a b : Ex} (ho : OpR X (binaryOp po) (rv2 (lay X c) (wBin o))) (ha : PE X pa (tE (lay X c) W E (wE G E a))) (hb : PE X pb (tE (lay X c) W E (wE G E b))) :
    PE X (.BinOp pa po pb pos) (tE (lay X c) W E (wE G E (.bin o a b))) := by
  refine PE.imp (pe_op ho ha hb) fun σ H Q h => ?_
  obtain ⟨e, S, Qd, he, hs, hf, k, xw⟩ := h
  simp only [wE] at hf
  refine ⟨e, S, _, he, hs, hf, fun v S1 u H1 st q hs1 rv => ?_, xw⟩
  refine ⟨e, S1, _, he.mono st.tp, hs1, q, fun v2 S2 u2 H2 st2 q2 hs2 rv2' => ?_, xw.step st⟩
  exact ⟨v, v2, S2, Qd, RV.mono st2.tp _ _ rv, rv2', hs2, q2, (k.step st).step st2⟩
theorem q_cmp {o : Cop} {po : CmpOp} {pa pb : Expr} {a b : Ex} (ho : OpR X (compareOp po) (rv2 (lay X c) (wCmp o))) (ha : PE X pa (tE (lay X c) W E (wE G E a))) (hb : PE X pb (tE (lay X c) W E (wE G E b))) (hm : plainX pb = true) :
    PE X (.Compare pa [po] [pb] pos) (tE (lay X c) W E (wE G E (.cmp o a b))) := by
  refine PE.imp (pe_cmpR ho ha hb (plain_mark hm po)) fun σ H Q h => ?_
  obtain ⟨e, S, Qd, he, hs, hf, k, xw⟩ := h
  simp only [wE] at hf
  refine ⟨e, S, _, he, hs, hf, fun v S1 u H1 st q hs1 rv => ?_, xw⟩
  refine ⟨e, S1, _, he.mono st.tp, hs1, q, fun v2 S2 u2 H2 st2 q2 hs2 rv2' => ?_, xw.step st⟩
  exact ⟨v, v2, S2, Qd, RV.mono st2.tp _ _ rv, rv2', hs2, q2, (k.step st).step st2⟩
theorem t_cmp {o : Cop} {po : CmpOp} {pa pb : Expr} {a b : Ex} (ho : OpR X (compareOp po) (rv2 (lay X c) (wCmp o))) (ha : PE X pa (tE (lay X c) W E (wE G E a))) (hb : PE X pb (tE (lay X c) W E (wE G E b))) (hm : plainX pb = true) :
    PT X (.Compare pa [po] [pb] pos) (tT (lay X c) W E (wE G E (.cmp o a b))) := by
  refine PT.imp (pt_cmpR ho ha hb (plain_mark hm po)) fun σ H Q h => ?_
  obtain ⟨e, S, Qd, he, hs, hf, k, xw⟩ := h
  simp only [wE] at hf
  refine ⟨e, S, _, he, hs, hf, fun v S1 u H1 st q hs1 rv => ?_, xw⟩
  refine ⟨e, S1, _, he.mono st.tp, hs1, q, fun v2 S2 u2 H2 st2 q2 hs2 rv2' => ?_, xw.step st⟩
  exact ⟨v, v2, S2, Qd, RV.mono st2.tp _ _ rv, rv2', hs2, q2, (k.step st).step st2⟩
theorem q_sub {pa pb : Expr} {a b : Ex} (hr : IxR X (rv2 (lay X c) wSub)) (ha : PE X pa (tE (lay X c) W E (wE G E a))) (hb : PE X pb (tE (lay X c) W E (wE G E b))) (hm : plainX pb = true) :
    PE X (.Subscript pa pb pos) (tE (lay X c) W E (wE G E (.sub a b))) := by
  refine PE.imp (pe_ix hr ha hb (plain_ix hm)) fun σ H Q h => ?_
  obtain ⟨e, S, Qd, he, hs, hf, k, xw⟩ := h
  simp only [wE] at hf
  refine ⟨e, S, _, he, hs, hf, fun v S1 u H1 st q hs1 rv => ?_, xw⟩
  refine ⟨e, S1, _, he.mono st.tp, hs1, q, fun v2 S2 u2 H2 st2 q2 hs2 rv2' => ?_, xw.step st⟩
  exact ⟨v, v2, S2, Qd, RV.mono st2.tp _ _ rv, rv2', hs2, q2, (k.step st).step st2⟩
theorem q_neg {pa : Expr} {a : Ex} (ha : PE X pa (tE (lay X c) W E (wE G E a))) : PE X (.UnaryOp .USub pa pos) (tE (lay X c) W E (wE G E (.neg a))) := by
  refine PE.imp (pe_un un_neg ha) fun σ H Q h => ?_
  obtain ⟨e, S, Qd, he, hs, hf, k, xw⟩ := h
  simp only [wE] at hf
  refine ⟨e, S, _, he, hs, hf, fun v S1 u H1 st q hs1 rv => ?_, xw⟩
  cases v with
  | int i =>
    cases rv
    exact ⟨i, rfl, (k.step st).here q hs1 rfl⟩
  | _ => exact q.elim
theorem q_not {pa : Expr} {a : Ex} (ha : PE X pa (tE (lay X c) W E (wE G E a))) : PE X (.UnaryOp .Not pa pos) (tE (lay X c) W E (wE G E (.not a))) := by
  refine PE.imp (pe_not ha) fun σ H Q h => ?_
  obtain ⟨e, S, Qd, he, hs, hf, k, xw⟩ := h
  simp only [wE] at hf
  refine ⟨e, S, _, he, hs, hf, fun v S1 u H1 st q hs1 rv => ?_, xw⟩
  obtain ⟨b, rfl, q⟩ := withB_some q
  cases rv
  exact ⟨b, rfl, (k.step st).here q hs1 rfl⟩
theorem t_not {pa : Expr} {a : Ex} (ha : PT X pa (tT (lay X c) W E (wE G E a))) : PT X (.UnaryOp .Not pa pos) (tT (lay X c) W E (wE G E (.not a))) := by
  refine PT.imp (pt_not ha) fun σ H Q h => ?_
  obtain ⟨e, S, Qd, he, hs, hf, k, xw⟩ := h
  simp only [wE] at hf
  refine ⟨e, S, _, he, hs, hf, fun v S1 u H1 st q hs1 rv => ?_, xw⟩
  obtain ⟨b, rfl, q⟩ := withB_some q
  cases rv
  obtain ⟨d, e2, r⟩ := (k.step st).here q hs1 rfl
  cases e2
  exact ⟨b, rfl, r⟩
theorem q_isN {pa : Expr} {a : Ex} {j pos'} (ha : PE X pa (tE (lay X c) W E (wE G E a))) : PE X (.Compare pa [.Is] [.Constant .none j pos'] pos) (tE (lay X c) W E (wE G E (.isN a))) := by
  refine PE.imp (pe_cmp (pc_isN ha)) fun σ H Q h => ?_
  obtain ⟨e, S, Qd, he, hs, hf, k, xw⟩ := h
  simp only [wE] at hf
  refine ⟨e, S, _, he, hs, hf, fun v S1 u H1 st q hs1 rv => ?_, xw⟩
  cases v with
  | non => cases rv; exact (k.step st).here (v := .bl true) q hs1 rfl
  | bl _ => cases rv; exact (k.step st).here (v := .bl false) q hs1 rfl
  | int _ => cases rv; exact (k.step st).here (v := .bl false) q hs1 rfl
  | str _ => cases rv; exact (k.step st).here (v := .bl false) q hs1 rfl
  | tup _ => obtain ⟨_, _, rfl, _⟩ := rv; exact (k.step st).here (v := .bl false) q hs1 rfl
  | ref _ => cases rv; exact (k.step st).here (v := .bl false) q hs1 rfl
  | lst _ => obtain ⟨_, _, rfl, _⟩ := rv; exact (k.step st).here (v := .bl false) q hs1 rfl
theorem q_notN {pa : Expr} {a : Ex} {j pos'} (ha : PE X pa (tE (lay X c) W E (wE G E a))) : PE X (.Compare pa [.IsNot] [.Constant .none j pos'] pos) (tE (lay X c) W E (wE G E (.notN a))) := by
  refine PE.imp (pe_cmp (pc_notN ha)) fun σ H Q h => ?_
  obtain ⟨e, S, Qd, he, hs, hf, k, xw⟩ := h
  simp only [wE] at hf
  refine ⟨e, S, _, he, hs, hf, fun v S1 u H1 st q hs1 rv => ?_, xw⟩
  cases v with
  | non => cases rv; exact (k.step st).here (v := .bl false) q hs1 rfl
  | bl _ => cases rv; exact (k.step st).here (v := .bl true) q hs1 rfl
  | int _ => cases rv; exact (k.step st).here (v := .bl true) q hs1 rfl
  | str _ => cases rv; exact (k.step st).here (v := .bl true) q hs1 rfl
  | tup _ => obtain ⟨_, _, rfl, _⟩ := rv; exact (k.step st).here (v := .bl true) q hs1 rfl
  | ref _ => cases rv; exact (k.step st).here (v := .bl true) q hs1 rfl
  | lst _ => obtain ⟨_, _, rfl, _⟩ := rv; exact (k.step st).here (v := .bl true) q hs1 rfl
/-- a value that is a truth value, as a test -/
theorem t_val {pe : Expr} {a : Ex} (h : PE X pe (tE (lay X c) W E (wE G E a))) (he : ∀ whole, isTrue pe X.env whole = (do let v ← whole; standAt pe.pos; holding [v] (truthy v))) : PT X pe (tT (lay X c) W E (wE G E a)) :=
  PT.imp (pt_val h he) fun σ H Q h => h
theorem t_cmp1 {pa pb : Expr} {op : CmpOp} {t : TE} {a : Ex} (h : PC X op pa pb t) (h1 : behindInMarks op pb = false) (hh : ∀ σ H Q, tE (lay X c) W E (wE G E a) σ H Q → t σ H Q) : PT X (.Compare pa [op] [pb] pos) (tT (lay X c) W E (wE G E a)) :=
  PT.imp (pt_cmp h h1) fun σ H Q q => hh σ H _ q
theorem q_and {pa pb : Expr} {r : List Expr} {a b : Ex} (ha : PE X pa (tE (lay X c) W E (wE G E a))) (hb : PE X (.BoolOp .And (pb :: r) pos) (tE (lay X c) W E (wE G E b))) : PE X (.BoolOp .And (pa :: pb :: r) pos) (tE (lay X c) W E (wE G E (.and a b))) := by
  refine PE.imp (pe_and ha hb) fun σ H Q h => ?_
  obtain ⟨e, S, Qd, he, hs, hf, k, xw⟩ := h
  simp only [wE] at hf
  refine ⟨e, S, _, he, hs, hf, fun v S1 u H1 st q hs1 rv => ?_, xw⟩
  obtain ⟨d, rfl, q1, q2⟩ := withB_some q
  cases rv
  refine ⟨d, rfl, ?_⟩
  cases d with
  | true => rw [if_pos rfl]; exact ⟨e, S1, Qd, he.mono st.tp, hs1, q1 rfl, k.step st, xw.step st⟩
  | false => rw [if_neg Bool.false_ne_true]; exact (k.step st).here (q2 rfl) hs1 rfl
theorem q_or {pa pb : Expr} {r : List Expr} {a b : Ex} (ha : PE X pa (tE (lay X c) W E (wE G E a))) (hb : PE X (.BoolOp .Or (pb :: r) pos) (tE (lay X c) W E (wE G E b))) : PE X (.BoolOp .Or (pa :: pb :: r) pos) (tE (lay X c) W E (wE G E (.or a b))) := by
  refine PE.imp (pe_or ha hb) fun σ H Q h => ?_
  obtain ⟨e, S, Qd, he, hs, hf, k, xw⟩ := h
  simp only [wE] at hf
  refine ⟨e, S, _, he, hs, hf, fun v S1 u H1 st q hs1 rv => ?_, xw⟩
  obtain ⟨d, rfl, q1, q2⟩ := withB_some q
  cases rv
  refine ⟨d, rfl, ?_⟩
  cases d with
  | true => rw [if_pos rfl]; exact (k.step st).here (q1 rfl) hs1 rfl
  | false => rw [if_neg Bool.false_ne_true]; exact ⟨e, S1, Qd, he.mono st.tp, hs1, q2 rfl, k.step st, xw.step st⟩
theorem t_and {pa pb : Expr} {r : List Expr} {a b : Ex} (ha : PT X pa (tT (lay X c) W E (wE G E a))) (hb : PW X (.BoolOp .And (pb :: r) pos) (tT (lay X c) W E (wE G E b))) : PW X (.BoolOp .And (pa :: pb :: r) pos) (tT (lay X c) W E (wE G E (.and a b))) := by
  refine PW.imp (pw_and ha hb) fun σ H Q h => ?_
  obtain ⟨e, S, Qd, he, hs, hf, k, xw⟩ := h
  simp only [wE] at hf
  refine ⟨e, S, _, he, hs, hf, fun v S1 u H1 st q hs1 rv => ?_, xw⟩
  obtain ⟨d, rfl, q1, q2⟩ := withB_some q
  cases rv
  refine ⟨d, rfl, ?_⟩
  cases d with
  | true => rw [if_pos rfl]; exact ⟨e, S1, Qd, he.mono st.tp, hs1, q1 rfl, k.step st, xw.step st⟩
  | false =>
    rw [if_neg Bool.false_ne_true]
    obtain ⟨d, e2, r⟩ := (k.step st).here (q2 rfl) hs1 rfl
    cases e2
    exact r
theorem t_or {pa pb : Expr} {r : List Expr} {a b : Ex} (ha : PT X pa (tT (lay X c) W E (wE G E a))) (hb : PW X (.BoolOp .Or (pb :: r) pos) (tT (lay X c) W E (wE G E b))) : PW X (.BoolOp .Or (pa :: pb :: r) pos) (tT (lay X c) W E (wE G E (.or a b))) := by
  refine PW.imp (pw_or ha hb) fun σ H Q h => ?_
  obtain ⟨e, S, Qd, he, hs, hf, k, xw⟩ := h
  simp only [wE] at hf
  refine ⟨e, S, _, he, hs, hf, fun v S1 u H1 st q hs1 rv => ?_, xw⟩
  obtain ⟨d, rfl, q1, q2⟩ := withB_some q
  cases rv
  refine ⟨d, rfl, ?_⟩
  cases d with
  | false => rw [if_neg Bool.false_ne_true]; exact ⟨e, S1, Qd, he.mono st.tp, hs1, q2 rfl, k.step st, xw.step st⟩
  | true =>
    rw [if_pos rfl]
    obtain ⟨d, e2, r⟩ := (k.step st).here (q1 rfl) hs1 rfl
    cases e2
    exact r
theorem q_chain {o p : Cop} {po pp : CmpOp} {pa pb pc : Expr} {a b d : Ex} (ho : OpR X (compareOp po) (rv2 (lay X c) (wCmp o))) (hp : OpR X (compareOp pp) (rv2 (lay X c) (wCmp p))) (ha : PE X pa (tE (lay X c) W E (wE G E a))) (hb : PE X pb (tE (lay X c) W E (wE G E b)))
    (hc : PE X pc (tE (lay X c) W E (wE G E d))) (hm : plainX pb = true) (hm2 : plainX pc = true) : PE X (.Compare pa [po, pp] [pb, pc] pos) (tE (lay X c) W E (wE G E (.chain o p a b d))) := by
  refine PE.imp (pe_chain ho hp ha hb hc (by first | exact plain_mark hm _ | exact plain_mark hm2 _)) fun σ H Q h => ?_
  obtain ⟨e, S, Qd, he, hs, hf, k, xw⟩ := h
  simp only [wE] at hf
  refine ⟨e, S, _, he, hs, hf, fun v S1 u H1 st q hs1 rv => ?_, xw⟩
  refine ⟨e, S1, _, he.mono st.tp, hs1, q, fun v2 S2 u2 H2 st2 q2 hs2 rv2' => ?_, xw.step st⟩
  refine ⟨v, v2, S2, _, RV.mono st2.tp _ _ rv, rv2', hs2, q2, fun v3 S3 u3 H3 st3 q3 hs3 rv3 => ?_⟩
  obtain ⟨z, rfl, q4, q5⟩ := withB_some q3
  cases rv3
  refine ⟨z, rfl, ?_⟩
  have st13 := (st.trans st2).trans st3
  cases z with
  | true =>
    rw [if_pos rfl]
    refine ⟨e, S3, _, he.mono st13.tp, hs3, q4 rfl, fun v4 S4 u4 H4 st4 q6 hs4 rv4 => ?_, xw.step st13⟩
    exact ⟨v2, v4, S4, Qd, RV.mono (st3.trans st4).tp _ _ rv2', rv4, hs4, q6, (k.step st13).step st4⟩
  | false =>
    rw [if_neg Bool.false_ne_true]
    exact (k.step st13).here (q5 rfl) hs3 rfl
theorem q_var {i : Nat} {x : Str} (hN : X.N[i]? = some x) (hv : Vis X.env.scope x) (hd : (x == ("__debug__" : Str)) = false) (hcd : (x == ("__classdict__" : Str)) = false) : PE X (.Name x pos) (tE (lay X c) W E (wE G E (.var i))) := by
  refine PE.imp (pe_var hN hv hd hcd) fun σ H Q h => ?_
  obtain ⟨e, S, Qd, he, hs, hf, k, xw⟩ := h
  simp only [wE] at hf
  obtain ⟨v, e1, q⟩ := withO_some hf
  obtain ⟨u, e2, rv⟩ := he.get e1
  exact ⟨u, e2, k.here q hs rv⟩
theorem q_const {v : Val} {u : V} {pe : Expr} {a : Ex} (h : PE X pe (tC u)) (rv : ∀ H, RV X.K H v u) (hw : ∀ e S Q, wE G E a e S Q → Q v S) : PE X pe (tE (lay X c) W E (wE G E a)) := by
  refine PE.imp h fun σ H Q h => ?_
  obtain ⟨e, S, Qd, he, hs, hf, k, xw⟩ := h
  exact k.here (hw _ _ _ hf) hs (rv H)
theorem q_fld {pa : Expr} {a : Ex} {f : Str} (ha : PE X pa (tE (lay X c) W E (wE G E a))) (hm : plainX pa = true) : PE X (.Attribute pa f pos) (tE (lay X c) W E (wE G E (.fld a f))) := by
  refine PE.imp (pe_fld ha (plain_attr hm f X.env)) fun σ H Q h => ?_
  obtain ⟨e, S, Qd, he, hs, hf, k, xw⟩ := h
  simp only [wE] at hf
  refine ⟨e, S, _, he, hs, hf, fun v S1 u H1 st q hs1 rv => ?_, xw⟩
  cases v with
  | ref p =>
    cases rv
    cases e1 : S1 p with
    | none => simp only [e1] at q
    | some o =>
      cases o with
      | ins ci fs =>
        simp only [e1] at q
        obtain ⟨w, e2, q⟩ := withO_some q
        obtain ⟨dx, gs, h1, h2, h3⟩ := hs1 p _ e1
        have look : ∀ {fs : List (Str × Val)} {gs : List (Str × V)}, Paired (fun (p : Str × Val) (q : Str × V) => p.1 = q.1 ∧ NoAttr X.K (c.ca ci) p.1 ∧ RV X.K H1 p.2 q.2) fs gs → fs.lookup f = some w → ∃ u, gs.lookup f = some u ∧ NoAttr X.K (c.ca ci) f ∧ RV X.K H1 w u := by
          intro fs gs r
          induction r with
          | nil => intro z; cases z
          | @cons p q ps qs hq t ih =>
            intro z
            obtain ⟨p1, p2⟩ := p
            obtain ⟨q1, q2⟩ := q
            obtain ⟨z1, z2, z3⟩ := hq
            have z1' : p1 = q1 := z1
            subst z1'
            simp only [List.lookup_cons] at z ⊢
            cases y : f == p1 with
            | true =>
              simp only [y] at z
              cases z
              have : f = p1 := by simpa using y
              subst this
              exact ⟨q2, rfl, z2, z3⟩
            | false =>
              simp only [y] at z
              exact ih z
        obtain ⟨u, e3, na, ru⟩ := look h3 e2
        exact ⟨p, c.ca ci, dx, gs, u, rfl, h1, h2, na, e3, (k.step st).here q hs1 ru⟩
      | lst xs => simp only [e1] at q
      | dct kvs t => simp only [e1] at q
  | _ => exact q.elim
theorem q_drop {pe : Expr} {a : Ex} (ha : PE X pe (tE (lay X c) W E (wE G E a))) : PE X pe (tE (lay X c) W E (wE G E (.drop a))) := by
  refine PE.imp ha fun σ H Q h => ?_
  obtain ⟨e, S, Qd, he, hs, hf, k, xw⟩ := h
  simp only [wE] at hf
  refine ⟨e, S, _, he, hs, hf, fun v S1 u H1 st q hs1 rv => ?_, xw⟩
  refine k v _ u H1 ⟨st.tp, st.more, fun a ha => st.dom a fun z => ha ?_, st.frm⟩ q (hs1.sub keep_sub) rv
  unfold keep
  split
  · exact z
  · rfl
end
end DL

set_option Elab.async false
set_option linter.all false
set_option maxRecDepth 100000
set_option maxHeartbeats 2000000
/-! Own layer, part 6: argument lists, displays, slices, calls. -/
namespace DL
open PySem PySem.Spec PyProof.Rows L2
section
variable {X : Cx} {c : LC} {W : WX} {E : Nat → Sto → Prop} {G : Cfg} {pos : Pos}
theorem a_nil : PA X [] (tA (lay X c) W E 0 (wEs G E .nil)) := by
  refine PA.imp pa_nil fun σ H Q h => ?_
  obtain ⟨e, S, Qd, he, hs, hf, k, xw⟩ := h
  simp only [wEs] at hf
  exact k [] S [] H .refl hf hs rfl rfl
theorem a_cons {pa : Expr} {pr : List Expr} {a : Ex} {r : Exs} {n : Nat} (ha : PE X pa (tE (lay X c) W E (wE G E a))) (hr : PA X pr (tA (lay X c) W E n (wEs G E r))) (hm : plainX pa = true) : PA X (pa :: pr) (tA (lay X c) W E (n + 1) (wEs G E (.cons a r))) := by
  refine PA.imp (pa_cons ha hr (plain_star hm pr X.env)) fun σ H Q h => ?_
  obtain ⟨e, S, Qd, he, hs, hf, k, xw⟩ := h
  simp only [wEs] at hf
  refine ⟨e, S, _, he, hs, hf, fun v S1 u H1 st q hs1 rv => ?_, xw⟩
  refine ⟨e, S1, _, he.mono st.tp, hs1, q, fun vs S2 us H2 st2 q2 hs2 rvs hl => ?_, xw.step st⟩
  exact k (v :: vs) S2 (u :: us) H2 (st.trans st2) q2 hs2 ⟨u, us, rfl, RV.mono st2.tp _ _ rv, rvs⟩ (by simp [hl])
theorem q_tup {pes : List Expr} {es : Exs} {n x1 : Nat} (h : PA X pes (tA (lay X c) W E n (wEs G E es))) (hn : n ≤ 1000) : PE X (.Tuple pes x1 pos) (tE (lay X c) W E (wE G E (.tup es))) := by
  refine PE.imp (pe_tup h) fun σ H Q h => ?_
  obtain ⟨e, S, Qd, he, hs, hf, k, xw⟩ := h
  simp only [wE] at hf
  refine ⟨e, S, _, he, hs, hf, fun vs S1 us H1 st q hs1 rvs hl => ⟨?_, fun p np => (k.step st).tup q hs1 rvs np⟩, xw⟩
  rw [← rvs.length, hl, sizeLine_eq]
  omega
theorem q_lst {pes : List Expr} {es : Exs} {n : Nat} (h : PA X pes (tA (lay X c) W E n (wEs G E es))) (hn : n ≤ 1000) : PE X (.List pes pos) (tE (lay X c) W E (wE G E (.lst es))) := by
  refine PE.imp (pe_lst h) fun σ H Q h => ?_
  obtain ⟨e, S, Qd, he, hs, hf, k, xw⟩ := h
  simp only [wE] at hf
  refine ⟨e, S, _, he, hs, hf, fun vs S1 us H1 st q hs1 rvs hl => ⟨?_, fun p np => (k.step st).lst q hs1 rvs np⟩, xw⟩
  rw [← rvs.length, hl, sizeLine_eq]
  omega
/-- a part of a slice -/
def tO (L : Lay) (W : WX) (E : Nat → Sto → Prop) (f : Env → Sto → (Option Int → Sto → Prop) → Prop) : TO := fun σ H Q => ∃ e S Qd, RE L.K H e σ ∧ RS L H S ∧ f e S Qd ∧ (∀ o S' H', Stp L H S H' S' → Qd o S' → RS L H' S' → Q o H') ∧ XW L W E σ H S
theorem PO.imp {X : Cx} {e : Option Expr} {t t' : TO} (h : PO X e t) (hh : ∀ σ H Q, t' σ H Q → t σ H Q) : PO X e t' := ⟨fun pins s σ H Q I q => h.run pins s σ H Q I (hh _ _ _ q)⟩
theorem o_none : PO X none (tO (lay X c) W E (wO G E .none)) := by
  refine PO.imp po_none fun σ H Q h => ?_
  obtain ⟨e, S, Qd, he, hs, hf, k, xw⟩ := h
  simp only [wO] at hf
  exact k none S H .refl hf hs
theorem o_some {pa : Expr} {a : Ex} (ha : PE X pa (tE (lay X c) W E (wE G E a))) : PO X (some pa) (tO (lay X c) W E (wO G E (.some a))) := by
  refine PO.imp (po_some ha) fun σ H Q h => ?_
  obtain ⟨e, S, Qd, he, hs, hf, k, xw⟩ := h
  simp only [wO] at hf
  refine ⟨e, S, _, he, hs, hf, fun v S1 u H1 st q hs1 rv => ?_, xw⟩
  cases v with
  | int i => cases rv; exact ⟨i, rfl, k (some i) S1 H1 st q hs1⟩
  | _ => exact q.elim
theorem q_slice {pa : Expr} {plo phi : Option Expr} {a : Ex} {lo hi : Oe} {p2 : Pos} (ha : PE X pa (tE (lay X c) W E (wE G E a))) (hl : PO X plo (tO (lay X c) W E (wO G E lo))) (hh : PO X phi (tO (lay X c) W E (wO G E hi))) :
    PE X (.Subscript pa (.Slice plo phi none p2) pos) (tE (lay X c) W E (wE G E (.slice a lo hi))) := by
  refine PE.imp (pe_slice (s_slice (c := c)) ha hl hh) fun σ H Q h => ?_
  obtain ⟨e, S, Qd, he, hs, hf, k, xw⟩ := h
  simp only [wE] at hf
  refine ⟨e, S, _, he, hs, hf, fun v S1 u H1 st q hs1 rv => ?_, xw⟩
  refine ⟨e, S1, _, he.mono st.tp, hs1, q, fun o S2 H2 st2 q2 hs2 => ?_, xw.step st⟩
  refine ⟨e, S2, _, he.mono (st.trans st2).tp, hs2, q2, fun o2 S3 H3 st3 q3 hs3 => ?_, (xw.step st).step st2⟩
  exact ⟨v, S3, Qd, RV.mono (st2.trans st3).tp _ _ rv, hs3, q3, ((k.step st).step st2).step st3⟩

/-! ### calls -/
theorem q_call {f n : Nat} {es : Exs} {x : Str} {p : Pos} {pe : Expr} {pes : List Expr} {T : Tab} {k : Nat} {sc : Scope} (O : XOk X c G T k sc) (tk : Takes X W) (hx : T.fns.lookup x = some f) (hg : Gl X x) (hd : (x == ("__debug__" : Str)) = false)
    (h : PA X (pe :: pes) (tA (lay X c) W E n (wEs G E es))) (hm : plainX pe = true) (hpl : (backTo pos (starEach pes X.env)).any (·.1) = false) : PE X (.Call (.Name x p) (pe :: pes) [] pos) (tE (lay X c) W E (wE G E (.call f es))) := by
  obtain ⟨sp, hG, FA⟩ := O.nm.fns x f hx
  obtain ⟨a, fd, ps, F, hmg, hk, hb⟩ := FA.ex
  refine PE.imp (pe_callS F O.room hg hmg hk hb (fun σ => passAt tk σ) h hd (plain_star hm pes X.env) hpl) fun σ H Q h => ?_
  obtain ⟨e, S, Qd, he, hs, hf, k, xw⟩ := h
  simp only [wE, hG] at hf
  refine ⟨e, S, _, he, hs, hf, fun vs S1 us H1 st q hs1 rvs hl => ?_, xw⟩
  exact ⟨vs, S1, Qd, E, rvs, hs1, q, k.step st, xw.step st⟩
/-- a new instance -/
theorem q_new {ci n : Nat} {es : Exs} {x : Str} {p : Pos} {pe : Expr} {pes : List Expr} {T : Tab} {k : Nat} {sc : Scope} (O : XOk X c G T k sc) (hx : T.cls.lookup x = some ci) (hg : Gl X x) (hd : (x == ("__debug__" : Str)) = false)
    (h : PA X (pe :: pes) (tA (lay X c) W E n (wEs G E es))) (hm : plainX pe = true) (hpl : (backTo pos (starEach pes X.env)).any (·.1) = false) : PE X (.Call (.Name x p) (pe :: pes) [] pos) (tE (lay X c) W E (wE G E (.new ci es))) := by
  obtain ⟨sp, hG, NA⟩ := O.nm.news x ci hx
  obtain ⟨j, a, fd, ps, hj, F, M, cl, hmg, hb⟩ := NA.ex
  refine PE.imp (pe_make M F (by rw [hj]; exact O.room) hg hmg hb .nil passL h hd (plain_star hm pes X.env) hpl) fun σ H Q h => ?_
  obtain ⟨e, S, Qd, he, hs, hf, k, xw⟩ := h
  simp only [wE, hG] at hf
  refine ⟨e, S, _, he, hs, hf, fun vs S1 us H1 st q hs1 rvs hln => ?_, xw⟩
  intro p dx np nd ne
  have t1 : Tp X.K H1 (upd H1 dx (.own p)) := Tp.fresh nd
  have np' : upd H1 dx (.own p) p = none := by rw [upd_ne (Ne.symm ne)]; exact np
  have t2 : Tp X.K (upd H1 dx (.own p)) (upd (upd H1 dx (.own p)) p (.ins (c.ca ci) dx [])) := Tp.fresh np'
  have st1 : Stp (lay X c) H1 S1 (upd H1 dx (.own p)) S1 := Stp.new nd
  have st2 : Stp (lay X c) (upd H1 dx (.own p)) S1 (upd (upd H1 dx (.own p)) p (.ins (c.ca ci) dx [])) (up S1 p (.ins ci [])) := Stp.alloc np'
  have hs2 : RS (lay X c) (upd (upd H1 dx (.own p)) p (.ins (c.ca ci) dx [])) (up S1 p (.ins ci [])) := RS.upd (hs1.new nd) t2 ⟨dx, [], upd_same, cl, .nil⟩
  have hq := q p (RS.off hs1 np)
  rw [List.append_nil]
  refine ⟨.ref p :: vs, up S1 p (.ins ci []), _, noE, ⟨_, _, rfl, rfl, RVs.mono (st1.trans st2).tp _ _ rvs⟩, hs2, hq, fun v S3 u H3 st3 q3 hs3 rv3 => ?_, fun _ _ _ _ z => z.elim⟩
  cases v with
  | non => cases rv3; exact ⟨rfl, ((k.step st).step (st1.trans st2)).step st3 |>.here q3 hs3 rfl⟩
  | _ => exact q3.elim
/-! ### built-ins -/
theorem boot_b : ∀ b : Bt, bootBuiltins (bN b) = some (bf b)
  | .len => by decide +kernel
  | .all => by decide +kernel
  | .any => by decide +kernel
  | .tuple => by decide +kernel
  | .list => by decide +kernel
  | .dict => by decide +kernel
  | .sorted => by decide +kernel
  | .int => by decide +kernel
  | .max1 => by decide +kernel
  | .max2 => by decide +kernel
  | .min1 => by decide +kernel
  | .min2 => by decide +kernel
  | .sum => by decide +kernel
  | .str => by decide +kernel
theorem bN_mem (b : Bt) : bN b ∈ [("len" : Str), "all", "any", "tuple", "list", "dict", "sorted", "int", "max", "min", "sum", "str", "isinstance", "range", "enumerate", "zip", "bool"] := by
  cases b <;> simp [bN]
theorem nmg {T : Tab} {k : Nat} {sc : Scope} (O : XOk X c G T k sc) (b : Bt) : X.mg (bN b) = none := O.nm.blt _ (bN_mem b)
theorem pe_callBf {b : Bt} {x : Str} {p : Pos} {e : Expr} {es : List Expr} {t : TA} {r : List V → Hp → VK → Prop} (hc : CallR X (bf b) r) (hx : x = bN b) (hg : Gl X x) (hm : X.mg x = none) (ha : PA X (e :: es) t) (hn : x ≠ "__name__") (hdb : (x == ("__debug__" : Str)) = false)
    (he : starEach (e :: es) X.env = (false, eval e X.env) :: starEach es X.env) (hpl : (backTo pos (starEach es X.env)).any (·.1) = false) : PE X (.Call (.Name x p) (e :: es) [] pos) (tCB r t) := by
  subst hx
  have hv := boot_b b
  cases b <;> first
    | exact pe_callB hc hg hm hv ha hn hdb he hpl
    | exact pe_callTy hc hg hm hv ha hn hdb he hpl
theorem q_blt {b : Bt} {n : Nat} {es : Exs} {x : Str} {p : Pos} {pe : Expr} {pes : List Expr} {T : Tab} {k : Nat} {sc : Scope} (O : XOk X c G T k sc) (hb : b ≠ .dict) (hx : x = bN b) (hg : Gl X x) (hn : x ≠ "__name__") (hd : (x == ("__debug__" : Str)) = false)
    (h : PA X (pe :: pes) (tA (lay X c) W E n (wEs G E es))) (hm : plainX pe = true) (hpl : (backTo pos (starEach pes X.env)).any (·.1) = false) : PE X (.Call (.Name x p) (pe :: pes) [] pos) (tE (lay X c) W E (wE G E (.blt b es))) := by
  refine PE.imp (pe_callBf (b_vals (c := c) O.calm b hb) hx hg (by rw [hx]; exact nmg O b) h hn hd (plain_star hm pes X.env) hpl) fun σ H Q h => ?_
  obtain ⟨e, S, Qd, he, hs, hf, k, xw⟩ := h
  simp only [wE] at hf
  refine ⟨e, S, _, he, hs, hf, fun vs S1 us H1 st q hs1 rvs hl => ?_, xw⟩
  exact ⟨vs, S1, Qd, rvs, hs1, q, k.step st⟩
theorem q_isi {a : Ex} {t : Ty} {x y : Str} {p p2 : Pos} {pa : Expr} {T : Tab} {k : Nat} {sc : Scope} (O : XOk X c G T k sc) (hx : x = "isinstance") (hy : y = tN t) (hg : Gl X x) (hg2 : Gl X y)
    (ha : PE X pa (tE (lay X c) W E (wE G E a))) (hst : starEach [pa, .Name y p2] X.env = (false, eval pa X.env) :: starEach [.Name y p2] X.env) : PE X (.Call (.Name x p) [pa, .Name y p2] [] pos) (tE (lay X c) W E (wE G E (.isi a t))) := by
  subst hx
  have hv : bootBuiltins y = some (.type (tyN t)) := by subst hy; cases t <;> decide +kernel
  have hm : X.mg y = none := O.nm.blt _ (by subst hy; cases t <;> simp [tN])
  have hn : y ≠ "__name__" := by subst hy; cases t <;> decide
  have hd : (y == ("__debug__" : Str)) = false := by subst hy; cases t <;> decide
  have hy : PE X (.Name y p2) (tC (.ty (tyN t))) := pe_bltn hg2 hm hv rfl hn hd
  refine PE.imp (pe_callB (b_isi (c := c) t) hg (O.nm.blt _ (by simp)) (by decide +kernel) (pa_cons ha (pa_cons hy pa_nil) hst) (by decide) (by decide) hst rfl) fun σ H Q h => ?_
  obtain ⟨e, S, Qd, he, hs, hf, k, xw⟩ := h
  simp only [wE] at hf
  refine ⟨e, S, _, he, hs, hf, fun v S1 u H1 st q hs1 rv => ?_, xw⟩
  exact ⟨u, v, S1, Qd, rfl, rv, hs1, q.1, q.2, k.step st⟩
end
end DL

set_option Elab.async false
set_option linter.all false
set_option maxRecDepth 100000
set_option maxHeartbeats 2000000
/-! Own layer, part 7: methods. -/
namespace DL
open PySem PySem.Spec PyProof.Rows L2
section
variable {X : Cx} {c : LC} {W : WX} {E : Nat → Sto → Prop} {G : Cfg} {pos : Pos}
/-- a built-in type's method is to be found at a value -/
def TyIs (X : Cx) (T : String) (x : V) (H : Hp) : Prop := ∀ (pins : List (Addr × Obj)) (σ : L2.St) (s : Shared) (v : Value), Inv X pins σ H s → RelV x v → s.TypeIs v T ∧ ∀ a, v = .ref a → ∃ ob, s.heap.get? a = some ob ∧ ob.dict = none
/-- the method that is found -/
def Found (X : Cx) (name : Str) (x : V) (H : Hp) (r : V → List V → Hp → VK → Prop) : Prop := ∃ (T id : String), PlainAttrs T ∧ Slot T name id ∧ typeOf (.builtin id) = pure (.type "method_descriptor") ∧ MtR X id r ∧ TyIs X T x H
def tBMd (X : Cx) (name : Str) (to : TE) (t : TA) : TE := fun σ H Q => to σ H fun x H1 => ∃ r, Found X name x H1 r ∧ t σ H1 fun xs H2 => r x xs H2 Q
def tBMd0 (X : Cx) (name : Str) (to : TE) : TE := fun σ H Q => to σ H fun x H1 => ∃ r, Found X name x H1 r ∧ r x [] H1 Q
theorem pe_bmD {o e : Expr} {es : List Expr} {to : TE} {t : TA} {name : Str} {apos cpos : Pos} (ho : PE X o to) (ha : PA X (e :: es) t) (he : plainX e = true)
    (hbase : attributeBase o name X.env (eval o X.env) = eval o X.env)
    (hfew : ((backTo cpos (starEach (e :: es) X.env)).all (fun x => !x.1) && (backToKw cpos (keywordEach [] X.env)).all (fun x => x.1.isSome)
      && decide ((e :: es).length + ([] : List Keyword).length + (if ([] : List Keyword).isEmpty then 0 else 1) < 30)) = true)
    (hline : (apos.endLine == cpos.line) = true) (hplain : (backTo cpos (starEach es X.env)).any (·.1) = false) :
    PE X (.Call (.Attribute o name apos) (e :: es) [] cpos) (tBMd X name to t) := by
  refine ⟨fun pins s σ H Q I h => ?_⟩
  refine wpAny_Call_method_late hbase hfew hline rfl (thn (ho.run pins s σ H _ I h) fun v s1 ⟨x, H1, I1, r1, r, ⟨T, id, pa, slot, hty, hm, ty⟩, q1⟩ => ?_)
  obtain ⟨h1, h2⟩ := ty pins σ s1 v I1 r1
  refine ⟨T, id, pa, slot, hty, h1, h2, ?_⟩
  have hA := ha.run cpos pins s1 σ H1 _ I1 q1
  rw [plain_star he] at hA ⊢
  refine Calls.callWith_builtin (by show (false || (backTo cpos (starEach es X.env)).any (·.1)) = false; rw [hplain] <;> rfl) (Calls.evalArgs_plain ?_)
  exact thn hA fun us s2 ⟨vs, H2, I2, r2, q2⟩ => hm pins s2 σ H2 x vs v us Q I2 r1 r2 q2
theorem pe_bmD0 {o : Expr} {to : TE} {name : Str} {apos cpos : Pos} (ho : PE X o to)
    (hbase : attributeBase o name X.env (eval o X.env) = eval o X.env) (hline : (apos.endLine == cpos.line) = true) :
    PE X (.Call (.Attribute o name apos) [] [] cpos) (tBMd0 X name to) := by
  refine ⟨fun pins s σ H Q I h => ?_⟩
  refine wpAny_Call_method0_late hbase hline (thn (ho.run pins s σ H _ I h) fun v s1 ⟨x, H1, I1, r1, r, ⟨T, id, pa, slot, hty, hm, ty⟩, q1⟩ => ?_)
  obtain ⟨h1, h2⟩ := ty pins σ s1 v I1 r1
  exact ⟨T, id, pa, slot, hty, h1, h2, Calls.callWith_builtin rfl (PySem.evalArgs_none (hm pins s1 σ H1 x [] v [] Q I1 r1 .nil q1))⟩
theorem ty_list {p : Addr} {H : Hp} {us : List V} (h : H p = some (.lst us)) : TyIs X "list" (.ref p) H := fun pins σ s v I r => tyV_is I r (.inl ⟨rfl, us, SqL.of h⟩)
theorem ty_dict {p : Addr} {H : Hp} {es : Array DictEntry} {t : Nat} (h : H p = some (dctO p es t)) : TyIs X "dict" (.ref p) H := fun pins σ s v I r => by
  cases r
  obtain ⟨o, e1, e2, e3⟩ := raw_of I h
  refine ⟨(raw_of I h).typeIs, fun a e => ?_⟩
  cases e
  exact ⟨o, e1, e2.2.1⟩
/-- the method of a list -/
theorem m_list : ∀ m : Mt, mOk m = true → ∃ id, Slot "list" (mN m) id ∧ typeOf (.builtin id) = pure (.type "method_descriptor") ∧ MtR X id (rvm (lay X c) m)
  | .append, _ => ⟨_, PySem.F.slot_list_append, PySem.F.type_list_append, m_append⟩
  | .extend, _ => ⟨_, PySem.F.slot_list_extend, PySem.F.type_list_extend, m_extend⟩
  | .pop, _ => ⟨_, PySem.F.slot_list_pop, PySem.F.type_list_pop, m_pop⟩
  | .reverse, _ => ⟨_, PySem.F.slot_list_reverse, PySem.F.type_list_reverse, m_reverse⟩
  | .index, h => by cases h
  | .count, h => by cases h
  | .setdefault, h => by cases h
  | .get, h => by cases h
  | .split, h => by cases h
  | .find, h => by cases h
theorem recv_list : ∀ {m : Mt} {v : Val} {S : Sto}, mOk m = true → recv m v S = true → ∃ p xs, v = .ref p ∧ S p = some (.lst xs) := by
  intro m v S h q
  cases v with
  | ref p =>
    cases e : S p with
    | none => cases m <;> first | (simp [recv, e] at q; done) | (cases h; done)
    | some o =>
      cases o with
      | lst xs => exact ⟨p, xs, rfl, e⟩
      | dct kvs t => cases m <;> first | (simp [recv, e] at q; done) | (cases h; done)
      | ins ci fs => cases m <;> first | (simp [recv, e] at q; done) | (cases h; done)
  | _ => cases m <;> first | (simp [recv] at q; done) | (cases h; done)
theorem few_args {es : List Expr} {cpos : Pos} (hl : es.length < 20) (h : (backTo cpos (starEach es X.env)).any (·.1) = false) :
    ((backTo cpos (starEach es X.env)).all (fun x => !x.1) && (backToKw cpos (keywordEach [] X.env)).all (fun x => x.1.isSome)
      && decide (es.length + ([] : List Keyword).length + (if ([] : List Keyword).isEmpty then 0 else 1) < 30)) = true := by
  have e1 : (backTo cpos (starEach es X.env)).all (fun x => !x.1) = true := by
    rw [List.all_eq_true]
    intro x hx
    rw [List.any_eq_false] at h
    have := h x hx
    simpa using this
  rw [e1]
  simp [keywordEach, backToKw]
  omega
/-- what is found of a receiver -/
theorem recv_found {m : Mt} {v : Val} {u : V} {S : Sto} {H : Hp} (hm : mOk m = true) (h : recv m v S = true) (hs : RS (lay X c) H S) (rv : RV X.K H v u) : Found X (mN m) u H (rvm (lay X c) m) := by
  obtain ⟨p, xs, rfl, ep⟩ := recv_list hm h
  cases rv
  obtain ⟨us, hl, hr⟩ := hs p _ ep
  obtain ⟨id, s1, s2, s3⟩ := m_list (X := X) (c := c) m hm
  exact ⟨"list", id, PySem.F.plainAttrs_list, s1, s2, s3, ty_list hl⟩
theorem q_meth {a : Ex} {m : Mt} {n : Nat} {es : Exs} {pa pe : Expr} {pes : List Expr} {apos : Pos} (hm : mOk m = true) (ha : PE X pa (tE (lay X c) W E (wE G E a))) (h : PA X (pe :: pes) (tA (lay X c) W E n (wEs G E es)))
    (hp : plainX pa = true) (hpe : plainX pe = true) (hl : (pe :: pes).length < 20) (hline : (apos.endLine == pos.line) = true) (hpl : (backTo pos (starEach pes X.env)).any (·.1) = false) :
    PE X (.Call (.Attribute pa (mN m) apos) (pe :: pes) [] pos) (tE (lay X c) W E (wE G E (.meth a m es))) := by
  have hpl' : (backTo pos (starEach (pe :: pes) X.env)).any (·.1) = false := by rw [plain_star hpe]; exact hpl
  refine PE.imp (pe_bmD ha h hpe (plain_attr hp _ X.env) (few_args hl hpl') hline hpl) fun σ H Q h => ?_
  obtain ⟨e, S, Qd, he, hs, hf, k, xw⟩ := h
  simp only [wE] at hf
  refine ⟨e, S, _, he, hs, hf, fun v S1 u H1 st q hs1 rv => ?_, xw⟩
  obtain ⟨rc, q⟩ := q
  refine ⟨_, recv_found hm rc hs1 rv, ?_⟩
  refine ⟨e, S1, _, he.mono st.tp, hs1, q, fun vs S2 us2 H2 st2 q2 hs2 rvs _ => ?_, xw.step st⟩
  exact ⟨v, vs, S2, Qd, RV.mono st2.tp _ _ rv, rvs, hs2, q2, (k.step st).step st2⟩
theorem q_meth0 {a : Ex} {m : Mt} {pa : Expr} {apos : Pos} (hm : mOk m = true) (ha : PE X pa (tE (lay X c) W E (wE G E a))) (hp : plainX pa = true) (hline : (apos.endLine == pos.line) = true) :
    PE X (.Call (.Attribute pa (mN m) apos) [] [] pos) (tE (lay X c) W E (wE G E (.meth a m .nil))) := by
  refine PE.imp (pe_bmD0 ha (plain_attr hp _ X.env) hline) fun σ H Q h => ?_
  obtain ⟨e, S, Qd, he, hs, hf, k, xw⟩ := h
  simp only [wE, wEs] at hf
  refine ⟨e, S, _, he, hs, hf, fun v S1 u H1 st q hs1 rv => ?_, xw⟩
  obtain ⟨rc, q⟩ := q
  exact ⟨_, recv_found hm rc hs1 rv, v, [], S1, Qd, rv, rfl, hs1, q, k.step st⟩

/-- a method of an own class, whichever -/
def OwnM (X : Cx) (m : Str) (k : Nat) (x : V) (H : Hp) (sp : Sp) : Prop := ∃ (a C dx f : Addr) (fs : List (Str × V)) (fd : FuncData) (ps : List Str), x = .ref a ∧ H a = some (.ins C dx fs) ∧ Cls X.K C ∧ Meth X.K C m f ∧
  FnOk X.prog X.w X.K X.mg X.base (L2.CX X.prog X.w) k f fd ps sp ∧ Binds X.K fd ps [] ∧ fs.lookup m = none
def tMethD (X : Cx) (m : Str) (k : Nat) (ta : TE) (t : TA) : TE := fun σ H Q => ta σ H fun x H1 => ∃ sp, OwnM X m k x H1 sp ∧ t σ H1 fun vs H2 => sp (x :: vs) H2 Q E0
def tMethD0 (X : Cx) (m : Str) (k : Nat) (ta : TE) : TE := fun σ H Q => ta σ H fun x H1 => ∃ sp, OwnM X m k x H1 sp ∧ sp [x] H1 Q E0
theorem call_meth_eq {o : Expr} {m : Str} {apos : Pos} {es : List Expr} (hb : attributeBase o m X.env (eval o X.env) = eval o X.env) (hline : (apos.endLine == pos.line) = true) (hpl : (backTo pos (starEach es X.env)).any (·.1) = false) (hl : es.length < 20) :
    eval (.Call (.Attribute o m apos) es [] pos) X.env = (do
      let ov ← eval o X.env
      standAt apos.atName
      let (f, first) ← holding [ov] (getMethod ov m (do return (← importBound o X.env).getD true))
      callWith pos f first (backTo pos (starEach es X.env)) (backToKw pos (keywordEach [] X.env))) := by
  rw [arm_eval_Call, hb]
  have hf : methodCallForm (es.length + ([] : List Keyword).length) (backTo pos (starEach es X.env)) (backToKw pos (keywordEach [] X.env)) = true := by
    have := few_args (X := X) (cpos := pos) hl hpl
    unfold methodCallForm
    simpa [keywordEach, backToKw] using this
  unfold methodCall
  rw [hf]
  unfold calleeOf methodCallPos
  simp only [hline, Bool.not_true, Bool.false_or, if_true]
  rfl
theorem pe_methD {o e : Expr} {m : Str} {apos : Pos} {es : List Expr} {k : Nat} {ta : TE} {t : TA} (he : PE X o ta) (hr : Room k X.A) (ha : PA X (e :: es) t) (hb : attributeBase o m X.env (eval o X.env) = eval o X.env) (hline : (apos.endLine == pos.line) = true)
    (hpl : (backTo pos (starEach es X.env)).any (·.1) = false) (hl : (e :: es).length < 20) (hpe : plainX e = true) : PE X (.Call (.Attribute o m apos) (e :: es) [] pos) (tMethD X m k ta t) := by
  refine ⟨fun pins s σ H Q I h => ?_⟩
  have hpl' : (backTo pos (starEach (e :: es) X.env)).any (·.1) = false := by rw [plain_star hpe]; exact hpl
  refine PySem.W.methodCall_KW (thn (he.run pins s σ H _ I h) fun u s1 ⟨x, H1, I1, rx, sp, ⟨a, C, dx, f, fs, fd, ps, ex, ea, c, hm, F, hbi, l⟩, q⟩ => ?_) (call_meth_eq hb hline hpl' hl)
  subst ex
  obtain rfl : u = Value.ref a := rx
  refine getmeth_ok I1 ea c hm l ?_
  refine PySem.W.callWith_K (first := [.ref a]) (h₀ := X.base) I.ok.mod.kin hm.kp (thn (ha.run pos pins s1 σ H1 _ I1 q) fun us s2 ⟨vs, H2, I2, r, q2⟩ => ⟨I2.kIn, ?_⟩) (plain_star hpe es X.env) hpl
  exact run_fn (us := .ref a :: us) (vs := .ref a :: vs) F hr hbi .nil passL I2 (.cons rfl r) (by rw [List.append_nil]; exact q2)
theorem pe_methD0 {o : Expr} {m : Str} {apos : Pos} {k : Nat} {ta : TE} (he : PE X o ta) (hr : Room k X.A) (hb : attributeBase o m X.env (eval o X.env) = eval o X.env) (hline : (apos.endLine == pos.line) = true) :
    PE X (.Call (.Attribute o m apos) [] [] pos) (tMethD0 X m k ta) := by
  refine ⟨fun pins s σ H Q I h => ?_⟩
  refine PySem.W.methodCall_KW (thn (he.run pins s σ H _ I h) fun u s1 ⟨x, H1, I1, rx, sp, ⟨a, C, dx, f, fs, fd, ps, ex, ea, c, hm, F, hbi, l⟩, q⟩ => ?_) (call_meth_eq hb hline rfl (by decide))
  subst ex
  obtain rfl : u = Value.ref a := rx
  refine getmeth_ok I1 ea c hm l ?_
  exact PySem.W.callWith_K0 (first := [.ref a]) I1.kIn hm.kp (run_fn (us := [.ref a]) (vs := [.ref a]) F hr hbi .nil passL I1 (.cons rfl .nil) (by rw [List.append_nil]; exact q))
theorem own_found {T : Tab} {k : Nat} {sc : Scope} {p : Addr} {ci : Nat} {fs : List (Str × Val)} {m : Str} {sp : Spec} {S : Sto} {H : Hp} (O : XOk X c G T k sc) (hG : G.mt ci m = some sp) (hm : m ≠ ("__init__" : Str)) (hs : RS (lay X c) H S) (e : S p = some (.ins ci fs)) (l : fs.lookup m = none) :
    OwnM X m k (.ref p) H (lift (lay X c) sp) := by
  obtain ⟨a, fd, ps, F, hM, hb⟩ := (O.nm.mts ci m sp hG hm).ex
  obtain ⟨dx, gs, h1, h2, h3⟩ := hs p _ e
  refine ⟨p, c.ca ci, dx, a, gs, fd, ps, rfl, h1, h2, hM, F, hb, ?_⟩
  clear e h1
  induction h3 with
  | nil => rfl
  | @cons p q ps qs hq t ih =>
    obtain ⟨p1, p2⟩ := p
    obtain ⟨q1, q2⟩ := q
    have z1 : p1 = q1 := hq.1
    subst z1
    simp only [List.lookup_cons] at l ⊢
    cases y : m == p1 with
    | true => simp only [y] at l; cases l
    | false => simp only [y] at l; exact ih l
theorem q_umeth {a : Ex} {m : Str} {n : Nat} {es : Exs} {pa pe : Expr} {pes : List Expr} {apos : Pos} {T : Tab} {k : Nat} {sc : Scope} (O : XOk X c G T k sc) (hm : m ≠ ("__init__" : Str)) (ha : PE X pa (tE (lay X c) W E (wE G E a))) (h : PA X (pe :: pes) (tA (lay X c) W E n (wEs G E es)))
    (hp : plainX pa = true) (hpe : plainX pe = true) (hl : (pe :: pes).length < 20) (hline : (apos.endLine == pos.line) = true) (hpl : (backTo pos (starEach pes X.env)).any (·.1) = false) :
    PE X (.Call (.Attribute pa m apos) (pe :: pes) [] pos) (tE (lay X c) W E (wE G E (.umeth a m es))) := by
  refine PE.imp (pe_methD ha O.room h (plain_attr hp _ X.env) hline hpl hl hpe) fun σ H Q h => ?_
  obtain ⟨e, S, Qd, he, hs, hf, k, xw⟩ := h
  simp only [wE] at hf
  refine ⟨e, S, _, he, hs, hf, fun v S1 u H1 st q hs1 rv => ?_, xw⟩
  cases v with
  | ref p =>
    cases rv
    cases e1 : S1 p with
    | none => simp only [e1] at q
    | some o =>
      cases o with
      | ins ci fs =>
        simp only [e1] at q
        obtain ⟨l, q⟩ := q
        obtain ⟨sp, hG, q⟩ := withO_some q
        refine ⟨_, own_found O hG hm hs1 e1 l, ?_⟩
        refine ⟨e, S1, _, he.mono st.tp, hs1, q, fun vs S2 us2 H2 st2 q2 hs2 rvs _ => ?_, xw.step st⟩
        exact ⟨.ref p :: vs, S2, Qd, noE, ⟨_, _, rfl, rfl, rvs⟩, hs2, q2, (k.step st).step st2, fun _ _ _ _ z => z.elim⟩
      | lst xs => simp only [e1] at q
      | dct kvs t => simp only [e1] at q
  | _ => exact q.elim
theorem q_umeth0 {a : Ex} {m : Str} {pa : Expr} {apos : Pos} {T : Tab} {k : Nat} {sc : Scope} (O : XOk X c G T k sc) (hm : m ≠ ("__init__" : Str)) (ha : PE X pa (tE (lay X c) W E (wE G E a)))
    (hp : plainX pa = true) (hline : (apos.endLine == pos.line) = true) : PE X (.Call (.Attribute pa m apos) [] [] pos) (tE (lay X c) W E (wE G E (.umeth a m .nil))) := by
  refine PE.imp (pe_methD0 ha O.room (plain_attr hp _ X.env) hline) fun σ H Q h => ?_
  obtain ⟨e, S, Qd, he, hs, hf, k, xw⟩ := h
  simp only [wE, wEs] at hf
  refine ⟨e, S, _, he, hs, hf, fun v S1 u H1 st q hs1 rv => ?_, xw⟩
  cases v with
  | ref p =>
    cases rv
    cases e1 : S1 p with
    | none => simp only [e1] at q
    | some o =>
      cases o with
      | ins ci fs =>
        simp only [e1] at q
        obtain ⟨l, q⟩ := q
        obtain ⟨sp, hG, q⟩ := withO_some q
        exact ⟨_, own_found O hG hm hs1 e1 l, [.ref p], S1, Qd, noE, ⟨_, _, rfl, rfl, rfl⟩, hs1, q, k.step st, fun _ _ _ _ z => z.elim⟩
      | lst xs => simp only [e1] at q
      | dct kvs t => simp only [e1] at q
  | _ => exact q.elim
end
end DL

set_option Elab.async false
set_option linter.all false
set_option maxRecDepth 100000
set_option maxHeartbeats 2000000
/-! Own layer, part 8: targets, what is walked, comprehensions. -/
namespace DL
open PySem PySem.Spec PyProof.Rows L2

/-! ### targets -/
def gMany : List Nat → TGs
  | [] => gNil
  | i :: r => gCons (gName i) (gMany r)
def gT (K : PySem.W.Frag) : Tg → TG
  | .one i => gName i
  | .many is => gTup K is.length (gMany is)
theorem wipe_set_in {v : Option V} : ∀ {vs : List Nat} {σ : L2.St} {i : Nat}, i ∈ vs → wipe (σ.set i v) vs = wipe σ vs
  | [], _, _, h => by simp at h
  | j :: vs, σ, i, h => by
    show (wipe (σ.set i v) vs).set j none = (wipe σ vs).set j none
    by_cases e : i = j
    · subst e
      have key : ∀ (vs : List Nat) (σ : L2.St), (wipe (σ.set i v) vs).set i none = (wipe σ vs).set i none := by
        intro vs
        induction vs with
        | nil => intro σ; show (σ.set i v).set i none = σ.set i none; rw [List.set_set]
        | cons k vs ih =>
          intro σ
          show ((wipe (σ.set i v) vs).set k none).set i none = ((wipe σ vs).set k none).set i none
          by_cases e2 : k = i
          · subst e2; rw [List.set_set, List.set_set]; exact ih σ
          · rw [List.set_comm _ _ e2, List.set_comm _ _ e2, ih σ]
      exact key vs σ
    · have h' : i ∈ vs := by
        rcases List.mem_cons.mp h with z | z
        · exact absurd z e
        · exact z
      rw [wipe_set_in h']
theorem many_ok {K : PySem.W.Frag} {H : Hp} {Q : L2.St → Hp → Prop} : ∀ {is : List Nat} {vs : List Val} {us : List V} {e e' : Env} {σ : L2.St}, bindMany e is vs = some e' → RVs K H vs us → RE K H e σ →
    (∀ σ', RE K H e' σ' → (∀ ws : List Nat, (∀ i ∈ is, i ∈ ws) → wipe σ' ws = wipe σ ws) → Q σ' H) → gMany is us σ H Q
  | [], [], us, e, e', σ, h, r, re, k => by
    cases r
    have h' : some e = some e' := h
    cases h'
    exact ⟨rfl, k σ re fun _ _ => rfl⟩
  | [], _ :: _, _, _, _, _, h, _, _, _ => by cases h
  | _ :: _, [], _, _, _, _, h, _, _, _ => by cases h
  | i :: is, v :: vs, us, e, e', σ, h, r, re, k => by
    obtain ⟨u, us', rfl, r1, r2⟩ := r
    refine ⟨u, us', rfl, ?_⟩
    refine many_ok (e := e.set i (some v)) (e' := e') h r2 (re.set i r1) fun σ' re' hw => k σ' re' fun ws hin => ?_
    rw [hw ws fun j hj => hin j (List.mem_cons_of_mem _ hj)]
    exact wipe_set_in (hin i (by simp))
theorem many_len : ∀ {is : List Nat} {vs : List Val} {e e' : Env}, bindMany e is vs = some e' → vs.length = is.length
  | [], [], _, _, _ => rfl
  | [], _ :: _, _, _, h => by cases h
  | _ :: _, [], _, _, h => by cases h
  | i :: is, v :: vs, e, e', h => by
    have h' : bindMany (e.set i (some v)) is vs = some e' := h
    simp [many_len h']
theorem gT_ok {K : PySem.W.Frag} {H : Hp} {Q : L2.St → Hp → Prop} {tg : Tg} {v : Val} {u : V} {e e' : Env} {σ : L2.St} (h : bindT tg e v = some e') (r : RV K H v u) (re : RE K H e σ)
    (k : ∀ σ', RE K H e' σ' → (∀ ws : List Nat, (∀ i ∈ tgSlots tg, i ∈ ws) → wipe σ' ws = wipe σ ws) → Q σ' H) : gT K tg u σ H Q := by
  cases tg with
  | one i =>
    have h' : some (e.set i (some v)) = some e' := h
    cases h'
    exact k _ (re.set i r) fun ws hin => wipe_set_in (hin i (by simp [tgSlots]))
  | many is =>
    cases v with
    | tup vs =>
      obtain ⟨a, us, rfl, hq, hr⟩ := r
      have h' : bindMany e is vs = some e' := h
      exact ⟨a, us, rfl, hq, by rw [← hr.length]; exact many_len h', many_ok h' hr re k⟩
    | _ => cases h
/-- names in a row are targets -/
theorem gs_ok {X : Cx} {T : Tab} {sc : Scope} (hN : X.N.Nodup) (eN : X.N = T.N) (hl : ∀ x, locC sc x = true → Loc X.env.scope x ∧ (X.fn x = true ∨ X.env.scope.names.lookup x = some .local)) :
    ∀ {is : List Nat} {es : List Expr}, tgC T sc is es = true → PGs X es (gMany is) ∧ (assignEach es X.env).length = is.length ∧ (assignEach es X.env).findIdx? (·.1) = none
  | [], [], _ => ⟨pgs_nil, rfl, rfl⟩
  | i :: is, .Name x p :: es, h => by
    have h' : ((decide (T.N[i]? = some x) && locC sc x) && tgC T sc is es) = true := h
    rw [Bool.and_eq_true, Bool.and_eq_true] at h'
    obtain ⟨⟨h1, h2⟩, h3⟩ := h'
    obtain ⟨g, gl, gf⟩ := gs_ok hN eN hl (is := is) (es := es) h3
    obtain ⟨l1, l2⟩ := hl x h2
    refine ⟨pgs_cons (pg_name hN (by rw [eN]; exact of_decide_eq_true h1) l1 l2) g (by rfl), ?_, ?_⟩
    · show (assignEach es X.env).length + 1 = is.length + 1
      rw [gl]
    · show List.findIdx? (fun x => x.1) ((false, assign (.Name x p) X.env) :: assignEach es X.env) = none
      rw [List.findIdx?_cons, gf]
      rfl
  | [], _ :: _, h => by simp [tgC] at h
  | _ :: _, [], h => by simp [tgC] at h
  | i :: is, e :: es, h => by
    cases e <;> first | (simp [tgC] at h; done) | skip
    rename_i x p
    have h' : ((decide (T.N[i]? = some x) && locC sc x) && tgC T sc is es) = true := h
    rw [Bool.and_eq_true, Bool.and_eq_true] at h'
    obtain ⟨⟨h1, h2⟩, h3⟩ := h'
    obtain ⟨g, gl, gf⟩ := gs_ok hN eN hl (is := is) (es := es) h3
    obtain ⟨l1, l2⟩ := hl x h2
    refine ⟨pgs_cons (pg_name hN (by rw [eN]; exact of_decide_eq_true h1) l1 l2) g (by rfl), ?_, ?_⟩
    · show (assignEach es X.env).length + 1 = is.length + 1
      rw [gl]
    · show List.findIdx? (fun x => x.1) ((false, assign (.Name x p) X.env) :: assignEach es X.env) = none
      rw [List.findIdx?_cons, gf]
      rfl
theorem g_ok {X : Cx} {T : Tab} {sc : Scope} (hN : X.N.Nodup) (eN : X.N = T.N) (hc : X.calm = true) (hl : ∀ x, locC sc x = true → Loc X.env.scope x ∧ (X.fn x = true ∨ X.env.scope.names.lookup x = some .local)) {tg : Tg} {e : Expr}
    (h : tgtC T sc tg e = true) : PG X e (gT X.K tg) := by
  cases tg with
  | one i =>
    cases e <;> first | (simp [tgtC] at h; done) | skip
    rename_i x p
    have h' : (decide (T.N[i]? = some x) && locC sc x) = true := h
    rw [Bool.and_eq_true] at h'
    obtain ⟨l1, l2⟩ := hl x h'.2
    exact pg_name hN (by rw [eN]; exact of_decide_eq_true h'.1) l1 l2
  | many is =>
    cases e <;> first | (simp [tgtC] at h; done) | skip
    rename_i es k p
    have h' : tgC T sc is es = true := h
    obtain ⟨g, gl, gf⟩ := gs_ok hN eN hl h'
    exact pg_tup hc g gl gf
end DL

set_option Elab.async false
set_option linter.all false
set_option maxRecDepth 100000
set_option maxHeartbeats 2000000
/-! Own layer, part 9: what is walked. -/
namespace DL
open PySem PySem.Spec PyProof.Rows L2
structure WalkV (L : Lay) (H1 : Hp) (J : It) (xs : List Val) (grd : Sto → Prop) : Prop where
  small : xs.length ≤ sizeLine
  go : ∀ i H S, i < xs.length → Tp L.K H1 H → RS L H S → grd S → J.go i H
  stop : ∀ H S, Tp L.K H1 H → RS L H S → grd S → J.stop xs.length H
  yld : ∀ i H S x H', i < xs.length → Tp L.K H1 H → RS L H S → grd S → J.yld i H x H' → ∃ v, xs[i]? = some v ∧ RV L.K H' v x ∧ Stp L H S H' S ∧ RS L H' S ∧ ∀ b, H b ≠ none → H' b = H b
def tI (L : Lay) (W : WX) (E : Nat → Sto → Prop) (f : Env → Sto → (List Val → (Sto → Prop) → Sto → Prop) → Prop) : TI := fun σ H R => ∃ e S K, RE L.K H e σ ∧ RS L H S ∧ f e S K ∧
  (∀ xs grd S' H' J, Stp L H S H' S' → K xs grd S' → RS L H' S' → WalkV L H' J xs grd → R J H') ∧ XW L W E σ H S
theorem PI.imp {X : Cx} {tg it : Expr} {t t' : TI} (h : PI X tg it t) (hh : ∀ σ H R, t' σ H R → t σ H R) : PI X tg it t' := ⟨fun pins s σ H R I q => h.run pins s σ H R I (hh _ _ _ q)⟩
section
variable {L : Lay} {H1 : Hp}
theorem wv_list {a : Addr} {xs : List Val} (hz : xs.length ≤ sizeLine) : WalkV L H1 (Itl L.K a) xs (fun S => S a = some (.lst xs)) where
  small := hz
  go := fun i H S hi _ rs g => by
    obtain ⟨us, h1, h2⟩ := rs a _ g
    have hi' : i < us.length := by rw [← h2.length]; exact hi
    exact ⟨us, us[i], SqL.of h1, by simp [hi']⟩
  stop := fun H S _ rs g => by
    obtain ⟨us, h1, h2⟩ := rs a _ g
    exact ⟨us, SqL.of h1, by rw [← h2.length]; exact Nat.le_refl _⟩
  yld := fun i H S x H' hi _ rs g y => by
    obtain ⟨us, h1, h2⟩ := rs a _ g
    obtain ⟨rfl, y⟩ := y
    obtain ⟨v, e, r⟩ := h2.getr (y us (SqL.of h1))
    exact ⟨v, e, r, .refl, rs, fun _ _ => rfl⟩
theorem wv_tup {a : Addr} {xs : List Val} {us : List V} (hq : SqT L.K H1 a us) (hr : RVs L.K H1 xs us) (hz : xs.length ≤ sizeLine) : WalkV L H1 (Itt L.K a) xs (fun _ => True) where
  small := hz
  go := fun i H S hi t rs g => by
    have hi' : i < us.length := by rw [← hr.length]; exact hi
    exact ⟨us, us[i], t.1 _ _ hq, by simp [hi']⟩
  stop := fun H S t rs g => ⟨us, t.1 _ _ hq, by rw [← hr.length]; exact Nat.le_refl _⟩
  yld := fun i H S x H' hi t rs g y => by
    obtain ⟨rfl, y⟩ := y
    obtain ⟨v, e, r⟩ := hr.getr (y us (t.1 _ _ hq))
    exact ⟨v, e, RV.mono t _ _ r, .refl, rs, fun _ _ => rfl⟩
theorem range_get (lo : Int) (n : Nat) (st : Int) (i : Nat) (h : i < n) : (rangeL lo n st)[i]? = some (.int (lo + (i : Int) * st)) := by
  unfold rangeL
  rw [List.getElem?_map, List.getElem?_range h]
  rfl
theorem range_len (lo : Int) (n : Nat) (st : Int) : (rangeL lo n st).length = n := by
  unfold rangeL
  rw [List.length_map, List.length_range]
theorem wv_rng {lo : Int} {n : Nat} (hz : n ≤ sizeLine) : WalkV L H1 (L2.Itr lo n) (rangeL lo n 1) (fun _ => True) where
  small := by rw [range_len]; exact hz
  go := fun i H S hi t rs g => by rw [range_len] at hi; exact hi
  stop := fun H S t rs g => by rw [range_len]; exact Nat.le_refl _
  yld := fun i H S x H' hi t rs g y => by
    rw [range_len] at hi
    obtain ⟨rfl, rfl⟩ := y
    exact ⟨_, range_get _ _ _ _ hi, by rw [Int.mul_one]; rfl, .refl, rs, fun _ _ => rfl⟩
theorem wv_rngC {lo c : Int} {n : Nat} (hz : n ≤ sizeLine) : WalkV L H1 (Itc lo c n) (rangeL lo n c) (fun _ => True) where
  small := by rw [range_len]; exact hz
  go := fun i H S hi t rs g => by rw [range_len] at hi; exact hi
  stop := fun H S t rs g => by rw [range_len]; exact Nat.le_refl _
  yld := fun i H S x H' hi t rs g y => by
    rw [range_len] at hi
    obtain ⟨rfl, rfl⟩ := y
    exact ⟨_, range_get _ _ _ _ hi, rfl, .refl, rs, fun _ _ => rfl⟩
theorem wv_str {z : Str} (hz : z.cps.size ≤ sizeLine) : WalkV L H1 (Its z) (z.cps.toList.map fun c => .str ⟨#[c]⟩) (fun _ => True) where
  small := by simpa using hz
  go := fun i H S hi t rs g => by
    have hi' : i < z.cps.size := by simpa using hi
    exact hi'
  stop := fun H S t rs g => by
    have h : z.cps.size ≤ (z.cps.toList.map fun c => Val.str ⟨#[c]⟩).length := by simp
    exact h
  yld := fun i H S x H' hi t rs g y => by
    obtain ⟨rfl, c, e, rfl⟩ := y
    exact ⟨.str ⟨#[c]⟩, by rw [List.getElem?_map, Array.getElem?_toList, e]; rfl, rfl, .refl, rs, fun _ _ => rfl⟩
/-- a new pair -/
theorem pair_new {H : Hp} {S : Sto} {T : Addr} {v w : Val} {x y : V} (rs : RS L H S) (n : H T = none) (rv : RV L.K H v x) (rw' : RV L.K H w y) :
    RV L.K (upd H T (.tup [x, y])) (.tup [v, w]) (.ref T) ∧ Stp L H S (upd H T (.tup [x, y])) S ∧ RS L (upd H T (.tup [x, y])) S ∧ ∀ b, H b ≠ none → upd H T (.tup [x, y]) b = H b := by
  have t : Tp L.K H (upd H T (.tup [x, y])) := Tp.fresh n
  exact ⟨⟨T, [x, y], rfl, SqT.of upd_same, x, [y], rfl, RV.mono t _ _ rv, y, [], rfl, RV.mono t _ _ rw', rfl⟩, Stp.new n, rs.new n, fun b hb => upd_ne fun e => hb (by rw [e]; exact n)⟩
theorem enum_len : ∀ (n : Nat) (xs : List Val), (enumL n xs).length = xs.length
  | _, [] => rfl
  | n, x :: xs => by
    show (enumL (n + 1) xs).length + 1 = xs.length + 1
    rw [enum_len (n + 1) xs]
theorem enum_get : ∀ (n : Nat) (xs : List Val) (i : Nat) (v : Val), xs[i]? = some v → (enumL n xs)[i]? = some (.tup [.int ((n + i : Nat) : Int), v])
  | _, [], _, _, h => by simp at h
  | n, x :: xs, 0, v, h => by
    simp at h
    subst h
    rfl
  | n, x :: xs, i + 1, v, h => by
    have := enum_get (n + 1) xs i v (by simpa using h)
    show (enumL (n + 1) xs)[i]? = _
    rw [this, show n + 1 + i = n + (i + 1) by omega]
theorem wv_enum {a : Addr} {xs : List Val} (hz : xs.length ≤ sizeLine) : WalkV L H1 (Ite L.K a) (enumL 0 xs) (fun S => S a = some (.lst xs)) where
  small := by rw [enum_len]; exact hz
  go := fun i H S hi _ rs g => by
    rw [enum_len] at hi
    obtain ⟨us, h1, h2⟩ := rs a _ g
    have hi' : i < us.length := by rw [← h2.length]; exact hi
    exact ⟨us, us[i], SqL.of h1, by simp [hi']⟩
  stop := fun H S _ rs g => by
    rw [enum_len]
    obtain ⟨us, h1, h2⟩ := rs a _ g
    exact ⟨us, SqL.of h1, by rw [← h2.length]; exact Nat.le_refl _⟩
  yld := fun i H S x H' hi _ rs g y => by
    obtain ⟨us, h1, h2⟩ := rs a _ g
    obtain ⟨T, z, rfl, n, rfl, y⟩ := y
    obtain ⟨v, e, r⟩ := h2.getr (y us (SqL.of h1))
    obtain ⟨q1, q2, q3, q4⟩ := pair_new (v := .int (i : Nat)) (x := .int (i : Nat)) rs n rfl r
    exact ⟨_, by rw [enum_get 0 xs i v e, Nat.zero_add], q1, q2, q3, q4⟩
theorem zip_len : ∀ (xs ys : List Val), (zipL xs ys).length = min xs.length ys.length
  | [], _ => by simp [zipL]
  | _ :: _, [] => by simp [zipL]
  | x :: xs, y :: ys => by
    show (zipL xs ys).length + 1 = _
    rw [zip_len xs ys]
    simp
theorem zip_get : ∀ (xs ys : List Val) (i : Nat) (v w : Val), xs[i]? = some v → ys[i]? = some w → (zipL xs ys)[i]? = some (.tup [v, w])
  | [], _, _, _, _, h, _ => by simp at h
  | _ :: _, [], _, _, _, _, h => by simp at h
  | x :: xs, y :: ys, 0, v, w, h, h' => by
    simp at h h'
    subst h h'
    rfl
  | x :: xs, y :: ys, i + 1, v, w, h, h' => by
    show (zipL xs ys)[i]? = _
    exact zip_get xs ys i v w (by simpa using h) (by simpa using h')
theorem wv_zip {a b : Addr} {xs ys : List Val} (hz : xs.length ≤ sizeLine) : WalkV L H1 (Itz L.K a b) (zipL xs ys) (fun S => S a = some (.lst xs) ∧ S b = some (.lst ys)) where
  small := by rw [zip_len]; omega
  go := fun i H S hi _ rs g => by
    rw [zip_len] at hi
    obtain ⟨us, h1, h2⟩ := rs a _ g.1
    obtain ⟨ws, h3, h4⟩ := rs b _ g.2
    have l1 := h2.length
    have l2 := h4.length
    exact ⟨us, ws, us[i]'(by omega), ws[i]'(by omega), SqL.of h1, SqL.of h3, by simp, by simp⟩
  stop := fun H S _ rs g => by
    rw [zip_len]
    obtain ⟨us, h1, h2⟩ := rs a _ g.1
    obtain ⟨ws, h3, h4⟩ := rs b _ g.2
    have l1 := h2.length
    have l2 := h4.length
    exact ⟨us, ws, SqL.of h1, SqL.of h3, by omega⟩
  yld := fun i H S x H' hi _ rs g y => by
    obtain ⟨us, h1, h2⟩ := rs a _ g.1
    obtain ⟨ws, h3, h4⟩ := rs b _ g.2
    obtain ⟨T, z, z2, rfl, n, rfl, y1, y2⟩ := y
    obtain ⟨v, e, r⟩ := h2.getr (y1 us (SqL.of h1))
    obtain ⟨w, e2, r2⟩ := h4.getr (y2 ws (SqL.of h3))
    obtain ⟨q1, q2, q3, q4⟩ := pair_new rs n r r2
    exact ⟨_, zip_get _ _ _ _ _ e e2, q1, q2, q3, q4⟩
theorem wv_zipT {a b : Addr} {xs ys : List Val} {us ws : List V} (ha : SqT L.K H1 a us) (ra : RVs L.K H1 xs us) (hb : SqT L.K H1 b ws) (rb : RVs L.K H1 ys ws) (hz : xs.length ≤ sizeLine) : WalkV L H1 (RZ.ItzT L.K a b) (zipL xs ys) (fun _ => True) where
  small := by rw [zip_len]; omega
  go := fun i H S hi t rs g => by
    rw [zip_len] at hi
    have l1 := ra.length
    have l2 := rb.length
    exact ⟨us, ws, us[i]'(by omega), ws[i]'(by omega), t.1 _ _ ha, t.1 _ _ hb, by simp, by simp⟩
  stop := fun H S t rs g => by
    rw [zip_len]
    have l1 := ra.length
    have l2 := rb.length
    exact ⟨us, ws, t.1 _ _ ha, t.1 _ _ hb, by omega⟩
  yld := fun i H S x H' hi t rs g y => by
    obtain ⟨T, z, z2, rfl, n, rfl, y1, y2⟩ := y
    obtain ⟨v, e, r⟩ := ra.getr (y1 us (t.1 _ _ ha))
    obtain ⟨w, e2, r2⟩ := rb.getr (y2 ws (t.1 _ _ hb))
    obtain ⟨q1, q2, q3, q4⟩ := pair_new rs n (RV.mono t _ _ r) (RV.mono t _ _ r2)
    exact ⟨_, zip_get _ _ _ _ _ e e2, q1, q2, q3, q4⟩
end
/-! ### a dict's keys -/
def Itd' (P : Program) (w : World) (a : Addr) (n t : Nat) : It :=
  ⟨fun i H => i < n ∧ ∃ es, H a = some (dctO a es t) ∧ es.size = n ∧ ∃ e x, es[i]? = some e ∧ RelV x e.key,
   fun i H x H' => H' = H ∧ ∀ es, H a = some (dctO a es t) → ∃ e, es[i]? = some e ∧ RelV x e.key,
   fun i H => n ≤ i ∧ ∃ es, H a = some (dctO a es t) ∧ es.size = n⟩
theorem raw_eq {h : Heap} {a : Addr} {es es' : Array DictEntry} {t t' : Nat} (x : h.DictRaw a es t) (y : h.DictRaw a es' t') : es = es' := by
  obtain ⟨o, e1, _, d1⟩ := x
  obtain ⟨o', e2, _, d2⟩ := y
  rw [e1] at e2
  cases e2
  rw [d1] at d2
  cases d2
  rfl
theorem turn_dct {P : Program} {w : World} {K : PySem.W.Frag} {tg : Expr} (a it : Addr) (n t : Nat) : Turn P w K tg (Itd' P w a n t) [it] it (fun i h => h.IsKeyIter it a i n t) where
  mem := by simp
  obj := fun i h st b hb => by
    have e : b = it := by simpa using hb
    subst e
    obtain ⟨o, e, c, d⟩ := st
    exact ⟨o, e, fun v z => by rw [d] at z; cases z⟩
  keep := fun i h h' st k => by
    obtain ⟨o, e, c, d⟩ := st
    exact ⟨o, k it (by simp) _ e, c, d⟩
  item := by
    intro X hP hw hK hc i pins s σ H E I hf st hg
    subst hP hw hK
    obtain ⟨hi, es, hd, hn, e, x, he, rx⟩ := hg
    obtain ⟨f0, f1, f2, f3, f4, f5⟩ := hf it (by simp)
    have hm := raw_of I hd
    subst hn
    refine wpAny_pyNext_keys_item_raw st hm hi fun h' st' sb => ?_
    have I1 : Inv X pins σ H { s with heap := h' } := I.turned (t' := s.toks) (fun b o hb e => (sb.2 b hb).trans e) f0 f1 f3 f4 f5
    obtain ⟨o, e1, c1, d1⟩ := id st'
    have e2 : es[i] = e := by
      rw [Array.getElem?_eq_getElem hi] at he
      exact Option.some.inj he
    exact ⟨es[i].key, rfl, go_of (s := { s with heap := h' }) e1 c1 d1 (by decide) ⟨x, H, I1, by rw [e2]; exact rx, ⟨rfl, fun es' h' => by
      rw [← raw_eq hm (raw_of I h')]
      exact ⟨e, he, rx⟩⟩, st', fun b hb => (hf b hb).1⟩⟩
  done := by
    intro X hP hw hK hc i pins s σ H E I hf st hg
    subst hP hw hK
    obtain ⟨hi, es, hd, hn⟩ := hg
    obtain ⟨f0, f1, f2, f3, f4, f5⟩ := hf it (by simp)
    have hm := raw_of I hd
    subst hn
    exact wpAny_pyNext_keys_end_raw (I.ok.hd hc) st hm hi fun h' eb => ⟨rfl, I.turned (t' := s.toks) (fun b o hb e => eb b o hb e) f0 f1 f3 f4 f5⟩
  self := fun _ _ _ _ _ st h => wpAny_pyIter_keyiter st h
theorem leaf_at {L : Lay} {H : Hp} {kvs : List (Val × Val)} {es : Array DictEntry} {lvs : List (Key × Value)} (d : LeafD L (mixE L.P L.w) H kvs es lvs) {i : Nat} {p : Val × Val} (h : kvs[i]? = some p) : ∃ e x, es[i]? = some e ∧ RelV x e.key ∧ RV L.K H p.1 x := by
  have hp : ∃ q, lvs[i]? = some q ∧ keyOf p.1 = some q.1 := by
    have go : ∀ {kvs : List (Val × Val)} {lvs : List (Key × Value)} {i : Nat}, Paired (fun (p : Val × Val) (q : Key × Value) => keyOf p.1 = some q.1 ∧ ∃ u, RV L.K H p.2 u ∧ RelV u q.2) kvs lvs → kvs[i]? = some p → ∃ q, lvs[i]? = some q ∧ keyOf p.1 = some q.1 := by
      intro kvs lvs i r
      induction r generalizing i with
      | nil => intro z; simp at z
      | @cons a b as bs hab t ih =>
        intro z
        cases i with
        | zero => simp at z; subst z; exact ⟨b, rfl, hab.1⟩
        | succ j => exact ih (by simpa using z)
    exact go d.rep h
  obtain ⟨q, e1, e2⟩ := hp
  have hes : ∃ e, es.toList[i]? = some e ∧ keyIs q.1 e.key = true := by
    have go : ∀ {es : List DictEntry} {lvs : List (Key × Value)} {i : Nat}, Pairs (mixKind L.P L.w) es lvs → lvs[i]? = some q → ∃ e, es[i]? = some e ∧ keyIs q.1 e.key = true := by
      intro es lvs i r
      induction r generalizing i with
      | nil => intro z; simp at z
      | @cons e kv es' kvs' h1 h2 t ih =>
        intro z
        cases i with
        | zero => simp at z; subst z; exact ⟨e, rfl, h1⟩
        | succ j => exact ih (by simpa using z)
    exact go d.prs e1
  obtain ⟨e, e3, e4⟩ := hes
  refine ⟨e, ?_⟩
  obtain ⟨p1, p2⟩ := p
  obtain ⟨q1, q2⟩ := q
  have e5 : es[i]? = some e := by rw [← Array.getElem?_toList]; exact e3
  cases p1 with
  | int j =>
    cases e2
    obtain ⟨t, ht⟩ := Value.isInt_shape (k := j) (v := e.key) e4
    exact ⟨.int j, e5, ⟨t, ht⟩, rfl⟩
  | str x =>
    cases e2
    obtain ⟨t, ht⟩ := Value.isStrOf_shape (x := x) (v := e.key) e4
    exact ⟨.str x, e5, ⟨t, ht⟩, rfl⟩
  | _ => cases e2
theorem tupd_at {L : Lay} {H : Hp} {kvs : List (Val × Val)} {es : Array DictEntry} {xs : List (NestedKey × Addr × Value)} (d : TupD L H kvs es xs) {i : Nat} {p : Val × Val} (h : kvs[i]? = some p) : ∃ e x, es[i]? = some e ∧ RelV x e.key ∧ RV L.K H p.1 x := by
  have hp : ∃ q, xs[i]? = some q ∧ RV L.K H p.1 (.ref q.2.1) := by
    have go : ∀ {kvs : List (Val × Val)} {xs : List (NestedKey × Addr × Value)} {i : Nat}, Paired (TupR L H) kvs xs → kvs[i]? = some p → ∃ q, xs[i]? = some q ∧ RV L.K H p.1 (.ref q.2.1) := by
      intro kvs xs i r
      induction r generalizing i with
      | nil => intro z; simp at z
      | @cons a b as bs hab t ih =>
        intro z
        cases i with
        | zero => simp at z; subst z; exact ⟨b, rfl, hab.2.2.2.2.1⟩
        | succ j => exact ih (by simpa using z)
    exact go d.rep h
  obtain ⟨q, e1, e2⟩ := hp
  refine ⟨entryOfKey (nestedKind L.P L.w) q, .ref q.2.1, ?_, rfl, e2⟩
  rw [← Array.getElem?_toList, d.ents, List.getElem?_map, e1]
  rfl
theorem wv_dct {L : Lay} {H1 : Hp} {a : Addr} {kvs : List (Val × Val)} {t : Nat} (ok : keysOk kvs = true) (hz : kvs.length ≤ sizeLine) : WalkV L H1 (Itd' L.P L.w a kvs.length t) (kvs.map (·.1)) (fun S => S a = some (.dct kvs t)) := by
  have key : ∀ {H : Hp} {S : Sto}, RS L H S → S a = some (.dct kvs t) → ∃ es, H a = some (dctO a es t) ∧ es.size = kvs.length ∧ ∀ (i : Nat) (p : Val × Val), kvs[i]? = some p → ∃ (e : DictEntry) (x : V), es[i]? = some e ∧ RelV x e.key ∧ RV L.K H p.1 x := by
    intro H S rs g
    obtain ⟨es, h1, h2, h3, h4, h5⟩ := rs a _ g
    refine ⟨es, h1, h4, fun i p hp => ?_⟩
    rcases h5 with ⟨b, lvs, h5⟩ | ⟨xs, h5⟩
    · cases b with
      | true => exact leaf_at h5 hp
      | false =>
        exfalso
        cases kvs with
        | nil => simp at hp
        | cons q r =>
          obtain ⟨q1, q2⟩ := q
          have z := h5.rep
          cases z with
          | cons z _ =>
            have z1 : kcl q1 = 1 := (leafE L.P L.w).ecl z.1
            have ok' : (kcl q1 != 1) = true := ok
            rw [z1] at ok'
            cases ok'
    · exact tupd_at h5 hp
  refine ⟨by rw [List.length_map]; exact hz, fun i H S hi _ rs g => ?_, fun H S _ rs g => ?_, fun i H S x H' hi _ rs g y => ?_⟩
  · rw [List.length_map] at hi
    obtain ⟨es, h1, h2, h3⟩ := key rs g
    obtain ⟨e, x, e1, e2, _⟩ := h3 i kvs[i] (by simp [hi])
    exact ⟨hi, es, h1, h2, e, x, e1, e2⟩
  · rw [List.length_map]
    obtain ⟨es, h1, h2, h3⟩ := key rs g
    exact ⟨Nat.le_refl _, es, h1, h2⟩
  · rw [List.length_map] at hi
    obtain ⟨es, h1, h2, h3⟩ := key rs g
    obtain ⟨rfl, y⟩ := y
    obtain ⟨e, z, e1, e2, e3⟩ := h3 i kvs[i] (by simp [hi])
    obtain ⟨e', e4, e5⟩ := y es h1
    rw [e1] at e4
    cases e4
    have : z = x := e2.inj e5
    subst this
    exact ⟨kvs[i].1, by simp [hi], e3, .refl, rs, fun _ _ => rfl⟩
end DL

set_option Elab.async false
set_option linter.all false
set_option maxRecDepth 100000
set_option maxHeartbeats 2000000
/-! Own layer, part 10: iterations and comprehensions. -/
namespace DL
open PySem PySem.Spec PyProof.Rows L2
section
variable {X : Cx} {c : LC} {W : WX} {E : Nat → Sto → Prop} {G : Cfg} {pos : Pos} {tg : Expr}
theorem i_val {pa : Expr} {a : Ex} (ha : PE X pa (tE (lay X c) W E (wE G E a))) : PI X tg pa (tI (lay X c) W E (wI G E (.val a))) := by
  refine ⟨fun pins s σ H R I h => ?_⟩
  obtain ⟨e, S, K, he, hs, hf, k, xw⟩ := h
  simp only [wI] at hf
  refine thn (ha.run pins s σ H (fun u H1 => ∃ v S1, Stp (lay X c) H S H1 S1 ∧ RS (lay X c) H1 S1 ∧ RV X.K H1 v u ∧ withO (iterOf v S1) fun p => K p.1 p.2 S1) I
    ⟨e, S, _, he, hs, hf, fun v S1 u H1 st q hs1 rv => ⟨v, S1, st, hs1, rv, q⟩, xw⟩) fun val s1 ⟨u, H1, I1, r1, v, S1, st, hs1, rv, q⟩ => ?_
  obtain ⟨⟨xs, grd⟩, e1, q⟩ := withO_some q
  cases v with
  | tup ys =>
    obtain ⟨p, us, rfl, hq, hr⟩ := rv
    cases r1
    have e2 : some (ys, fun _ => True) = some (xs, grd) := e1
    cases e2
    obtain ⟨its, rvv, pl, hz⟩ := I1.tuple hq
    exact wpAny_pyIter_tuple (show s1.heap.IsTuple p its.toArray from pl) (pi_one (tk := s1.toks) I1 _ (turn_tuple p _) ⟨_, Heap.get?_push_size _ rfl, rfl, rfl⟩ (k _ _ _ _ _ st q hs1 (wv_tup hq hr (by rw [hr.length]; exact hz))))
  | str z =>
    cases rv
    obtain ⟨t, rfl⟩ := r1
    unfold iterOf at e1
    by_cases hz : z.cps.size ≤ line
    · simp only [if_pos hz] at e1
      cases e1
      have hz' : z.cps.size ≤ sizeLine := by rw [← line_eq]; exact hz
      cases ha : z.cps.all (· < 128)
      · exact wpAny_pyIter_wide ha (pi_one (tk := s1.toks) I1 _ (turn_str _ z t "str_iterator" (.inr rfl)) ⟨_, Heap.get?_push_size _ rfl, rfl, rfl⟩ (k _ _ _ _ _ st q hs1 (wv_str hz')))
      · exact wpAny_pyIter_ascii ha (pi_one (tk := s1.toks) I1 _ (turn_str _ z t "str_ascii_iterator" (.inl rfl)) ⟨_, Heap.get?_push_size _ rfl, rfl, rfl⟩ (k _ _ _ _ _ st q hs1 (wv_str hz')))
    · simp only [if_neg hz] at e1
      cases e1
  | ref p =>
    have eu : u = .ref p := rv
    subst eu
    cases r1
    cases ep : S1 p with
    | none => simp only [iterOf, ep] at e1; cases e1
    | some o =>
      cases o with
      | lst ys =>
        simp only [iterOf, ep] at e1
        cases e1
        obtain ⟨us, hl, hr⟩ := hs1 p _ ep
        obtain ⟨its, rvv, pl, hz⟩ := I1.list (SqL.of hl)
        exact wpAny_pyIter_list pl.isList (pi_one (tk := s1.toks) I1 _ (turn_list p _) ⟨_, Heap.get?_push_size _ rfl, rfl, rfl⟩ (k _ _ _ _ _ st q hs1 (wv_list (by rw [hr.length]; exact hz))))
      | dct kvs t =>
        simp only [iterOf, ep] at e1
        cases ok : keysOk kvs with
        | false => rw [ok] at e1; cases e1
        | true =>
          rw [ok] at e1
          cases e1
          obtain ⟨es, h1, h2, h3, h4, h5⟩ := hs1 p _ ep
          refine wpAny_pyIter_dict_raw h2 (raw_of I1 h1) (pi_one (tk := s1.toks) I1 _ (turn_dct (w := X.w) p _ kvs.length t) ⟨_, Heap.get?_push_size _ rfl, rfl, ?_⟩ (k _ _ _ _ _ st q hs1 (wv_dct ok h3)))
          rw [h4]
          rfl
      | ins ci fs => simp only [iterOf, ep] at e1; cases e1
  | _ => cases e1
theorem i_rng1 {pa : Expr} {es : Exs} {p : Pos} {T : Tab} {k : Nat} {sc : Scope} (O : XOk X c G T k sc) (hg : Gl X "range") (h : PA X [pa] (tA (lay X c) W E 1 (wEs G E es))) (hp : plainX pa = true) : PI X tg (.Call (.Name "range" p) [pa] [] pos) (tI (lay X c) W E (wI G E (.rng es))) := by
  refine PI.imp (pi_range1 hg (O.nm.blt _ (by simp)) h (by rw [plain_star hp]; rfl)) fun σ H R h => ?_
  obtain ⟨e, S, K, he, hs, hf, k, xw⟩ := h
  simp only [wI] at hf
  refine ⟨e, S, _, he, hs, hf, fun vs S1 us H1 st q hs1 rvs hl => ?_, xw⟩
  cases vs with
  | nil => cases hl
  | cons v r =>
    cases r with
    | cons _ _ => simp at hl
    | nil =>
      obtain ⟨u, rfl, ru⟩ := rvs.one
      cases v with
      | int n =>
        cases ru
        obtain ⟨q1, q2, q3⟩ := q
        exact ⟨n, rfl, by omega, by omega, k _ _ _ _ _ st q3 hs1 (wv_rng (by rw [sizeLine_eq]; omega))⟩
      | _ => exact q.elim
theorem i_rng2 {pa pb : Expr} {es : Exs} {p : Pos} {T : Tab} {k : Nat} {sc : Scope} (O : XOk X c G T k sc) (hg : Gl X "range") (h : PA X [pa, pb] (tA (lay X c) W E 2 (wEs G E es))) (hp : plainX pa = true) (hp2 : plainX pb = true) : PI X tg (.Call (.Name "range" p) [pa, pb] [] pos) (tI (lay X c) W E (wI G E (.rng es))) := by
  refine PI.imp (pi_range2 hg (O.nm.blt _ (by simp)) h (by rw [plain_star hp, plain_star hp2]; rfl) (by rw [plain_star hp2]; rfl)) fun σ H R h => ?_
  obtain ⟨e, S, K, he, hs, hf, k, xw⟩ := h
  simp only [wI] at hf
  refine ⟨e, S, _, he, hs, hf, fun vs S1 us H1 st q hs1 rvs hl => ?_, xw⟩
  cases vs with
  | nil => cases hl
  | cons v r =>
    cases r with
    | nil => simp at hl
    | cons w r =>
      cases r with
      | cons _ _ => simp at hl
      | nil =>
        obtain ⟨u, u2, rfl, ru, ru2⟩ := rvs.two
        cases v with
        | int n =>
          cases w with
          | int m =>
            cases ru; cases ru2
            obtain ⟨q1, q3⟩ := q
            exact ⟨n, m, rfl, ⟨by omega, by omega, by omega, by omega⟩, k _ _ _ _ _ st q3 hs1 (wv_rng (by rw [sizeLine_eq]; omega))⟩
          | _ => exact q.elim
        | _ => cases w <;> exact q.elim
theorem i_rng3 {pa pb pc : Expr} {es : Exs} {p : Pos} {T : Tab} {k : Nat} {sc : Scope} (O : XOk X c G T k sc) (hg : Gl X "range") (h : PA X [pa, pb, pc] (tA (lay X c) W E 3 (wEs G E es))) (hp : plainX pa = true) (hp2 : plainX pb = true) (hp3 : plainX pc = true) :
    PI X tg (.Call (.Name "range" p) [pa, pb, pc] [] pos) (tI (lay X c) W E (wI G E (.rng es))) := by
  refine PI.imp (pi_range3 hg (O.nm.blt _ (by simp)) h (by rw [plain_star hp]) (by rw [plain_star hp2, plain_star hp3]; rfl)) fun σ H R h => ?_
  obtain ⟨e, S, K, he, hs, hf, k, xw⟩ := h
  simp only [wI] at hf
  refine ⟨e, S, _, he, hs, hf, fun vs S1 us H1 st q hs1 rvs hl => ?_, xw⟩
  cases vs with
  | nil => cases hl
  | cons v r =>
    cases r with
    | nil => simp at hl
    | cons w r =>
      cases r with
      | nil => simp at hl
      | cons z r =>
        cases r with
        | cons _ _ => simp at hl
        | nil =>
          obtain ⟨u, us', rfl, ru, rr⟩ := rvs
          obtain ⟨u2, u3, rfl, ru2, ru3⟩ := RVs.two rr
          cases v with
          | int n =>
            cases w with
            | int m =>
              cases z with
              | int j =>
                cases ru; cases ru2; cases ru3
                obtain ⟨q0, q1, q3⟩ := q
                subst q0
                exact ⟨n, m, -1, (n - m).toNat, rfl, RgC.neg (by omega) (by omega) (by omega) (by omega), k _ _ _ _ _ st q3 hs1 (wv_rngC (by rw [sizeLine_eq]; omega))⟩
              | _ => exact q.elim
            | _ => cases z <;> exact q.elim
          | _ => cases w <;> cases z <;> exact q.elim
/-- lists and tuples are not too long -/
def Short (K : PySem.W.Frag) (H : Hp) : Prop := (∀ a us, H a = some (.lst us) → us.length ≤ sizeLine) ∧ ∀ a us, SqT K H a us → us.length ≤ sizeLine
theorem PE.big {e : Expr} {t : TE} (h : PE X e t) : PE X e (fun σ H Q => t σ H fun u H' => Short X.K H' → Q u H') := ⟨fun pins s σ H Q I q => by
  refine thn (h.run pins s σ H _ I q) fun v s' ⟨u, H', I', r, q'⟩ => ⟨u, H', I', r, q' ⟨fun a us e => ?_, fun a us e => ?_⟩⟩
  · obtain ⟨_, _, _, z⟩ := I'.list (SqL.of e)
    exact z
  · obtain ⟨_, _, _, z⟩ := I'.tuple e
    exact z⟩
theorem i_enum {pa : Expr} {a : Ex} {p tpos : Pos} {elts : List Expr} {kk : Nat} {T : Tab} {k : Nat} {sc : Scope} (O : XOk X c G T k sc) (hg : Gl X "enumerate") (ha : PE X pa (tE (lay X c) W E (wE G E a))) (hp : plainX pa = true) :
    PI X (.Tuple elts kk tpos) (.Call (.Name "enumerate" p) [pa] [] pos) (tI (lay X c) W E (wI G E (.enum a))) := by
  refine PI.imp (pi_enum hg (O.nm.blt _ (by simp)) (pa_cons (PE.big ha) pa_nil (plain_star hp [] X.env)) (by rw [plain_star hp]; rfl)) fun σ H R h => ?_
  obtain ⟨e, S, K, he, hs, hf, k, xw⟩ := h
  simp only [wI] at hf
  refine ⟨e, S, _, he, hs, hf, fun v S1 u H1 st q hs1 rv big => ?_, xw⟩
  obtain ⟨⟨xs, grd⟩, e1, q⟩ := withO_some q
  cases v with
  | ref p =>
    have eu : u = .ref p := rv
    subst eu
    cases ep : S1 p with
    | none => simp only [listOf, ep] at e1; cases e1
    | some o =>
      cases o with
      | lst ys =>
        simp only [listOf, ep] at e1
        cases e1
        obtain ⟨us, hl, hr⟩ := hs1 p _ ep
        exact ⟨p, us, rfl, SqL.of hl, k _ _ _ _ _ st q hs1 (wv_enum (by rw [hr.length]; exact big.1 _ _ hl))⟩
      | dct kvs t => simp only [listOf, ep] at e1; cases e1
      | ins ci fs => simp only [listOf, ep] at e1; cases e1
  | _ => cases e1
theorem i_zip {pa pb : Expr} {a b : Ex} {p tpos : Pos} {elts : List Expr} {kk : Nat} {T : Tab} {k : Nat} {sc : Scope} (O : XOk X c G T k sc) (hg : Gl X "zip") (ha : PE X pa (tE (lay X c) W E (wE G E a))) (hb : PE X pb (tE (lay X c) W E (wE G E b))) (hp : plainX pa = true) (hp2 : plainX pb = true) :
    PI X (.Tuple elts kk tpos) (.Call (.Name "zip" p) [pa, pb] [] pos) (tI (lay X c) W E (wI G E (.zip a b))) := by
  refine PI.imp (RZ.pi_zipA hg (O.nm.blt _ (by simp)) (pa_cons ha (pa_cons (PE.big hb) pa_nil (plain_star hp2 [] X.env)) (plain_star hp _ X.env)) (plain_star hp _ X.env) (by rw [plain_star hp2]; rfl)) fun σ H R h => ?_
  obtain ⟨e, S, K, he, hs, hf, k, xw⟩ := h
  simp only [wI] at hf
  refine ⟨e, S, _, he, hs, hf, fun v S1 u H1 st q hs1 rv => ?_, xw⟩
  refine ⟨e, S1, _, he.mono st.tp, hs1, q, fun w S2 u2 H2 st2 q hs2 rw' big => ?_, xw.step st⟩
  obtain ⟨⟨xs, grd⟩, e1, q⟩ := withO_some q
  have rv := RV.mono st2.tp _ _ rv
  have st3 := st.trans st2
  cases v with
  | ref pp =>
    have eu : u = .ref pp := rv
    subst eu
    cases w with
    | ref qq =>
      have eu : u2 = .ref qq := rw'
      subst eu
      cases ep : S2 pp with
      | none => simp only [zipOf, ep] at e1; cases e1
      | some o =>
        cases o with
        | lst ys =>
          cases eq : S2 qq with
          | none => simp only [zipOf, ep, eq] at e1; cases e1
          | some o2 =>
            cases o2 with
            | lst zs =>
              simp only [zipOf, ep, eq] at e1
              cases e1
              obtain ⟨us, hl, hr⟩ := hs2 pp _ ep
              obtain ⟨ws, hl2, hr2⟩ := hs2 qq _ eq
              exact ⟨pp, qq, us, ws, rfl, .inl ⟨SqL.of hl, SqL.of hl2, k _ _ _ _ _ st3 q hs2 (wv_zip (by rw [hr.length]; exact big.1 _ _ hl))⟩⟩
            | dct kvs t => simp only [zipOf, ep, eq] at e1; cases e1
            | ins ci fs => simp only [zipOf, ep, eq] at e1; cases e1
        | dct kvs t => simp only [zipOf, ep] at e1; cases e1
        | ins ci fs => simp only [zipOf, ep] at e1; cases e1
    | _ => cases e1
  | tup ys =>
    cases w with
    | tup zs =>
      obtain ⟨pp, us, rfl, hl, hr⟩ := rv
      obtain ⟨qq, ws, rfl, hl2, hr2⟩ := rw'
      have e2 : some (zipL ys zs, fun _ => True) = some (xs, grd) := e1
      cases e2
      exact ⟨pp, qq, us, ws, rfl, .inr ⟨hl, hl2, k _ _ _ _ _ st3 q hs2 (wv_zipT hl hr hl2 hr2 (by rw [hr.length]; exact big.2 _ _ hl))⟩⟩
    | _ => cases e1
  | _ => cases w <;> cases e1

/-! ### comprehensions -/
/-- the new list's place and items -/
def tC (L : Lay) (W : WX) (E : Nat → Sto → Prop) (f : Env → Sto → (List Val → Sto → Prop) → Prop) : TE := fun σ H Q => ∃ e S K, RE L.K H e σ ∧ RS L H S ∧ f e S K ∧
  (∀ D us vs S' H', Stp L H S H' S' → K vs S' → RS L H' S' → H' D = some (.lst us) → RVs L.K H' vs us → S' D = none → vs.length ≤ sizeLine → H D = none → Q (.ref D) H') ∧ XW L W E σ H S
def noW : WX := fun _ _ _ _ => False
/-- the test of a comprehension -/
def tF (L : Lay) (f : Env → Sto → (Bool → Sto → Prop) → Prop) : TT := fun σ H Q => ∃ e S Qd, RE L.K H e σ ∧ RS L H S ∧ f e S Qd ∧ ∀ b S' H', Stp L H S H' S' → Qd b S' → RS L H' S' → Q b H'
theorem xw_no {L : Lay} {σ : L2.St} {H : Hp} {S : Sto} : XW L noW noE σ H S := fun _ _ _ _ z _ => z.elim
/-- one turn -/
def turnW (G : Cfg) (tg : Tg) (own : List Nat) (e : Env) (elt : Ex) (cond : Oe) : Val → Sto → (Option Val → Sto → Prop) → Prop :=
  fun x S2 k => withO (bindT tg (wipeE e own) x) fun e' => wIf G cond e' S2 fun b S3 => (b = true → wE G noE elt e' S3 fun v S4 => k (some v) S4) ∧ (b = false → k none S3)
/-- the turns of a comprehension over the hand layer's -/
theorem q_turns {own : List Nat} {J : It} {D : Addr} {L : Lay} {G : Cfg} {elt : Ex} {cond : Oe} {grd : Sto → Prop} {K : List Val → Sto → Prop} {xs : List Val} {e : Env} {σ : L2.St} {H1 : Hp} {S1 : Sto} {Q : VK} {tg : Tg}
    (wv : WalkV L H1 J xs grd) (nD : H1 D = none) (hs : RS L H1 S1) (he : RE L.K H1 e σ) (hin : ∀ i ∈ tgSlots tg, i ∈ own)
    (hw : wTurns (turnW G tg own e elt cond) grd K xs [] S1)
    (hd : ∀ us vs S' H', Stp L H1 S1 H' S' → K vs S' → RS L H' S' → H' D = some (.lst us) → RVs L.K H' vs us → S' D = none → vs.length ≤ sizeLine → Q (.ref D) H') :
    ∃ W : Nat → Nat → Hp → Prop, (∃ m, W 0 m (upd H1 D (.lst []))) ∧ ∀ i m H, W i m H →
      (J.stop i H ∧ Q (.ref D) H) ∨ (J.go i H ∧ ∃ Nx : Hp → Prop, (∀ H', Nx H' → ∃ m', m' < m ∧ W (i + 1) m' H') ∧ ∀ x H', J.yld i H x H' → gT L.K tg x (wipe σ own) H' fun σ2 H2 => wipe σ2 own = wipe σ own ∧ tF L (wIf G cond) σ2 H2 fun b H3 =>
        if b = true then tE L noW noE (wE G noE elt) σ2 H3 fun y H4 => ∃ acc, H4 D = some (.lst acc) ∧ acc.length < sizeLine ∧ Nx (upd H4 D (.lst (acc ++ [y]))) else Nx H3) := by
  refine ⟨fun i m H => ∃ (acc : List Val) (us : List V) (S : Sto), m = xs.length - i ∧ i ≤ xs.length ∧ acc.length ≤ i ∧ H D = some (.lst us) ∧ RVs L.K H acc us ∧ RS L H S ∧ Stp L H1 S1 H S ∧ S D = none ∧ wTurns (turnW G tg own e elt cond) grd K (xs.drop i) acc S,
    ⟨xs.length, [], [], S1, by simp, Nat.zero_le _, Nat.zero_le _, upd_same, rfl, hs.new nD, Stp.new nD, RS.off hs nD, by simpa using hw⟩, ?_⟩
  rintro i m H ⟨acc, us, S, rfl, hi, hl, hD, hr, rs, st, sD, hw⟩
  by_cases hlt : i < xs.length
  · have ed : xs.drop i = xs[i] :: xs.drop (i + 1) := List.drop_eq_getElem_cons hlt
    rw [ed] at hw
    obtain ⟨g, hw⟩ := hw
    obtain ⟨e', eb, hw⟩ := withO_some hw
    refine .inr ⟨wv.go i H S hlt st.tp rs g, fun H' => ∃ (acc : List Val) (us : List V) (S : Sto), acc.length ≤ i + 1 ∧ H' D = some (.lst us) ∧ RVs L.K H' acc us ∧ RS L H' S ∧ Stp L H1 S1 H' S ∧ S D = none ∧ wTurns (turnW G tg own e elt cond) grd K (xs.drop (i + 1)) acc S, ?_, fun x H' y => ?_⟩
    · rintro H' ⟨acc', us', S', h1, h2, h3, h4, h5, h6, h7⟩
      exact ⟨xs.length - (i + 1), by omega, acc', us', S', rfl, by omega, h1, h2, h3, h4, h5, h6, h7⟩
    · obtain ⟨v, e1, rv, st', rs', kp⟩ := wv.yld i H S x H' hlt st.tp rs g y
      have ev : v = xs[i] := by
        rw [List.getElem?_eq_getElem hlt] at e1
        exact (Option.some.inj e1).symm
      subst ev
      have hD' : H' D = some (.lst us) := by rw [kp D (by rw [hD]; exact fun z => by cases z)]; exact hD
      have small := wv.small
      have st1 : Stp L H1 S1 H' S := st.trans st'
      refine gT_ok eb rv ((he.mono st1.tp).wipe own) fun σ2 re2 wz => ⟨?_, ?_⟩
      · have key : ∀ l : List Nat, ∀ τ : L2.St, wipe (wipe τ l) l = wipe τ l := by
          intro l
          induction l with
          | nil => intro τ; rfl
          | cons k l ih =>
            intro τ
            show (wipe ((wipe τ l).set k none) l).set k none = (wipe τ l).set k none
            have : ∀ (m : List Nat) (ρ : L2.St), (wipe (ρ.set k none) m).set k none = (wipe ρ m).set k none := by
              intro m
              induction m with
              | nil => intro ρ; show (ρ.set k none).set k none = ρ.set k none; rw [List.set_set]
              | cons j m ihm =>
                intro ρ
                show ((wipe (ρ.set k none) m).set j none).set k none = ((wipe ρ m).set j none).set k none
                by_cases e2 : j = k
                · subst e2; rw [List.set_set, List.set_set]; exact ihm ρ
                · rw [List.set_comm _ _ e2, List.set_comm _ _ e2, ihm ρ]
            rw [this, ih]
        rw [wz own hin, key]
      · refine ⟨e', S, _, re2, rs', hw, fun b S3 H3 st3 q3 rs3 => ?_⟩
        have hD3 : H3 D = some (.lst us) := st3.frm D _ hD' sD
        have sD3 : S3 D = none := st3.off hD' sD
        cases b with
        | true =>
          refine iteT ?_
          refine ⟨e', S3, _, re2.mono st3.tp, rs3, q3.1 rfl, fun w S4 y4 H4 st4 q4 rs4 rw4 => ?_, xw_no⟩
          have hD4 : H4 D = some (.lst us) := st4.frm D _ hD3 sD3
          have sD4 : S4 D = none := st4.off hD3 sD3
          have hr4 : RVs L.K H4 acc us := RVs.mono ((st'.trans st3).trans st4).tp _ _ hr
          have t5 : Tp L.K H4 (upd H4 D (.lst (us ++ [y4]))) := Tp.write hD4 (fun _ e => by cases e) (fun _ _ e => by cases e)
          refine ⟨us, hD4, by rw [← hr.length]; omega, acc ++ [w], us ++ [y4], S4, by simp; omega, upd_same, RVs.mono t5 _ _ (RVs.append hr4 (RVs.of1 rw4)), ?_, ?_, sD4, q4⟩
          · exact fun a o q => (rs4 a o q).mono t5 (upd_ne fun z => by subst z; rw [sD4] at q; cases q)
          · have st5 : Stp L H1 S1 H4 S4 := (st1.trans st3).trans st4
            refine ⟨st5.tp.trans t5, fun a h => ?_, st5.dom, fun a u h n => ?_⟩
            · by_cases z : a = D
              · subst z; rw [upd_same]; exact fun z => by cases z
              · rw [upd_ne z]; exact st5.more a h
            · rw [upd_ne (ne_of_none h nD)]; exact st5.frm a u h n
        | false =>
          refine iteF ?_
          refine ⟨acc, us, S3, by omega, hD3, RVs.mono (st'.trans st3).tp _ _ hr, rs3, st1.trans st3, sD3, ?_⟩
          have := q3.2 rfl
          simpa using this
  · have e : i = xs.length := by omega
    subst e
    rw [List.drop_length] at hw
    exact .inl ⟨wv.stop H S st.tp rs hw.1, hd us acc S H st hw.2 rs hD hr sD (Nat.le_trans hl wv.small)⟩
end
theorem q_comp {X : Cx} {c : LC} {W : WX} {E : Nat → Sto → Prop} {G : Cfg} {pos : Pos} {tg : Tg} {own : List Nat} {elt : Ex} {it : Itr} {cond : Oe} {ptg pit pelt : Expr} {ifs : List Expr} {scope : Scope} (hc : X.calm = true) (hN : X.N.Nodup) {N : List Str} {ow : List (Str × Nat)}
    (hi : PI X ptg pit (tI (lay X c) W E (wI G E it))) (ok : BlkOk X.N X.env.scope scope ow) (how : ow.map (·.2) = own)
    (hg : ∀ (s : Shared) (H : Hp) (C : Addr) (cl : List (Str × Addr)) (fp : List Addr), PG (X.blk s H scope (compEnvC scope cl C X.env) fp) ptg (gT X.K tg))
    (ht : ∀ (s : Shared) (H : Hp) (C : Addr) (cl : List (Str × Addr)) (fp : List Addr), PTs (X.blk s H scope (compEnvC scope cl C X.env) fp) ifs (tF (lay X c) (wIf G cond)))
    (he : ∀ (s : Shared) (H : Hp) (C : Addr) (cl : List (Str × Addr)) (fp : List Addr), PE (X.blk s H scope (compEnvC scope cl C X.env) fp) pelt (tE (lay X c) noW noE (wE G noE elt)))
    (hp : plainX pit = true) (hin : ∀ i ∈ tgSlots tg, i ∈ own) : PE X (.ListComp pelt [⟨ptg, pit, ifs, 0⟩] scope pos) (tC (lay X c) W E (wC G E (.mk tg own elt it cond))) := by
  refine PE.imp (pe_lc hc hN hi ok hg ht he (fun x => plain_fold hp X.env x)) fun σ H Q h => ?_
  obtain ⟨e, S, K, re, hs, hf, k, xw⟩ := h
  simp only [wC] at hf
  refine ⟨e, S, _, re, hs, hf, fun xs grd S1 H1 J st q hs1 wv D nD => ?_, xw⟩
  rw [how]
  have nD0 : H D = none := by
    cases e0 : H D with
    | none => rfl
    | some o => exact absurd nD (st.more D (by rw [e0]; exact fun z => by cases z))
  exact q_turns wv nD hs1 (re.mono st.tp) hin q fun us vs S' H' st' kv rs' hD hr sD hl => k D us vs S' H' (st.trans st') kv rs' hD hr sD hl nD0
end DL

set_option Elab.async false
set_option linter.all false
set_option maxRecDepth 100000
set_option maxHeartbeats 8000000
/-! Own layer, part 11: every expression. -/
namespace DL
open PySem PySem.Spec PyProof.Rows L2

theorem vis_of {sc : Scope} {x : Str} (h : visC sc x = true) : Vis sc x := by
  unfold visC at h
  split at h <;> first | exact .inl (by assumption) | exact .inr (.inl (by assumption)) | exact .inr (.inr (by assumption)) | cases h
theorem loc_of {sc : Scope} {x : Str} (h : locC sc x = true) : sc.names.lookup x = some .local ∨ sc.names.lookup x = some .cell := by
  unfold locC at h
  split at h <;> first | exact .inl (by assumption) | exact .inr (by assumption) | cases h
theorem glo_of {sc : Scope} {x : Str} (h : gloC sc x = true) : sc.names.lookup x = some .globalImplicit := by
  unfold gloC at h
  split at h
  · assumption
  · cases h
theorem name_of {x : Str} (h : nameC x = true) : (x == ("__debug__" : Str)) = false ∧ (x == ("__classdict__" : Str)) = false ∧ x ≠ "__name__" := by
  unfold nameC at h
  simp only [Bool.and_eq_true, Bool.not_eq_true', decide_eq_true_eq, decide_eq_false_iff_not] at h
  exact ⟨h.1.1, h.1.2, h.2⟩
theorem call_of {sc : Scope} {x y : Str} (h : callC sc x y = true) : y = x ∧ sc.names.lookup y = some .globalImplicit ∧ (y == ("__debug__" : Str)) = false ∧ y ≠ "__name__" := by
  unfold callC at h
  rw [Bool.and_eq_true, Bool.and_eq_true] at h
  obtain ⟨⟨h1, h2⟩, h3⟩ := h
  obtain ⟨n1, n2, n3⟩ := name_of h3
  exact ⟨(of_decide_eq_true h1).symm, glo_of h2, n1, n3⟩
/-- the arguments are plain -/
def allPlain : List Expr → Bool
  | [] => true
  | e :: r => plainX e && allPlain r
theorem es_plain {T : Tab} {sc : Scope} : ∀ {es : Exs} {ps : List Expr}, chkEs T sc es ps = true → allPlain ps = true ∧ ps.length = es.len
  | .nil, [], _ => ⟨rfl, rfl⟩
  | .nil, _ :: _, h => by simp [chkEs] at h
  | .cons _ _, [], h => by simp [chkEs] at h
  | .cons a r, p :: ps, h => by
    simp only [chkEs, Bool.and_eq_true] at h
    obtain ⟨i1, i2⟩ := es_plain h.2
    exact ⟨by simp [allPlain, h.1.2, i1], by simp [Exs.len, i2]⟩
theorem star_plain (env : PySem.Env) : ∀ {ps : List Expr}, allPlain ps = true → ∀ p ∈ starEach ps env, p.1 = false
  | [], _, p, hp => by simp [starEach] at hp
  | e :: r, h, p, hp => by
    simp only [allPlain, Bool.and_eq_true] at h
    rw [plain_star h.1] at hp
    rcases List.mem_cons.mp hp with z | z
    · rw [z]
    · exact star_plain env h.2 p z
theorem XOk.blk {X : Cx} {c : LC} {G : Cfg} {T : Tab} {k : Nat} {sc : Scope} (O : XOk X c G T k sc) (s : Shared) (H : Hp) (scope : Scope) (C : Addr) (cl : List (Str × Addr)) (fp : List Addr) : XOk (X.blk s H scope (compEnvC scope cl C X.env) fp) c G T k (relS scope sc) :=
  ⟨O.nm, O.room, O.calm, O.N, by rw [← O.sc]; rfl⟩
theorem blk_loc {X : Cx} {s : Shared} {H : Hp} {scope : Scope} {C : Addr} {cl : List (Str × Addr)} {fp : List Addr} : ∀ x, locC scope x = true →
    Loc (X.blk s H scope (compEnvC scope cl C X.env) fp).env.scope x ∧ ((X.blk s H scope (compEnvC scope cl C X.env) fp).fn x = true ∨ (X.blk s H scope (compEnvC scope cl C X.env) fp).env.scope.names.lookup x = some .local) := by
  intro x h
  rcases loc_of h with z | z
  · have q : (relS scope X.env.scope).names.lookup x = some .local := lookup_relS_keep (by decide) z
    exact ⟨.inl q, .inr q⟩
  · have q : (relS scope X.env.scope).names.lookup x = some .cell := lookup_relS_keep (by decide) z
    exact ⟨.inr q, .inl (by show (scope.names.lookup x == some .cell) = true; rw [z]; rfl)⟩
theorem own_snd (N : List Str) (own : List Nat) : (own.map fun i => (N.getD i "", i)).map (·.2) = own := by
  rw [List.map_map]
  conv => rhs; rw [← List.map_id own]
  rfl
/-- all of a def's facts in one -/
abbrev Snd (x : Ex) : Prop := ∀ (X : Cx) (c : LC) (G : Cfg) (T : Tab) (k : Nat) (sc : Scope) (W : WX) (E : Nat → Sto → Prop) (pe : Expr), XOk X c G T k sc → Takes X W → chkE T sc x pe = true → PE X pe (tE (lay X c) W E (wE G E x))
abbrev SndT (x : Ex) : Prop := ∀ (X : Cx) (c : LC) (G : Cfg) (T : Tab) (k : Nat) (sc : Scope) (W : WX) (E : Nat → Sto → Prop) (pe : Expr), XOk X c G T k sc → Takes X W → chkE T sc x pe = true → PT X pe (tT (lay X c) W E (wE G E x))
abbrev SndEs (x : Exs) : Prop := ∀ (X : Cx) (c : LC) (G : Cfg) (T : Tab) (k : Nat) (sc : Scope) (W : WX) (E : Nat → Sto → Prop) (pes : List Expr), XOk X c G T k sc → Takes X W → chkEs T sc x pes = true → PA X pes (tA (lay X c) W E x.len (wEs G E x))
abbrev SndO (x : Oe) : Prop := ∀ (X : Cx) (c : LC) (G : Cfg) (T : Tab) (k : Nat) (sc : Scope) (W : WX) (E : Nat → Sto → Prop) (pe : Option Expr), XOk X c G T k sc → Takes X W → chkO T sc x pe = true → PO X pe (tO (lay X c) W E (wO G E x))
abbrev SndI (x : Itr) : Prop := ∀ (X : Cx) (c : LC) (G : Cfg) (T : Tab) (k : Nat) (sc : Scope) (W : WX) (E : Nat → Sto → Prop) (tg pe : Expr), XOk X c G T k sc → Takes X W → chkI T sc x tg pe = true → PI X tg pe (tI (lay X c) W E (wI G E x))
abbrev SndC (x : Cmp) : Prop := ∀ (X : Cx) (c : LC) (G : Cfg) (T : Tab) (k : Nat) (sc : Scope) (W : WX) (E : Nat → Sto → Prop) (pe : Expr), XOk X c G T k sc → Takes X W → chkC T sc x pe = true → PE X pe (tC (lay X c) W E (wC G E x))
abbrev SndF (x : Oe) : Prop := ∀ (X : Cx) (c : LC) (G : Cfg) (T : Tab) (k : Nat) (sc : Scope) (ifs : List Expr), XOk X c G T k sc → Takes X noW → chkIf T sc x ifs = true → PTs X ifs (tF (lay X c) (wIf G x))

theorem d_bin {o : Bop} {a b : Ex} (ha : Snd a) (hb : Snd b) : Snd (.bin o a b) := by
  intro X c G T k sc W E pe O tk h
  cases pe with
  | BinOp pa po pb pos =>
    simp only [chkE, Bool.and_eq_true] at h
    have qa := ha X c G T k sc W E pa O tk h.1.2
    have qb := hb X c G T k sc W E pb O tk h.2
    have ho := h.1.1
    cases o <;> cases po <;> first | cases ho | skip
    · exact q_bin o_add qa qb
    · exact q_bin o_sub qa qb
    · exact q_bin o_mul qa qb
    · exact q_bin o_fdiv qa qb
    · exact q_bin o_mod qa qb
    · exact q_bin o_pow qa qb
  | _ => simp [chkE] at h
theorem un120 {X : Cx} {k : Nat} (r : Room k X.A) : X.A.units + 120 < cLine := by
  have := r.un
  omega
theorem cmp_rule {X : Cx} {c : LC} {o : Cop} {po : CmpOp} (hu : X.A.units + 120 < cLine) (h : copC o po = true) : OpR X (compareOp po) (rv2 (lay X c) (wCmp o)) := by
  cases o <;> cases po <;> first | cases h | skip
  · exact o_eq hu
  · exact o_ne hu
  · exact o_lt hu
  · exact o_le
  · exact o_gt
  · exact o_ge
  · exact o_in hu
  · exact o_notin hu
theorem d_cmp {o : Cop} {a b : Ex} (ha : Snd a) (hb : Snd b) : Snd (.cmp o a b) ∧ SndT (.cmp o a b) := by
  constructor
  · intro X c G T k sc W E pe O tk h
    cases pe with
    | Compare pa ops cs pos =>
      match ops, cs, h with
      | [po], [pb], h =>
        simp only [chkE, Bool.and_eq_true] at h
        exact q_cmp (cmp_rule (un120 O.room) h.1.1.1) (ha X c G T k sc W E pa O tk h.1.1.2) (hb X c G T k sc W E pb O tk h.1.2) h.2
      | [], _, h => simp [chkE] at h
      | [_], [], h => simp [chkE] at h
      | [_], _ :: _ :: _, h => simp [chkE] at h
      | _ :: _ :: _, _, h => simp [chkE] at h
    | _ => simp [chkE] at h
  · intro X c G T k sc W E pe O tk h
    cases pe with
    | Compare pa ops cs pos =>
      match ops, cs, h with
      | [po], [pb], h =>
        simp only [chkE, Bool.and_eq_true] at h
        exact t_cmp (cmp_rule (un120 O.room) h.1.1.1) (ha X c G T k sc W E pa O tk h.1.1.2) (hb X c G T k sc W E pb O tk h.1.2) h.2
      | [], _, h => simp [chkE] at h
      | [_], [], h => simp [chkE] at h
      | [_], _ :: _ :: _, h => simp [chkE] at h
      | _ :: _ :: _, _, h => simp [chkE] at h
    | _ => simp [chkE] at h

theorem gl_of {X : Cx} {c : LC} {G : Cfg} {T : Tab} {k : Nat} {sc : Scope} (O : XOk X c G T k sc) {x : Str} (h : sc.names.lookup x = some .globalImplicit) : Gl X x := by
  rw [← O.sc] at h
  exact h
theorem d_var {i : Nat} : Snd (.var i) ∧ SndT (.var i) := by
  have key : Snd (.var i) := by
    intro X c G T k sc W E pe O tk h
    unfold chkE at h; split at h <;> first | contradiction | skip
    rename_i i' x pos heq
    cases heq
    simp only [Bool.and_eq_true, decide_eq_true_eq] at h
    obtain ⟨n1, n2, n3⟩ := name_of h.2
    exact q_var (by rw [O.N]; exact h.1.1) (by rw [O.sc]; exact vis_of h.1.2) n1 n2
  refine ⟨key, ?_⟩
  intro X c G T k sc W E pe O tk h
  have q := key X c G T k sc W E pe O tk h
  unfold chkE at h; split at h <;> first | contradiction | skip
  exact t_val q fun _ => rfl
theorem d_glob {x : Str} : Snd (.glob x) ∧ SndT (.glob x) := by
  have key : Snd (.glob x) := by
    intro X c G T k sc W E pe O tk h
    unfold chkE at h; split at h <;> first | contradiction | skip
    rename_i x' y pos heq
    cases heq
    obtain ⟨rfl, h1, h2, h3⟩ := call_of h
    refine ⟨fun pins s σ H Q I hh => ?_⟩
    obtain ⟨e, S, Qd, he, hs, hf, k, xw⟩ := hh
    simp only [wE] at hf
    obtain ⟨v, e1, q⟩ := withO_some hf
    obtain ⟨u, vv, e2, r, rv⟩ := O.nm.cvs _ _ e1
    exact (pe_glob (gl_of O h1) e2 r h2).run pins s σ H Q I (k.here q hs (rv H))
  refine ⟨key, ?_⟩
  intro X c G T k sc W E pe O tk h
  have q := key X c G T k sc W E pe O tk h
  unfold chkE at h; split at h <;> first | contradiction | skip
  exact t_val q fun _ => rfl
theorem d_int {i : Int} : Snd (.int i) ∧ SndT (.int i) := by
  have key : Snd (.int i) := by
    intro X c G T k sc W E pe O tk h
    unfold chkE at h; split at h <;> first | contradiction | skip
    rename_i i' j y pos heq
    cases heq
    cases of_decide_eq_true h
    exact q_const (v := .int i) pe_int (fun _ => rfl) fun _ _ _ q => by simpa only [wE] using q
  refine ⟨key, ?_⟩
  intro X c G T k sc W E pe O tk h
  have q := key X c G T k sc W E pe O tk h
  unfold chkE at h; split at h <;> first | contradiction | skip
  exact t_val q fun _ => rfl
theorem d_bl {i : Bool} : Snd (.bl i) ∧ SndT (.bl i) := by
  have key : Snd (.bl i) := by
    intro X c G T k sc W E pe O tk h
    unfold chkE at h; split at h <;> first | contradiction | skip
    rename_i i' j y pos heq
    cases heq
    cases of_decide_eq_true h
    exact q_const (v := .bl i) pe_bl (fun _ => rfl) fun _ _ _ q => by simpa only [wE] using q
  refine ⟨key, ?_⟩
  intro X c G T k sc W E pe O tk h
  have q := key X c G T k sc W E pe O tk h
  unfold chkE at h; split at h <;> first | contradiction | skip
  exact t_val q fun _ => rfl
theorem d_str {i : Str} : Snd (.str i) ∧ SndT (.str i) := by
  have key : Snd (.str i) := by
    intro X c G T k sc W E pe O tk h
    unfold chkE at h; split at h <;> first | contradiction | skip
    rename_i i' j y pos heq
    cases heq
    cases of_decide_eq_true h
    exact q_const (v := .str i) pe_str (fun _ => rfl) fun _ _ _ q => by simpa only [wE] using q
  refine ⟨key, ?_⟩
  intro X c G T k sc W E pe O tk h
  have q := key X c G T k sc W E pe O tk h
  unfold chkE at h; split at h <;> first | contradiction | skip
  exact t_val q fun _ => rfl
theorem d_non : Snd .non ∧ SndT .non := by
  have key : Snd .non := by
    intro X c G T k sc W E pe O tk h
    unfold chkE at h; split at h <;> first | contradiction | skip
    exact q_const (v := .non) pe_non (fun _ => rfl) fun _ _ _ q => by simpa only [wE] using q
  refine ⟨key, ?_⟩
  intro X c G T k sc W E pe O tk h
  have q := key X c G T k sc W E pe O tk h
  unfold chkE at h; split at h <;> first | contradiction | skip
  exact t_val q fun _ => rfl
theorem d_bin' {o : Bop} {a b : Ex} (ha : Snd a) (hb : Snd b) : Snd (.bin o a b) ∧ SndT (.bin o a b) := by
  refine ⟨d_bin ha hb, ?_⟩
  intro X c G T k sc W E pe O tk h
  have q := d_bin ha hb X c G T k sc W E pe O tk h
  unfold chkE at h; split at h <;> first | contradiction | skip
  exact t_val q fun _ => rfl
theorem d_neg {a : Ex} (ha : Snd a) : Snd (.neg a) ∧ SndT (.neg a) := by
  have key : Snd (.neg a) := by
    intro X c G T k sc W E pe O tk h
    unfold chkE at h; split at h <;> first | contradiction | skip
    rename_i a' pa pos heq
    cases heq
    exact q_neg (ha X c G T k sc W E pa O tk h)
  refine ⟨key, ?_⟩
  intro X c G T k sc W E pe O tk h
  have q := key X c G T k sc W E pe O tk h
  unfold chkE at h; split at h <;> first | contradiction | skip
  exact t_val q fun _ => rfl
theorem d_not {a : Ex} (ha : Snd a ∧ SndT a) : Snd (.not a) ∧ SndT (.not a) := by
  constructor
  · intro X c G T k sc W E pe O tk h
    unfold chkE at h; split at h <;> first | contradiction | skip
    rename_i a' pa pos heq
    cases heq
    exact q_not (ha.1 X c G T k sc W E pa O tk h)
  · intro X c G T k sc W E pe O tk h
    unfold chkE at h; split at h <;> first | contradiction | skip
    rename_i a' pa pos heq
    cases heq
    exact t_not (ha.2 X c G T k sc W E pa O tk h)
theorem d_isN {a : Ex} (ha : Snd a) : Snd (.isN a) ∧ SndT (.isN a) := by
  constructor
  · intro X c G T k sc W E pe O tk h
    unfold chkE at h; split at h <;> first | contradiction | skip
    rename_i a' pa j p2 pos heq
    cases heq
    exact q_isN (ha X c G T k sc W E pa O tk h)
  · intro X c G T k sc W E pe O tk h
    unfold chkE at h; split at h <;> first | contradiction | skip
    rename_i a' pa j p2 pos heq
    cases heq
    refine t_cmp1 (pc_isN (ha X c G T k sc W E pa O tk h)) rfl fun σ H Q hh => ?_
    obtain ⟨e, S, Qd, he, hs, hf, k, xw⟩ := hh
    simp only [wE] at hf
    refine ⟨e, S, _, he, hs, hf, fun v S1 u H1 st q hs1 rv => ?_, xw⟩
    cases v with
    | non => cases rv; exact (k.step st).here (v := .bl true) q hs1 rfl
    | bl _ => cases rv; exact (k.step st).here (v := .bl false) q hs1 rfl
    | int _ => cases rv; exact (k.step st).here (v := .bl false) q hs1 rfl
    | str _ => cases rv; exact (k.step st).here (v := .bl false) q hs1 rfl
    | tup _ => obtain ⟨_, _, rfl, _⟩ := rv; exact (k.step st).here (v := .bl false) q hs1 rfl
    | ref _ => cases rv; exact (k.step st).here (v := .bl false) q hs1 rfl
    | lst _ => obtain ⟨_, _, rfl, _⟩ := rv; exact (k.step st).here (v := .bl false) q hs1 rfl
theorem d_notN {a : Ex} (ha : Snd a) : Snd (.notN a) ∧ SndT (.notN a) := by
  constructor
  · intro X c G T k sc W E pe O tk h
    unfold chkE at h; split at h <;> first | contradiction | skip
    rename_i a' pa j p2 pos heq
    cases heq
    exact q_notN (ha X c G T k sc W E pa O tk h)
  · intro X c G T k sc W E pe O tk h
    unfold chkE at h; split at h <;> first | contradiction | skip
    rename_i a' pa j p2 pos heq
    cases heq
    refine t_cmp1 (pc_notN (ha X c G T k sc W E pa O tk h)) rfl fun σ H Q hh => ?_
    obtain ⟨e, S, Qd, he, hs, hf, k, xw⟩ := hh
    simp only [wE] at hf
    refine ⟨e, S, _, he, hs, hf, fun v S1 u H1 st q hs1 rv => ?_, xw⟩
    cases v with
    | non => cases rv; exact (k.step st).here (v := .bl false) q hs1 rfl
    | bl _ => cases rv; exact (k.step st).here (v := .bl true) q hs1 rfl
    | int _ => cases rv; exact (k.step st).here (v := .bl true) q hs1 rfl
    | str _ => cases rv; exact (k.step st).here (v := .bl true) q hs1 rfl
    | tup _ => obtain ⟨_, _, rfl, _⟩ := rv; exact (k.step st).here (v := .bl true) q hs1 rfl
    | ref _ => cases rv; exact (k.step st).here (v := .bl true) q hs1 rfl
    | lst _ => obtain ⟨_, _, rfl, _⟩ := rv; exact (k.step st).here (v := .bl true) q hs1 rfl
theorem plain_last {op op2 : CmpOp} {b d : Expr} (h : plainX b = true) (h2 : plainX d = true) : lastMarks [op, op2] [b, d] = false := by
  first | exact plain_mark h2 _ | exact plain_mark h _
theorem chain_in {X : Cx} {c : LC} {W : WX} {E : Nat → Sto → Prop} {G : Cfg} {o p : Cop} {a b d : Ex} {σ : L2.St} {H : Hp} {Q : VK} (h : tE (lay X c) W E (wE G E (.chain o p a b d)) σ H Q) :
    tChain (rv2 (lay X c) (wCmp o)) (rv2 (lay X c) (wCmp p)) (tE (lay X c) W E (wE G E a)) (tE (lay X c) W E (wE G E b)) (tE (lay X c) W E (wE G E d)) σ H Q := by
  obtain ⟨e, S, Qd, he, hs, hf, k, xw⟩ := h
  simp only [wE] at hf
  refine ⟨e, S, _, he, hs, hf, fun v S1 u H1 st q hs1 rv => ?_, xw⟩
  refine ⟨e, S1, _, he.mono st.tp, hs1, q, fun v2 S2 u2 H2 st2 q2 hs2 rv2' => ?_, xw.step st⟩
  refine ⟨v, v2, S2, _, RV.mono st2.tp _ _ rv, rv2', hs2, q2, fun v3 S3 u3 H3 st3 q3 hs3 rv3 => ?_⟩
  obtain ⟨z, rfl, q4, q5⟩ := withB_some q3
  cases rv3
  refine ⟨z, rfl, ?_⟩
  have st13 := (st.trans st2).trans st3
  cases z with
  | true =>
    rw [if_pos rfl]
    refine ⟨e, S3, _, he.mono st13.tp, hs3, q4 rfl, fun v4 S4 u4 H4 st4 q6 hs4 rv4 => ?_, xw.step st13⟩
    exact ⟨v2, v4, S4, Qd, RV.mono (st3.trans st4).tp _ _ rv2', rv4, hs4, q6, (k.step st13).step st4⟩
  | false =>
    rw [if_neg Bool.false_ne_true]
    exact (k.step st13).here (q5 rfl) hs3 rfl
theorem d_chain {o p : Cop} {a b d : Ex} (ha : Snd a) (hb : Snd b) (hd : Snd d) : Snd (.chain o p a b d) ∧ SndT (.chain o p a b d) := by
  constructor
  · intro X c G T k sc W E pe O tk h
    unfold chkE at h; split at h <;> first | contradiction | skip
    rename_i o' p' a' b' d' pa po pp pb pd pos heq
    cases heq
    simp only [Bool.and_eq_true] at h
    exact q_chain (cmp_rule (un120 O.room) h.1.1.1.1.1.1) (cmp_rule (un120 O.room) h.1.1.1.1.1.2) (ha X c G T k sc W E pa O tk h.1.1.1.1.2) (hb X c G T k sc W E pb O tk h.1.1.1.2) (hd X c G T k sc W E pd O tk h.1.1.2) h.1.2 h.2
  · intro X c G T k sc W E pe O tk h
    unfold chkE at h; split at h <;> first | contradiction | skip
    rename_i o' p' a' b' d' pa po pp pb pd pos heq
    cases heq
    simp only [Bool.and_eq_true] at h
    refine PT.imp (pt_chain (cmp_rule (c := c) (un120 O.room) h.1.1.1.1.1.1) (cmp_rule (c := c) (un120 O.room) h.1.1.1.1.1.2) (ha X c G T k sc W E pa O tk h.1.1.1.1.2) (hb X c G T k sc W E pb O tk h.1.1.1.2) (hd X c G T k sc W E pd O tk h.1.1.2) (plain_last h.1.2 h.2)) fun σ H Q hh => ?_
    exact chain_in hh
end DL

set_option Elab.async false
set_option linter.all false
set_option maxRecDepth 100000
set_option maxHeartbeats 8000000
/-! Own layer, part 12: every expression, the rest. -/
namespace DL
open PySem PySem.Spec PyProof.Rows L2

/-- a conjunction as a test within another -/
abbrev SndW (x : Ex) : Prop := ∀ (X : Cx) (c : LC) (G : Cfg) (T : Tab) (k : Nat) (sc : Scope) (W : WX) (E : Nat → Sto → Prop) (op : PySem.BoolOp) (r : List Expr) (pos : Pos), XOk X c G T k sc → Takes X W → chkE T sc x (.BoolOp op r pos) = true → PW X (.BoolOp op r pos) (tT (lay X c) W E (wE G E x))
theorem sw_no {x : Ex} (h : ∀ T sc op r pos, chkE T sc x (.BoolOp op r pos) = false) : SndW x := fun X c G T k sc W E op r pos _ _ q => by
  rw [h] at q
  cases q
theorem d_and {a b : Ex} (ha : Snd a ∧ SndT a) (hb : Snd b ∧ SndT b ∧ SndW b) : Snd (.and a b) ∧ SndT (.and a b) ∧ SndW (.and a b) := by
  have key : SndW (.and a b) := by
    intro X c G T k sc W E op r pos O tk h
    unfold chkE at h; split at h <;> first | contradiction | skip
    · rename_i a' b' pa pb pos' heq heq2
      cases heq
      cases heq2
      simp only [Bool.and_eq_true] at h
      exact t_and (ha.2 X c G T k sc W E pa O tk h.1) (pw_and1 (hb.2.1 X c G T k sc W E pb O tk h.2))
    · rename_i a' b' pa pb pc r' pos' heq heq2
      cases heq
      cases heq2
      simp only [Bool.and_eq_true] at h
      exact t_and (ha.2 X c G T k sc W E pa O tk h.1) (hb.2.2 X c G T k sc W E .And _ pos O tk h.2)
  refine ⟨?_, ?_, key⟩
  · intro X c G T k sc W E pe O tk h
    unfold chkE at h; split at h <;> first | contradiction | skip
    · rename_i a' b' pa pb pos' heq
      cases heq
      simp only [Bool.and_eq_true] at h
      exact q_and (ha.1 X c G T k sc W E pa O tk h.1) (pe_one (hb.1 X c G T k sc W E pb O tk h.2))
    · rename_i a' b' pa pb pc r' pos' heq
      cases heq
      simp only [Bool.and_eq_true] at h
      exact q_and (ha.1 X c G T k sc W E pa O tk h.1) (hb.1 X c G T k sc W E _ O tk h.2)
  · intro X c G T k sc W E pe O tk h
    cases pe with
    | BoolOp op r pos => exact (key X c G T k sc W E op r pos O tk h).pt
    | _ => simp [chkE] at h
theorem d_or {a b : Ex} (ha : Snd a ∧ SndT a) (hb : Snd b ∧ SndT b ∧ SndW b) : Snd (.or a b) ∧ SndT (.or a b) ∧ SndW (.or a b) := by
  have key : SndW (.or a b) := by
    intro X c G T k sc W E op r pos O tk h
    unfold chkE at h; split at h <;> first | contradiction | skip
    · rename_i a' b' pa pb pos' heq heq2
      cases heq
      cases heq2
      simp only [Bool.and_eq_true] at h
      exact t_or (ha.2 X c G T k sc W E pa O tk h.1) (pw_or1 (hb.2.1 X c G T k sc W E pb O tk h.2))
    · rename_i a' b' pa pb pc r' pos' heq heq2
      cases heq
      cases heq2
      simp only [Bool.and_eq_true] at h
      exact t_or (ha.2 X c G T k sc W E pa O tk h.1) (hb.2.2 X c G T k sc W E .Or _ pos O tk h.2)
  refine ⟨?_, ?_, key⟩
  · intro X c G T k sc W E pe O tk h
    unfold chkE at h; split at h <;> first | contradiction | skip
    · rename_i a' b' pa pb pos' heq
      cases heq
      simp only [Bool.and_eq_true] at h
      exact q_or (ha.1 X c G T k sc W E pa O tk h.1) (pe_one (hb.1 X c G T k sc W E pb O tk h.2))
    · rename_i a' b' pa pb pc r' pos' heq
      cases heq
      simp only [Bool.and_eq_true] at h
      exact q_or (ha.1 X c G T k sc W E pa O tk h.1) (hb.1 X c G T k sc W E _ O tk h.2)
  · intro X c G T k sc W E pe O tk h
    cases pe with
    | BoolOp op r pos => exact (key X c G T k sc W E op r pos O tk h).pt
    | _ => simp [chkE] at h
theorem d_tup {es : Exs} (he : SndEs es) : Snd (.tup es) ∧ SndT (.tup es) := by
  have key : Snd (.tup es) := by
    intro X c G T k sc W E pe O tk h
    unfold chkE at h; split at h <;> first | contradiction | skip
    rename_i es' pes z pos heq
    cases heq
    simp only [Bool.and_eq_true, decide_eq_true_eq] at h
    exact q_tup (he X c G T k sc W E pes O tk h.1) h.2
  refine ⟨key, ?_⟩
  intro X c G T k sc W E pe O tk h
  have q := key X c G T k sc W E pe O tk h
  unfold chkE at h; split at h <;> first | contradiction | skip
  exact t_val q fun _ => rfl
theorem d_lst {es : Exs} (he : SndEs es) : Snd (.lst es) ∧ SndT (.lst es) := by
  have key : Snd (.lst es) := by
    intro X c G T k sc W E pe O tk h
    unfold chkE at h; split at h <;> first | contradiction | skip
    rename_i es' pes pos heq
    cases heq
    simp only [Bool.and_eq_true, decide_eq_true_eq] at h
    exact q_lst (he X c G T k sc W E pes O tk h.1) h.2
  refine ⟨key, ?_⟩
  intro X c G T k sc W E pe O tk h
  have q := key X c G T k sc W E pe O tk h
  unfold chkE at h; split at h <;> first | contradiction | skip
  exact t_val q fun _ => rfl
theorem d_sub {a b : Ex} (ha : Snd a) (hb : Snd b) : Snd (.sub a b) ∧ SndT (.sub a b) := by
  have key : Snd (.sub a b) := by
    intro X c G T k sc W E pe O tk h
    unfold chkE at h; split at h <;> first | contradiction | skip
    rename_i a' b' pa pb pos heq
    cases heq
    simp only [Bool.and_eq_true] at h
    exact q_sub (i_sub (un120 O.room)) (ha X c G T k sc W E pa O tk h.1.1) (hb X c G T k sc W E pb O tk h.1.2) h.2
  refine ⟨key, ?_⟩
  intro X c G T k sc W E pe O tk h
  have q := key X c G T k sc W E pe O tk h
  unfold chkE at h; split at h <;> first | contradiction | skip
  exact t_val q fun _ => rfl
theorem d_slice {a : Ex} {lo hi : Oe} (ha : Snd a) (hl : SndO lo) (hh : SndO hi) : Snd (.slice a lo hi) ∧ SndT (.slice a lo hi) := by
  have key : Snd (.slice a lo hi) := by
    intro X c G T k sc W E pe O tk h
    unfold chkE at h; split at h <;> first | contradiction | skip
    rename_i a' lo' hi' pa plo phi p2 pos heq
    cases heq
    simp only [Bool.and_eq_true] at h
    exact q_slice (ha X c G T k sc W E pa O tk h.1.1) (hl X c G T k sc W E plo O tk h.1.2) (hh X c G T k sc W E phi O tk h.2)
  refine ⟨key, ?_⟩
  intro X c G T k sc W E pe O tk h
  have q := key X c G T k sc W E pe O tk h
  unfold chkE at h; split at h <;> first | contradiction | skip
  exact t_val q fun _ => rfl
theorem d_fld {a : Ex} {f : Str} (ha : Snd a) : Snd (.fld a f) ∧ SndT (.fld a f) := by
  have key : Snd (.fld a f) := by
    intro X c G T k sc W E pe O tk h
    unfold chkE at h; split at h <;> first | contradiction | skip
    rename_i a' f' pa g pos heq
    cases heq
    simp only [Bool.and_eq_true, decide_eq_true_eq] at h
    obtain ⟨⟨rfl, h1⟩, h2⟩ := h
    exact q_fld (ha X c G T k sc W E pa O tk h1) h2
  refine ⟨key, ?_⟩
  intro X c G T k sc W E pe O tk h
  have q := key X c G T k sc W E pe O tk h
  unfold chkE at h; split at h <;> first | contradiction | skip
  exact t_val q fun _ => rfl
theorem plain_row {X : Cx} {T : Tab} {sc : Scope} {es : Exs} {pe : Expr} {pes : List Expr} (pos : Pos) (h : chkEs T sc es (pe :: pes) = true) : plainX pe = true ∧ (backTo pos (starEach pes X.env)).any (·.1) = false := by
  have h1 := (es_plain h).1
  simp only [allPlain, Bool.and_eq_true] at h1
  exact ⟨h1.1, back_plain (star_plain X.env h1.2)⟩
theorem d_call {f : Nat} {es : Exs} (he : SndEs es) : Snd (.call f es) ∧ SndT (.call f es) := by
  have key : Snd (.call f es) := by
    intro X c G T k sc W E pe O tk h
    unfold chkE at h; split at h <;> first | contradiction | skip
    rename_i f' es' x p pe pes pos heq
    cases heq
    simp only [Bool.and_eq_true, decide_eq_true_eq] at h
    obtain ⟨⟨⟨h1, h2⟩, h3⟩, h4⟩ := h
    obtain ⟨p1, p2⟩ := plain_row (X := X) pos h4
    exact q_call O tk h1 (gl_of O (glo_of h2)) (name_of h3).1 (he X c G T k sc W E _ O tk h4) p1 p2
  refine ⟨key, ?_⟩
  intro X c G T k sc W E pe O tk h
  have q := key X c G T k sc W E pe O tk h
  unfold chkE at h; split at h <;> first | contradiction | skip
  exact t_val q fun _ => rfl
theorem d_new {f : Nat} {es : Exs} (he : SndEs es) : Snd (.new f es) ∧ SndT (.new f es) := by
  have key : Snd (.new f es) := by
    intro X c G T k sc W E pe O tk h
    unfold chkE at h; split at h <;> first | contradiction | skip
    rename_i f' es' x p pe pes pos heq
    cases heq
    simp only [Bool.and_eq_true, decide_eq_true_eq] at h
    obtain ⟨⟨⟨h1, h2⟩, h3⟩, h4⟩ := h
    obtain ⟨p1, p2⟩ := plain_row (X := X) pos h4
    exact q_new O h1 (gl_of O (glo_of h2)) (name_of h3).1 (he X c G T k sc W E _ O tk h4) p1 p2
  refine ⟨key, ?_⟩
  intro X c G T k sc W E pe O tk h
  have q := key X c G T k sc W E pe O tk h
  unfold chkE at h; split at h <;> first | contradiction | skip
  exact t_val q fun _ => rfl
theorem d_blt {b : Bt} {es : Exs} (he : SndEs es) : Snd (.blt b es) ∧ SndT (.blt b es) := by
  have key : Snd (.blt b es) := by
    intro X c G T k sc W E pe O tk h
    unfold chkE at h; split at h <;> first | contradiction | skip
    rename_i f' es' x p pe pes pos heq
    cases heq
    simp only [Bool.and_eq_true, decide_eq_true_eq] at h
    obtain ⟨⟨h1, h2⟩, h4⟩ := h
    obtain ⟨p1, p2⟩ := plain_row (X := X) pos h4
    obtain ⟨e, h5, h6, h7⟩ := call_of h2
    exact q_blt O h1 e (gl_of O h5) h7 h6 (he X c G T k sc W E _ O tk h4) p1 p2
  refine ⟨key, ?_⟩
  intro X c G T k sc W E pe O tk h
  have q := key X c G T k sc W E pe O tk h
  unfold chkE at h; split at h <;> first | contradiction | skip
  exact t_val q fun _ => rfl
theorem comp_plain {T : Tab} {sc : Scope} {cm : Cmp} {pe : Expr} (h : chkC T sc cm pe = true) : plainX pe = true := by
  unfold chkC at h
  split at h
  · rfl
  · cases h
theorem d_bltc {b : Bt} {cm : Cmp} (he : SndC cm) : Snd (.bltc b cm) ∧ SndT (.bltc b cm) := by
  have key : Snd (.bltc b cm) := by
    intro X c G T k sc W E pe O tk h
    unfold chkE at h; split at h <;> first | contradiction | skip
    rename_i b' cm' x p pe pos heq
    cases heq
    simp only [Bool.and_eq_true, decide_eq_true_eq] at h
    obtain ⟨⟨h1, h2⟩, h4⟩ := h
    obtain ⟨e, h5, h6, h7⟩ := call_of h2
    have hm := comp_plain h4
    refine PE.imp (pe_callBf (b_list (c := c) O.calm b h1) e (gl_of O h5) (by rw [e]; exact nmg O b) (pa_cons (he X c G T k sc W E pe O tk h4) pa_nil (plain_star hm [] X.env)) h7 h6 (plain_star hm [] X.env) rfl) fun σ H Q hh => ?_
    obtain ⟨e, S, Qd, he, hs, hf, k, xw⟩ := hh
    simp only [wE] at hf
    refine ⟨e, S, _, he, hs, hf, fun D us vs S1 H1 st q hs1 hD hr sD hl _ => ?_, xw⟩
    exact ⟨D, us, vs, S1, Qd, rfl, hD, hr, hs1, q, k.step st⟩
  refine ⟨key, ?_⟩
  intro X c G T k sc W E pe O tk h
  have q := key X c G T k sc W E pe O tk h
  unfold chkE at h; split at h <;> first | contradiction | skip
  exact t_val q fun _ => rfl
theorem chk_star {T : Tab} {sc : Scope} {a : Ex} {pa : Expr} (h : chkE T sc a pa = true) (es : List Expr) (env : PySem.Env) : starEach (pa :: es) env = (false, eval pa env) :: starEach es env := by
  cases pa <;> first | rfl | skip
  exfalso
  revert h
  induction a using Ex.rec (motive_2 := fun _ => True) (motive_3 := fun _ => True) (motive_4 := fun _ => True) (motive_5 := fun _ => True) <;> simp_all [chkE, chkC]
end DL

set_option Elab.async false
set_option linter.all false
set_option maxRecDepth 100000
set_option maxHeartbeats 8000000
/-! Own layer, part 13: every expression, the end. -/
namespace DL
open PySem PySem.Spec PyProof.Rows L2
theorem d_isi {a : Ex} {t : Ty} (ha : Snd a) : Snd (.isi a t) ∧ SndT (.isi a t) := by
  have key : Snd (.isi a t) := by
    intro X c G T k sc W E pe O tk h
    unfold chkE at h; split at h <;> first | contradiction | skip
    rename_i a' t' x p pa y p2 pos heq
    cases heq
    simp only [Bool.and_eq_true] at h
    obtain ⟨⟨h1, h2⟩, h3⟩ := h
    obtain ⟨e1, g1, _⟩ := call_of h1
    obtain ⟨e2, g2, _⟩ := call_of h2
    exact q_isi O e1 e2 (gl_of O g1) (gl_of O g2) (ha X c G T k sc W E pa O tk h3) (chk_star h3 _ _)
  refine ⟨key, ?_⟩
  intro X c G T k sc W E pe O tk h
  have q := key X c G T k sc W E pe O tk h
  unfold chkE at h; split at h <;> first | contradiction | skip
  exact t_val q fun _ => rfl
theorem d_meth {a : Ex} {m : Mt} {es : Exs} (ha : Snd a) (he : SndEs es) : Snd (.meth a m es) ∧ SndT (.meth a m es) := by
  have key : Snd (.meth a m es) := by
    intro X c G T k sc W E pe O tk h
    unfold chkE at h; split at h <;> first | contradiction | skip
    rename_i a' m' es' pa g apos pes pos heq
    cases heq
    simp only [Bool.and_eq_true, decide_eq_true_eq] at h
    obtain ⟨⟨⟨⟨⟨⟨h1, rfl⟩, h3⟩, h4⟩, h5⟩, h6⟩, h7⟩ := h
    cases pes with
    | nil =>
      cases es with
      | nil => exact q_meth0 h1 (ha X c G T k sc W E pa O tk h5) h4 h3
      | cons _ _ => simp [chkEs] at h6
    | cons q qs =>
      obtain ⟨p1, p2⟩ := plain_row (X := X) pos h6
      exact q_meth h1 (ha X c G T k sc W E pa O tk h5) (he X c G T k sc W E _ O tk h6) h4 p1 (by rw [(es_plain h6).2]; exact h7) h3 p2
  refine ⟨key, ?_⟩
  intro X c G T k sc W E pe O tk h
  have q := key X c G T k sc W E pe O tk h
  unfold chkE at h; split at h <;> first | contradiction | skip
  exact t_val q fun _ => rfl
theorem d_umeth {a : Ex} {m : Str} {es : Exs} (ha : Snd a) (he : SndEs es) : Snd (.umeth a m es) ∧ SndT (.umeth a m es) := by
  have key : Snd (.umeth a m es) := by
    intro X c G T k sc W E pe O tk h
    unfold chkE at h; split at h <;> first | contradiction | skip
    rename_i a' m' es' pa g apos pes pos heq
    cases heq
    simp only [Bool.and_eq_true, decide_eq_true_eq] at h
    obtain ⟨⟨⟨⟨⟨⟨h1, rfl⟩, h3⟩, h4⟩, h5⟩, h6⟩, h7⟩ := h
    replace h1 : _ := h1
    cases pes with
    | nil =>
      cases es with
      | nil => exact q_umeth0 O h1 (ha X c G T k sc W E pa O tk h5) h4 h3
      | cons _ _ => simp [chkEs] at h6
    | cons q qs =>
      obtain ⟨p1, p2⟩ := plain_row (X := X) pos h6
      exact q_umeth O h1 (ha X c G T k sc W E pa O tk h5) (he X c G T k sc W E _ O tk h6) h4 p1 (by rw [(es_plain h6).2]; exact h7) h3 p2
  refine ⟨key, ?_⟩
  intro X c G T k sc W E pe O tk h
  have q := key X c G T k sc W E pe O tk h
  unfold chkE at h; split at h <;> first | contradiction | skip
  exact t_val q fun _ => rfl
theorem chk_comp {T : Tab} {sc : Scope} {cm : Cmp} {pe : Expr} (h : chkE T sc (.comp cm) pe = true) : chkC T sc cm pe = true := by
  simp only [chkE] at h
  exact h
theorem d_comp {cm : Cmp} (hc : SndC cm) : Snd (.comp cm) ∧ SndT (.comp cm) := by
  have key : Snd (.comp cm) := by
    intro X c G T k sc W E pe O tk h
    refine PE.imp (hc X c G T k sc W E pe O tk (chk_comp h)) fun σ H Q hh => ?_
    obtain ⟨e, S, Qd, he, hs, hf, k, xw⟩ := hh
    simp only [wE] at hf
    refine ⟨e, S, _, he, hs, hf, fun D us vs S1 H1 st q hs1 hD hr sD hl nD => ?_, xw⟩
    refine k (.ref D) (up S1 D (.lst vs)) (.ref D) H1 ⟨st.tp, st.more, fun a ha => ?_, st.frm⟩ (q D sD) (fun a o q => ?_) rfl
    · by_cases z : a = D
      · subst z
        exact .inr nD
      · exact st.dom a (by rw [up_ne z] at ha; exact ha)
    · by_cases z : a = D
      · subst z
        rw [up_same] at q
        cases q
        exact ⟨us, hD, hr⟩
      · rw [up_ne z] at q
        exact hs1 a o q
  refine ⟨key, ?_⟩
  intro X c G T k sc W E pe O tk h
  have q := key X c G T k sc W E pe O tk h
  have h' := chk_comp h
  unfold chkC at h'
  split at h'
  · exact t_val q fun _ => rfl
  · cases h'
theorem t_drop {X : Cx} {c : LC} {W : WX} {E : Nat → Sto → Prop} {G : Cfg} {σ : L2.St} {H : Hp} {Q : VK} {a : Ex} (h : tE (lay X c) W E (wE G E (.drop a)) σ H Q) : tE (lay X c) W E (wE G E a) σ H Q := by
  obtain ⟨e, S, Qd, he, hs, hf, k, xw⟩ := h
  simp only [wE] at hf
  refine ⟨e, S, _, he, hs, hf, fun v S1 u H1 st q hs1 rv => ?_, xw⟩
  refine k v _ u H1 ⟨st.tp, st.more, fun a ha => st.dom a fun z => ha ?_, st.frm⟩ q (hs1.sub keep_sub) rv
  unfold keep
  split
  · exact z
  · rfl
theorem d_drop {a : Ex} (ha : Snd a ∧ SndT a ∧ SndW a) : Snd (.drop a) ∧ SndT (.drop a) ∧ SndW (.drop a) := by
  refine ⟨?_, ?_, ?_⟩
  · intro X c G T k sc W E pe O tk h
    simp only [chkE] at h
    exact q_drop (ha.1 X c G T k sc W E pe O tk h)
  · intro X c G T k sc W E pe O tk h
    simp only [chkE] at h
    exact PT.imp (ha.2.1 X c G T k sc W E pe O tk h) fun σ H Q hh => t_drop hh
  · intro X c G T k sc W E op r pos O tk h
    simp only [chkE] at h
    exact PW.imp (ha.2.2 X c G T k sc W E op r pos O tk h) fun σ H Q hh => t_drop hh

/-! ### lists, parts, walks, comprehensions -/
theorem d_nil : SndEs .nil := by
  intro X c G T k sc W E pes O tk h
  cases pes with
  | nil => exact a_nil
  | cons _ _ => simp [chkEs] at h
theorem d_cons {a : Ex} {r : Exs} (ha : Snd a) (hr : SndEs r) : SndEs (.cons a r) := by
  intro X c G T k sc W E pes O tk h
  cases pes with
  | nil => simp [chkEs] at h
  | cons p ps =>
    simp only [chkEs, Bool.and_eq_true] at h
    exact a_cons (ha X c G T k sc W E p O tk h.1.1) (hr X c G T k sc W E ps O tk h.2) h.1.2
theorem d_onone : SndO .none := by
  intro X c G T k sc W E pe O tk h
  cases pe with
  | none => exact o_none
  | some _ => simp [chkO] at h
theorem d_osome {a : Ex} (ha : Snd a) : SndO (.some a) := by
  intro X c G T k sc W E pe O tk h
  cases pe with
  | none => simp [chkO] at h
  | some p =>
    simp only [chkO] at h
    exact o_some (ha X c G T k sc W E p O tk h)
theorem d_ival {a : Ex} (ha : Snd a) : SndI (.val a) := by
  intro X c G T k sc W E tg pe O tk h
  simp only [chkI, Bool.and_eq_true] at h
  exact i_val (ha X c G T k sc W E pe O tk h.1)
theorem d_irng {es : Exs} (he : SndEs es) : SndI (.rng es) := by
  intro X c G T k sc W E tg pe O tk h
  unfold chkI at h; split at h <;> first | contradiction | skip
  rename_i es' tg' x p pes pos heq
  cases heq
  simp only [Bool.and_eq_true, decide_eq_true_eq] at h
  obtain ⟨⟨h1, h2⟩, h3⟩ := h
  obtain ⟨rfl, g1, _⟩ := call_of h1
  obtain ⟨ap, al⟩ := es_plain h2
  have q := he X c G T k sc W E pes O tk h2
  match pes, ap, al, h2, q with
  | [], _, al, _, _ => simp at al; omega
  | [pa], ap, al, h2, q =>
    rw [← al] at q
    simp only [allPlain, Bool.and_eq_true] at ap
    exact i_rng1 O (gl_of O g1) q ap.1
  | [pa, pb], ap, al, h2, q =>
    rw [← al] at q
    simp only [allPlain, Bool.and_eq_true] at ap
    exact i_rng2 O (gl_of O g1) q ap.1 ap.2.1
  | [pa, pb, pc], ap, al, h2, q =>
    rw [← al] at q
    simp only [allPlain, Bool.and_eq_true] at ap
    exact i_rng3 O (gl_of O g1) q ap.1 ap.2.1 ap.2.2.1
  | _ :: _ :: _ :: _ :: _, _, al, _, _ => simp at al; omega
theorem d_ienum {a : Ex} (ha : Snd a) : SndI (.enum a) := by
  intro X c G T k sc W E tg pe O tk h
  unfold chkI at h; split at h <;> first | contradiction | skip
  rename_i a' t1 t2 t3 x p pa pos heq
  cases heq
  simp only [Bool.and_eq_true] at h
  obtain ⟨rfl, g1, _⟩ := call_of h.1.1
  exact i_enum O (gl_of O g1) (ha X c G T k sc W E pa O tk h.1.2) h.2
theorem d_izip {a b : Ex} (ha : Snd a) (hb : Snd b) : SndI (.zip a b) := by
  intro X c G T k sc W E tg pe O tk h
  unfold chkI at h; split at h <;> first | contradiction | skip
  rename_i a' b' t1 t2 t3 x p pa pb pos heq
  cases heq
  simp only [Bool.and_eq_true] at h
  obtain ⟨rfl, g1, _⟩ := call_of h.1.1.1.1
  exact i_zip O (gl_of O g1) (ha X c G T k sc W E pa O tk h.1.1.1.2) (hb X c G T k sc W E pb O tk h.1.1.2) h.1.2 h.2
theorem no_takes {X : Cx} : Takes X noW := fun _ _ x => by
  obtain ⟨_, _, _, _, _, _, _, _, _, _, _, _, _, _, _, _, z⟩ := x
  exact z.elim
theorem d_fnone : SndF .none := by
  intro X c G T k sc ifs O tk h
  cases ifs with
  | nil =>
    refine ⟨fun pins s σ H Q I hh => pts_nil.run pins s σ H Q I ?_⟩
    obtain ⟨e, S, Qd, he, hs, hf, k⟩ := hh
    simp only [wIf] at hf
    exact k true S H .refl hf hs
  | cons _ _ => simp [chkIf] at h
theorem d_fsome {a : Ex} (ha : SndT a) : SndF (.some a) := by
  intro X c G T k sc ifs O tk h
  match ifs, h with
  | [], h => simp [chkIf] at h
  | [p], h =>
    simp only [chkIf] at h
    refine ⟨fun pins s σ H Q I hh => (pts_one (ha X c G T k sc noW noE p O tk h)).run pins s σ H Q I ?_⟩
    obtain ⟨e, S, Qd, he, hs, hf, k⟩ := hh
    simp only [wIf] at hf
    refine ⟨e, S, _, he, hs, hf, fun v S1 u H1 st q hs1 rv => ?_, xw_no⟩
    obtain ⟨b, rfl, q⟩ := withB_some q
    cases rv
    exact ⟨b, rfl, k b S1 H1 st q hs1⟩
  | _ :: _ :: _, h => simp [chkIf] at h
theorem d_mk {tg : Tg} {own : List Nat} {elt : Ex} {it : Itr} {cond : Oe} (he : Snd elt) (hi : SndI it) (hf : SndF cond) : SndC (.mk tg own elt it cond) := by
  intro X c G T k sc W E pe O tk h
  unfold chkC at h; split at h <;> first | contradiction | skip
  rename_i tg' own' elt' it' cond' pelt ptg pit ifs scope pos heq
  cases heq
  simp only [Bool.and_eq_true, List.all_eq_true, decide_eq_true_eq] at h
  obtain ⟨⟨⟨⟨⟨⟨h1, h2⟩, h3⟩, h4⟩, h5⟩, h6⟩, h7⟩ := h
  have hN : X.N.Nodup := by rw [O.N]; exact O.nm.nd
  refine q_comp (N := T.N) O.calm hN (hi X c G T k sc W E ptg pit O tk h4) (blkOk_by (own := own.map fun i => (T.N.getD i "", i)) (by rw [O.N, O.sc]; exact h1)) (own_snd _ _) (fun s H C cl fp => ?_) (fun s H C cl fp => ?_) (fun s H C cl fp => ?_) h5 h3
  · exact g_ok (X := X.blk s H scope (compEnvC scope cl C X.env) fp) (T := T) (sc := scope) hN O.N O.calm blk_loc h2
  · exact hf _ c G T k _ ifs (O.blk s H scope C cl fp) no_takes h7
  · exact he _ c G T k _ noW noE pelt (O.blk s H scope C cl fp) no_takes h6
end DL

set_option Elab.async false
set_option linter.all false
set_option maxRecDepth 100000
set_option maxHeartbeats 8000000
/-! Own layer, part 14: every expression. -/
namespace DL
open PySem PySem.Spec PyProof.Rows L2
theorem and3 {a b c : Prop} (h : a ∧ b) (w : c) : a ∧ b ∧ c := ⟨h.1, h.2, w⟩
mutual
theorem snd : (x : Ex) → Snd x ∧ SndT x ∧ SndW x
  | .var i => and3 d_var (sw_no (by intros; simp [chkE]))
  | .glob x => and3 d_glob (sw_no (by intros; simp [chkE]))
  | .int i => and3 d_int (sw_no (by intros; simp [chkE]))
  | .bl b => and3 d_bl (sw_no (by intros; simp [chkE]))
  | .non => and3 d_non (sw_no (by intros; simp [chkE]))
  | .str x => and3 d_str (sw_no (by intros; simp [chkE]))
  | .bin o a b => and3 (d_bin' (snd a).1 (snd b).1) (sw_no (by intros; simp [chkE]))
  | .neg a => and3 (d_neg (snd a).1) (sw_no (by intros; simp [chkE]))
  | .not a => and3 (d_not ⟨(snd a).1, (snd a).2.1⟩) (sw_no (by intros; simp [chkE]))
  | .cmp o a b => and3 (d_cmp (snd a).1 (snd b).1) (sw_no (by intros; simp [chkE]))
  | .isN a => and3 (d_isN (snd a).1) (sw_no (by intros; simp [chkE]))
  | .notN a => and3 (d_notN (snd a).1) (sw_no (by intros; simp [chkE]))
  | .chain o p a b d => and3 (d_chain (snd a).1 (snd b).1 (snd d).1) (sw_no (by intros; simp [chkE]))
  | .and a b => d_and ⟨(snd a).1, (snd a).2.1⟩ (snd b)
  | .or a b => d_or ⟨(snd a).1, (snd a).2.1⟩ (snd b)
  | .tup es => and3 (d_tup (sndEs es)) (sw_no (by intros; simp [chkE]))
  | .lst es => and3 (d_lst (sndEs es)) (sw_no (by intros; simp [chkE]))
  | .dict0 => ⟨fun X c G T k sc W E pe O tk h => by simp [chkE] at h, fun X c G T k sc W E pe O tk h => by simp [chkE] at h, sw_no (by intros; simp [chkE])⟩
  | .dict1 _ _ => ⟨fun X c G T k sc W E pe O tk h => by simp [chkE] at h, fun X c G T k sc W E pe O tk h => by simp [chkE] at h, sw_no (by intros; simp [chkE])⟩
  | .sub a b => and3 (d_sub (snd a).1 (snd b).1) (sw_no (by intros; simp [chkE]))
  | .slice a lo hi => and3 (d_slice (snd a).1 (sndO lo) (sndO hi)) (sw_no (by intros; simp [chkE]))
  | .fld a f => and3 (d_fld (snd a).1) (sw_no (by intros; simp [chkE]))
  | .call f es => and3 (d_call (sndEs es)) (sw_no (by intros; simp [chkE]))
  | .new f es => and3 (d_new (sndEs es)) (sw_no (by intros; simp [chkE]))
  | .blt b es => and3 (d_blt (sndEs es)) (sw_no (by intros; simp [chkE]))
  | .bltc b cm => and3 (d_bltc (sndC cm)) (sw_no (by intros; simp [chkE]))
  | .isi a t => and3 (d_isi (snd a).1) (sw_no (by intros; simp [chkE]))
  | .meth a m es => and3 (d_meth (snd a).1 (sndEs es)) (sw_no (by intros; simp [chkE]))
  | .umeth a m es => and3 (d_umeth (snd a).1 (sndEs es)) (sw_no (by intros; simp [chkE]))
  | .comp cm => and3 (d_comp (sndC cm)) (sw_no (by intros; simp [chkE, chkC]))
  | .lzip _ _ => ⟨fun X c G T k sc W E pe O tk h => by simp [chkE] at h, fun X c G T k sc W E pe O tk h => by simp [chkE] at h, sw_no (by intros; simp [chkE])⟩
  | .lrng _ => ⟨fun X c G T k sc W E pe O tk h => by simp [chkE] at h, fun X c G T k sc W E pe O tk h => by simp [chkE] at h, sw_no (by intros; simp [chkE])⟩
  | .trng _ => ⟨fun X c G T k sc W E pe O tk h => by simp [chkE] at h, fun X c G T k sc W E pe O tk h => by simp [chkE] at h, sw_no (by intros; simp [chkE])⟩
  | .drop a => d_drop (snd a)
theorem sndEs : (x : Exs) → SndEs x
  | .nil => d_nil
  | .cons a r => d_cons (snd a).1 (sndEs r)
theorem sndO : (x : Oe) → SndO x
  | .none => d_onone
  | .some a => d_osome (snd a).1
theorem sndI : (x : Itr) → SndI x
  | .val a => d_ival (snd a).1
  | .rng es => d_irng (sndEs es)
  | .enum a => d_ienum (snd a).1
  | .zip a b => d_izip (snd a).1 (snd b).1
theorem sndC : (x : Cmp) → SndC x
  | .mk tg own elt it cond => d_mk (snd elt).1 (sndI it) (sndF cond)
theorem sndF : (x : Oe) → SndF x
  | .none => d_fnone
  | .some a => d_fsome (snd a).2.1
end
end DL

set_option Elab.async false
set_option linter.all false
set_option maxRecDepth 100000
set_option maxHeartbeats 8000000
/-! Own layer, part 15: statements. -/
namespace DL
open PySem PySem.Spec PyProof.Rows L2

/-- a list comprehension -/
def isLC : Expr → Bool
  | .ListComp .. => true
  | .SetComp .. => true
  | .DictComp .. => true
  | _ => false
def isTp : Expr → Bool
  | .Tuple .. => true
  | _ => false
/-- name = [..] on one line, the name a local -/
def swapC (sc : Scope) (x : Str) (p : Pos) : Expr → Bool
  | .ListComp _ _ scope pos => (match sc.names.lookup x with
      | some .local => true
      | _ => false) && (p.line == pos.line) && !(scope.names.any fun y => y.1 == x && (y.2 == .local || y.2 == .cell))
  | _ => false
/-- isinstance(e, C), e the name at slot n; 99: ValueError -/
def isC (T : Tab) (sc : Scope) (n y : Nat) : Expr → Bool
  | .Call (.Name f _) [.Name m _, .Name z _] [] _ => callC sc "isinstance" f && decide (T.N[n]? = some m) && visC sc m && nameC m && (if y = 99 then callC sc "ValueError" z else decide (T.exs.lookup z = some y) && gloC sc z && nameC z)
  | _ => false
def atomC (T : Tab) (sc : Scope) (n : Nat) : Nat × Bool → Expr → Bool
  | (y, true), e => isC T sc n y e
  | (y, false), .UnaryOp .Not e _ => isC T sc n y e
  | _, _ => false
def atomsC (T : Tab) (sc : Scope) (n : Nat) : List (Nat × Bool) → List Expr → Bool
  | [p], [e] => atomC T sc n p e
  | p :: q :: r, e :: es => atomC T sc n p e && atomsC T sc n (q :: r) es
  | _, _ => false
def chkH (T : Tab) (sc : Scope) : Hd → Option Nat → List Stmt → Bool
  | .conj cs, some n, [.Return (some (.BoolOp .And es _)) _] => atomsC T sc n cs es
  | .conj [p], some n, [.Return (some e) _] => atomC T sc n p e
  | .bl b, _, [.Return (some (.Constant (.bool d) _ _)) _] => decide (b = d)
  | .non, _, [.Return (some (.Constant .none _ _)) _] => true
  | .str b, _, [.Return (some (.Constant (.str d) _ _)) _] => decide (b = d)
  | _, _, _ => false
mutual
def chkS (T : Tab) (sc : Scope) : Sm → Stmt → Bool
  | .asg i e, .Assign [.Name x p] pe _ => decide (T.N[i]? = some x) && locC sc x && (if swapC sc x p pe then (match e with
      | .comp c => chkC T sc c pe
      | _ => false) else !isLC pe || !(match sc.names.lookup x with
      | some .local => true
      | _ => false)) && chkE T sc e pe
  | .asgs is e, .Assign [.Tuple es _ _] pe _ => tgC T sc is es && chkE T sc e pe && !isTp pe
  | .setI a i e, .Assign [.Subscript pa pi _] pe _ => chkE T sc a pa && chkE T sc i pi && chkE T sc e pe && plainX pi
  | .setF a f e, .Assign [.Attribute pa g _] pe _ => decide (f = g) && chkE T sc a pa && chkE T sc e pe
  | .expr e, .Expr pe _ => chkE T sc e pe && !isLC pe
  | .ret e, .Return (some pe) _ => chkE T sc e pe
  | .ret0, .Return none _ => true
  | .pass, .Pass _ => true
  | .pass, .Expr (.Constant (.str _) _ _) _ => true
  | .ite c a b, .If pc pa pb _ => chkE T sc c pc && chkSs T sc a pa && chkSs T sc b pb
  | .while c b, .While pc pb [] _ => chkE T sc c pc && chkSs T sc b pb
  | .for tg it b, .For ptg pit pb [] _ => tgtC T sc tg ptg && chkI T sc it ptg pit && plainX pit && chkSs T sc b pb
  | .try1 b c n h, .Try pb [.ExceptHandler (some (.Name x _)) m suite _] [] [] _ => decide (T.exs.lookup x = some c) && gloC sc x && nameC x && chkSs T sc b pb && chkH T sc h n suite && (match n, m with
      | some i, some y => decide (T.N[i]? = some y) && decide (sc.names.lookup y = some .local)
      | none, none => true
      | _, _ => false)
  | .raise c _, .Raise (some (.Call (.Name x _) [.Constant (.str _) _ _] [] _)) none _ => decide (T.exs.lookup x = some c) && gloC sc x && nameC x
  | _, _ => false
def chkSs (T : Tab) (sc : Scope) : Sms → List Stmt → Bool
  | .nil, [] => true
  | .cons s r, p :: ps => chkS T sc s p && chkSs T sc r ps
  | _, _ => false
end

/-- what a def's body stands in -/
structure SOk (X : Cx) (c : LC) (G : Cfg) (T : Tab) (k : Nat) (sc : Scope) (W : WX) : Prop where
  x : XOk X c G T k sc
  tk : Takes X W
  own : PassesOwn (model X.prog X.w) X.A X.env X.xe
  fn : ∀ y, X.fn y = true
  kind : X.env.scope.kind = .function
  own0 : X.stack = X.env :: X.outer ∧ X.env.frame = some X.env.locals
def XWA (L : Lay) (W : WX) (E : Nat → Sto → Prop) (H : Hp) (S : Sto) : Prop := ∀ x S' H' σ, Stp L H S H' S' → E x S' → RS L H' S' → W (.ref (L.ex x)) none σ H'
theorem XWA.step {L : Lay} {W : WX} {E : Nat → Sto → Prop} {H H' : Hp} {S S' : Sto} (h : XWA L W E H S) (st : Stp L H S H' S') : XWA L W E H' S' := fun x S2 H2 σ st2 e r => h x S2 H2 σ (st.trans st2) e r
theorem XWA.at {L : Lay} {W : WX} {E : Nat → Sto → Prop} {H : Hp} {S : Sto} (h : XWA L W E H S) (σ : L2.St) : XW L W E σ H S := fun x S2 H2 st2 e r => h x S2 H2 σ st2 e r
/-- what is wanted behind a statement -/
def NxA (L : Lay) (H : Hp) (S : Sto) (nx : Env → Sto → Prop) (Q : L2.St → Hp → Prop) : Prop := ∀ e' S' σ' H', Stp L H S H' S' → nx e' S' → RE L.K H' e' σ' → RS L H' S' → Q σ' H'
theorem NxA.step {L : Lay} {H H' : Hp} {S S' : Sto} {nx : Env → Sto → Prop} {Q : L2.St → Hp → Prop} (h : NxA L H S nx Q) (st : Stp L H S H' S') : NxA L H' S' nx Q := fun e2 S2 σ2 H2 st2 n re rs => h e2 S2 σ2 H2 (st.trans st2) n re rs
def tS (L : Lay) (W : WX) (E : Nat → Sto → Prop) (f : KV → (Env → Sto → Prop) → Env → Sto → Prop) : TS := fun D σ H => ∃ e S rt nx, RE L.K H e σ ∧ RS L H S ∧ f rt nx e S ∧ NxA L H S nx D.nx ∧ Cont L H S rt D.rt ∧ XWA L W E H S
theorem PS.imp {X : Cx} {st : Stmt} {t t' : TS} (h : PS X st t) (hh : ∀ D σ H, t' D σ H → t D σ H) : PS X st t' := ⟨fun pins s σ H D I q => h.run pins s σ H D I (hh _ _ _ q)⟩
theorem PSs.imp {X : Cx} {st : List Stmt} {t t' : TS} (h : PSs X st t) (hh : ∀ D σ H, t' D σ H → t D σ H) : PSs X st t' := ⟨fun pins s σ H D I q => h.run pins s σ H D I (hh _ _ _ q)⟩

abbrev SndS (x : Sm) : Prop := ∀ (X : Cx) (c : LC) (G : Cfg) (T : Tab) (k : Nat) (sc : Scope) (W : WX) (E : Nat → Sto → Prop) (p : Stmt), SOk X c G T k sc W → chkS T sc x p = true → PS X p (tS (lay X c) W E (fun rt nx e S => wS G E rt x nx e S))
abbrev SndSs (x : Sms) : Prop := ∀ (X : Cx) (c : LC) (G : Cfg) (T : Tab) (k : Nat) (sc : Scope) (W : WX) (E : Nat → Sto → Prop) (p : List Stmt), SOk X c G T k sc W → chkSs T sc x p = true → PSs X p (tS (lay X c) W E (fun rt nx e S => wSs G E rt x nx e S))

theorem sw_plain {pe : Expr} (h : isLC pe = false) (t : Option Expr) (l : Nat) (env : PySem.Env) : swapsWith pe t l env = pure false := by
  cases pe <;> first | rfl | cases h
theorem sw_far {pe t : Expr} (ht : ∀ x p, t ≠ .Name x p) (l : Nat) (env : PySem.Env) : swapsWith pe (some t) l env = pure false := by
  cases t with
  | Name x p => exact absurd rfl (ht _ _)
  | _ => cases pe <;> exact rfl
theorem sw_off {x : Str} {p : Pos} {pe : Expr} (l : Nat) {env : PySem.Env} (h : isLC pe = false ∨ env.scope.names.lookup x ≠ some .local) : swapsWith pe (some (.Name x p)) l env = pure false := by
  rcases h with h | h
  · exact sw_plain h _ _ _
  · have hk : (env.kindOf x == some .local) = false := by
      have : env.kindOf x ≠ some .local := h
      simpa using this
    cases pe <;> first
      | rfl
      | (unfold swapsWith; simp only [hk, Bool.and_false, Bool.false_and] <;> rfl)

/-! ### each -/
section
variable {X : Cx} {c : LC} {W : WX} {E : Nat → Sto → Prop} {G : Cfg} {T : Tab} {k : Nat} {sc : Scope}
theorem tS_in {L : Lay} {W : WX} {E : Nat → Sto → Prop} {f : Env → Sto → KV → Prop} {e : Env} {S : Sto} {Qd : KV} {σ : L2.St} {H : Hp} {Q : VK} (re : RE L.K H e σ) (rs : RS L H S) (h : f e S Qd) (k : Cont L H S Qd Q) (x : XWA L W E H S) : tE L W E f σ H Q :=
  ⟨e, S, Qd, re, rs, h, k, x.at σ⟩
theorem loc_def (O : SOk X c G T k sc W) {x : Str} (h : locC sc x = true) : Loc X.env.scope x := by
  rw [O.x.sc]
  exact loc_of h
theorem s_asg {i : Nat} {e : Ex} : SndS (.asg i e) := by
  intro X c G T k sc W E p O h
  unfold chkS at h; split at h <;> first | contradiction | skip
  rename_i i' e' x px pe pos heq
  cases heq
  simp only [Bool.and_eq_true, decide_eq_true_eq] at h
  obtain ⟨⟨⟨h1, h2⟩, h3⟩, h4⟩ := h
  have hN : X.N.Nodup := by rw [O.x.N]; exact O.x.nm.nd
  have hi : X.N[i]? = some x := by rw [O.x.N]; exact h1
  by_cases sw : swapC sc x px pe = true
  · rw [if_pos sw] at h3
    cases e with
    | comp cm =>
      simp only at h3
      unfold chkC at h3; split at h3 <;> first | contradiction | skip
      rename_i tg own elt it cond pelt ptg pit ifs scope pos2
      simp only [Bool.and_eq_true, List.all_eq_true, decide_eq_true_eq] at h3
      obtain ⟨⟨⟨⟨⟨⟨h1', h2'⟩, h3'⟩, h4'⟩, h5'⟩, h6'⟩, h7'⟩ := h3
      unfold swapC at sw
      simp only [Bool.and_eq_true, Bool.not_eq_true'] at sw
      obtain ⟨⟨sw1, sw2⟩, sw3⟩ := sw
      have hl : X.env.scope.names.lookup x = some .local := by
        rw [O.x.sc]
        split at sw1
        · assumption
        · cases sw1
      refine PS.imp (ps_setLc (wi := tI (lay X c) W E (wI G E it)) (g := gT X.K tg) (tt := tF (lay X c) (wIf G cond)) (te := tE (lay X c) noW noE (wE G noE elt)) (own := own.map fun i => (T.N.getD i "", i)) O.x.calm hN hi hl (sw_true O.kind hl sw2 sw3) ((sndI it) X c G T k sc W E ptg pit O.x O.tk h4') (blkOk_by (own := own.map fun i => (T.N.getD i "", i)) (by rw [O.x.N, O.x.sc]; exact h1'))
        (fun s H C cl fp => g_ok (X := X.blk s H scope (compEnvC scope cl C X.env) fp) (T := T) (sc := scope) hN O.x.N O.x.calm blk_loc h2')
        (fun s H C cl fp => (sndF cond) _ c G T k _ ifs (O.x.blk s H scope C cl fp) no_takes h7') (fun s H C cl fp => (snd elt).1 _ c G T k _ noW noE pelt (O.x.blk s H scope C cl fp) no_takes h6') (fun x => plain_fold h5' X.env x)) fun D σ H hh => ?_
      obtain ⟨e, S, rt, nx, re, rs, hf, hn, hr, xw⟩ := hh
      simp only [wS, wE, wC] at hf
      refine ⟨e, S, _, re, rs, hf, fun xs grd S1 H1 J st q hs1 wv D' nD => ?_, xw.at σ⟩
      rw [own_snd]
      have nD0 : H D' = none := by
        cases e0 : H D' with
        | none => rfl
        | some o => exact absurd nD (st.more D' (by rw [e0]; exact fun z => by cases z))
      refine q_turns (Q := fun x H1 => gName i x σ H1 D.nx) wv nD hs1 (re.mono st.tp) h3' q fun us vs S' H' st' kv rs' hD hr' sD hl' => ?_
      have st2 := st.trans st'
      refine hn (e.set i (some (.ref D'))) (up S' D' (.lst vs)) _ H' ⟨st2.tp, st2.more, fun a ha => ?_, st2.frm⟩ (kv D' sD) ((re.mono st2.tp).set i rfl) (fun a o q => ?_)
      · by_cases z : a = D'
        · subst z
          exact .inr nD0
        · exact st2.dom a (by rw [up_ne z] at ha; exact ha)
      · by_cases z : a = D'
        · subst z
          rw [up_same] at q
          cases q
          exact ⟨us, hD, hr'⟩
        · rw [up_ne z] at q
          exact rs' a o q
    | _ => cases h3
  · rw [if_neg sw] at h3
    have hs : isLC pe = false ∨ X.env.scope.names.lookup x ≠ some .local := by
      rw [O.x.sc]
      rw [Bool.or_eq_true, Bool.not_eq_true', Bool.not_eq_true'] at h3
      rcases h3 with z | z
      · exact .inl z
      · refine .inr fun w => ?_
        rw [w] at z
        cases z
    refine PS.imp (ps_set hN hi (loc_def O h2) ((snd e).1 X c G T k sc W E pe O.x O.tk h4) (sw_off _ hs) (.inl (O.fn x))) fun D σ H hh => ?_
    obtain ⟨e', S, rt, nx, re, rs, hf, hn, hr, xw⟩ := hh
    simp only [wS] at hf
    refine ⟨e', S, _, re, rs, hf, fun v S1 u H1 st q hs1 rv => ?_, xw.at σ⟩
    exact hn _ S1 _ H1 st q ((re.mono st.tp).set i rv) hs1

theorem s_asgs {is : List Nat} {e : Ex} : SndS (.asgs is e) := by
  intro X c G T k sc W E p O h
  unfold chkS at h; split at h <;> first | contradiction | skip
  rename_i is' e' es z1 z2 pe pos heq
  cases heq
  simp only [Bool.and_eq_true, Bool.not_eq_true'] at h
  obtain ⟨⟨h1, h2⟩, h3⟩ := h
  have hN : X.N.Nodup := by rw [O.x.N]; exact O.x.nm.nd
  have hg := g_ok (X := X) (T := T) (sc := sc) (tg := .many is) (e := .Tuple es z1 z2) hN O.x.N O.x.calm (fun x hx => ⟨loc_def O hx, .inl (O.fn x)⟩) h1
  refine PS.imp (ps_asg ((snd e).1 X c G T k sc W E pe O.x O.tk h2) hg (show swapsWith pe (some (.Tuple es z1 z2)) pos.line X.env = pure false from sw_far (fun x p w => by cases w) _ _) (by cases pe <;> first | exact rfl | cases h3)) fun D σ H hh => ?_
  obtain ⟨e', S, rt, nx, re, rs, hf, hn, hr, xw⟩ := hh
  simp only [wS] at hf
  refine ⟨e', S, _, re, rs, hf, fun v S1 u H1 st q hs1 rv => ?_, xw.at σ⟩
  obtain ⟨e2, eb, q⟩ := withO_some q
  exact gT_ok eb rv (re.mono st.tp) fun σ' re' _ => hn e2 S1 σ' H1 st q re' hs1
theorem s_setI {a i e : Ex} : SndS (.setI a i e) := by
  intro X c G T k sc W E p O h
  unfold chkS at h; split at h <;> first | contradiction | skip
  rename_i a' i' e' pa pi z pe pos heq
  cases heq
  simp only [Bool.and_eq_true] at h
  obtain ⟨⟨⟨h1, h2⟩, h3⟩, h4⟩ := h
  have hg : PG X (.Subscript pa pi z) _ := pg_sub ((snd a).1 X c G T k sc W E pa O.x O.tk h1) ((snd i).1 X c G T k sc W E pi O.x O.tk h2) (p_set (c := c) (un120 O.x.room)) (by intro v; cases pi <;> first | exact rfl | cases h4)
  refine PS.imp (ps_asg ((snd e).1 X c G T k sc W E pe O.x O.tk h3) hg (show swapsWith pe (some (.Subscript pa pi z)) pos.line X.env = pure false from sw_far (fun x p w => by cases w) _ _) (by cases pe <;> exact rfl)) fun D σ H hh => ?_
  obtain ⟨e', S, rt, nx, re, rs, hf, hn, hr, xw⟩ := hh
  simp only [wS] at hf
  refine ⟨e', S, _, re, rs, hf, fun v S1 u H1 st q hs1 rv => ?_, xw.at σ⟩
  refine ⟨e', S1, _, re.mono st.tp, hs1, q, fun v2 S2 u2 H2 st2 q2 hs2 rv2 => ?_, (xw.step st).at σ⟩
  refine ⟨e', S2, _, (re.mono st.tp).mono st2.tp, hs2, q2, fun v3 S3 u3 H3 st3 q3 hs3 rv3 => ?_, ((xw.step st).step st2).at σ⟩
  have st13 := (st.trans st2).trans st3
  exact ⟨v2, v3, v, S3, _, RV.mono st3.tp _ _ rv2, rv3, RV.mono (st2.trans st3).tp _ _ rv, hs3, q3, fun S4 H4 st4 q4 hs4 => hn e' S4 σ H4 (st13.trans st4) q4 (re.mono (st13.trans st4).tp) hs4⟩
theorem paired_put {K : PySem.W.Frag} {C : Addr} {H : Hp} {f : Str} {v : Val} {u : V} (na : NoAttr K C f) (r : RV K H v u) : ∀ {fs : List (Str × Val)} {gs : List (Str × V)},
    Paired (fun (p : Str × Val) (q : Str × V) => p.1 = q.1 ∧ NoAttr K C p.1 ∧ RV K H p.2 q.2) fs gs → Paired (fun (p : Str × Val) (q : Str × V) => p.1 = q.1 ∧ NoAttr K C p.1 ∧ RV K H p.2 q.2) (fput f v fs) (putF f u gs) := by
  intro fs gs h
  induction h with
  | nil => exact .cons ⟨rfl, na, r⟩ .nil
  | @cons p q ps qs hq t ih =>
    obtain ⟨p1, p2⟩ := p
    obtain ⟨q1, q2⟩ := q
    obtain ⟨z1, z2, z3⟩ := hq
    have z1' : p1 = q1 := z1
    subst z1'
    unfold fput putF
    by_cases w : p1 = f
    · subst w
      rw [if_pos rfl, if_pos rfl]
      exact .cons ⟨rfl, na, r⟩ t
    · rw [if_neg w, if_neg w]
      exact .cons ⟨rfl, z2, z3⟩ ih
theorem paired_len {A B : Type} {R : A → B → Prop} {xs : List A} {ys : List B} (h : Paired R xs ys) : xs.length = ys.length := by
  induction h with
  | nil => rfl
  | cons _ _ ih => simp [ih]
theorem s_setF {a : Ex} {f : Str} {e : Ex} : SndS (.setF a f e) := by
  intro X c G T k sc W E p O h
  unfold chkS at h; split at h <;> first | contradiction | skip
  rename_i a' f' e' pa g z pe pos heq
  cases heq
  simp only [Bool.and_eq_true, decide_eq_true_eq] at h
  obtain ⟨⟨rfl, h2⟩, h3⟩ := h
  refine PS.imp (ps_fld ((snd a).1 X c G T k sc W E pa O.x O.tk h2) ((snd e).1 X c G T k sc W E pe O.x O.tk h3) (sw_far (fun x p w => by cases w) _ _)) fun D σ H hh => ?_
  obtain ⟨e', S, rt, nx, re, rs, hf, hn, hr, xw⟩ := hh
  simp only [wS] at hf
  refine ⟨e', S, _, re, rs, hf, fun v S1 u H1 st q hs1 rv => ?_, xw.at σ⟩
  refine ⟨e', S1, _, re.mono st.tp, hs1, q, fun v2 S2 u2 H2 st2 q2 hs2 rv2 => ?_, (xw.step st).at σ⟩
  cases v2 with
  | ref p =>
    have eu : u2 = .ref p := rv2
    subst eu
    cases e1 : S2 p with
    | none => simp only [e1] at q2
    | some o =>
      cases o with
      | ins ci fs =>
        simp only [e1] at q2
        obtain ⟨g1, g2, q2⟩ := q2
        obtain ⟨dx, gs, h1, hc, hp⟩ := hs2 p _ e1
        obtain ⟨cl, na⟩ := O.x.nm.fls _ _ g1
        have hl := paired_len hp
        have rv' := RV.mono st2.tp _ _ rv
        refine ⟨p, c.ca ci, dx, gs, rfl, h1, hc, na, by omega, ?_⟩
        have t : Tp X.K H2 (upd H2 p (.ins (c.ca ci) dx (putF f u gs))) := Tp.write h1 (fun _ e => by cases e) (fun _ _ e => by cases e)
        have st3 : Stp (lay X c) H2 S2 (upd H2 p (.ins (c.ca ci) dx (putF f u gs))) (up S2 p (.ins ci (fput f v fs))) := Stp.write h1 (fun _ e => by cases e) (fun _ _ e => by cases e) e1
        have st13 := (st.trans st2).trans st3
        refine hn e' _ σ _ st13 q2 (re.mono st13.tp) (RS.upd hs2 t ⟨dx, _, upd_same, hc, ?_⟩)
        have pp := paired_put (K := X.K) (C := c.ca ci) na rv' hp
        exact Paired.imp pp fun p q ⟨z1, z2, z3⟩ => ⟨z1, z2, RV.mono t _ _ z3⟩
      | lst xs => simp only [e1] at q2
      | dct kvs t => simp only [e1] at q2
  | _ => exact q2.elim
theorem s_expr {e : Ex} : SndS (.expr e) := by
  intro X c G T k sc W E p O h
  unfold chkS at h; split at h <;> first | contradiction | skip
  rename_i e' pe pos heq
  cases heq
  simp only [Bool.and_eq_true, Bool.not_eq_true'] at h
  refine PS.imp (ps_expr ((snd e).1 X c G T k sc W E pe O.x O.tk h.1) (sw_plain h.2 _ _ _)) fun D σ H hh => ?_
  obtain ⟨e', S, rt, nx, re, rs, hf, hn, hr, xw⟩ := hh
  simp only [wS] at hf
  exact ⟨e', S, _, re, rs, hf, fun v S1 u H1 st q hs1 rv => hn e' S1 σ H1 st q (re.mono st.tp) hs1, xw.at σ⟩
theorem s_ret {e : Ex} : SndS (.ret e) := by
  intro X c G T k sc W E p O h
  unfold chkS at h; split at h <;> first | contradiction | skip
  rename_i e' pe pos heq
  cases heq
  refine PS.imp (ps_ret ((snd e).1 X c G T k sc W E pe O.x O.tk h)) fun D σ H hh => ?_
  obtain ⟨e', S, rt, nx, re, rs, hf, hn, hr, xw⟩ := hh
  simp only [wS] at hf
  exact ⟨e', S, _, re, rs, hf, hr, xw.at σ⟩
theorem s_ret0 : SndS .ret0 := by
  intro X c G T k sc W E p O h
  unfold chkS at h; split at h <;> first | contradiction | skip
  refine PS.imp ps_retN fun D σ H hh => ?_
  obtain ⟨e', S, rt, nx, re, rs, hf, hn, hr, xw⟩ := hh
  simp only [wS] at hf
  exact hr.here (v := .non) hf rs rfl
theorem s_pass : SndS .pass := by
  intro X c G T k sc W E p O h
  unfold chkS at h; split at h <;> first | contradiction | skip
  all_goals
    refine PS.imp (by first | exact ps_pass | exact ps_doc) fun D σ H hh => ?_
    obtain ⟨e', S, rt, nx, re, rs, hf, hn, hr, xw⟩ := hh
    simp only [wS] at hf
    exact hn e' S σ H .refl hf re rs
theorem s_ite {e : Ex} {a b : Sms} (ha : SndSs a) (hb : SndSs b) : SndS (.ite e a b) := by
  intro X c G T k sc W E p O h
  unfold chkS at h; split at h <;> first | contradiction | skip
  rename_i e' a' b' pc pa pb pos heq
  cases heq
  simp only [Bool.and_eq_true] at h
  refine PS.imp (ps_if ((snd e).2.1 X c G T k sc W E pc O.x O.tk h.1.1) (ha X c G T k sc W E pa O h.1.2) (hb X c G T k sc W E pb O h.2)) fun D σ H hh => ?_
  obtain ⟨e', S, rt, nx, re, rs, hf, hn, hr, xw⟩ := hh
  simp only [wS] at hf
  refine ⟨e', S, _, re, rs, hf, fun v S1 u H1 st q hs1 rv => ?_, xw.at σ⟩
  obtain ⟨d, rfl, q1, q2⟩ := withB_some q
  cases rv
  refine ⟨d, rfl, ?_⟩
  cases d with
  | true => exact iteT ⟨e', S1, rt, nx, re.mono st.tp, hs1, q1 rfl, hn.step st, hr.step st, xw.step st⟩
  | false => exact iteF ⟨e', S1, rt, nx, re.mono st.tp, hs1, q2 rfl, hn.step st, hr.step st, xw.step st⟩
theorem s_while {e : Ex} {b : Sms} (hb : SndSs b) : SndS (.while e b) := by
  intro X c G T k sc W E p O h
  unfold chkS at h; split at h <;> first | contradiction | skip
  rename_i e' b' pc pb pos heq
  cases heq
  simp only [Bool.and_eq_true] at h
  refine PS.imp (ps_while O.own ((snd e).2.1 X c G T k sc W E pc O.x O.tk h.1) (hb X c G T k sc W E pb O h.2)) fun D σ H hh => ?_
  obtain ⟨e', S, rt, nx, re, rs, hf, hn, hr, xw⟩ := hh
  simp only [wS] at hf
  obtain ⟨V, ⟨m0, v0⟩, turn⟩ := hf
  refine ⟨fun m σ' H' => ∃ e' S', Stp (lay X c) H S H' S' ∧ RE X.K H' e' σ' ∧ RS (lay X c) H' S' ∧ V m e' S', ⟨m0, e', S, .refl, re, rs, v0⟩, ?_⟩
  rintro m σ1 H1 ⟨e1, S1, st, re1, rs1, v1⟩
  refine ⟨e1, S1, _, re1, rs1, turn m e1 S1 v1, fun v S2 u H2 st2 q rs2 rv => ?_, (xw.step st).at σ1⟩
  obtain ⟨d, rfl, q1, q2⟩ := withB_some q
  cases rv
  refine ⟨d, rfl, ?_⟩
  have st12 := st.trans st2
  cases d with
  | true =>
    refine iteT ⟨fun σ' H' => ∃ m', m' < m ∧ ∃ e' S', Stp (lay X c) H S H' S' ∧ RE X.K H' e' σ' ∧ RS (lay X c) H' S' ∧ V m' e' S', fun σ' H' z => z, ?_⟩
    refine ⟨e1, S2, rt, _, re1.mono st2.tp, rs2, q1 rfl, fun e3 S3 σ3 H3 st3 q3 re3 rs3 => ?_, hr.step st12, xw.step st12⟩
    obtain ⟨m', hm, v3⟩ := q3
    exact ⟨m', hm, e3, S3, st12.trans st3, re3, rs3, v3⟩
  | false => exact iteF (hn.step st12 e1 S2 σ1 H2 .refl (q2 rfl) (re1.mono st2.tp) rs2)
theorem s_for {tg : Tg} {it : Itr} {b : Sms} (hb : SndSs b) : SndS (.for tg it b) := by
  intro X c G T k sc W E p O h
  unfold chkS at h; split at h <;> first | contradiction | skip
  rename_i tg' it' b' ptg pit pb pos heq
  cases heq
  simp only [Bool.and_eq_true] at h
  obtain ⟨⟨⟨h1, h2⟩, h3⟩, h4⟩ := h
  have hN : X.N.Nodup := by rw [O.x.N]; exact O.x.nm.nd
  have hg := g_ok (X := X) (T := T) (sc := sc) hN O.x.N O.x.calm (fun x hx => ⟨loc_def O hx, .inl (O.fn x)⟩) h1
  refine PS.imp (ps_for O.own O.x.calm ((sndI it) X c G T k sc W E ptg pit O.x O.tk h2) hg (hb X c G T k sc W E pb O h4) (fun x => plain_fold h3 X.env x)) fun D σ H hh => ?_
  obtain ⟨e', S, rt, nx, re, rs, hf, hn, hr, xw⟩ := hh
  simp only [wS] at hf
  refine ⟨e', S, _, re, rs, hf, fun xs grd S1 H1 J st q rs1 wv => ?_, xw.at σ⟩
  refine ⟨fun i m σ' H' => ∃ e' S', m = xs.length - i ∧ i ≤ xs.length ∧ Stp (lay X c) H1 S1 H' S' ∧ RE X.K H' e' σ' ∧ RS (lay X c) H' S' ∧ wFor tg (fun k e' S' => wSs G E rt b k e' S') grd nx (xs.drop i) e' S', ⟨xs.length, e', S1, by simp, Nat.zero_le _, .refl, re.mono st.tp, rs1, by simpa using q⟩, ?_⟩
  rintro i m σ2 H2 ⟨e2, S2, rfl, hi, st2, re2, rs2, hw⟩
  by_cases hlt : i < xs.length
  · have ed : xs.drop i = xs[i] :: xs.drop (i + 1) := List.drop_eq_getElem_cons hlt
    rw [ed] at hw
    obtain ⟨g, hw⟩ := hw
    obtain ⟨e3, eb, hw⟩ := withO_some hw
    refine .inr ⟨wv.go i H2 S2 hlt st2.tp rs2 g, fun σ' H' => ∃ e' S', Stp (lay X c) H1 S1 H' S' ∧ RE X.K H' e' σ' ∧ RS (lay X c) H' S' ∧ wFor tg (fun k e' S' => wSs G E rt b k e' S') grd nx (xs.drop (i + 1)) e' S', ?_, fun x H3 y => ?_⟩
    · rintro σ' H' ⟨e4, S4, a1, a2, a3, a4⟩
      exact ⟨xs.length - (i + 1), by omega, e4, S4, rfl, hlt, a1, a2, a3, a4⟩
    · obtain ⟨v, e1, rv, st', rs', kp⟩ := wv.yld i H2 S2 x H3 hlt st2.tp rs2 g y
      have ev : v = xs[i] := by
        rw [List.getElem?_eq_getElem hlt] at e1
        exact (Option.some.inj e1).symm
      subst ev
      have st3 := st2.trans st'
      refine gT_ok eb rv (re2.mono st'.tp) fun σ3 re3 _ => ?_
      have st03 := st.trans st3
      exact ⟨e3, S2, rt, _, re3, rs', hw, fun e4 S4 σ4 H4 st4 q4 re4 rs4 => ⟨e4, S4, st3.trans st4, re4, rs4, q4⟩, hr.step st03, xw.step st03⟩
  · have e : i = xs.length := by omega
    subst e
    rw [List.drop_length] at hw
    exact .inl ⟨wv.stop H2 S2 st2.tp rs2 hw.1, hn e2 S2 σ2 H2 (st.trans st2) hw.2 re2 rs2⟩
theorem s_raise {ci : Nat} {x : Str} : SndS (.raise ci x) := by
  intro X c G T k sc W E p O h
  unfold chkS at h; split at h <;> first | contradiction | skip
  rename_i heq
  cases heq
  simp only [Bool.and_eq_true, decide_eq_true_eq] at h
  obtain ⟨⟨h1, h2⟩, h3⟩ := h
  obtain ⟨bmB, B, newId, initId, F, q, gC, kC, bF, tF⟩ := (O.x.nm.exs _ _ h1).ex
  refine PS.imp (ps_raise O.x.calm O.tk (pmk_own F q gC kC (raises_own bF tF) (gl_of O.x (glo_of h2)) (name_of h3).1)) fun D σ H hh => ?_
  obtain ⟨e', S, rt, nx, re, rs, hf, hn, hr, xw⟩ := hh
  simp only [wS] at hf
  exact xw ci S H σ .refl hf rs
theorem s_nil : SndSs .nil := by
  intro X c G T k sc W E p O h
  cases p with
  | nil =>
    refine PSs.imp pss_nil fun D σ H hh => ?_
    obtain ⟨e', S, rt, nx, re, rs, hf, hn, hr, xw⟩ := hh
    simp only [wSs] at hf
    exact hn e' S σ H .refl hf re rs
  | cons _ _ => simp [chkSs] at h
theorem s_cons {s : Sm} {r : Sms} (hs : SndS s) (hr' : SndSs r) : SndSs (.cons s r) := by
  intro X c G T k sc W E p O h
  cases p with
  | nil => simp [chkSs] at h
  | cons p ps =>
    simp only [chkSs, Bool.and_eq_true] at h
    refine PSs.imp (pss_cons (hs X c G T k sc W E p O h.1) (hr' X c G T k sc W E ps O h.2)) fun D σ H hh => ?_
    obtain ⟨e', S, rt, nx, re, rs, hf, hn, hr, xw⟩ := hh
    simp only [wSs] at hf
    exact ⟨e', S, rt, _, re, rs, hf, fun e2 S2 σ2 H2 st q re2 rs2 => ⟨e2, S2, rt, nx, re2, rs2, q, hn.step st, hr.step st, xw.step st⟩, hr, xw⟩
/-! ### try -/
section
variable {X : Cx} {c : LC} {G : Cfg} {T : Tab} {k : Nat} {sc : Scope} {a : Addr} {oe : Obj} {pn : List (Addr × Obj)} {x : Nat}
def tHd (n : Nat) (a : Addr) (b : Bool) : TE := fun σ H Q => σ[n]? = some (some (V.ref a)) ∧ Q (.bl b) H
theorem p_is (O : XOk X c G T k sc) (hx : G.ek x = true) (hz : Zc (.ref (c.ex x)) none oe) (hf : ∃ vs, oe.data = .fields vs) {n y : Nat} {e : Expr} (h : isC T sc n y e = true) : PE (X.suite a ((a, oe) :: pn)) e (tHd n a (G.sub x y)) := by
  unfold isC at h
  split at h <;> first | contradiction | skip
  rename_i f pf m pm z pz pos
  simp only [Bool.and_eq_true, decide_eq_true_eq] at h
  obtain ⟨⟨⟨⟨h1, h2⟩, h3⟩, h4⟩, h5⟩ := h
  obtain ⟨rfl, g1, _⟩ := call_of h1
  obtain ⟨n1, n2, n3⟩ := name_of h4
  have hv : PE (X.suite a ((a, oe) :: pn)) (.Name m pm) (tVar n) := pe_var (by show X.N[n]? = _; rw [O.N]; exact h2) (by show Vis X.env.scope m; rw [O.sc]; exact vis_of h3) n1 n2
  have key : ∀ {v : V} {cv : Value}, PE (X.suite a ((a, oe) :: pn)) (.Name z pz) (L2.tC v) → (∀ u, RelV v u → u = cv) → PySem.W.kitOne X.K (.ref (c.ex x)) cv = some (G.sub x y) →
      PE (X.suite a ((a, oe) :: pn)) (.Call (.Name "isinstance" pf) [.Name m pm, .Name z pz] [] pos) (tHd n a (G.sub x y)) := by
    intro v cv hz2 hr hk
    refine PE.imp (pe_callB (call_isE (O.nm.exc x hx) hz hf) (gl_of O g1) (O.nm.blt _ (by simp)) (by decide +kernel) (pa_cons hv (pa_cons hz2 pa_nil rfl) rfl) (by decide) (by decide) rfl rfl) fun σ H Q hh => ?_
    obtain ⟨h6, h7⟩ := hh
    exact ⟨_, h6, v, cv, _, rfl, hr, hk, h7⟩
  by_cases hy : y = 99
  · rw [if_pos hy] at h5
    subst hy
    obtain ⟨rfl, g2, d2, d3⟩ := call_of h5
    exact key (v := .ty "ValueError") (cv := .type "ValueError") (pe_bltn (v := .ty "ValueError") (u := .type "ValueError") (gl_of O g2) O.nm.vale (by decide +kernel) rfl d3 d2) (fun u r => r) (O.nm.kitV x hx)
  · rw [if_neg hy] at h5
    simp only [Bool.and_eq_true, decide_eq_true_eq] at h5
    obtain ⟨⟨l, g2⟩, d2⟩ := h5
    obtain ⟨bmB, B, newId, initId, F, q, gC, kC, bF, tF⟩ := (O.nm.exs _ _ l).ex
    exact key (v := .ref (c.ex y)) (cv := .ref (c.ex y)) (pe_glob (v := .ref (c.ex y)) (gl_of O (glo_of g2)) gC rfl (name_of d2).1) (fun u r => r) (O.nm.kit x y hx (O.nm.exk _ _ l))
theorem p_atom (O : XOk X c G T k sc) (hx : G.ek x = true) (hz : Zc (.ref (c.ex x)) none oe) (hf : ∃ vs, oe.data = .fields vs) {n : Nat} {p : Nat × Bool} {e : Expr} (h : atomC T sc n p e = true) : PE (X.suite a ((a, oe) :: pn)) e (tHd n a (G.sub x p.1 == p.2)) := by
  unfold atomC at h
  split at h <;> first | contradiction | skip
  · refine PE.imp (p_is O hx hz hf h) fun σ H Q hh => ?_
    obtain ⟨h1, h2⟩ := hh
    exact ⟨h1, by simpa using h2⟩
  · refine PE.imp (pe_not (p_is O hx hz hf h)) fun σ H Q hh => ?_
    obtain ⟨h1, h2⟩ := hh
    exact ⟨h1, _, rfl, by simpa using h2⟩
theorem p_atoms (O : XOk X c G T k sc) (hx : G.ek x = true) (hz : Zc (.ref (c.ex x)) none oe) (hf : ∃ vs, oe.data = .fields vs) {n : Nat} {pos : Pos} : ∀ {cs : List (Nat × Bool)} {es : List Expr}, atomsC T sc n cs es = true →
    PE (X.suite a ((a, oe) :: pn)) (.BoolOp .And es pos) (tHd n a (cs.all fun p => G.sub x p.1 == p.2))
  | [], _, h => by simp [atomsC] at h
  | [p], [], h => by simp [atomsC] at h
  | [p], [e], h => by
    simp only [atomsC] at h
    simp only [List.all_cons, List.all_nil, Bool.and_true]
    exact pe_one (p_atom O hx hz hf h)
  | [p], _ :: _ :: _, h => by simp [atomsC] at h
  | p :: q :: r, [], h => by simp [atomsC] at h
  | p :: q :: r, [e], h => by
    simp only [atomsC, Bool.and_eq_true] at h
    cases r <;> simp [atomsC] at h
  | p :: q :: r, e :: e2 :: es, h => by
    simp only [atomsC, Bool.and_eq_true] at h
    refine PE.imp (pe_and (p_atom O hx hz hf h.1) (p_atoms (cs := q :: r) (es := e2 :: es) O hx hz hf h.2)) fun σ H Q hh => ?_
    obtain ⟨h1, h2⟩ := hh
    refine ⟨h1, _, rfl, ?_⟩
    rw [List.all_cons] at h2
    cases w : (G.sub x p.1 == p.2) with
    | true =>
      rw [w, Bool.true_and] at h2
      exact iteT ⟨h1, h2⟩
    | false =>
      rw [w, Bool.false_and] at h2
      exact iteF h2
/-- a clause's suite, as a reading -/
def tSu (c : LC) (G : Cfg) (h : Hd) (i : Option Nat) (a : Addr) (cls : Value) (d : Option Addr) : TS := fun D σ H => ∃ (x : Nat) (v : V), G.ek x = true ∧ cls = .ref (c.ex x) ∧ d = none ∧ (∀ n, i = some n → ∃ σ0 : L2.St, σ = σ0.set n (some (.ref a))) ∧
  (match h with
    | .conj cs => v = .bl (cs.all fun p => G.sub x p.1 == p.2)
    | .bl b => v = .bl b
    | .non => v = .non
    | .str z => v = .str z
    | _ => False) ∧ D.rt v H
theorem p_suite (O : XOk X c G T k sc) {cls : Value} {d : Option Addr} (hz : Zc cls d oe) (hf : ∃ vs, oe.data = .fields vs) {h : Hd} {i : Option Nat} {su : List Stmt} (hi : ∀ n, i = some n → n < X.N.length) (hc : chkH T sc h i su = true) : PSs (X.suite a ((a, oe) :: pn)) su (tSu c G h i a cls d) := by
  refine ⟨fun pins s σ H D I hh => ?_⟩
  obtain ⟨x, v, hx, rfl, rfl, hs, hv, q⟩ := hh
  have slot : ∀ n, i = some n → σ[n]? = some (some (V.ref a)) := fun n e => by
    obtain ⟨σ0, rfl⟩ := hs n e
    have := I.len
    rw [List.length_set] at this
    rw [List.getElem?_set_self (by rw [this]; exact hi n e)]
  unfold chkH at hc
  split at hc <;> first | contradiction | skip
  · subst hv
    exact (pss_one (ps_ret (p_atoms O hx hz hf hc))).run pins s σ H D I ⟨slot _ rfl, q⟩
  · subst hv
    refine (pss_one (ps_ret (p_atom O hx hz hf hc))).run pins s σ H D I ⟨slot _ rfl, ?_⟩
    simpa using q
  · subst hv
    cases of_decide_eq_true hc
    exact (pss_one (ps_ret pe_bl)).run pins s σ H D I q
  · subst hv
    exact (pss_one (ps_ret pe_non)).run pins s σ H D I q
  · subst hv
    cases of_decide_eq_true hc
    exact (pss_one (ps_ret pe_str)).run pins s σ H D I q
theorem su_in {L : Lay} {c : LC} {G : Cfg} {h : Hd} {rt : KV} {E : Nat → Sto → Prop} {x : Nat} {i : Option Nat} {a : Addr} {H : Hp} {S : Sto} {D : Ends} {σ : L2.St} {su : List Stmt} {T : Tab} {sc : Scope} (hc : chkH T sc h i su = true) (hk : G.ek x = true) (hw : wH G E rt h x S) (rs : RS L H S) (hr : Cont L H S rt D.rt)
    (hs : ∀ n, i = some n → ∃ σ0 : L2.St, σ = σ0.set n (some (.ref a))) : tSu c G h i a (.ref (c.ex x)) none D σ H := by
  cases h with
  | conj cs => exact ⟨x, _, hk, rfl, rfl, hs, rfl, hr.here (v := .bl _) hw rs rfl⟩
  | bl b => exact ⟨x, _, hk, rfl, rfl, hs, rfl, hr.here (v := .bl _) hw rs rfl⟩
  | non => exact ⟨x, _, hk, rfl, rfl, hs, rfl, hr.here (v := .non) hw rs rfl⟩
  | str z => exact ⟨x, _, hk, rfl, rfl, hs, rfl, hr.here (v := .str _) hw rs rfl⟩
  | text z cs => simp [chkH] at hc
  | raise y => simp [chkH] at hc
end
theorem s_try {b : Sms} {ci : Nat} {n : Option Nat} {h : Hd} (hb : SndSs b) : SndS (.try1 b ci n h) := by
  intro X c G T k sc W E p O hc
  unfold chkS at hc; split at hc <;> first | contradiction | skip
  rename_i b' c' n' h' pb x np m su pos' pos heq
  cases heq
  simp only [Bool.and_eq_true, decide_eq_true_eq] at hc
  obtain ⟨⟨⟨⟨⟨h1, h2⟩, h3⟩, h4⟩, h5⟩, h6⟩ := hc
  obtain ⟨bmB, B, newId, initId, F, q, gC, kC, bF, tF⟩ := (O.x.nm.exs _ _ h1).ex
  have hck := O.x.nm.exk _ _ h1
  have hN : X.N.Nodup := by rw [O.x.N]; exact O.x.nm.nd
  have hnm : Names X x (.ref (c.ex ci)) := ⟨gl_of O.x (glo_of h2), (name_of h3).1, .inl gC⟩
  have hbody : ∀ (W' : WX) (pn : List (Addr × Obj)) (xe : Value → Shared → Prop) (E' : Nat → Sto → Prop), Takes (X.tr pn xe) W' → PassesOwn (model X.prog X.w) X.A X.env xe → PSs (X.tr pn xe) pb (tS (lay X c) W' E' (fun rt nx e S => wSs G E' rt b nx e S)) :=
    fun W' pn xe E' tk own => hb (X.tr pn xe) c G T k sc W' E' pb ⟨⟨O.x.nm, O.x.room, O.x.calm, O.x.N, O.x.sc⟩, tk, own, O.fn, O.kind, O.own0⟩ h4
  have hsne : ∃ b0 sr, su = b0 :: sr := by
    cases su with
    | nil => unfold chkH at h5; split at h5 <;> first | contradiction | skip
    | cons b0 sr => exact ⟨b0, sr, rfl⟩
  obtain ⟨b0, sr, rfl⟩ := hsne
  have tbody : ∀ (W' : WX) (pn : List (Addr × Obj)) (xe : Value → Shared → Prop), Takes (X.tr pn xe) W' → PassesOwn (model X.prog X.w) X.A X.env xe → PSs (X.tr pn xe) pb (fun D σ H => ∃ E', tS (lay X c) W' E' (fun rt nx e S => wSs G E' rt b nx e S) D σ H) :=
    fun W' pn xe tk own => ⟨fun pins s σ H D I ⟨E', hh⟩ => (hbody W' pn xe E' tk own).run pins s σ H D I hh⟩
  cases n with
  | some i =>
    cases m with
    | none => cases h6
    | some y =>
      simp only [Bool.and_eq_true, decide_eq_true_eq] at h6
      have hi : X.N[i]? = some y := by rw [O.x.N]; exact h6.1
      have hlt : i < X.N.length := by
        obtain ⟨w, _⟩ := List.getElem?_eq_some_iff.mp hi
        exact w
      refine PS.imp (ps_try_as (ts := fun a cls d => tSu c G h (some i) a cls d) O.own0.1 O.own0.2 hN hi (by show X.env.scope.names.lookup y = _; rw [O.x.sc]; exact h6.2) hnm O.tk tbody
        (fun a oe cls d pn hz hf => p_suite O.x hz hf (fun n e => by cases e; exact hlt) h5)) fun D σ H hh => ?_
      obtain ⟨e', S, rt, nx, re, rs, hf, hn, hr, xw⟩ := hh
      simp only [wS] at hf
      refine ⟨_, e', S, rt, nx, re, rs, hf, hn, hr, fun x S' H' σ' st q rs' => ?_⟩
      obtain ⟨hk, q1, q2⟩ := q
      refine ⟨G.sub x ci, O.x.nm.exm _ _ hk hck, fun w a na => ?_, fun w => xw x S' H' σ' st (q2 w) rs'⟩
      exact su_in (L := lay X c) h5 hk (q1 w) rs' (hr.step st) fun n e => by cases e; exact ⟨_, rfl⟩
  | none =>
    cases m with
    | some y => cases h6
    | none =>
      refine PS.imp (ps_try_only (ts := fun a cls d => tSu c G h none a cls d) O.own0.1 O.own0.2 hnm O.tk tbody
        (fun a oe cls d pn hz hf => p_suite O.x hz hf (fun n e => by cases e) h5)) fun D σ H hh => ?_
      obtain ⟨e', S, rt, nx, re, rs, hf, hn, hr, xw⟩ := hh
      simp only [wS] at hf
      refine ⟨_, e', S, rt, nx, re, rs, hf, hn, hr, fun x S' H' σ' st q rs' => ?_⟩
      obtain ⟨hk, q1, q2⟩ := q
      refine ⟨G.sub x ci, O.x.nm.exm _ _ hk hck, fun w a na => ?_, fun w => xw x S' H' σ' st (q2 w) rs'⟩
      exact su_in (L := lay X c) h5 hk (q1 w) rs' (hr.step st) fun n e => by cases e
mutual
theorem sndS : (x : Sm) → SndS x
  | .asg i e => s_asg
  | .asgs is e => s_asgs
  | .par i j a b => by
    intro X c G T k sc W E p O h
    simp [chkS] at h
  | .setI a i e => s_setI
  | .setF a f e => s_setF
  | .expr e => s_expr
  | .ret e => s_ret
  | .ret0 => s_ret0
  | .pass => s_pass
  | .ite e a b => s_ite (sndSs a) (sndSs b)
  | .while e b => s_while (sndSs b)
  | .for tg it b => s_for (sndSs b)
  | .raise c x => s_raise
  | .try1 b c n h => s_try (sndSs b)
theorem sndSs : (x : Sms) → SndSs x
  | .nil => s_nil
  | .cons s r => s_cons (sndS s) (sndSs r)
end
end
end DL

set_option Elab.async false
set_option linter.all false
set_option maxRecDepth 100000
set_option maxHeartbeats 8000000
/-! Own layer, part 16: a def. -/
namespace DL
open PySem PySem.Spec PyProof.Rows L2

/-- a part of a store -/
def Sto.le (S S' : Sto) : Prop := ∀ a o, S a = some o → S' a = some o
theorem Sto.le.refl (S : Sto) : Sto.le S S := fun _ _ h => h
/-- at the entry -/
def startE (n : Nat) (vs : List Val) : Env := vs.map some ++ List.replicate (n - vs.length) none
/-- what stands behind a return: less is told than is there -/
def rtOf (Q : KV) : KV := fun v S' => ∃ S'', Sto.le S'' S' ∧ Q v S''
def exOf (E : Nat → Sto → Prop) : Nat → Sto → Prop := fun x S' => ∃ S'', Sto.le S'' S' ∧ E x S''
theorem re_start {K : PySem.W.Frag} {H : Hp} {n : Nat} : ∀ {args : List Val} {vs : List V}, RVs K H args vs → RE K H (args.map some ++ List.replicate n none) (vs.map some ++ List.replicate n none)
  | [], vs, r => by
    cases r
    refine ⟨by simp, fun i v q => ?_⟩
    simp only [List.map_nil, List.nil_append] at q
    rw [List.getElem?_replicate] at q
    split at q <;> simp at q
  | a :: as, vs, r => by
    obtain ⟨u, us, rfl, r1, r2⟩ := r
    obtain ⟨h1, h2⟩ := re_start (n := n) r2
    refine ⟨by simpa using h1, fun i v q => ?_⟩
    cases i with
    | zero =>
      simp at q
      subst q
      exact ⟨u, by simp, r1⟩
    | succ i => exact h2 i v (by simpa using q)
theorem def_ok {P : Program} {w : World} {K : PySem.W.Frag} {mg : Str → Option Value} {base : Heap} {x qual : Str} {st : Stmt} {f : Addr} {fd : FuncData} {N ps : List Str} {k : Nat} {c : LC} {G : Cfg} {T : Tab} {sp : DL.Spec} {body : Sms}
    (F : Fun K x qual st f fd) (S : FnScope N ps (defScope st)) (nm : Nm P w K mg base c G T k) (hT : T.N = N) (chk : chkSs T (defScope st) body (defBody st) = true) (ar : Arity ps.length sp)
    (h : ∀ args S Q E, sp args S Q E → wSs G (exOf E) (rtOf Q) body (fun _ S' => rtOf Q .non S') (startE N.length args) S) : FnOk P w K mg base (L2.CX P w) (k + 1) f fd ps (lift ⟨P, w, K, c.ca, c.ex⟩ sp) := by
  refine F.okX S (fun vs H Q E hh => lift_len ar vs H Q E hh) (fun cdv A outer s H vs Q E hr hh => ?_)
  have tk : Takes (cxOf (L2.CX P w) P w K mg base N qual (defScope st) f cdv A outer s H E) (fun cls d _ H => E cls d H) := takes_of rfl rfl rfl rfl
  have own : PassesOwn (model P w) (cxOf (L2.CX P w) P w K mg base N qual (defScope st) f cdv A outer s H E).A (cxOf (L2.CX P w) P w K mg base N qual (defScope st) f cdv A outer s H E).env (cxOf (L2.CX P w) P w K mg base N qual (defScope st) f cdv A outer s H E).xe :=
    passes_of (X := cxOf (L2.CX P w) P w K mg base N qual (defScope st) f cdv A outer s H E) (K := fun e s'' => L2.CX P w outer H s E e s'') (E₁ := fun e s'' => L2.CX P w outer H s E e s'') rfl
  have O : SOk (cxOf (L2.CX P w) P w K mg base N qual (defScope st) f cdv A outer s H E) c G T k (defScope st) (fun cls d _ H => E cls d H) := ⟨⟨nm, hr, rfl, hT.symm, rfl⟩, tk, own, fun _ => rfl, S.kind, rfl, rfl⟩
  obtain ⟨args, S0, Qd, Ed, r, rs, hsp, kk, xx⟩ := hh
  refine ⟨_, (sndSs body) _ c G T k (defScope st) _ (exOf Ed) (defBody st) O chk, ?_⟩
  have hl : args.length = vs.length := r.length
  refine ⟨startE N.length args, S0, rtOf Qd, _, ?_, rs, h args S0 Qd Ed hsp, fun e' S' σ' H' st' q re' rs' => ?_, fun v S' u H' st' q rs' rv => ?_, fun y S' H' σ' st' q rs' => ?_⟩
  · unfold startE L2.start
    rw [hl]
    exact re_start r
  · obtain ⟨S'', le, q⟩ := q
    exact kk .non S'' .non H' ⟨st'.tp, st'.more, fun a ha => st'.dom a fun z => ha (by
      cases e0 : S'' a with
      | none => rfl
      | some o => rw [le a o e0] at z; cases z), st'.frm⟩ q (rs'.sub le) rfl
  · obtain ⟨S'', le, q⟩ := q
    exact kk v S'' u H' ⟨st'.tp, st'.more, fun a ha => st'.dom a fun z => ha (by
      cases e0 : S'' a with
      | none => rfl
      | some o => rw [le a o e0] at z; cases z), st'.frm⟩ q (rs'.sub le) rv
  · obtain ⟨S'', le, q⟩ := q
    exact xx y S'' H' ⟨st'.tp, st'.more, fun a ha => st'.dom a fun z => ha (by
      cases e0 : S'' a with
      | none => rfl
      | some o => rw [le a o e0] at z; cases z), st'.frm⟩ q (rs'.sub le)
end DL

set_option Elab.async false
set_option linter.all false
set_option maxRecDepth 100000
set_option maxHeartbeats 4000000
/-! Own layer, plain part 1: stores, turns. -/
namespace DL
open PySem

theorem getV_0 (v : Option Val) (e : Env) : getV (v :: e) 0 = v := rfl
theorem getV_s (v : Option Val) (e : Env) (n : Nat) : getV (v :: e) (n + 1) = getV e n := by
  simp [getV]
theorem startE_nil (n : Nat) : startE n [] = List.replicate n none := by simp [startE]
theorem startE_cons (n : Nat) (v : Val) (vs : List Val) : startE (n + 1) (v :: vs) = some v :: startE n vs := by simp [startE]
theorem withO_s {α : Type} (a : α) (k : α → Prop) : withO (some a) k = k a := rfl
theorem withB_b (b : Bool) (k : Bool → Prop) : withB (.bl b) k = k b := rfl
theorem bind_one (i : Nat) (e : Env) (v : Val) : bindT (.one i) e v = some (e.set i (some v)) := by cases v <;> rfl
theorem bind_two (i j : Nat) (e : Env) (v w : Val) : bindT (.many [i, j]) e (.tup [v, w]) = some ((e.set i (some v)).set j (some w)) := rfl
/-- the turns of a body that makes one item and leaves the store -/
theorem turns_map {body : Val → Sto → (Option Val → Sto → Prop) → Prop} {grd : Sto → Prop} {Q : List Val → Sto → Prop} {S : Sto} (f : Val → Val) (g : grd S) : ∀ {xs acc : List Val}, (∀ x ∈ xs, ∀ k : Option Val → Sto → Prop, k (some (f x)) S → body x S k) → Q (acc ++ xs.map f) S → wTurns body grd Q xs acc S
  | [], acc, _, q => ⟨g, by simpa using q⟩
  | x :: xs, acc, h, q => ⟨g, h x (by simp) _ (turns_map f g (fun y hy => h y (by simp [hy])) (by simpa using q))⟩
/-- .. that may leave an item out -/
theorem turns_fil {body : Val → Sto → (Option Val → Sto → Prop) → Prop} {grd : Sto → Prop} {Q : List Val → Sto → Prop} {S : Sto} (f : Val → Option Val) (g : grd S) : ∀ {xs acc : List Val}, (∀ x ∈ xs, ∀ k : Option Val → Sto → Prop, k (f x) S → body x S k) → Q (acc ++ xs.filterMap f) S → wTurns body grd Q xs acc S
  | [], acc, _, q => ⟨g, by simpa using q⟩
  | x :: xs, acc, h, q => ⟨g, h x (by simp) _ (turns_fil f g (fun y hy => h y (by simp [hy])) (by
      cases e : f x with
      | none => simpa [List.filterMap_cons, e] using q
      | some y => simpa [List.filterMap_cons, e] using q))⟩
theorem bls_map (f : α → Bool) (xs : List α) : Val.bls (xs.map fun x => .bl (f x)) = some (xs.map f) := by
  induction xs with
  | nil => rfl
  | cons x xs ih => simp [Val.bls, ih]
theorem ints_map (f : α → Int) (xs : List α) : Val.ints (xs.map fun x => .int (f x)) = some (xs.map f) := by
  induction xs with
  | nil => rfl
  | cons x xs ih => simp [Val.ints, ih]
theorem keep_self (S : Sto) {v : Val} (h : ∀ a, v ≠ .ref a) : keep S S v = S := by
  funext a
  have hr : isRef v a = false := by cases v <;> first | rfl | exact absurd rfl (h _)
  unfold keep
  rw [hr, Bool.or_false]
  cases e : S a <;> simp
theorem keep_up {S S1 : Sto} {p : Addr} {o : Ob} {v : Val} (h : ∀ a, v ≠ .ref a) (n : S p = none) : keep S (up S1 p o) v = keep S S1 v := by
  funext a
  have hr : isRef v a = false := by cases v <;> first | rfl | exact absurd rfl (h _)
  unfold keep
  rw [hr, Bool.or_false]
  by_cases e : a = p
  · subst e
    simp [n]
  · simp [up, e]
theorem atI_nat {α : Type} (xs : List α) (k : Nat) : L2.atI xs (k : Int) = xs[k]? := by
  unfold L2.atI L2.ixN
  by_cases h : k < xs.length
  · simp [h]
  · simp [h]
theorem atI_0 {α : Type} (a : α) (xs : List α) : L2.atI (a :: xs) 0 = some a := atI_nat (a :: xs) 0
theorem atI_1 {α : Type} (a b : α) (xs : List α) : L2.atI (a :: b :: xs) 1 = some b := atI_nat (a :: b :: xs) 1
theorem atI_2 {α : Type} (a b c : α) (xs : List α) : L2.atI (a :: b :: c :: xs) 2 = some c := atI_nat (a :: b :: c :: xs) 2
theorem atI_3 {α : Type} (a b c d : α) (xs : List α) : L2.atI (a :: b :: c :: d :: xs) 3 = some d := atI_nat (a :: b :: c :: d :: xs) 3
theorem tt_and (P R : Prop) : ((true = true → P) ∧ (true = false → R)) = P := by simp
theorem ff_and (P R : Prop) : ((false = true → P) ∧ (false = false → R)) = R := by simp
/-- a statement, what stands behind it out of sight -/
theorem step {G : Cfg} {E : Nat → Sto → Prop} {rt : KV} {s : Sm} {r : Sms} {nx : Env → Sto → Prop} {e : Env} {S : Sto} (h : ∀ K : Env → Sto → Prop, (∀ e' S', wSs G E rt r nx e' S' → K e' S') → wS G E rt s K e S) : wSs G E rt (.cons s r) nx e S := by
  rw [wSs]
  exact h _ fun _ _ z => z
theorem eqv_int (i j : Int) : PyData.eqv (.int i) (.int j) = decide (i = j) := by
  rw [PyData.eqv, Bool.beq_eq_decide_eq]
theorem see_dat {S : Sto} {n : Nat} {v : Val} (h : v.dat = true) : S.see n v = some v := by
  cases n with
  | zero => unfold Sto.see; rw [if_pos h]
  | succ n => unfold Sto.see; rw [if_pos h]
theorem turns_all {body : Val → Sto → (Option Val → Sto → Prop) → Prop} {grd : Sto → Prop} {Q : KV} {S : Sto} {xs : List Val} (f : Val → Bool) (g : grd S) (h : ∀ x ∈ xs, ∀ k : Option Val → Sto → Prop, k (some (.bl (f x))) S → body x S k) (q : Q (.bl (xs.all f)) S) :
    wTurns body grd (fun vs S1 => wBtL .all vs S1 Q) xs [] S := by
  refine turns_map (fun x => .bl (f x)) g h ?_
  simp only [List.nil_append, wBtL, bls_map, withO_s, List.all_map]
  exact q
theorem turns_any {body : Val → Sto → (Option Val → Sto → Prop) → Prop} {grd : Sto → Prop} {Q : KV} {S : Sto} {xs : List Val} (f : Val → Bool) (g : grd S) (h : ∀ x ∈ xs, ∀ k : Option Val → Sto → Prop, k (some (.bl (f x))) S → body x S k) (q : Q (.bl (xs.any f)) S) :
    wTurns body grd (fun vs S1 => wBtL .any vs S1 Q) xs [] S := by
  refine turns_map (fun x => .bl (f x)) g h ?_
  simp only [List.nil_append, wBtL, bls_map, withO_s, List.any_map]
  exact q
theorem range_mem {x : Val} {lo : Int} {n : Nat} {st : Int} (h : x ∈ rangeL lo n st) : ∃ k : Nat, k < n ∧ x = .int (lo + (k : Int) * st) := by
  unfold rangeL at h
  obtain ⟨k, hk, e⟩ := List.mem_map.mp h
  exact ⟨k, List.mem_range.mp hk, e.symm⟩
theorem tup_of {v : Val} {S : Sto} (h : (!tyOf .tuple v S) = false) : ∃ xs, v = .tup xs := by
  cases v <;> simp [tyOf] at h
  exact ⟨_, rfl⟩
theorem tup_of' {v : Val} {S : Sto} (h : tyOf .tuple v S = true) : ∃ xs, v = .tup xs := by
  cases v <;> simp [tyOf] at h
  exact ⟨_, rfl⟩
theorem range0_mem {x : Val} {n : Nat} (h : x ∈ rangeL 0 n 1) : ∃ k : Nat, k < n ∧ x = .int k := by
  obtain ⟨k, hk, e⟩ := range_mem h
  exact ⟨k, hk, by rw [e, Int.mul_one, Int.zero_add]⟩
theorem range0_all (n : Nat) (f : Val → Bool) : (rangeL 0 n 1).all f = (List.range n).all fun k => f (.int k) := by
  unfold rangeL
  rw [List.all_map]
  congr
  funext k
  simp
theorem see_int (S : Sto) (n : Nat) (i : Int) : S.see n (.int i) = some (.int i) := see_dat rfl
theorem see_bl (S : Sto) (n : Nat) (i : Bool) : S.see n (.bl i) = some (.bl i) := see_dat rfl
theorem see_str (S : Sto) (n : Nat) (i : Str) : S.see n (.str i) = some (.str i) := see_dat rfl
theorem see_non (S : Sto) (n : Nat) : S.see n .non = some .non := see_dat rfl
theorem dep_int (i : Int) : Val.dep (.int i) = 0 := rfl
theorem dep_bl (i : Bool) : Val.dep (.bl i) = 0 := rfl
theorem dep_str (i : Str) : Val.dep (.str i) = 0 := rfl
theorem dep_non : Val.dep .non = 0 := rfl
/-- a for, by what holds at each turn (rest: what is still to come) -/
theorem for_inv {tg : Tg} {body : (Env → Sto → Prop) → Env → Sto → Prop} {grd : Sto → Prop} {nx : Env → Sto → Prop} (P : List Val → Env → Sto → Prop)
    (hs : ∀ x rest e S, P (x :: rest) e S → grd S ∧ withO (bindT tg e x) fun e' => ∀ k : Env → Sto → Prop, (∀ e2 S2, P rest e2 S2 → k e2 S2) → body k e' S) (hd : ∀ e S, P [] e S → grd S ∧ nx e S) :
    ∀ (xs : List Val) (e : Env) (S : Sto), P xs e S → wFor tg body grd nx xs e S
  | [], e, S, h => hd e S h
  | x :: rest, e, S, h => by
    obtain ⟨h1, h2⟩ := hs x rest e S h
    refine ⟨h1, ?_⟩
    cases q : bindT tg e x with
    | none => rw [q] at h2; exact h2
    | some e' =>
      rw [q] at h2
      exact h2 _ fun e2 S2 p => for_inv P hs hd rest e2 S2 p
theorem le_off {S S' : Sto} {p : Addr} (h : Sto.le S S') (n : S' p = none) : S p = none := by
  cases e : S p with
  | none => rfl
  | some o => rw [h p o e] at n; cases n
theorem le_write {S S' : Sto} {p : Addr} {o : Ob} (h : Sto.le S S') (n : S p = none) : Sto.le S (up S' p o) := fun a ob q => by
  unfold up
  split
  · rename_i e
    subst e
    rw [n] at q
    cases q
  · exact h a ob q
theorem le_new {S S' : Sto} {p : Addr} {o : Ob} (h : Sto.le S S') (n : S' p = none) : Sto.le S (up S' p o) := le_write h (le_off h n)
theorem le_bump {S S' : Sto} {b : Addr} {o o2 : Ob} (h : Sto.le (up S b o) S') : Sto.le (up S b o2) (up S' b o2) := fun a ob q => by
  unfold up at q ⊢
  split
  · rename_i e
    rw [if_pos e] at q
    exact q
  · rename_i e
    rw [if_neg e] at q
    exact h a ob (by unfold up; rw [if_neg e]; exact q)
theorem Sto.le.trans {S S1 S2 : Sto} (h : Sto.le S S1) (h2 : Sto.le S1 S2) : Sto.le S S2 := fun a o q => h2 a o (h a o q)
theorem up_get {S : Sto} {a b : Addr} {o : Ob} (n : a ≠ b) : up S b o a = S a := if_neg n
theorem up_self {S : Sto} {b : Addr} {o : Ob} (h : S b = some o) : up S b o = S := by
  funext a
  unfold up
  split
  · rename_i e
    rw [e, h]
  · rfl
/-- a comprehension, by what holds at each turn -/
theorem turns_inv {body : Val → Sto → (Option Val → Sto → Prop) → Prop} {grd : Sto → Prop} {Q : List Val → Sto → Prop} (P : List Val → List Val → Sto → Prop)
    (hs : ∀ x rest acc S, P (x :: rest) acc S → grd S ∧ ∀ k : Option Val → Sto → Prop, (∀ r S', P rest (acc ++ r.toList) S' → k r S') → body x S k) (hd : ∀ acc S, P [] acc S → grd S ∧ Q acc S) :
    ∀ (xs acc : List Val) (S : Sto), P xs acc S → wTurns body grd Q xs acc S
  | [], acc, S, h => hd acc S h
  | x :: rest, acc, S, h => by
    obtain ⟨h1, h2⟩ := hs x rest acc S h
    exact ⟨h1, h2 _ fun r S' p => turns_inv P hs hd rest _ S' p⟩
theorem sees_ints {S : Sto} {n : Nat} : ∀ ns : List Int, S.sees n (ns.map .int) = some (ns.map .int) := by
  intro ns
  induction ns with
  | nil => rw [List.map_nil, Sto.sees]
  | cons i ns ih => rw [List.map_cons, Sto.sees, ih, see_int]
theorem see_ints {S : Sto} {n : Nat} {ns : List Int} : S.see (n + 1) (.lst (ns.map .int)) = some (.lst (ns.map .int)) := by
  unfold Sto.see
  rw [if_neg (by simp [Val.dat])]
  simp only [sees_ints]
  rfl
theorem veq_int_list {S : Sto} {a : Addr} {n : Nat} {ns : List Int} (h : S a = some (.lst (ns.map .int))) : S.see (n + 1) (.ref a) = some (.lst (ns.map .int)) := by
  have key : ∀ ns : List Int, S.sees n (ns.map .int) = some (ns.map .int) := by
    intro ns
    induction ns with
    | nil => rw [List.map_nil, Sto.sees]
    | cons i ns ih =>
      rw [List.map_cons, Sto.sees, ih, see_int]
  unfold Sto.see
  rw [if_neg (by simp [Val.dat])]
  simp only [h, key]
  rfl
/-- a for, its body out of sight -/
theorem for_step {G : Cfg} {E : Nat → Sto → Prop} {rt : KV} {tg : Tg} {it : Itr} {b : Sms} {nx : Env → Sto → Prop} {e : Env} {S : Sto}
    (h : ∀ B : (Env → Sto → Prop) → Env → Sto → Prop, (∀ k e' S', wSs G E rt b k e' S' → B k e' S') → wI G E it e S fun xs grd S1 => wFor tg B grd nx xs e S1) : wS G E rt (.for tg it b) nx e S := by
  rw [wS]
  exact h _ fun _ _ _ z => z
theorem while_step {G : Cfg} {E : Nat → Sto → Prop} {rt : KV} {c : Ex} {b : Sms} {nx : Env → Sto → Prop} {e : Env} {S : Sto} (W : Nat → Env → Sto → Prop) (h0 : ∃ m, W m e S)
    (h : ∀ B : (Env → Sto → Prop) → Env → Sto → Prop, (∀ k e' S', wSs G E rt b k e' S' → B k e' S') → ∀ m e S, W m e S → wE G E c e S fun x S1 => withB x fun k => (k = true → B (fun e' S' => ∃ m', m' < m ∧ W m' e' S') e S1) ∧ (k = false → nx e S1)) :
    wS G E rt (.while c b) nx e S := by
  rw [wS]
  exact ⟨W, h0, h _ fun _ _ _ z => z⟩
theorem ite_step {G : Cfg} {E : Nat → Sto → Prop} {rt : KV} {c : Ex} {a b : Sms} {nx : Env → Sto → Prop} {e : Env} {S : Sto}
    (h : ∀ A B : Env → Sto → Prop, (∀ e' S', wSs G E rt a nx e' S' → A e' S') → (∀ e' S', wSs G E rt b nx e' S' → B e' S') → wE G E c e S fun x S1 => withB x fun k => (k = true → A e S1) ∧ (k = false → B e S1)) : wS G E rt (.ite c a b) nx e S := by
  rw [wS]
  exact h _ _ (fun _ _ z => z) fun _ _ z => z
theorem get_up {S : Sto} {a p : Addr} {o o2 : Ob} (h : S a = some o) (n : S p = none) : up S p o2 a = some o := by
  rw [up_get fun z => by rw [z, n] at h; cases h]
  exact h
theorem ne_new {S : Sto} {a p : Addr} {o : Ob} (h : S a = some o) (n : S p = none) : a ≠ p := fun z => by
  rw [z, n] at h
  cases h
end DL

set_option Elab.async false
set_option linter.all false
set_option maxRecDepth 100000
set_option maxHeartbeats 4000000
/-! Own layer, plain part 2: halls. -/
namespace DL
open PySem
def n_is_whole : List Str := ["thing"]
def b_is_whole : Sms :=
  (.cons (.ret (.and (.isi (.var 0) .int) (.not (.isi (.var 0) .bool))))
  .nil)

def n_between : List Str := ["thing", "low", "most"]
def b_between : Sms :=
  (.cons (.ret (.and (.call 0 (.cons (.var 0) .nil)) (.chain .le .le (.var 1) (.var 0) (.var 2))))
  .nil)

def n_is_state : List Str := ["thing", "base", "many", "to"]
def b_is_state : Sms :=
  (.cons (.ret (.and (.isi (.var 0) .tuple) (.and (.cmp .eq (.blt .len (.cons (.var 0) .nil)) (.var 1)) (.bltc .all (.mk (.one 3) [3] (.call 1 (.cons (.var 3) (.cons (.int 0) (.cons (.bin .sub (.var 2) (.int 1)) .nil)))) (.val (.var 0)) .none)))))
  .nil)

def n_is_row : List Str := ["thing", "base", "many", "state", "sign", "k"]
def b_is_row (st : Str) : Sms :=
  (.cons (.ite (.or (.not (.isi (.var 0) .tuple)) (.or (.cmp .ne (.blt .len (.cons (.var 0) .nil)) (.int 2)) (.not (.isi (.sub (.var 0) (.int 0)) .tuple))))
    (.cons (.ret (.bl false))
      .nil)
    .nil)
  (.cons (.asg 2 (.blt .len (.cons (.sub (.var 0) (.int 0)) .nil)))
  (.cons (.ite (.or (.not (.chain .le .le (.int 1) (.var 2) (.glob st))) (.not (.bltc .all (.mk (.one 3) [3] (.call 2 (.cons (.var 3) (.cons (.var 1) (.cons (.var 2) .nil)))) (.val (.sub (.var 0) (.int 0))) .none))))
    (.cons (.ret (.bl false))
      .nil)
    .nil)
  (.cons (.ite (.or (.not (.isi (.sub (.var 0) (.int 1)) .tuple)) (.or (.cmp .ne (.blt .len (.cons (.sub (.var 0) (.int 1)) .nil)) (.var 2)) (.not (.bltc .all (.mk (.one 4) [4] (.call 1 (.cons (.var 4) (.cons (.int 0) (.cons (.int 2) .nil)))) (.val (.sub (.var 0) (.int 1))) .none)))))
    (.cons (.ret (.bl false))
      .nil)
    .nil)
  (.cons (.ret (.bltc .all (.mk (.one 5) [5] (.cmp .eq (.sub (.sub (.var 0) (.int 1)) (.sub (.sub (.sub (.var 0) (.int 0)) (.var 5)) (.int 0))) (.sub (.sub (.var 0) (.int 1)) (.var 5))) (.rng (.cons (.var 2) .nil)) .none)))
  .nil)))))

def n_is_hall : List Str := ["thing", "row"]
def b_is_hall : Sms :=
  (.cons (.ite (.or (.not (.isi (.var 0) .tuple)) (.or (.cmp .ne (.blt .len (.cons (.var 0) .nil)) (.int 2)) (.not (.call 1 (.cons (.sub (.var 0) (.int 0)) (.cons (.int 2) (.cons (.int 3) .nil)))))))
    (.cons (.ret (.bl false))
      .nil)
    .nil)
  (.cons (.ret (.and (.isi (.sub (.var 0) (.int 1)) .tuple) (.and (.cmp .le (.blt .len (.cons (.sub (.var 0) (.int 1)) .nil)) (.int 3)) (.bltc .all (.mk (.one 1) [1] (.call 3 (.cons (.var 1) (.cons (.sub (.var 0) (.int 0)) .nil))) (.val (.sub (.var 0) (.int 1))) .none)))))
  .nil))

def n_checked : List Str := ["hall"]
def b_checked : Sms :=
  (.cons (.ite (.not (.call 4 (.cons (.var 0) .nil)))
    (.cons (.raise 1 "NoHall")
      .nil)
    .nil)
  (.cons (.ret (.var 0))
  .nil))

def n_need_row : List Str := ["hall", "row"]
def b_need_row : Sms :=
  (.cons (.expr (.call 5 (.cons (.var 0) .nil)))
  (.cons (.ite (.not (.call 1 (.cons (.var 1) (.cons (.int 0) (.cons (.bin .sub (.blt .len (.cons (.sub (.var 0) (.int 1)) .nil)) (.int 1)) .nil)))))
    (.cons (.raise 5 "NoNumber")
      .nil)
    .nil)
  .nil))

def n_figures_of : List Str := ["base", "number", "made"]
def b_figures_of : Sms :=
  (.cons (.asg 2 (.lst .nil))
  (.cons (.while (.cmp .gt (.var 1) (.int 0))
    (.cons (.expr (.meth (.var 2) .append (.cons (.bin .mod (.var 1) (.var 0)) .nil)))
      (.cons (.asg 1 (.bin .fdiv (.var 1) (.var 0)))
      .nil)))
  (.cons (.ret (.var 2))
  .nil)))

def n_sign_of : List Str := ["base", "row", "place", "state", "figure"]
def b_sign_of : Sms :=
  (.cons (.asg 3 (.int 0))
  (.cons (.for (.one 4) (.val (.call 7 (.cons (.var 0) (.cons (.var 2) .nil))))
    (.cons (.asg 3 (.sub (.sub (.sub (.var 1) (.int 0)) (.var 3)) (.var 4)))
      .nil))
  (.cons (.ret (.sub (.sub (.var 1) (.int 1)) (.var 3)))
  .nil)))

def n_sign_at : List Str := ["hall", "row", "place"]
def b_sign_at : Sms :=
  (.cons (.expr (.call 6 (.cons (.var 0) (.cons (.var 1) .nil))))
  (.cons (.ite (.or (.not (.call 0 (.cons (.var 2) .nil))) (.cmp .lt (.var 2) (.int 0)))
    (.cons (.raise 5 "NoNumber")
      .nil)
    .nil)
  (.cons (.ret (.call 8 (.cons (.sub (.var 0) (.int 0)) (.cons (.sub (.sub (.var 0) (.int 1)) (.var 1)) (.cons (.var 2) .nil)))))
  .nil)))

mutual
/-- lists within stand in the store -/
def kn (S : Sto) : Val → Bool
  | .ref a => match S a with
    | some (.lst _) => true
    | _ => false
  | .tup xs => kns S xs
  | .lst _ => false
  | .non => true
  | .bl _ => true
  | .int _ => true
  | .str _ => true
def kns (S : Sto) : List Val → Bool
  | [] => true
  | x :: xs => kn S x && kns S xs
end
theorem kn_tyKnown {S : Sto} {v : Val} (h : kn S v = true) : tyKnown v S = true := by
  cases v <;> first | rfl | (simp only [kn] at h; cases h) | skip
  rename_i a
  simp only [kn] at h
  simp only [tyKnown]
  exact h
def isWhole : Val → Bool
  | .int _ => true
  | _ => false
def betw (v : Val) (lo hi : Int) : Bool := match v with
  | .int i => decide (lo ≤ i) && decide (i ≤ hi)
  | _ => false
def isState (v : Val) (base many : Int) : Bool := match v with
  | .tup xs => decide ((xs.length : Int) = base) && xs.all (betw · 0 (many - 1))
  | _ => false
def stOf (b : Val) : List Val := match b with
  | .tup xs => xs
  | _ => []
/-- the sign at a state -/
def atV (xs : List Val) (i : Val) : Option Val := match i with
  | .int k => L2.atI xs k
  | _ => none
def signAt (st sg : List Val) (k : Nat) : Bool := match st[k]?, sg[k]? with
  | some (.tup (.int t :: _)), some y => (match sg[t.toNat]? with
    | some z => z.veq y
    | none => false)
  | _, _ => false
def signsOk (st sg : List Val) (many : Nat) : Bool := (List.range many).all fun k => signAt st sg k
def isRow (v : Val) (base : Int) : Bool := match v with
  | .tup [x, y] => (match x with
    | .tup st => decide (1 ≤ st.length ∧ st.length ≤ 8) && st.all (isState · base st.length) && (match y with
      | .tup sg => decide (sg.length = st.length) && sg.all (betw · 0 2) && signsOk st sg st.length
      | _ => false)
    | _ => false)
  | _ => false
def isHall (v : Val) : Bool := match v with
  | .tup [b, y] => betw b 2 3 && (match y with
    | .tup rows => decide (rows.length ≤ 3) && rows.all fun r => match b with
      | .int i => isRow r i
      | _ => false
    | _ => false)
  | _ => false
def rowsN (v : Val) : Nat := match v with
  | .tup [_, .tup rows] => rows.length
  | _ => 0
def sp_is_whole : Spec := fun vs S Q _ => match vs with
  | [v] => tyKnown v S = true ∧ Q (.bl (isWhole v)) S
  | _ => False
def sp_between : Spec := fun vs S Q _ => match vs with
  | [v, .int lo, .int hi] => tyKnown v S = true ∧ Q (.bl (betw v lo hi)) S
  | _ => False
def sp_is_state : Spec := fun vs S Q _ => match vs with
  | [v, .int base, .int many] => kn S v = true ∧ Q (.bl (isState v base many)) S
  | _ => False
def sp_is_row : Spec := fun vs S Q _ => match vs with
  | [v, .int base] => kn S v = true ∧ (2 ≤ base ∧ base ≤ 3) ∧ Q (.bl (isRow v base)) S
  | _ => False
def sp_is_hall : Spec := fun vs S Q _ => match vs with
  | [v] => kn S v = true ∧ Q (.bl (isHall v)) S
  | _ => False
def sp_checked : Spec := fun vs S Q E => match vs with
  | [v] => kn S v = true ∧ (isHall v = true → Q v S) ∧ (isHall v = false → E 1 S)
  | _ => False
def sp_need_row : Spec := fun vs S Q E => match vs with
  | [v, r] => kn S v = true ∧ kn S r = true ∧ (isHall v = true → (betw r 0 (rowsN v - 1) = true → Q .non S) ∧ (betw r 0 (rowsN v - 1) = false → E 5 S)) ∧ (isHall v = false → E 1 S)
  | _ => False
structure HallG (G : Cfg) (st : Str) : Prop where
  f0 : G.fn 0 = some sp_is_whole
  f1 : G.fn 1 = some sp_between
  f2 : G.fn 2 = some sp_is_state
  f3 : G.fn 3 = some sp_is_row
  f4 : G.fn 4 = some sp_is_hall
  f5 : G.fn 5 = some sp_checked
  f6 : G.fn 6 = some sp_need_row
  cs : G.cv st = some (.int 8)
theorem rt_here {Q : KV} {v : Val} {S : Sto} (h : Q v S) : rtOf Q v S := ⟨S, .refl S, h⟩
theorem ex_here {E : Nat → Sto → Prop} {x : Nat} {S : Sto} (h : E x S) : exOf E x S := ⟨S, .refl S, h⟩
abbrev Wk (G : Cfg) (sp : Spec) (N : List Str) (b : Sms) : Prop := ∀ args S Q E, sp args S Q E → wSs G (exOf E) (rtOf Q) b (fun _ S' => rtOf Q .non S') (startE N.length args) S
theorem w_is_whole {G : Cfg} : Wk G sp_is_whole n_is_whole b_is_whole := by
  intro args S Q E h
  unfold sp_is_whole at h
  split at h <;> first | contradiction | skip
  rename_i v
  obtain ⟨h1, h2⟩ := h
  simp only [b_is_whole, n_is_whole, wSs, wS, wE, wEs, wO, wI, wC, wIf, wBin, wSub, startE_cons, startE_nil, List.replicate, getV_0, getV_s, withO_s, withB_b, bind_one, bind_two, List.set_cons_zero, List.set_cons_succ, wipeE, Nat.zero_add, atI_0, atI_1, atI_2, atI_3, see_int, see_bl, see_str, see_non, dep_int, dep_bl, dep_str, dep_non, Nat.zero_min, Nat.min_zero, Nat.zero_le, true_imp_iff, false_imp_iff, Bool.not_false, Bool.not_true, reduceCtorEq, and_true, true_and, List.length_cons, List.length_nil]
  refine ⟨h1, fun a => ⟨h1, rt_here ?_⟩, fun a => rt_here ?_⟩
  · cases v <;> first | exact h2 | (simp [tyOf] at a; done) | (simp [tyOf, isWhole] at *; exact h2)
  · cases v <;> first | exact h2 | (simp [tyOf] at a; done) | (simp [tyOf, isWhole] at *; exact h2)
theorem w_between {G : Cfg} {st : Str} (g : HallG G st) : Wk G sp_between n_between b_between := by
  intro args S Q E h
  unfold sp_between at h
  split at h <;> first | contradiction | skip
  rename_i v lo hi
  obtain ⟨h1, h2⟩ := h
  simp only [b_between, n_between, wSs, wS, wE, wEs, wO, wI, wC, wIf, wBin, wSub, startE_cons, startE_nil, List.replicate, getV_0, getV_s, withO_s, withB_b, bind_one, bind_two, List.set_cons_zero, List.set_cons_succ, wipeE, Nat.zero_add, atI_0, atI_1, atI_2, atI_3, see_int, see_bl, see_str, see_non, dep_int, dep_bl, dep_str, dep_non, Nat.zero_min, Nat.min_zero, Nat.zero_le, true_imp_iff, false_imp_iff, Bool.not_false, Bool.not_true, reduceCtorEq, and_true, true_and, List.length_cons, List.length_nil, g.f0, sp_is_whole]
  refine ⟨h1, fun a => ?_, fun a => rt_here ?_⟩
  · cases v <;> simp [isWhole] at a
    simp only [wCmp, withB_b]
    refine ⟨fun b => rt_here ?_, fun b => rt_here ?_⟩
    · simpa [betw, b] using h2
    · simpa [betw, b] using h2
  · cases v <;> simp_all [isWhole, betw]
theorem kns_mem {S : Sto} : ∀ {xs : List Val} {x : Val}, kns S xs = true → x ∈ xs → kn S x = true
  | y :: ys, x, h, m => by
    simp only [kns, Bool.and_eq_true] at h
    rcases List.mem_cons.mp m with e | e
    · rw [e]; exact h.1
    · exact kns_mem h.2 e
theorem w_is_state {G : Cfg} {st : Str} (g : HallG G st) : Wk G sp_is_state n_is_state b_is_state := by
  intro args S Q E h
  unfold sp_is_state at h
  split at h <;> first | contradiction | skip
  rename_i v base many
  obtain ⟨h1, h2⟩ := h
  simp only [b_is_state, n_is_state, wSs, wS, wE, wEs, wO, wI, wC, wIf, wBin, wSub, startE_cons, startE_nil, List.replicate, getV_0, getV_s, withO_s, withB_b, bind_one, bind_two, List.set_cons_zero, List.set_cons_succ, wipeE, Nat.zero_add, atI_0, atI_1, atI_2, atI_3, see_int, see_bl, see_str, see_non, dep_int, dep_bl, dep_str, dep_non, Nat.zero_min, Nat.min_zero, Nat.zero_le, true_imp_iff, false_imp_iff, Bool.not_false, Bool.not_true, reduceCtorEq, and_true, true_and, List.length_cons, List.length_nil, g.f1, sp_between]
  refine ⟨kn_tyKnown h1, fun a => ?_, fun a => rt_here ?_⟩
  · cases v <;> simp [tyOf] at a
    rename_i xs
    simp only [wBt, wCmp, wSs, wS, wE, wEs, wO, wI, wC, wIf, wBin, wSub, startE_cons, startE_nil, List.replicate, getV_0, getV_s, withO_s, withB_b, bind_one, bind_two, List.set_cons_zero, List.set_cons_succ, wipeE, Nat.zero_add, atI_0, atI_1, atI_2, atI_3, see_int, see_bl, see_str, see_non, dep_int, dep_bl, dep_str, dep_non, Nat.zero_min, Nat.min_zero, Nat.zero_le, true_imp_iff, false_imp_iff, Bool.not_false, Bool.not_true, reduceCtorEq, and_true, true_and, List.length_cons, List.length_nil]
    refine ⟨fun b => ?_, fun b => rt_here ?_⟩
    · simp only [iterOf, withO_s]
      refine turns_map (fun x => .bl (betw x 0 (many - 1))) trivial (fun x hx k hk => ?_) ?_
      · exact ⟨kn_tyKnown (kns_mem h1 hx), hk⟩
      · simp only [List.nil_append, wBtL, bls_map, withO_s]
        refine rt_here ?_
        have e : decide ((xs.length : Int) = base) = true := by
          simpa [Val.veq, Val.py, PyData.eqv] using b
        simpa [isState, e, List.all_map] using h2
    · have e : decide ((xs.length : Int) = base) = false := by
        simpa [Val.veq, Val.py, PyData.eqv] using b
      simpa [isState, e] using h2
  · cases v <;> simp_all [isState, tyOf]

theorem len_ne (n m : Nat) : (Val.int (n : Int)).veq (.int (m : Int)) = decide (n = m) := by
  simp only [Val.veq, Val.py, eqv_int]
  exact decide_eq_decide.mpr (by omega)
theorem int_eq (i j : Int) : (Val.int i).veq (.int j) = decide (i = j) := by
  simp only [Val.veq, Val.py, eqv_int]
theorem betw_int {v : Val} {lo hi : Int} (h : betw v lo hi = true) : ∃ i, v = .int i := by
  cases v <;> simp [betw] at h
  exact ⟨_, rfl⟩
theorem betw_le {i : Int} {lo hi : Int} (h : betw (.int i) lo hi = true) : lo ≤ i ∧ i ≤ hi := by
  simpa [betw] using h
theorem state_head {v : Val} {base many : Int} (hb : 2 ≤ base ∧ base ≤ 3) (h : isState v base many = true) : ∃ t ts, v = .tup (.int t :: ts) ∧ 0 ≤ t ∧ t < many := by
  cases v <;> simp only [isState] at h <;> first | (cases h; done) | skip
  rename_i xs
  rw [Bool.and_eq_true] at h
  obtain ⟨h1, h2⟩ := h
  cases xs with
  | nil =>
    have := of_decide_eq_true h1
    simp at this
    omega
  | cons x xs =>
    simp only [List.all_cons, Bool.and_eq_true] at h2
    obtain ⟨i, rfl⟩ := betw_int h2.1
    obtain ⟨h3, h4⟩ := betw_le h2.1
    exact ⟨i, xs, rfl, h3, by omega⟩
theorem w_is_row {G : Cfg} {st : Str} (g : HallG G st) : Wk G sp_is_row n_is_row (b_is_row st) := by
  intro args S Q E h
  unfold sp_is_row at h
  split at h <;> first | contradiction | skip
  rename_i v base
  obtain ⟨h1, hb, h2⟩ := h
  have no : ∀ {v : Val}, isRow v base = false → Q (.bl (isRow v base)) S → rtOf Q (.bl false) S := fun e q => rt_here (by rw [e] at q; exact q)
  unfold b_is_row
  refine step fun K hK => ?_
  simp only [n_is_row, wSs, wS, wE, wEs, wO, wI, wC, wIf, wBin, wSub, startE_cons, startE_nil, List.replicate, getV_0, getV_s, withO_s, withB_b, bind_one, bind_two, List.set_cons_zero, List.set_cons_succ, wipeE, Nat.zero_add, atI_0, atI_1, atI_2, atI_3, see_int, see_bl, see_str, see_non, dep_int, dep_bl, dep_str, dep_non, Nat.zero_min, Nat.min_zero, Nat.zero_le, true_imp_iff, false_imp_iff, Bool.not_false, Bool.not_true, reduceCtorEq, and_true, true_and, List.length_cons, List.length_nil]
  refine ⟨kn_tyKnown h1, fun a => ?_, fun a => ?_⟩
  · exact no (by cases v <;> first | rfl | (simp [tyOf] at a)) h2
  · cases v <;> simp [tyOf] at a
    rename_i xs
    simp only [wBt, wCmp, wSs, wS, wE, wEs, wO, wI, wC, wIf, wBin, wSub, startE_cons, startE_nil, List.replicate, getV_0, getV_s, withO_s, withB_b, bind_one, bind_two, List.set_cons_zero, List.set_cons_succ, wipeE, Nat.zero_add, atI_0, atI_1, atI_2, atI_3, see_int, see_bl, see_str, see_non, dep_int, dep_bl, dep_str, dep_non, Nat.zero_min, Nat.min_zero, Nat.zero_le, true_imp_iff, false_imp_iff, Bool.not_false, Bool.not_true, reduceCtorEq, and_true, true_and, List.length_cons, List.length_nil]
    refine ⟨fun b => ?_, fun b => ?_⟩
    · refine no ?_ h2
      match xs, b with
      | [], _ => rfl
      | [_], _ => rfl
      | [_, _], b => simp [int_eq] at b
      | _ :: _ :: _ :: _, _ => rfl
    · match xs, b with
      | [], b => simp [int_eq] at b
      | [_], b => simp [int_eq] at b
      | _ :: _ :: _ :: _, b => simp [int_eq] at b; omega
      | [x, y], _ =>
        have kx : kn S x = true := kns_mem h1 (by simp)
        have ky : kn S y = true := kns_mem h1 (by simp)
        refine ⟨kn_tyKnown kx, fun a2 => ?_, fun a2 => ?_⟩
        · refine no ?_ h2
          cases x <;> first | rfl | (simp [tyOf] at a2)
        · obtain ⟨sts, rfl⟩ := tup_of a2
          refine hK _ _ (step fun K2 hK2 => ?_)
          simp only [wSs, wS, wE, wEs, wO, wI, wC, wIf, wBin, wSub, startE_cons, startE_nil, List.replicate, getV_0, getV_s, withO_s, withB_b, bind_one, bind_two, List.set_cons_zero, List.set_cons_succ, wipeE, Nat.zero_add, atI_0, atI_1, atI_2, atI_3, see_int, see_bl, see_str, see_non, dep_int, dep_bl, dep_str, dep_non, Nat.zero_min, Nat.min_zero, Nat.zero_le, true_imp_iff, false_imp_iff, Bool.not_false, Bool.not_true, reduceCtorEq, and_true, true_and, List.length_cons, List.length_nil, wBt, b_is_row] 
          refine hK2 _ _ (step fun K3 hK3 => ?_)
          have fin : (decide (1 ≤ sts.length ∧ sts.length ≤ 8) && sts.all (isState · base sts.length)) = false → rtOf Q (.bl false) S := fun e => no (by simp only [isRow, e, Bool.false_and]) h2
          simp only [wSs, wS, wE, wEs, wO, wI, wC, wIf, wBin, wSub, startE_cons, startE_nil, List.replicate, getV_0, getV_s, withO_s, withB_b, bind_one, bind_two, List.set_cons_zero, List.set_cons_succ, wipeE, Nat.zero_add, atI_0, atI_1, atI_2, atI_3, see_int, see_bl, see_str, see_non, dep_int, dep_bl, dep_str, dep_non, Nat.zero_min, Nat.min_zero, Nat.zero_le, true_imp_iff, false_imp_iff, Bool.not_false, Bool.not_true, reduceCtorEq, and_true, true_and, List.length_cons, List.length_nil, wCmp, g.cs, g.f2, sp_is_state, iterOf]
          refine ⟨fun a3 => ⟨fun a4 => ?_, fun a4 => ?_⟩, fun a3 => ?_⟩
          · refine fin ?_
            simp only [Bool.not_eq_true', decide_eq_false_iff_not] at a4
            rw [Bool.and_eq_false_iff]
            left
            simp
            omega
          · simp only [decide_eq_true_eq, Bool.not_eq_false', decide_eq_true_eq] at a3 a4
            refine turns_all (fun x => isState x base sts.length) trivial (fun z hz k hk => ⟨kns_mem kx hz, hk⟩) ?_
            simp only [wSs, wS, wE, wEs, wO, wI, wC, wIf, wBin, wSub, startE_cons, startE_nil, List.replicate, getV_0, getV_s, withO_s, withB_b, bind_one, bind_two, List.set_cons_zero, List.set_cons_succ, wipeE, Nat.zero_add, atI_0, atI_1, atI_2, atI_3, see_int, see_bl, see_str, see_non, dep_int, dep_bl, dep_str, dep_non, Nat.zero_min, Nat.min_zero, Nat.zero_le, true_imp_iff, false_imp_iff, Bool.not_false, Bool.not_true, reduceCtorEq, and_true, true_and, List.length_cons, List.length_nil]
            refine ⟨fun a5 => fin ?_, fun a5 => ?_⟩
            · rw [Bool.and_eq_false_iff]
              right
              simpa using a5
            · have hst : (decide (1 ≤ sts.length ∧ sts.length ≤ 8) && sts.all (isState · base sts.length)) = true := by
                rw [Bool.and_eq_true]
                exact ⟨by simp; omega, by simpa using a5⟩
              refine hK3 _ _ (step fun K4 hK4 => ?_)
              simp only [wSs, wS, wE, wEs, wO, wI, wC, wIf, wBin, wSub, startE_cons, startE_nil, List.replicate, getV_0, getV_s, withO_s, withB_b, bind_one, bind_two, List.set_cons_zero, List.set_cons_succ, wipeE, Nat.zero_add, atI_0, atI_1, atI_2, atI_3, see_int, see_bl, see_str, see_non, dep_int, dep_bl, dep_str, dep_non, Nat.zero_min, Nat.min_zero, Nat.zero_le, true_imp_iff, false_imp_iff, Bool.not_false, Bool.not_true, reduceCtorEq, and_true, true_and, List.length_cons, List.length_nil]
              refine ⟨kn_tyKnown ky, fun a6 => ?_, fun a6 => ?_⟩
              · refine no ?_ h2
                cases y <;> first | (simp [isRow]; done) | (simp [tyOf] at a6)
              · obtain ⟨sgs, rfl⟩ := tup_of a6
                simp only [wBt, wCmp, wSs, wS, wE, wEs, wO, wI, wC, wIf, wBin, wSub, startE_cons, startE_nil, List.replicate, getV_0, getV_s, withO_s, withB_b, bind_one, bind_two, List.set_cons_zero, List.set_cons_succ, wipeE, Nat.zero_add, atI_0, atI_1, atI_2, atI_3, see_int, see_bl, see_str, see_non, dep_int, dep_bl, dep_str, dep_non, Nat.zero_min, Nat.min_zero, Nat.zero_le, true_imp_iff, false_imp_iff, Bool.not_false, Bool.not_true, reduceCtorEq, and_true, true_and, List.length_cons, List.length_nil, g.f1, sp_between, iterOf]
                refine ⟨fun b2 => ?_, fun b2 => ?_⟩
                · refine no ?_ h2
                  have : sgs.length ≠ sts.length := by simpa [len_ne] using b2
                  simp [isRow, this]
                · have hl : sgs.length = sts.length := by simpa [len_ne] using b2
                  refine turns_all (fun x => betw x 0 2) trivial (fun z hz k hk => ⟨kn_tyKnown (kns_mem ky hz), hk⟩) ?_
                  simp only [wSs, wS, wE, wEs, wO, wI, wC, wIf, wBin, wSub, startE_cons, startE_nil, List.replicate, getV_0, getV_s, withO_s, withB_b, bind_one, bind_two, List.set_cons_zero, List.set_cons_succ, wipeE, Nat.zero_add, atI_0, atI_1, atI_2, atI_3, see_int, see_bl, see_str, see_non, dep_int, dep_bl, dep_str, dep_non, Nat.zero_min, Nat.min_zero, Nat.zero_le, true_imp_iff, false_imp_iff, Bool.not_false, Bool.not_true, reduceCtorEq, and_true, true_and, List.length_cons, List.length_nil]
                  refine ⟨fun a7 => no ?_ h2, fun a7 => hK4 _ _ ?_⟩
                  · have : (sgs.all fun x => betw x 0 2) = false := by simpa using a7
                    simp [isRow, this]
                  · have hsg : (sgs.all fun x => betw x 0 2) = true := by simpa using a7
                    simp only [wSs, wS, wE, wEs, wO, wI, wC, wIf, wBin, wSub, startE_cons, startE_nil, List.replicate, getV_0, getV_s, withO_s, withB_b, bind_one, bind_two, List.set_cons_zero, List.set_cons_succ, wipeE, Nat.zero_add, atI_0, atI_1, atI_2, atI_3, see_int, see_bl, see_str, see_non, dep_int, dep_bl, dep_str, dep_non, Nat.zero_min, Nat.min_zero, Nat.zero_le, true_imp_iff, false_imp_iff, Bool.not_false, Bool.not_true, reduceCtorEq, and_true, true_and, List.length_cons, List.length_nil, wRng]
                    have h8 : sts.length ≤ 8 := by omega
                    refine ⟨by omega, by omega, ?_⟩
                    refine turns_all (fun x => match x with
                      | .int k => signAt sts sgs k.toNat
                      | _ => false) trivial (fun z hz k hk => ?_) ?_
                    · obtain ⟨j, hj, rfl⟩ := range0_mem hz
                      have hj : j < sts.length := by simpa using hj
                      obtain ⟨t, ts, e1, t1, t2⟩ := state_head hb (List.all_eq_true.mp (show (sts.all fun x => isState x base sts.length) = true by simpa using a5) _ (List.getElem_mem hj))
                      have e2 : sts[j]? = some (.tup (.int t :: ts)) := by rw [List.getElem?_eq_getElem hj, e1]
                      obtain ⟨t', rfl⟩ := Int.eq_ofNat_of_zero_le t1
                      have ht' : t' < sgs.length := by omega
                      have e3 : sgs[t']? = some sgs[t'] := List.getElem?_eq_getElem ht'
                      have e4 : sgs[j]? = some sgs[j] := List.getElem?_eq_getElem (by omega)
                      obtain ⟨p, ep⟩ := betw_int (List.all_eq_true.mp hsg _ (List.getElem_mem ht'))
                      obtain ⟨q, eq⟩ := betw_int (List.all_eq_true.mp hsg _ (List.getElem_mem (show j < sgs.length by omega)))
                      simp only [wCmp, atI_nat, e2, e3, e4, ep, eq, wSs, wS, wE, wEs, wO, wI, wC, wIf, wBin, wSub, startE_cons, startE_nil, List.replicate, getV_0, getV_s, withO_s, withB_b, bind_one, bind_two, List.set_cons_zero, List.set_cons_succ, wipeE, Nat.zero_add, atI_0, atI_1, atI_2, atI_3, see_int, see_bl, see_str, see_non, dep_int, dep_bl, dep_str, dep_non, Nat.zero_min, Nat.min_zero, Nat.zero_le, true_imp_iff, false_imp_iff, Bool.not_false, Bool.not_true, reduceCtorEq, and_true, true_and, List.length_cons, List.length_nil]
                      simpa [signAt, e2, e3, e4, ep, eq] using hk
                    · refine rt_here ?_
                      rw [range0_all]
                      have e : isRow (.tup [.tup sts, .tup sgs]) base = ((List.range sts.length).all fun k => signAt sts sgs k) := by
                        simp only [isRow, hst, hl, hsg, signsOk, Bool.true_and, decide_true]
                      rw [e] at h2
                      simpa using h2
          · refine fin ?_
            rw [Bool.and_eq_false_iff]
            left
            simp at a3 ⊢
            omega
theorem w_is_hall {G : Cfg} {st : Str} (g : HallG G st) : Wk G sp_is_hall n_is_hall b_is_hall := by
  intro args S Q E h
  unfold sp_is_hall at h
  split at h <;> first | contradiction | skip
  rename_i v
  obtain ⟨h1, h2⟩ := h
  have no : ∀ {v : Val}, isHall v = false → Q (.bl (isHall v)) S → rtOf Q (.bl false) S := fun e q => rt_here (by rw [e] at q; exact q)
  unfold b_is_hall
  refine step fun K hK => ?_
  simp only [n_is_hall, wSs, wS, wE, wEs, wO, wI, wC, wIf, wBin, wSub, startE_cons, startE_nil, List.replicate, getV_0, getV_s, withO_s, withB_b, bind_one, bind_two, List.set_cons_zero, List.set_cons_succ, wipeE, Nat.zero_add, atI_0, atI_1, atI_2, atI_3, see_int, see_bl, see_str, see_non, dep_int, dep_bl, dep_str, dep_non, Nat.zero_min, Nat.min_zero, Nat.zero_le, true_imp_iff, false_imp_iff, Bool.not_false, Bool.not_true, reduceCtorEq, and_true, true_and, List.length_cons, List.length_nil]
  refine ⟨kn_tyKnown h1, fun a => ?_, fun a => ?_⟩
  · exact no (by cases v <;> first | rfl | (simp [tyOf] at a)) h2
  · obtain ⟨xs, rfl⟩ := tup_of a
    simp only [wBt, wCmp, wSs, wS, wE, wEs, wO, wI, wC, wIf, wBin, wSub, startE_cons, startE_nil, List.replicate, getV_0, getV_s, withO_s, withB_b, bind_one, bind_two, List.set_cons_zero, List.set_cons_succ, wipeE, Nat.zero_add, atI_0, atI_1, atI_2, atI_3, see_int, see_bl, see_str, see_non, dep_int, dep_bl, dep_str, dep_non, Nat.zero_min, Nat.min_zero, Nat.zero_le, true_imp_iff, false_imp_iff, Bool.not_false, Bool.not_true, reduceCtorEq, and_true, true_and, List.length_cons, List.length_nil, g.f1, sp_between]
    refine ⟨fun b => ?_, fun b => ?_⟩
    · refine no ?_ h2
      match xs, b with
      | [], _ => rfl
      | [_], _ => rfl
      | [_, _], b => simp [int_eq] at b
      | _ :: _ :: _ :: _, _ => rfl
    · match xs, b with
      | [], b => simp [int_eq] at b
      | [_], b => simp [int_eq] at b
      | _ :: _ :: _ :: _, b => simp [int_eq] at b; omega
      | [x, y], _ =>
        have kx : kn S x = true := kns_mem h1 (by simp)
        have ky : kn S y = true := kns_mem h1 (by simp)
        simp only [wSs, wS, wE, wEs, wO, wI, wC, wIf, wBin, wSub, startE_cons, startE_nil, List.replicate, getV_0, getV_s, withO_s, withB_b, bind_one, bind_two, List.set_cons_zero, List.set_cons_succ, wipeE, Nat.zero_add, atI_0, atI_1, atI_2, atI_3, see_int, see_bl, see_str, see_non, dep_int, dep_bl, dep_str, dep_non, Nat.zero_min, Nat.min_zero, Nat.zero_le, true_imp_iff, false_imp_iff, Bool.not_false, Bool.not_true, reduceCtorEq, and_true, true_and, List.length_cons, List.length_nil]
        refine ⟨kn_tyKnown kx, fun a2 => ?_, fun a2 => ?_⟩
        · refine no ?_ h2
          have : betw x 2 3 = false := by simpa using a2
          simp [isHall, this]
        · have hx : betw x 2 3 = true := by simpa using a2
          obtain ⟨i, rfl⟩ := betw_int hx
          have hi := betw_le hx
          refine hK _ _ ?_
          simp only [wSs, wS, wE, wEs, wO, wI, wC, wIf, wBin, wSub, startE_cons, startE_nil, List.replicate, getV_0, getV_s, withO_s, withB_b, bind_one, bind_two, List.set_cons_zero, List.set_cons_succ, wipeE, Nat.zero_add, atI_0, atI_1, atI_2, atI_3, see_int, see_bl, see_str, see_non, dep_int, dep_bl, dep_str, dep_non, Nat.zero_min, Nat.min_zero, Nat.zero_le, true_imp_iff, false_imp_iff, Bool.not_false, Bool.not_true, reduceCtorEq, and_true, true_and, List.length_cons, List.length_nil]
          refine ⟨kn_tyKnown ky, fun a3 => ?_, fun a3 => ?_⟩
          · obtain ⟨rows, rfl⟩ := tup_of' a3
            simp only [wBt, wCmp, wSs, wS, wE, wEs, wO, wI, wC, wIf, wBin, wSub, startE_cons, startE_nil, List.replicate, getV_0, getV_s, withO_s, withB_b, bind_one, bind_two, List.set_cons_zero, List.set_cons_succ, wipeE, Nat.zero_add, atI_0, atI_1, atI_2, atI_3, see_int, see_bl, see_str, see_non, dep_int, dep_bl, dep_str, dep_non, Nat.zero_min, Nat.min_zero, Nat.zero_le, true_imp_iff, false_imp_iff, Bool.not_false, Bool.not_true, reduceCtorEq, and_true, true_and, List.length_cons, List.length_nil, iterOf, g.f3, sp_is_row]
            refine ⟨fun a4 => ?_, fun a4 => ?_⟩
            · refine turns_all (fun r => isRow r i) trivial (fun z hz k hk => ⟨kns_mem ky hz, hi, hk⟩) (rt_here ?_)
              have : isHall (.tup [.int i, .tup rows]) = rows.all fun r => isRow r i := by
                have h3 : rows.length ≤ 3 := by
                  have := of_decide_eq_true a4
                  omega
                simp [isHall, hx, h3]
              rw [this] at h2
              exact h2
            · refine no ?_ h2
              have h3 : ¬ rows.length ≤ 3 := by
                have := of_decide_eq_false a4
                omega
              simp [isHall, h3]
          · refine no ?_ h2
            cases y <;> first | (simp [isHall]; done) | (simp [tyOf] at a3)
theorem w_checked {G : Cfg} {st : Str} (g : HallG G st) : Wk G sp_checked n_checked b_checked := by
  intro args S Q E h
  unfold sp_checked at h
  split at h <;> first | contradiction | skip
  rename_i v
  obtain ⟨h1, h2, h3⟩ := h
  unfold b_checked
  refine step fun K hK => ?_
  simp only [n_checked, wSs, wS, wE, wEs, wO, wI, wC, wIf, wBin, wSub, startE_cons, startE_nil, List.replicate, getV_0, getV_s, withO_s, withB_b, bind_one, bind_two, List.set_cons_zero, List.set_cons_succ, wipeE, Nat.zero_add, atI_0, atI_1, atI_2, atI_3, see_int, see_bl, see_str, see_non, dep_int, dep_bl, dep_str, dep_non, Nat.zero_min, Nat.min_zero, Nat.zero_le, true_imp_iff, false_imp_iff, Bool.not_false, Bool.not_true, reduceCtorEq, and_true, true_and, List.length_cons, List.length_nil, g.f4, sp_is_hall]
  refine ⟨h1, fun a => ex_here (h3 (by simpa using a)), fun a => hK _ _ ?_⟩
  simp only [wSs, wS, wE, wEs, wO, wI, wC, wIf, wBin, wSub, startE_cons, startE_nil, List.replicate, getV_0, getV_s, withO_s, withB_b, bind_one, bind_two, List.set_cons_zero, List.set_cons_succ, wipeE, Nat.zero_add, atI_0, atI_1, atI_2, atI_3, see_int, see_bl, see_str, see_non, dep_int, dep_bl, dep_str, dep_non, Nat.zero_min, Nat.min_zero, Nat.zero_le, true_imp_iff, false_imp_iff, Bool.not_false, Bool.not_true, reduceCtorEq, and_true, true_and, List.length_cons, List.length_nil]
  exact rt_here (h2 (by simpa using a))
theorem w_need_row {G : Cfg} {st : Str} (g : HallG G st) : Wk G sp_need_row n_need_row b_need_row := by
  intro args S Q E h
  unfold sp_need_row at h
  split at h <;> first | contradiction | skip
  rename_i v r
  obtain ⟨h1, h2, h3, h4⟩ := h
  unfold b_need_row
  refine step fun K hK => ?_
  simp only [n_need_row, wSs, wS, wE, wEs, wO, wI, wC, wIf, wBin, wSub, startE_cons, startE_nil, List.replicate, getV_0, getV_s, withO_s, withB_b, bind_one, bind_two, List.set_cons_zero, List.set_cons_succ, wipeE, Nat.zero_add, atI_0, atI_1, atI_2, atI_3, see_int, see_bl, see_str, see_non, dep_int, dep_bl, dep_str, dep_non, Nat.zero_min, Nat.min_zero, Nat.zero_le, true_imp_iff, false_imp_iff, Bool.not_false, Bool.not_true, reduceCtorEq, and_true, true_and, List.length_cons, List.length_nil, g.f5, sp_checked]
  refine ⟨h1, fun a => hK _ _ (step fun K2 hK2 => ?_), fun a => ex_here (h4 a)⟩
  obtain ⟨i, rows, rfl⟩ : ∃ i rows, v = .tup [i, .tup rows] := by
    cases v <;> first | (simp [isHall] at a; done) | skip
    rename_i xs
    match xs, a with
    | [x, y], a =>
      cases y <;> first | (simp [isHall] at a; done) | exact ⟨_, _, rfl⟩
  simp only [wSs, wS, wE, wEs, wO, wI, wC, wIf, wBin, wSub, startE_cons, startE_nil, List.replicate, getV_0, getV_s, withO_s, withB_b, bind_one, bind_two, List.set_cons_zero, List.set_cons_succ, wipeE, Nat.zero_add, atI_0, atI_1, atI_2, atI_3, see_int, see_bl, see_str, see_non, dep_int, dep_bl, dep_str, dep_non, Nat.zero_min, Nat.min_zero, Nat.zero_le, true_imp_iff, false_imp_iff, Bool.not_false, Bool.not_true, reduceCtorEq, and_true, true_and, List.length_cons, List.length_nil, wBt, g.f1, sp_between]
  refine ⟨kn_tyKnown h2, fun b => ex_here ((h3 a).2 (by simpa [rowsN] using b)), fun b => hK2 _ _ ?_⟩
  simp only [wSs, wS, wE, wEs, wO, wI, wC, wIf, wBin, wSub, startE_cons, startE_nil, List.replicate, getV_0, getV_s, withO_s, withB_b, bind_one, bind_two, List.set_cons_zero, List.set_cons_succ, wipeE, Nat.zero_add, atI_0, atI_1, atI_2, atI_3, see_int, see_bl, see_str, see_non, dep_int, dep_bl, dep_str, dep_non, Nat.zero_min, Nat.min_zero, Nat.zero_le, true_imp_iff, false_imp_iff, Bool.not_false, Bool.not_true, reduceCtorEq, and_true, true_and, List.length_cons, List.length_nil]
  exact rt_here ((h3 a).1 (by simpa [rowsN] using b))
end DL

set_option Elab.async false
set_option linter.all false
set_option maxRecDepth 100000
set_option maxHeartbeats 4000000
/-! Own layer, plain part 3: figures and signs. -/
namespace DL
open PySem
/-- the figures, the least one first -/
def digs (b n : Nat) : List Nat := if h : 2 ≤ b ∧ 0 < n then n % b :: digs b (n / b) else []
termination_by n
decreasing_by exact Nat.div_lt_self h.2 (by omega)
theorem digs_zero (b : Nat) : digs b 0 = [] := by
  rw [digs]
  simp
theorem digs_pos {b n : Nat} (hb : 2 ≤ b) (hn : 0 < n) : digs b n = n % b :: digs b (n / b) := by
  rw [digs, dif_pos ⟨hb, hn⟩]
theorem digs_lt {b : Nat} (hb : 2 ≤ b) : ∀ (n d : Nat), d ∈ digs b n → d < b := by
  intro n
  induction n using Nat.strongRecOn with
  | _ n ih =>
    intro d h
    by_cases hn : 0 < n
    · rw [digs_pos hb hn] at h
      rcases List.mem_cons.mp h with e | e
      · rw [e]; exact Nat.mod_lt _ (by omega)
      · exact ih _ (Nat.div_lt_self hn (by omega)) d e
    · have : n = 0 := by omega
      subst this
      rw [digs_zero] at h
      simp at h
/-- a row: for each state its steps, its sign -/
structure Row where
  steps : List (List Nat)
  signs : List Nat
def natV (n : Nat) : Val := .int n
def Row.val (r : Row) : Val := .tup [.tup (r.steps.map fun s => .tup (s.map natV)), .tup (r.signs.map natV)]
structure Row.Ok (r : Row) (b : Nat) : Prop where
  pos : 1 ≤ r.steps.length
  most : r.steps.length ≤ 8
  wide : ∀ s ∈ r.steps, s.length = b
  to : ∀ s ∈ r.steps, ∀ t ∈ s, t < r.steps.length
  sg : r.signs.length = r.steps.length
  two : ∀ x ∈ r.signs, x ≤ 2
  same : ∀ k (h : k < r.steps.length), ∀ t, r.steps[k].head? = some t → r.signs[t]? = r.signs[k]?
/-- where a row's state goes -/
def Row.go (r : Row) (s d : Nat) : Nat := ((r.steps[s]?.getD [])[d]?).getD 0
def Row.run (r : Row) (s : Nat) (ds : List Nat) : Nat := ds.foldl r.go s
def Row.sign (r : Row) (b n : Nat) : Nat := (r.signs[r.run 0 (digs b n)]?).getD 0
theorem Row.Ok.go {r : Row} {b s d : Nat} (o : r.Ok b) (hs : s < r.steps.length) (hd : d < b) : ∃ st, r.steps[s]? = some st ∧ st[d]? = some (r.go s d) ∧ r.go s d < r.steps.length := by
  have e1 : r.steps[s]? = some r.steps[s] := List.getElem?_eq_getElem hs
  have hw := o.wide _ (List.getElem_mem hs)
  have e2 : r.steps[s][d]? = some (r.steps[s][d]'(by omega)) := List.getElem?_eq_getElem (by omega)
  have e3 : r.go s d = r.steps[s][d]'(by omega) := by simp [Row.go, e1, e2]
  refine ⟨_, e1, by rw [e2, e3], ?_⟩
  rw [e3]
  exact o.to _ (List.getElem_mem hs) _ (List.getElem_mem _)
theorem Row.Ok.run {r : Row} {b : Nat} (o : r.Ok b) : ∀ (ds : List Nat) (s : Nat), s < r.steps.length → (∀ d ∈ ds, d < b) → r.run s ds < r.steps.length
  | [], s, hs, _ => hs
  | d :: ds, s, hs, h => by
    obtain ⟨_, _, _, h3⟩ := o.go hs (h d (by simp))
    exact Row.Ok.run o ds _ h3 fun x hx => h x (by simp [hx])
/-- the numbers of a row of values -/
def natsV : List Val → List Nat
  | [] => []
  | .int i :: r => i.toNat :: natsV r
  | _ :: r => 0 :: natsV r
theorem natsV_eq {xs : List Val} {lo hi : Int} (h0 : 0 ≤ lo) (h : ∀ x ∈ xs, betw x lo hi = true) : xs = (natsV xs).map natV := by
  induction xs with
  | nil => rfl
  | cons x xs ih =>
    obtain ⟨i, rfl⟩ := betw_int (h x (by simp))
    have := betw_le (h (.int i) (by simp))
    simp only [natsV, List.map_cons, natV]
    rw [← ih fun y hy => h y (by simp [hy]), Int.toNat_of_nonneg (by omega)]
theorem natsV_len (xs : List Val) : (natsV xs).length = xs.length := by
  induction xs with
  | nil => rfl
  | cons x xs ih => cases x <;> simp [natsV, ih]
theorem natsV_map (ns : List Nat) : natsV (ns.map natV) = ns := by
  induction ns with
  | nil => rfl
  | cons n ns ih => simp [natsV, natV, ih]
def rowOf (v : Val) : Row := match v with
  | .tup [.tup st, .tup sg] => ⟨st.map fun s => match s with
    | .tup xs => natsV xs
    | _ => [], natsV sg⟩
  | _ => ⟨[], []⟩
theorem betw_nat {n : Nat} {lo hi : Int} : betw (natV n) lo hi = (decide (lo ≤ (n : Int)) && decide ((n : Int) ≤ hi)) := rfl
theorem row_of {v : Val} {b : Nat} (hb : 2 ≤ b) (h : isRow v b = true) : v = (rowOf v).val ∧ (rowOf v).Ok b := by
  cases v <;> simp only [isRow] at h <;> first | (cases h; done) | skip
  rename_i xs
  match xs, h with
  | [x, y], h =>
    simp only at h
    cases x <;> simp only [] at h <;> first | (cases h; done) | skip
    rename_i st
    cases y <;> simp only [Bool.and_false] at h <;> first | (cases h; done) | skip
    rename_i sg
    simp only [Bool.and_eq_true, decide_eq_true_eq, List.all_eq_true] at h
    obtain ⟨⟨h1, h2⟩, ⟨h3, h4⟩, h5⟩ := h
    have hst : ∀ s ∈ st, ∃ ns : List Nat, s = .tup (ns.map natV) ∧ ns.length = b ∧ ∀ t ∈ ns, t < st.length := by
      intro s hs
      have q := h2 s hs
      cases s <;> simp only [isState] at q <;> first | (cases q; done) | skip
      rename_i ts
      simp only [Bool.and_eq_true, decide_eq_true_eq, List.all_eq_true] at q
      have e := natsV_eq (Int.le_refl 0) q.2
      refine ⟨natsV ts, by rw [← e], by rw [natsV_len]; omega, fun t ht => ?_⟩
      have : natV t ∈ ts := by rw [e]; exact List.mem_map.mpr ⟨t, ht, rfl⟩
      have := betw_le (q.2 _ this)
      omega
    have e2 := natsV_eq (Int.le_refl 0) h4
    have e1 : st = (rowOf (.tup [.tup st, .tup sg])).steps.map fun s => .tup (s.map natV) := by
      show st = (st.map _).map _
      rw [List.map_map]
      conv => lhs; rw [← List.map_id st]
      refine List.map_congr_left fun s hs => ?_
      obtain ⟨ns, rfl, _, _⟩ := hst s hs
      show Val.tup (ns.map natV) = .tup ((natsV (ns.map natV)).map natV)
      rw [natsV_map]
    refine ⟨?_, ?_⟩
    · show Val.tup [.tup st, .tup sg] = .tup [.tup _, .tup ((natsV sg).map natV)]
      rw [← e2, ← e1]
    · have hm : ∀ s ∈ (rowOf (.tup [.tup st, .tup sg])).steps, s.length = b ∧ ∀ t ∈ s, t < st.length := by
        intro s hs
        obtain ⟨v, hv, rfl⟩ := List.mem_map.mp hs
        obtain ⟨ns, rfl, h7, h8⟩ := hst v hv
        simp only [natsV_map]
        exact ⟨h7, h8⟩
      have hl : (rowOf (.tup [.tup st, .tup sg])).steps.length = st.length := by simp [rowOf]
      refine ⟨by rw [hl]; omega, by rw [hl]; omega, fun s hs => (hm s hs).1, fun s hs t ht => by rw [hl]; exact (hm s hs).2 t ht, by rw [hl]; simp [rowOf, natsV_len]; omega, fun x hx => ?_, fun k hk t ht => ?_⟩
      · have : natV x ∈ sg := by rw [e2]; exact List.mem_map.mpr ⟨x, hx, rfl⟩
        have := betw_le (h4 _ this)
        omega
      · have hk' : k < st.length := by rw [hl] at hk; exact hk
        have q := List.all_eq_true.mp h5 k (List.mem_range.mpr hk')
        obtain ⟨ns, e3, h7, h8⟩ := hst _ (List.getElem_mem hk')
        have e4 : st[k]? = some (.tup (ns.map natV)) := by rw [List.getElem?_eq_getElem hk', e3]
        have e5 : (rowOf (.tup [.tup st, .tup sg])).steps[k] = ns := by
          simp only [rowOf, List.getElem_map, e3, natsV_map]
        rw [e5] at ht
        cases ns with
        | nil => cases ht
        | cons a as =>
          have : a = t := by simpa using ht
          subst this
          show (natsV sg)[a]? = (natsV sg)[k]?
          have ha : a < (natsV sg).length := by
            rw [natsV_len]
            have := h8 a (by simp)
            omega
          have hk2 : k < (natsV sg).length := by rw [natsV_len]; omega
          unfold signAt at q
          rw [e4] at q
          rw [e2] at q
          simp only [List.getElem?_map, List.map_cons, natV, List.getElem?_eq_getElem ha, List.getElem?_eq_getElem hk2, Option.map_some, Int.toNat_natCast] at q
          rw [List.getElem?_eq_getElem ha, List.getElem?_eq_getElem hk2]
          have := (len_ne _ _).symm.trans q
          simp at this
          rw [this]
end DL

set_option Elab.async false
set_option linter.all false
set_option maxRecDepth 100000
set_option maxHeartbeats 4000000
/-! Own layer, plain part 4: figures and signs, the walks. -/
namespace DL
open PySem
def sp_figures_of : Spec := fun vs S Q _ => match vs with
  | [.int b, .int n] => (2 ≤ b ∧ b ≤ 3) ∧ ∃ m : Nat, n = (m : Int) ∧ (digs b.toNat m).length < line ∧ ∀ p, S p = none → Q (.ref p) (up S p (.lst ((digs b.toNat m).map natV)))
  | _ => False
def sp_sign_of : Spec := fun vs S Q _ => match vs with
  | [.int b, r, .int n] => (2 ≤ b ∧ b ≤ 3) ∧ isRow r b = true ∧ ∃ m : Nat, n = (m : Int) ∧ (digs b.toNat m).length < line ∧ Q (natV ((rowOf r).sign b.toNat m)) S
  | _ => False
/-- a hall's base, its rows -/
def baseOf (h : Val) : Nat := match h with
  | .tup [.int b, _] => b.toNat
  | _ => 0
def rowsOf (h : Val) : List Val := match h with
  | .tup [_, .tup rows] => rows
  | _ => []
theorem hall_of {h : Val} (q : isHall h = true) : ∃ (b : Nat) (rows : List Val), h = .tup [.int b, .tup rows] ∧ (2 ≤ b ∧ b ≤ 3) ∧ rows.length ≤ 3 ∧ ∀ r ∈ rows, isRow r b = true := by
  cases h <;> simp only [isHall] at q <;> first | (cases q; done) | skip
  rename_i xs
  match xs, q with
  | [x, y], q =>
    simp only [Bool.and_eq_true] at q
    obtain ⟨q1, q2⟩ := q
    obtain ⟨i, rfl⟩ := betw_int q1
    have := betw_le q1
    obtain ⟨b, rfl⟩ := Int.eq_ofNat_of_zero_le (show 0 ≤ i by omega)
    cases y <;> simp only [] at q2 <;> first | (cases q2; done) | skip
    rename_i rows
    simp only [Bool.and_eq_true, decide_eq_true_eq, List.all_eq_true] at q2
    exact ⟨b, rows, rfl, by omega, q2.1, q2.2⟩
def sp_sign_at : Spec := fun vs S Q E => match vs with
  | [h, r, n] => kn S h = true ∧ kn S r = true ∧ kn S n = true ∧ (isHall h = false → E 1 S) ∧ (isHall h = true → (betw r 0 (rowsN h - 1) = false → E 5 S) ∧
      (betw r 0 (rowsN h - 1) = true → (∀ m : Nat, n = .int m → (digs (baseOf h) m).length < line ∧ ∀ k : Nat, r = .int k → ∀ w, (rowsOf h)[k]? = some w → Q (natV ((rowOf w).sign (baseOf h) m)) S) ∧ ((∀ m : Nat, n ≠ .int m) → E 5 S)))
  | _ => False
structure SignG (G : Cfg) (st : Str) : Prop extends HallG G st where
  f7 : G.fn 7 = some sp_figures_of
  f8 : G.fn 8 = some sp_sign_of
  f9 : G.fn 9 = some sp_sign_at
theorem up_up (S : Sto) (p : Addr) (o o2 : Ob) : up (up S p o) p o2 = up S p o2 := by
  funext a
  unfold up
  split <;> rfl
theorem up_le {S : Sto} {p : Addr} {o : Ob} (n : S p = none) : Sto.le S (up S p o) := fun a ob h => by
  unfold up
  split
  · rename_i e
    subst e
    rw [n] at h
    cases h
  · exact h
theorem w_figures_of {G : Cfg} {st : Str} (g : SignG G st) : Wk G sp_figures_of n_figures_of b_figures_of := by
  intro args S Q E h
  unfold sp_figures_of at h
  split at h <;> first | contradiction | skip
  rename_i b n
  obtain ⟨hb, m, rfl, hl, h2⟩ := h
  obtain ⟨b, rfl⟩ := Int.eq_ofNat_of_zero_le (show 0 ≤ b by omega)
  rw [Int.toNat_natCast] at h2 hl
  unfold b_figures_of
  refine step fun K hK => ?_
  simp only [n_figures_of, wSs, wS, wE, wEs, wO, wI, wC, wIf, wBin, wSub, startE_cons, startE_nil, List.replicate, getV_0, getV_s, withO_s, withB_b, bind_one, bind_two, List.set_cons_zero, List.set_cons_succ, wipeE, Nat.zero_add, atI_0, atI_1, atI_2, atI_3, see_int, see_bl, see_str, see_non, dep_int, dep_bl, dep_str, dep_non, Nat.zero_min, Nat.min_zero, Nat.zero_le, true_imp_iff, false_imp_iff, Bool.not_false, Bool.not_true, reduceCtorEq, and_true, true_and, List.length_cons, List.length_nil]
  intro p hp
  refine hK _ _ (step fun K2 hK2 => ?_)
  simp only [wSs, wS, wE, wEs, wO, wI, wC, wIf, wBin, wSub, startE_cons, startE_nil, List.replicate, getV_0, getV_s, withO_s, withB_b, bind_one, bind_two, List.set_cons_zero, List.set_cons_succ, wipeE, Nat.zero_add, atI_0, atI_1, atI_2, atI_3, see_int, see_bl, see_str, see_non, dep_int, dep_bl, dep_str, dep_non, Nat.zero_min, Nat.min_zero, Nat.zero_le, true_imp_iff, false_imp_iff, Bool.not_false, Bool.not_true, reduceCtorEq, and_true, true_and, List.length_cons, List.length_nil, wCmp]
  refine ⟨fun k e S' => ∃ (j : Nat) (done : List Nat), k = j ∧ done ++ digs b j = digs b m ∧ e = [some (.int b), some (.int j), some (.ref p)] ∧ S' = up S p (.lst (done.map natV)), ⟨m, m, [], rfl, rfl, rfl, rfl⟩, ?_⟩
  rintro k e S' ⟨j, done, rfl, hd, rfl, rfl⟩
  simp only [wSs, wS, wE, wEs, wO, wI, wC, wIf, wBin, wSub, startE_cons, startE_nil, List.replicate, getV_0, getV_s, withO_s, withB_b, bind_one, bind_two, List.set_cons_zero, List.set_cons_succ, wipeE, Nat.zero_add, atI_0, atI_1, atI_2, atI_3, see_int, see_bl, see_str, see_non, dep_int, dep_bl, dep_str, dep_non, Nat.zero_min, Nat.min_zero, Nat.zero_le, true_imp_iff, false_imp_iff, Bool.not_false, Bool.not_true, reduceCtorEq, and_true, true_and, List.length_cons, List.length_nil, wCmp, recv, wMt, up_same]
  refine ⟨fun a => ?_, fun a => hK2 _ _ ?_⟩
  · have hj : 0 < k := by
      have := of_decide_eq_true a
      omega
    rw [digs_pos (by omega) hj] at hd
    have hlen : done.length < line := by
      have := congrArg List.length hd
      simp at this
      omega
    refine ⟨by omega, by simpa using hlen, by omega, by omega, k / b, Nat.div_lt_self hj (by omega), k / b, done ++ [k % b], rfl, by simpa using hd, ?_, ?_⟩
    · simp
    · rw [up_up]
      simp [natV]
  · have hj : k = 0 := by
      have := of_decide_eq_false a
      omega
    subst hj
    rw [digs_zero, List.append_nil] at hd
    subst hd
    simp only [wSs, wS, wE, wEs, wO, wI, wC, wIf, wBin, wSub, startE_cons, startE_nil, List.replicate, getV_0, getV_s, withO_s, withB_b, bind_one, bind_two, List.set_cons_zero, List.set_cons_succ, wipeE, Nat.zero_add, atI_0, atI_1, atI_2, atI_3, see_int, see_bl, see_str, see_non, dep_int, dep_bl, dep_str, dep_non, Nat.zero_min, Nat.min_zero, Nat.zero_le, true_imp_iff, false_imp_iff, Bool.not_false, Bool.not_true, reduceCtorEq, and_true, true_and, List.length_cons, List.length_nil]
    exact rt_here (h2 p hp)
theorem w_sign_of {G : Cfg} {st : Str} (g : SignG G st) : Wk G sp_sign_of n_sign_of b_sign_of := by
  intro args S Q E h
  unfold sp_sign_of at h
  split at h <;> first | contradiction | skip
  rename_i b r n
  obtain ⟨hb, hr, m, rfl, hl, h2⟩ := h
  obtain ⟨b, rfl⟩ := Int.eq_ofNat_of_zero_le (show 0 ≤ b by omega)
  rw [Int.toNat_natCast] at h2 hl
  obtain ⟨er, ok⟩ := row_of (by omega) hr
  generalize rowOf r = R at er ok h2
  subst er
  have hdl := digs_lt (b := b) (by omega) m
  unfold b_sign_of
  refine step fun K hK => ?_
  simp only [n_sign_of, wSs, wS, wE, wEs, wO, wI, wC, wIf, wBin, wSub, startE_cons, startE_nil, List.replicate, getV_0, getV_s, withO_s, withB_b, bind_one, bind_two, List.set_cons_zero, List.set_cons_succ, wipeE, Nat.zero_add, atI_0, atI_1, atI_2, atI_3, see_int, see_bl, see_str, see_non, dep_int, dep_bl, dep_str, dep_non, Nat.zero_min, Nat.min_zero, Nat.zero_le, true_imp_iff, false_imp_iff, Bool.not_false, Bool.not_true, reduceCtorEq, and_true, true_and, List.length_cons, List.length_nil]
  refine hK _ _ (step fun K2 hK2 => ?_)
  simp only [wSs, wS, wE, wEs, wO, wI, wC, wIf, wBin, wSub, startE_cons, startE_nil, List.replicate, getV_0, getV_s, withO_s, withB_b, bind_one, bind_two, List.set_cons_zero, List.set_cons_succ, wipeE, Nat.zero_add, atI_0, atI_1, atI_2, atI_3, see_int, see_bl, see_str, see_non, dep_int, dep_bl, dep_str, dep_non, Nat.zero_min, Nat.min_zero, Nat.zero_le, true_imp_iff, false_imp_iff, Bool.not_false, Bool.not_true, reduceCtorEq, and_true, true_and, List.length_cons, List.length_nil, g.f7, sp_figures_of]
  refine ⟨hb, m, rfl, by simpa using hl, fun p hp => ?_⟩
  simp only [iterOf, up_same, wSs, wS, wE, wEs, wO, wI, wC, wIf, wBin, wSub, startE_cons, startE_nil, List.replicate, getV_0, getV_s, withO_s, withB_b, bind_one, bind_two, List.set_cons_zero, List.set_cons_succ, wipeE, Nat.zero_add, atI_0, atI_1, atI_2, atI_3, see_int, see_bl, see_str, see_non, dep_int, dep_bl, dep_str, dep_non, Nat.zero_min, Nat.min_zero, Nat.zero_le, true_imp_iff, false_imp_iff, Bool.not_false, Bool.not_true, reduceCtorEq, and_true, true_and, List.length_cons, List.length_nil, Int.toNat_natCast]
  refine for_inv (fun rest e S' => ∃ (ds : List Nat) (s : Nat) (e4 : Option Val), rest = ds.map natV ∧ s < R.steps.length ∧ (∀ d ∈ ds, d < b) ∧ R.run s ds = R.run 0 (digs b m) ∧
      e = [some (.int b), some R.val, some (.int m), some (.int s), e4] ∧ S' = up S p (.lst ((digs b m).map natV))) ?_ ?_ _ _ _ ⟨digs b m, 0, none, rfl, ok.pos, hdl, rfl, rfl, rfl⟩
  · rintro x rest e S' ⟨ds, s, e4, hr', hs, hds, hrun, rfl, rfl⟩
    cases ds with
    | nil => cases hr'
    | cons d ds =>
      cases hr'
      refine ⟨up_same, ?_⟩
      simp only [wSs, wS, wE, wEs, wO, wI, wC, wIf, wBin, wSub, startE_cons, startE_nil, List.replicate, getV_0, getV_s, withO_s, withB_b, bind_one, bind_two, List.set_cons_zero, List.set_cons_succ, wipeE, Nat.zero_add, atI_0, atI_1, atI_2, atI_3, see_int, see_bl, see_str, see_non, dep_int, dep_bl, dep_str, dep_non, Nat.zero_min, Nat.min_zero, Nat.zero_le, true_imp_iff, false_imp_iff, Bool.not_false, Bool.not_true, reduceCtorEq, and_true, true_and, List.length_cons, List.length_nil]
      intro k hk
      obtain ⟨st', e1, e2, e3⟩ := ok.go hs (hds d (by simp))
      simp only [wSs, wS, wE, wEs, wO, wI, wC, wIf, wBin, wSub, startE_cons, startE_nil, List.replicate, getV_0, getV_s, withO_s, withB_b, bind_one, bind_two, List.set_cons_zero, List.set_cons_succ, wipeE, Nat.zero_add, atI_0, atI_1, atI_2, atI_3, see_int, see_bl, see_str, see_non, dep_int, dep_bl, dep_str, dep_non, Nat.zero_min, Nat.min_zero, Nat.zero_le, true_imp_iff, false_imp_iff, Bool.not_false, Bool.not_true, reduceCtorEq, and_true, true_and, List.length_cons, List.length_nil, Row.val, natV, atI_nat, List.getElem?_map, e1, e2, Option.map_some]
      refine hk _ _ ⟨ds, R.go s d, some (natV d), rfl, e3, fun x hx => hds x (by simp [hx]), hrun, rfl, rfl⟩
  · rintro e S' ⟨ds, s, e4, hr', hs, hds, hrun, rfl, rfl⟩
    refine ⟨up_same, hK2 _ _ ?_⟩
    cases ds with
    | cons d ds => cases hr'
    | nil =>
      have hs' : s = R.run 0 (digs b m) := hrun
      obtain ⟨i, e5⟩ : ∃ i, R.signs[s]? = some i := ⟨_, List.getElem?_eq_getElem (by rw [ok.sg]; exact hs)⟩
      have e6 : R.sign b m = i := by
        unfold Row.sign
        rw [← hs', e5]
        rfl
      rw [e6] at h2
      simp only [wSs, wS, wE, wEs, wO, wI, wC, wIf, wBin, wSub, startE_cons, startE_nil, List.replicate, getV_0, getV_s, withO_s, withB_b, bind_one, bind_two, List.set_cons_zero, List.set_cons_succ, wipeE, Nat.zero_add, atI_0, atI_1, atI_2, atI_3, see_int, see_bl, see_str, see_non, dep_int, dep_bl, dep_str, dep_non, Nat.zero_min, Nat.min_zero, Nat.zero_le, true_imp_iff, false_imp_iff, Bool.not_false, Bool.not_true, reduceCtorEq, and_true, true_and, List.length_cons, List.length_nil, Row.val, atI_nat, List.getElem?_map, e5, Option.map_some]
      exact ⟨S, up_le hp, h2⟩
theorem w_sign_at {G : Cfg} {st : Str} (g : SignG G st) : Wk G sp_sign_at n_sign_at b_sign_at := by
  intro args S Q E h
  unfold sp_sign_at at h
  split at h <;> first | contradiction | skip
  rename_i hl r n
  obtain ⟨h1, h2, h3, h4, h5⟩ := h
  unfold b_sign_at
  refine step fun K hK => ?_
  simp only [n_sign_at, wSs, wS, wE, wEs, wO, wI, wC, wIf, wBin, wSub, startE_cons, startE_nil, List.replicate, getV_0, getV_s, withO_s, withB_b, bind_one, bind_two, List.set_cons_zero, List.set_cons_succ, wipeE, Nat.zero_add, atI_0, atI_1, atI_2, atI_3, see_int, see_bl, see_str, see_non, dep_int, dep_bl, dep_str, dep_non, Nat.zero_min, Nat.min_zero, Nat.zero_le, true_imp_iff, false_imp_iff, Bool.not_false, Bool.not_true, reduceCtorEq, and_true, true_and, List.length_cons, List.length_nil, g.f6, sp_need_row]
  refine ⟨h1, h2, fun a => ⟨fun b => hK _ _ (step fun K2 hK2 => ?_), fun b => ex_here ((h5 a).1 b)⟩, fun a => ex_here (h4 a)⟩
  obtain ⟨hh1, hh2⟩ := (h5 a).2 b
  simp only [wSs, wS, wE, wEs, wO, wI, wC, wIf, wBin, wSub, startE_cons, startE_nil, List.replicate, getV_0, getV_s, withO_s, withB_b, bind_one, bind_two, List.set_cons_zero, List.set_cons_succ, wipeE, Nat.zero_add, atI_0, atI_1, atI_2, atI_3, see_int, see_bl, see_str, see_non, dep_int, dep_bl, dep_str, dep_non, Nat.zero_min, Nat.min_zero, Nat.zero_le, true_imp_iff, false_imp_iff, Bool.not_false, Bool.not_true, reduceCtorEq, and_true, true_and, List.length_cons, List.length_nil, g.f0, sp_is_whole, wCmp]
  refine ⟨kn_tyKnown h3, fun c => ?_, fun c => ?_⟩
  · refine ex_here (hh2 fun m e => ?_)
    rw [e] at c
    simp [isWhole] at c
  · cases n <;> simp [isWhole] at c
    rename_i n
    simp only [wSs, wS, wE, wEs, wO, wI, wC, wIf, wBin, wSub, startE_cons, startE_nil, List.replicate, getV_0, getV_s, withO_s, withB_b, bind_one, bind_two, List.set_cons_zero, List.set_cons_succ, wipeE, Nat.zero_add, atI_0, atI_1, atI_2, atI_3, see_int, see_bl, see_str, see_non, dep_int, dep_bl, dep_str, dep_non, Nat.zero_min, Nat.min_zero, Nat.zero_le, true_imp_iff, false_imp_iff, Bool.not_false, Bool.not_true, reduceCtorEq, and_true, true_and, List.length_cons, List.length_nil]
    refine ⟨fun d => ex_here (hh2 fun m e => ?_), fun d => hK2 _ _ ?_⟩
    · cases e
      have := of_decide_eq_true d
      omega
    · have d := of_decide_eq_false d
      obtain ⟨m, rfl⟩ := Int.eq_ofNat_of_zero_le (show 0 ≤ n by omega)
      obtain ⟨bb, rows, rfl, hb, hrl, hrow⟩ := hall_of a
      obtain ⟨i, rfl⟩ := betw_int b
      have hi := betw_le b
      obtain ⟨k, rfl⟩ := Int.eq_ofNat_of_zero_le hi.1
      have hk : k < rows.length := by
        have := hi.2
        simp only [rowsN] at this
        omega
      have e1 : rows[k]? = some rows[k] := List.getElem?_eq_getElem hk
      obtain ⟨q1, q2⟩ := hh1 m rfl
      have q3 := q2 k rfl rows[k] e1
      simp only [wSs, wS, wE, wEs, wO, wI, wC, wIf, wBin, wSub, startE_cons, startE_nil, List.replicate, getV_0, getV_s, withO_s, withB_b, bind_one, bind_two, List.set_cons_zero, List.set_cons_succ, wipeE, Nat.zero_add, atI_0, atI_1, atI_2, atI_3, see_int, see_bl, see_str, see_non, dep_int, dep_bl, dep_str, dep_non, Nat.zero_min, Nat.min_zero, Nat.zero_le, true_imp_iff, false_imp_iff, Bool.not_false, Bool.not_true, reduceCtorEq, and_true, true_and, List.length_cons, List.length_nil, atI_nat, e1, g.f8, sp_sign_of]
      refine ⟨by omega, hrow _ (List.getElem_mem hk), m, rfl, by simpa [baseOf] using q1, rt_here ?_⟩
      simpa [baseOf] using q3
end DL

set_option Elab.async false
set_option linter.all false
set_option maxRecDepth 100000
set_option maxHeartbeats 4000000
/-! Own layer, plain part 5: what the laws draw. -/
namespace DL
open PySem
def n__law_cell_at : List Str := ["_law_script", "_law_k"]
def b__law_cell_at : Sms :=
  (.cons (.ite (.cmp .lt (.var 1) (.blt .len (.cons (.var 0) .nil)))
    (.cons (.ret (.sub (.var 0) (.var 1)))
      .nil)
    .nil)
  (.cons (.ite (.drop (.cmp .eq (.var 0) (.lst .nil)))
    (.cons (.ret (.int 0))
      .nil)
    .nil)
  (.cons (.ret (.bin .add (.bin .mul (.sub (.var 0) (.bin .mod (.var 1) (.blt .len (.cons (.var 0) .nil)))) (.int 31)) (.var 1)))
  .nil)))

def n__law_mixed : List Str := ["_law_script", "_law_k", "_law_many", "_law_drawn"]
def b__law_mixed : Sms :=
  (.cons (.asg 3 (.bin .mod (.bin .mul (.bin .add (.bin .add (.call 100 (.cons (.var 0) (.cons (.var 1) .nil))) (.bin .mul (.int 7919) (.var 1))) (.int 1)) (.int 48271)) (.int 2147483647)))
  (.cons (.ret (.bin .mod (.bin .mod (.bin .add (.bin .add (.bin .mul (.var 3) (.var 3)) (.bin .mul (.int 7) (.var 3))) (.var 1)) (.int 2147483629)) (.var 2)))
  .nil))

def n__law_next : List Str := ["_law_script", "_law_m", "_law_many"]
def b__law_next : Sms :=
  (.cons (.setI (.var 1) (.int 0) (.bin .add (.sub (.var 1) (.int 0)) (.int 1)))
  (.cons (.ret (.call 101 (.cons (.var 0) (.cons (.sub (.var 1) (.int 0)) (.cons (.var 2) .nil)))))
  .nil))

def n__law_row : List Str := ["_law_script", "_law_m", "_law_base", "_law_most", "_law_many", "_law_k", "_law_signs", "_law_steps", "_law_to", "_law_same", "_law_state", "_law_figure"]
def b__law_row : Sms :=
  (.cons (.asg 4 (.bin .add (.int 1) (.call 102 (.cons (.var 0) (.cons (.var 1) (.cons (.var 3) .nil))))))
  (.cons (.asg 6 (.bltc .tuple (.mk (.one 5) [5] (.call 102 (.cons (.var 0) (.cons (.var 1) (.cons (.int 3) .nil)))) (.rng (.cons (.var 4) .nil)) .none)))
  (.cons (.asg 7 (.lst .nil))
  (.cons (.for (.one 5) (.rng (.cons (.var 4) .nil))
    (.cons (.asg 9 (.comp (.mk (.one 8) [8] (.var 8) (.rng (.cons (.var 4) .nil)) (.some (.cmp .eq (.sub (.var 6) (.var 8)) (.sub (.var 6) (.var 5)))))))
      (.cons (.asg 10 (.lst (.cons (.sub (.var 9) (.call 102 (.cons (.var 0) (.cons (.var 1) (.cons (.blt .len (.cons (.var 9) .nil)) .nil))))) .nil)))
      (.cons (.for (.one 11) (.rng (.cons (.int 1) (.cons (.var 2) .nil)))
        (.cons (.expr (.meth (.var 10) .append (.cons (.call 102 (.cons (.var 0) (.cons (.var 1) (.cons (.var 4) .nil)))) .nil)))
          .nil))
      (.cons (.expr (.meth (.var 7) .append (.cons (.blt .tuple (.cons (.var 10) .nil)) .nil)))
      .nil)))))
  (.cons (.ret (.tup (.cons (.blt .tuple (.cons (.var 7) .nil)) (.cons (.var 6) .nil))))
  .nil)))))

def n__law_hall : List Str := ["_law_script", "_law_m", "_law_most", "_law_base", "_law_k", "_law_rows"]
def b__law_hall : Sms :=
  (.cons (.asg 3 (.bin .add (.int 2) (.bin .fdiv (.call 102 (.cons (.var 0) (.cons (.var 1) (.cons (.int 4) .nil)))) (.int 3))))
  (.cons (.asg 5 (.comp (.mk (.one 4) [4] (.call 103 (.cons (.var 0) (.cons (.var 1) (.cons (.var 3) (.cons (.var 2) .nil))))) (.rng (.cons (.bin .add (.int 1) (.call 102 (.cons (.var 0) (.cons (.var 1) (.cons (.int 2) .nil))))) .nil)) .none)))
  (.cons (.ret (.tup (.cons (.var 3) (.cons (.blt .tuple (.cons (.var 5) .nil)) .nil))))
  .nil)))

def cellAt (ns : List Int) (k : Nat) : Int := if k < ns.length then (ns[k]?).getD 0 else if ns = [] then 0 else (ns[k % ns.length]?).getD 0 * 31 + k
def drawn (ns : List Int) (k : Nat) : Int := (cellAt ns k + 7919 * k + 1) * 48271 % 2147483647
def mixed (ns : List Int) (k : Nat) (many : Int) : Int := (drawn ns k * drawn ns k + 7 * drawn ns k + k) % 2147483629 % many
theorem mixed_in {ns : List Int} {k : Nat} {many : Int} (h : 0 < many) : 0 ≤ mixed ns k many ∧ mixed ns k many < many := ⟨Int.emod_nonneg _ (by omega), Int.emod_lt_of_pos _ h⟩
theorem drawn_in (ns : List Int) (k : Nat) : 0 ≤ drawn ns k ∧ drawn ns k < 2147483647 := ⟨Int.emod_nonneg _ (by decide), Int.emod_lt_of_pos _ (by decide)⟩
def sp_cell_at : Spec := fun vs S Q _ => match vs with
  | [.lst sc, .int k] => ∃ (ns : List Int) (m : Nat), k = m ∧ sc = ns.map .int ∧ Q (.int (cellAt ns m)) S
  | _ => False
def sp_mixed : Spec := fun vs S Q _ => match vs with
  | [.lst sc, .int k, .int many] => ∃ (ns : List Int) (m : Nat), k = m ∧ sc = ns.map .int ∧ 0 < many ∧ Q (.int (mixed ns m many)) S
  | _ => False
def sp_next : Spec := fun vs S Q _ => match vs with
  | [.lst sc, .ref b, .int many] => ∃ (ns : List Int) (m : Nat), sc = ns.map .int ∧ S b = some (.lst [.int m]) ∧ 0 < many ∧ ∀ r : Int, 0 ≤ r → r < many → Q (.int r) (up S b (.lst [.int (m + 1 : Nat)]))
  | _ => False
structure DrawG (G : Cfg) : Prop where
  f100 : G.fn 100 = some sp_cell_at
  f101 : G.fn 101 = some sp_mixed
  f102 : G.fn 102 = some sp_next
theorem ints_at (ns : List Int) (k : Nat) (h : k < ns.length) : (ns.map Val.int)[k]? = some (.int ((ns[k]?).getD 0)) := by
  rw [List.getElem?_map, List.getElem?_eq_getElem h]
  rfl
theorem w_cell_at {G : Cfg} : Wk G sp_cell_at n__law_cell_at b__law_cell_at := by
  intro args S Q E h
  unfold sp_cell_at at h
  split at h <;> first | contradiction | skip
  rename_i sc k
  obtain ⟨ns, m, rfl, rfl, h2⟩ := h
  unfold b__law_cell_at
  refine step fun K hK => ?_
  simp only [n__law_cell_at, wSs, wS, wE, wEs, wO, wI, wC, wIf, wBin, wSub, startE_cons, startE_nil, List.replicate, getV_0, getV_s, withO_s, withB_b, bind_one, bind_two, List.set_cons_zero, List.set_cons_succ, wipeE, Nat.zero_add, atI_0, atI_1, atI_2, atI_3, see_int, see_bl, see_str, see_non, dep_int, dep_bl, dep_str, dep_non, Nat.zero_min, Nat.min_zero, Nat.zero_le, true_imp_iff, false_imp_iff, Bool.not_false, Bool.not_true, reduceCtorEq, and_true, true_and, List.length_cons, List.length_nil, wBt, wCmp, List.length_map]
  refine ⟨fun c => ?_, fun c => hK _ _ (step fun K2 hK2 => ?_)⟩
  · have hk : m < ns.length := by
      have := of_decide_eq_true c
      omega
    rw [atI_nat, ints_at ns m hk]
    simp only [wSs, wS, wE, wEs, wO, wI, wC, wIf, wBin, wSub, startE_cons, startE_nil, List.replicate, getV_0, getV_s, withO_s, withB_b, bind_one, bind_two, List.set_cons_zero, List.set_cons_succ, wipeE, Nat.zero_add, atI_0, atI_1, atI_2, atI_3, see_int, see_bl, see_str, see_non, dep_int, dep_bl, dep_str, dep_non, Nat.zero_min, Nat.min_zero, Nat.zero_le, true_imp_iff, false_imp_iff, Bool.not_false, Bool.not_true, reduceCtorEq, and_true, true_and, List.length_cons, List.length_nil]
    refine rt_here ?_
    have : cellAt ns m = (ns[m]?).getD 0 := if_pos hk
    rw [this] at h2
    exact h2
  · have hk : ¬ m < ns.length := by
      have := of_decide_eq_false c
      omega
    simp only [wSs, wS, wE, wEs, wO, wI, wC, wIf, wBin, wSub, startE_cons, startE_nil, List.replicate, getV_0, getV_s, withO_s, withB_b, bind_one, bind_two, List.set_cons_zero, List.set_cons_succ, wipeE, Nat.zero_add, atI_0, atI_1, atI_2, atI_3, see_int, see_bl, see_str, see_non, dep_int, dep_bl, dep_str, dep_non, Nat.zero_min, Nat.min_zero, Nat.zero_le, true_imp_iff, false_imp_iff, Bool.not_false, Bool.not_true, reduceCtorEq, and_true, true_and, List.length_cons, List.length_nil, wCmp]
    intro p hp
    have e2 : (up S p (.lst [])).see 3 (.ref p) = some (.lst []) := veq_int_list (ns := []) up_same
    have ek : ∀ b : Bool, keep S (up S p (.lst [])) (.bl b) = S := fun b => by rw [keep_up (by simp) hp, keep_self S (by simp)]
    simp only [see_ints, e2, wSs, wS, wE, wEs, wO, wI, wC, wIf, wBin, wSub, startE_cons, startE_nil, List.replicate, getV_0, getV_s, withO_s, withB_b, bind_one, bind_two, List.set_cons_zero, List.set_cons_succ, wipeE, Nat.zero_add, atI_0, atI_1, atI_2, atI_3, see_int, see_bl, see_str, see_non, dep_int, dep_bl, dep_str, dep_non, Nat.zero_min, Nat.min_zero, Nat.zero_le, true_imp_iff, false_imp_iff, Bool.not_false, Bool.not_true, reduceCtorEq, and_true, true_and, List.length_cons, List.length_nil, Val.dep, Val.deps, ek]
    refine ⟨by omega, fun d => ?_, fun d => ?_⟩
    · cases ns with
      | cons i ns => simp [Val.veq, Val.py, Val.pys, PyData.eqv, PyData.eqvAll] at d
      | nil => exact rt_here (by simpa [cellAt] using h2)
    · have hne : ns ≠ [] := by
        intro z
        subst z
        simp [Val.veq, Val.py, Val.pys, PyData.eqv, PyData.eqvAll] at d
      have hl : 0 < ns.length := List.length_pos_iff.mpr hne
      refine hK2 _ _ ?_
      simp only [wSs, wS, wE, wEs, wO, wI, wC, wIf, wBin, wSub, startE_cons, startE_nil, List.replicate, getV_0, getV_s, withO_s, withB_b, bind_one, bind_two, List.set_cons_zero, List.set_cons_succ, wipeE, Nat.zero_add, atI_0, atI_1, atI_2, atI_3, see_int, see_bl, see_str, see_non, dep_int, dep_bl, dep_str, dep_non, Nat.zero_min, Nat.min_zero, Nat.zero_le, true_imp_iff, false_imp_iff, Bool.not_false, Bool.not_true, reduceCtorEq, and_true, true_and, List.length_cons, List.length_nil, wBt, List.length_map]
      have e3 : (m : Int) % (ns.length : Int) = ((m % ns.length : Nat) : Int) := by omega
      refine ⟨by omega, ?_⟩
      rw [e3, atI_nat, ints_at ns _ (Nat.mod_lt _ hl)]
      simp only [wSs, wS, wE, wEs, wO, wI, wC, wIf, wBin, wSub, startE_cons, startE_nil, List.replicate, getV_0, getV_s, withO_s, withB_b, bind_one, bind_two, List.set_cons_zero, List.set_cons_succ, wipeE, Nat.zero_add, atI_0, atI_1, atI_2, atI_3, see_int, see_bl, see_str, see_non, dep_int, dep_bl, dep_str, dep_non, Nat.zero_min, Nat.min_zero, Nat.zero_le, true_imp_iff, false_imp_iff, Bool.not_false, Bool.not_true, reduceCtorEq, and_true, true_and, List.length_cons, List.length_nil]
      refine ⟨.inl (.inr (by omega)), rt_here ?_⟩
      have : cellAt ns m = (ns[m % ns.length]?).getD 0 * 31 + m := by
        unfold cellAt
        rw [if_neg hk, if_neg hne]
      rw [this] at h2
      exact h2
theorem w_mixed {G : Cfg} (g : DrawG G) : Wk G sp_mixed n__law_mixed b__law_mixed := by
  intro args S Q E h
  unfold sp_mixed at h
  split at h <;> first | contradiction | skip
  rename_i sc k many
  obtain ⟨ns, m, rfl, rfl, hm, h2⟩ := h
  unfold b__law_mixed
  refine step fun K hK => ?_
  simp only [n__law_mixed, wSs, wS, wE, wEs, wO, wI, wC, wIf, wBin, wSub, startE_cons, startE_nil, List.replicate, getV_0, getV_s, withO_s, withB_b, bind_one, bind_two, List.set_cons_zero, List.set_cons_succ, wipeE, Nat.zero_add, atI_0, atI_1, atI_2, atI_3, see_int, see_bl, see_str, see_non, dep_int, dep_bl, dep_str, dep_non, Nat.zero_min, Nat.min_zero, Nat.zero_le, true_imp_iff, false_imp_iff, Bool.not_false, Bool.not_true, reduceCtorEq, and_true, true_and, List.length_cons, List.length_nil, g.f100, sp_cell_at]
  refine ⟨ns, m, rfl, rfl, .inl (.inl (by omega)), .inl (.inr (by omega)), by omega, hK _ _ ?_⟩
  have hd := drawn_in ns m
  unfold drawn at hd
  simp only [wSs, wS, wE, wEs, wO, wI, wC, wIf, wBin, wSub, startE_cons, startE_nil, List.replicate, getV_0, getV_s, withO_s, withB_b, bind_one, bind_two, List.set_cons_zero, List.set_cons_succ, wipeE, Nat.zero_add, atI_0, atI_1, atI_2, atI_3, see_int, see_bl, see_str, see_non, dep_int, dep_bl, dep_str, dep_non, Nat.zero_min, Nat.min_zero, Nat.zero_le, true_imp_iff, false_imp_iff, Bool.not_false, Bool.not_true, reduceCtorEq, and_true, true_and, List.length_cons, List.length_nil]
  refine ⟨.inl (.inl (by omega)), .inl (.inl (by omega)), by omega, hm, rt_here h2⟩
theorem w_next {G : Cfg} (g : DrawG G) : Wk G sp_next n__law_next b__law_next := by
  intro args S Q E h
  unfold sp_next at h
  split at h <;> first | contradiction | skip
  rename_i sc b many
  obtain ⟨ns, m, rfl, hb, hm, h2⟩ := h
  unfold b__law_next
  refine step fun K hK => ?_
  have e : L2.ixN 1 0 = some 0 := by decide
  simp only [n__law_next, wSs, wS, wE, wEs, wO, wI, wC, wIf, wBin, wSub, startE_cons, startE_nil, List.replicate, getV_0, getV_s, withO_s, withB_b, bind_one, bind_two, List.set_cons_zero, List.set_cons_succ, wipeE, Nat.zero_add, atI_0, atI_1, atI_2, atI_3, see_int, see_bl, see_str, see_non, dep_int, dep_bl, dep_str, dep_non, Nat.zero_min, Nat.min_zero, Nat.zero_le, true_imp_iff, false_imp_iff, Bool.not_false, Bool.not_true, reduceCtorEq, and_true, true_and, List.length_cons, List.length_nil, hb, wSetI, e]
  refine hK _ _ ?_
  simp only [wSs, wS, wE, wEs, wO, wI, wC, wIf, wBin, wSub, startE_cons, startE_nil, List.replicate, getV_0, getV_s, withO_s, withB_b, bind_one, bind_two, List.set_cons_zero, List.set_cons_succ, wipeE, Nat.zero_add, atI_0, atI_1, atI_2, atI_3, see_int, see_bl, see_str, see_non, dep_int, dep_bl, dep_str, dep_non, Nat.zero_min, Nat.min_zero, Nat.zero_le, true_imp_iff, false_imp_iff, Bool.not_false, Bool.not_true, reduceCtorEq, and_true, true_and, List.length_cons, List.length_nil, up_same, List.set_cons_zero, g.f101, sp_mixed]
  refine ⟨ns, m + 1, by omega, rfl, hm, rt_here ?_⟩
  have := mixed_in (ns := ns) (k := m + 1) hm
  exact h2 _ this.1 this.2
end DL

set_option Elab.async false
set_option linter.all false
set_option maxRecDepth 100000
set_option maxHeartbeats 4000000
/-! Own layer, plain part 6: drawn rows and halls. -/
namespace DL
open PySem
theorem rangeL_nat (n : Nat) : rangeL 0 n 1 = (List.range' 0 n).map natV := by
  unfold rangeL natV
  rw [List.range_eq_range']
  refine List.map_congr_left fun k _ => ?_
  simp
theorem rangeL_from (lo n : Nat) : rangeL lo n 1 = (List.range' lo n).map natV := by
  unfold rangeL natV
  rw [List.range_eq_range', show List.range' lo n = (List.range' 0 n).map (lo + ·) by rw [List.map_add_range']; simp, List.map_map]
  refine List.map_congr_left fun k _ => ?_
  simp
def sp_row : Spec := fun vs S Q _ => match vs with
  | [.lst sc, .ref b, .int base, .int most] => ∃ (ns : List Int) (m : Nat), sc = ns.map .int ∧ S b = some (.lst [.int m]) ∧ (2 ≤ base ∧ base ≤ 3) ∧ (1 ≤ most ∧ most ≤ 8) ∧
      ∀ (R : Row) (j : Nat), R.Ok base.toNat → (R.steps.length : Int) ≤ most → Q R.val (up S b (.lst [.int j]))
  | _ => False
def sp_hall : Spec := fun vs S Q _ => match vs with
  | [.lst sc, .ref b, .int most] => ∃ (ns : List Int) (m : Nat), sc = ns.map .int ∧ S b = some (.lst [.int m]) ∧ (1 ≤ most ∧ most ≤ 8) ∧
      ∀ (base : Nat) (Rs : List Row) (j : Nat), (2 ≤ base ∧ base ≤ 3) → (1 ≤ Rs.length ∧ Rs.length ≤ 2) → (∀ R ∈ Rs, R.Ok base ∧ (R.steps.length : Int) ≤ most) → Q (.tup [.int base, .tup (Rs.map Row.val)]) (up S b (.lst [.int j]))
  | _ => False
structure DrawH (G : Cfg) : Prop extends DrawG G where
  f103 : G.fn 103 = some sp_row
  f104 : G.fn 104 = some sp_hall
theorem w_row {G : Cfg} (g : DrawH G) : Wk G sp_row n__law_row b__law_row := by
  intro args S Q E h
  unfold sp_row at h
  split at h <;> first | contradiction | skip
  rename_i sc b base most
  obtain ⟨ns, m, rfl, hb, hbase, hmost, h2⟩ := h
  obtain ⟨base, rfl⟩ := Int.eq_ofNat_of_zero_le (show 0 ≤ base by omega)
  rw [Int.toNat_natCast] at h2
  unfold b__law_row
  refine step fun K hK => ?_
  simp only [n__law_row, wSs, wS, wE, wEs, wO, wI, wC, wIf, wBin, wSub, startE_cons, startE_nil, List.replicate, getV_0, getV_s, withO_s, withB_b, bind_one, bind_two, List.set_cons_zero, List.set_cons_succ, wipeE, Nat.zero_add, atI_0, atI_1, atI_2, atI_3, see_int, see_bl, see_str, see_non, dep_int, dep_bl, dep_str, dep_non, Nat.zero_min, Nat.min_zero, Nat.zero_le, true_imp_iff, false_imp_iff, Bool.not_false, Bool.not_true, reduceCtorEq, and_true, true_and, List.length_cons, List.length_nil, g.f102, sp_next]
  refine ⟨ns, m, rfl, hb, by omega, fun r r0 r1 => hK _ _ (step fun K2 hK2 => ?_)⟩
  obtain ⟨r, rfl⟩ := Int.eq_ofNat_of_zero_le r0
  have hmany : (1 : Int) + (r : Int) = ((r + 1 : Nat) : Int) := by omega
  rw [hmany]
  generalize hM : r + 1 = many
  have hmany1 : 1 ≤ many ∧ (many : Int) ≤ most := by omega
  simp only [wSs, wS, wE, wEs, wO, wI, wC, wIf, wBin, wSub, startE_cons, startE_nil, List.replicate, getV_0, getV_s, withO_s, withB_b, bind_one, bind_two, List.set_cons_zero, List.set_cons_succ, wipeE, Nat.zero_add, atI_0, atI_1, atI_2, atI_3, see_int, see_bl, see_str, see_non, dep_int, dep_bl, dep_str, dep_non, Nat.zero_min, Nat.min_zero, Nat.zero_le, true_imp_iff, false_imp_iff, Bool.not_false, Bool.not_true, reduceCtorEq, and_true, true_and, List.length_cons, List.length_nil, g.f102, sp_next, wRng]
  refine ⟨by omega, by omega, ?_⟩
  rw [Int.toNat_natCast, rangeL_nat]
  refine turns_inv (fun rest acc S' => ∃ (sg : List Nat) (j : Nat), acc = sg.map natV ∧ (∀ x ∈ sg, x ≤ 2) ∧ sg.length + rest.length = many ∧ S' = up S b (.lst [.int j])) ?_ ?_ _ _ _ ⟨[], m + 1, rfl, by simp, by simp, rfl⟩
  · rintro x rest acc S' ⟨sg, j, rfl, h3, h4, rfl⟩
    refine ⟨trivial, fun k hk => ?_⟩
    refine ⟨ns, j, rfl, up_same, by omega, fun z z0 z1 => ?_⟩
    obtain ⟨z, rfl⟩ := Int.eq_ofNat_of_zero_le z0
    rw [up_up]
    refine hk _ _ ⟨sg ++ [z], j + 1, by simp [natV], fun x hx => ?_, by simp at h4 ⊢; omega, rfl⟩
    rcases List.mem_append.mp hx with q | q
    · exact h3 x q
    · simp at q
      omega
  rintro acc S' ⟨sg, j, rfl, h3, h4, rfl⟩
  refine ⟨trivial, ?_⟩
  simp only [wBtL]
  refine hK2 _ _ (step fun K3 hK3 => ?_)
  have h4 : sg.length = many := by simpa using h4
  simp only [wSs, wS, wE, wEs, wO, wI, wC, wIf, wBin, wSub, startE_cons, startE_nil, List.replicate, getV_0, getV_s, withO_s, withB_b, bind_one, bind_two, List.set_cons_zero, List.set_cons_succ, wipeE, Nat.zero_add, atI_0, atI_1, atI_2, atI_3, see_int, see_bl, see_str, see_non, dep_int, dep_bl, dep_str, dep_non, Nat.zero_min, Nat.min_zero, Nat.zero_le, true_imp_iff, false_imp_iff, Bool.not_false, Bool.not_true, reduceCtorEq, and_true, true_and, List.length_cons, List.length_nil]
  intro p hp
  have hpb : b ≠ p := fun z => by rw [← z, DL.up_same] at hp; cases hp
  have hSp : S p = none := by rw [up_get (Ne.symm hpb)] at hp; exact hp
  refine hK3 _ _ (step fun K4 hK4 => for_step fun B hB => ?_)
  simp only [wSs, wS, wE, wEs, wO, wI, wC, wIf, wBin, wSub, startE_cons, startE_nil, List.replicate, getV_0, getV_s, withO_s, withB_b, bind_one, bind_two, List.set_cons_zero, List.set_cons_succ, wipeE, Nat.zero_add, atI_0, atI_1, atI_2, atI_3, see_int, see_bl, see_str, see_non, dep_int, dep_bl, dep_str, dep_non, Nat.zero_min, Nat.min_zero, Nat.zero_le, true_imp_iff, false_imp_iff, Bool.not_false, Bool.not_true, reduceCtorEq, and_true, true_and, List.length_cons, List.length_nil, wRng]
  refine ⟨by omega, by omega, ?_⟩
  rw [Int.toNat_natCast, rangeL_nat]
  -- what holds of the steps so far
  refine for_inv (fun rest e S' => ∃ (k0 c j : Nat) (st : List (List Nat)) (v5 v8 v9 v10 v11 : Option Val), rest = (List.range' k0 c).map natV ∧ k0 + c = many ∧ st.length = k0 ∧
      (∀ s ∈ st, s.length = base ∧ ∀ t ∈ s, t < many) ∧ (∀ k (h : k < st.length), ∀ t, st[k].head? = some t → sg[t]? = sg[k]?) ∧
      Sto.le (up S b (.lst [.int j])) S' ∧ S' p = some (.lst (st.map fun s => .tup (s.map natV))) ∧
      e = [some (.lst (ns.map .int)), some (.ref b), some (.int base), some (.int most), some (.int many), v5, some (.tup (sg.map natV)), some (.ref p), v8, v9, v10, v11]) ?_ ?_ _ _ _
    ⟨0, many, j, [], none, none, none, none, none, rfl, by omega, rfl, by simp, by simp, up_le hp, DL.up_same, rfl⟩
  · rintro x rest e S' ⟨k0, c, j, st, v5, v8, v9, v10, v11, hr, hc, hl, h5, h6, le, hp', rfl⟩
    refine ⟨trivial, ?_⟩
    cases c with
    | zero => simp at hr
    | succ c =>
      rw [List.range'_succ, List.map_cons] at hr
      cases hr
      simp only [bind_one, bind_two, withO_s, List.set_cons_zero, List.set_cons_succ]
      intro k hk
      refine hB _ _ _ (step fun K5 hK5 => ?_)
      simp only [wSs, wS, wE, wEs, wO, wI, wC, wIf, wBin, wSub, startE_cons, startE_nil, List.replicate, getV_0, getV_s, withO_s, withB_b, bind_one, bind_two, List.set_cons_zero, List.set_cons_succ, wipeE, Nat.zero_add, atI_0, atI_1, atI_2, atI_3, see_int, see_bl, see_str, see_non, dep_int, dep_bl, dep_str, dep_non, Nat.zero_min, Nat.min_zero, Nat.zero_le, true_imp_iff, false_imp_iff, Bool.not_false, Bool.not_true, reduceCtorEq, and_true, true_and, List.length_cons, List.length_nil, wRng]
      refine ⟨by omega, by omega, ?_⟩
      rw [Int.toNat_natCast, rangeL_nat]
      have hk0 : k0 < many := by omega
      have e1 : sg[k0]? = some (sg[k0]'(by omega)) := List.getElem?_eq_getElem (by omega)
      refine turns_fil (fun x => match x with
        | .int t => if sg[t.toNat]? = sg[k0]? then some x else none
        | _ => none) trivial (fun x hx k hk => ?_) ?_
      · obtain ⟨t, ht, rfl⟩ := List.mem_map.mp hx
        have ht : t < many := by simpa using ht
        have e2 : sg[t]? = some (sg[t]'(by omega)) := List.getElem?_eq_getElem (by omega)
        simp only [natV, wSs, wS, wE, wEs, wO, wI, wC, wIf, wBin, wSub, startE_cons, startE_nil, List.replicate, getV_0, getV_s, withO_s, withB_b, bind_one, bind_two, List.set_cons_zero, List.set_cons_succ, wipeE, Nat.zero_add, atI_0, atI_1, atI_2, atI_3, see_int, see_bl, see_str, see_non, dep_int, dep_bl, dep_str, dep_non, Nat.zero_min, Nat.min_zero, Nat.zero_le, true_imp_iff, false_imp_iff, Bool.not_false, Bool.not_true, reduceCtorEq, and_true, true_and, List.length_cons, List.length_nil, atI_nat, List.getElem?_map, e1, e2, Option.map_some, wCmp, int_eq] at hk ⊢
        by_cases q : sg[t]'(by omega) = sg[k0]'(by omega)
        · have q' : ((sg[t]'(by omega) : Nat) : Int) = ((sg[k0]'(by omega) : Nat) : Int) := by omega
          simp only [q', decide_true, wSs, wS, wE, wEs, wO, wI, wC, wIf, wBin, wSub, startE_cons, startE_nil, List.replicate, getV_0, getV_s, withO_s, withB_b, bind_one, bind_two, List.set_cons_zero, List.set_cons_succ, wipeE, Nat.zero_add, atI_0, atI_1, atI_2, atI_3, see_int, see_bl, see_str, see_non, dep_int, dep_bl, dep_str, dep_non, Nat.zero_min, Nat.min_zero, Nat.zero_le, true_imp_iff, false_imp_iff, Bool.not_false, Bool.not_true, reduceCtorEq, and_true, true_and, List.length_cons, List.length_nil]
          simpa [e1, e2, q] using hk
        · have q' : ¬ ((sg[t]'(by omega) : Nat) : Int) = ((sg[k0]'(by omega) : Nat) : Int) := by omega
          simp only [q', decide_false, wSs, wS, wE, wEs, wO, wI, wC, wIf, wBin, wSub, startE_cons, startE_nil, List.replicate, getV_0, getV_s, withO_s, withB_b, bind_one, bind_two, List.set_cons_zero, List.set_cons_succ, wipeE, Nat.zero_add, atI_0, atI_1, atI_2, atI_3, see_int, see_bl, see_str, see_non, dep_int, dep_bl, dep_str, dep_non, Nat.zero_min, Nat.min_zero, Nat.zero_le, true_imp_iff, false_imp_iff, Bool.not_false, Bool.not_true, reduceCtorEq, and_true, true_and, List.length_cons, List.length_nil]
          simpa [e1, e2, q] using hk
      · intro p2 hp2
        simp only [List.nil_append]
        -- the states of one sign
        generalize hsame : ((List.range' 0 many).map natV).filterMap (fun x => match x with
          | .int t => if sg[t.toNat]? = sg[k0]? then some x else none
          | _ => none) = same
        have hin : ∀ x ∈ same, ∃ t : Nat, x = natV t ∧ t < many ∧ sg[t]? = sg[k0]? := by
          intro x hx
          rw [← hsame] at hx
          obtain ⟨y, hy, e⟩ := List.mem_filterMap.mp hx
          obtain ⟨t, ht, rfl⟩ := List.mem_map.mp hy
          have ht : t < many := by simpa using ht
          simp only [natV, Int.toNat_natCast] at e
          by_cases q : sg[t]? = sg[k0]?
          · rw [if_pos q] at e
            cases e
            exact ⟨t, rfl, ht, q⟩
          · rw [if_neg q] at e
            cases e
        have hpos : 0 < same.length := by
          refine List.length_pos_of_mem (a := natV k0) ?_
          rw [← hsame]
          refine List.mem_filterMap.mpr ⟨natV k0, List.mem_map.mpr ⟨k0, by simp; omega, rfl⟩, ?_⟩
          simp [natV]
        have hb' : S' b = some (.lst [.int j]) := le _ _ DL.up_same
        have hp2b : b ≠ p2 := fun z => by rw [← z, hb'] at hp2; cases hp2
        have hp2p : p ≠ p2 := fun z => by rw [← z, hp'] at hp2; cases hp2
        refine hK5 _ _ (step fun K6 hK6 => ?_)
        simp only [wSs, wS, wE, wEs, wO, wI, wC, wIf, wBin, wSub, startE_cons, startE_nil, List.replicate, getV_0, getV_s, withO_s, withB_b, bind_one, bind_two, List.set_cons_zero, List.set_cons_succ, wipeE, Nat.zero_add, atI_0, atI_1, atI_2, atI_3, see_int, see_bl, see_str, see_non, dep_int, dep_bl, dep_str, dep_non, Nat.zero_min, Nat.min_zero, Nat.zero_le, true_imp_iff, false_imp_iff, Bool.not_false, Bool.not_true, reduceCtorEq, and_true, true_and, List.length_cons, List.length_nil, wBt, DL.up_same, g.f102, sp_next]
        refine ⟨ns, j, rfl, by rw [up_get hp2b]; exact hb', by omega, fun r2 z0 z1 => ?_⟩
        obtain ⟨r2, rfl⟩ := Int.eq_ofNat_of_zero_le z0
        have hr2 : r2 < same.length := by omega
        obtain ⟨t0, et0, ht0, hsg0⟩ := hin _ (List.getElem_mem hr2)
        simp only [up_get (Ne.symm hp2b), DL.up_same, wSs, wS, wE, wEs, wO, wI, wC, wIf, wBin, wSub, startE_cons, startE_nil, List.replicate, getV_0, getV_s, withO_s, withB_b, bind_one, bind_two, List.set_cons_zero, List.set_cons_succ, wipeE, Nat.zero_add, atI_0, atI_1, atI_2, atI_3, see_int, see_bl, see_str, see_non, dep_int, dep_bl, dep_str, dep_non, Nat.zero_min, Nat.min_zero, Nat.zero_le, true_imp_iff, false_imp_iff, Bool.not_false, Bool.not_true, reduceCtorEq, and_true, true_and, List.length_cons, List.length_nil, atI_nat, List.getElem?_eq_getElem hr2, et0]
        intro p3 hp3
        have le2 : Sto.le (up S b (.lst [.int (j + 1 : Nat)])) (up (up S' p2 (.lst same)) b (.lst [.int (j + 1 : Nat)])) := le_bump (le_new le hp2)
        have hp3b : b ≠ p3 := fun z => by rw [← z, DL.up_same] at hp3; cases hp3
        have hp3p2 : p2 ≠ p3 := fun z => by rw [← z, up_get (Ne.symm hp2b), DL.up_same] at hp3; cases hp3
        have hp3p : p ≠ p3 := fun z => by rw [← z, up_get (Ne.symm hpb), up_get hp2p, hp'] at hp3; cases hp3
        have hp2' : (up (up S' p2 (.lst same)) b (.lst [.int (j + 1 : Nat)])) p = some (.lst (st.map fun s => .tup (s.map natV))) := by rw [up_get (Ne.symm hpb), up_get hp2p, hp']
        generalize up (up S' p2 (.lst same)) b (.lst [.int (j + 1 : Nat)]) = S2 at hp3 le2 hp2'
        refine hK6 _ _ (step fun K7 hK7 => for_step fun B2 hB2 => ?_)
        simp only [wSs, wS, wE, wEs, wO, wI, wC, wIf, wBin, wSub, startE_cons, startE_nil, List.replicate, getV_0, getV_s, withO_s, withB_b, bind_one, bind_two, List.set_cons_zero, List.set_cons_succ, wipeE, Nat.zero_add, atI_0, atI_1, atI_2, atI_3, see_int, see_bl, see_str, see_non, dep_int, dep_bl, dep_str, dep_non, Nat.zero_min, Nat.min_zero, Nat.zero_le, true_imp_iff, false_imp_iff, Bool.not_false, Bool.not_true, reduceCtorEq, and_true, true_and, List.length_cons, List.length_nil, wRng]
        refine ⟨⟨by omega, by omega, by omega, by omega⟩, ?_⟩
        rw [show ((base : Int) - 1).toNat = base - 1 by omega, show rangeL 1 (base - 1) 1 = (List.range' 1 (base - 1)).map natV from rangeL_from 1 (base - 1)]
        refine for_inv (fun rest e S' => ∃ (ts : List Nat) (j : Nat) (v11 : Option Val), ts.length + rest.length = base ∧ (∀ t ∈ ts, t < many) ∧ ts.head? = some t0 ∧
            Sto.le (up S b (.lst [.int j])) S' ∧ S' p = some (.lst (st.map fun s => .tup (s.map natV))) ∧ S' p3 = some (.lst (ts.map natV)) ∧
            e = [some (.lst (ns.map .int)), some (.ref b), some (.int base), some (.int most), some (.int many), some (natV k0), some (.tup (sg.map natV)), some (.ref p), v8, some (.ref p2), some (.ref p3), v11]) ?_ ?_ _ _ _
          ⟨[t0], j + 1, v11, by simp; omega, by simpa using ht0, rfl, le_new le2 hp3, by rw [up_get hp3p]; exact hp2', DL.up_same, rfl⟩
        · rintro x rest e S3 ⟨ts, j3, w11, q1, q2, q3, le3, hq, hq3, rfl⟩
          refine ⟨trivial, ?_⟩
          simp only [bind_one, bind_two, withO_s, List.set_cons_zero, List.set_cons_succ]
          intro k' hk'
          refine hB2 _ _ _ (step fun K8 hK8 => ?_)
          have hb3 : S3 b = some (.lst [.int j3]) := le3 _ _ DL.up_same
          simp only [wSs, wS, wE, wEs, wO, wI, wC, wIf, wBin, wSub, startE_cons, startE_nil, List.replicate, getV_0, getV_s, withO_s, withB_b, bind_one, bind_two, List.set_cons_zero, List.set_cons_succ, wipeE, Nat.zero_add, atI_0, atI_1, atI_2, atI_3, see_int, see_bl, see_str, see_non, dep_int, dep_bl, dep_str, dep_non, Nat.zero_min, Nat.min_zero, Nat.zero_le, true_imp_iff, false_imp_iff, Bool.not_false, Bool.not_true, reduceCtorEq, and_true, true_and, List.length_cons, List.length_nil, recv, hq3, g.f102, sp_next, wMt]
          refine ⟨ns, j3, rfl, hb3, by omega, fun r3 y0 y1 => ?_⟩
          obtain ⟨r3, rfl⟩ := Int.eq_ofNat_of_zero_le y0
          simp only [up_get (Ne.symm hp3b), hq3]
          refine ⟨by simp at q1 ⊢; unfold line; omega, hK8 _ _ ?_⟩
          simp only [wSs, wS, wE, wEs, wO, wI, wC, wIf, wBin, wSub, startE_cons, startE_nil, List.replicate, getV_0, getV_s, withO_s, withB_b, bind_one, bind_two, List.set_cons_zero, List.set_cons_succ, wipeE, Nat.zero_add, atI_0, atI_1, atI_2, atI_3, see_int, see_bl, see_str, see_non, dep_int, dep_bl, dep_str, dep_non, Nat.zero_min, Nat.min_zero, Nat.zero_le, true_imp_iff, false_imp_iff, Bool.not_false, Bool.not_true, reduceCtorEq, and_true, true_and, List.length_cons, List.length_nil]
          refine hk' _ _ ⟨ts ++ [r3], j3 + 1, some x, by simp at q1 ⊢; omega, fun t ht => ?_, by rw [List.head?_append, q3]; rfl, le_write (le_bump le3) ?_, by rw [up_get hp3p, up_get (Ne.symm hpb)]; exact hq, by rw [DL.up_same]; simp [natV], rfl⟩
          · rcases List.mem_append.mp ht with q | q
            · exact q2 t q
            · simp at q
              omega
          · rw [up_get (Ne.symm hp3b)]
            have := le_off le2 hp3
            rw [up_get (Ne.symm hp3b)] at this
            exact this
        · rintro e S3 ⟨ts, j3, w11, q1, q2, q3, le3, hq, hq3, rfl⟩
          refine ⟨trivial, hK7 _ _ (step fun K8 hK8 => ?_)⟩
          simp only [wSs, wS, wE, wEs, wO, wI, wC, wIf, wBin, wSub, startE_cons, startE_nil, List.replicate, getV_0, getV_s, withO_s, withB_b, bind_one, bind_two, List.set_cons_zero, List.set_cons_succ, wipeE, Nat.zero_add, atI_0, atI_1, atI_2, atI_3, see_int, see_bl, see_str, see_non, dep_int, dep_bl, dep_str, dep_non, Nat.zero_min, Nat.min_zero, Nat.zero_le, true_imp_iff, false_imp_iff, Bool.not_false, Bool.not_true, reduceCtorEq, and_true, true_and, List.length_cons, List.length_nil, recv, hq, wBt, hq3, wBtL, wMt]
          have hb3 : S3 b = some (.lst [.int j3]) := le3 _ _ DL.up_same
          refine ⟨by simp; unfold line; omega, hK8 _ _ ?_⟩
          simp only [wSs, wS, wE, wEs, wO, wI, wC, wIf, wBin, wSub, startE_cons, startE_nil, List.replicate, getV_0, getV_s, withO_s, withB_b, bind_one, bind_two, List.set_cons_zero, List.set_cons_succ, wipeE, Nat.zero_add, atI_0, atI_1, atI_2, atI_3, see_int, see_bl, see_str, see_non, dep_int, dep_bl, dep_str, dep_non, Nat.zero_min, Nat.min_zero, Nat.zero_le, true_imp_iff, false_imp_iff, Bool.not_false, Bool.not_true, reduceCtorEq, and_true, true_and, List.length_cons, List.length_nil]
          refine hk _ _ ⟨k0 + 1, c, j3, st ++ [ts], some (natV k0), v8, some (.ref p2), some (.ref p3), w11, rfl, by omega, by simp [hl], fun s hs' => ?_, fun k' h t ht => ?_, le_write le3 ?_, by rw [DL.up_same]; simp, rfl⟩
          · rcases List.mem_append.mp hs' with q | q
            · exact h5 s q
            · simp at q
              subst q
              exact ⟨by simpa using q1, q2⟩
          · by_cases hk' : k' < st.length
            · rw [List.getElem_append_left hk'] at ht
              exact h6 k' hk' t ht
            · have : k' = st.length := by simp at h; omega
              subst this
              rw [List.getElem_append_right (Nat.le_refl _)] at ht
              simp only [Nat.sub_self, List.getElem_cons_zero] at ht
              rw [q3] at ht
              cases ht
              rw [hl]
              exact hsg0
          · rw [up_get (Ne.symm hpb)]
            exact hSp
  · rintro e S' ⟨k0, c, j, st, v5, v8, v9, v10, v11, hr, hc, hl, h5, h6, le, hp', rfl⟩
    refine ⟨trivial, hK4 _ _ ?_⟩
    have hc0 : c = 0 := by
      cases c with
      | zero => rfl
      | succ c => rw [List.range'_succ] at hr; cases hr
    subst hc0
    simp only [wSs, wS, wE, wEs, wO, wI, wC, wIf, wBin, wSub, startE_cons, startE_nil, List.replicate, getV_0, getV_s, withO_s, withB_b, bind_one, bind_two, List.set_cons_zero, List.set_cons_succ, wipeE, Nat.zero_add, atI_0, atI_1, atI_2, atI_3, see_int, see_bl, see_str, see_non, dep_int, dep_bl, dep_str, dep_non, Nat.zero_min, Nat.min_zero, Nat.zero_le, true_imp_iff, false_imp_iff, Bool.not_false, Bool.not_true, reduceCtorEq, and_true, true_and, List.length_cons, List.length_nil, wBt, hp', wBtL]
    refine ⟨_, le, h2 ⟨st, sg⟩ j ⟨by simp only; omega, by simp only; omega, fun s hs' => (h5 s hs').1, fun s hs' t ht => ?_, by simp only; omega, h3, fun k h t ht => h6 k h t ht⟩ (by simp only; omega)⟩
    have := (h5 s hs').2 t ht
    simp only
    omega
theorem w_hall {G : Cfg} (g : DrawH G) : Wk G sp_hall n__law_hall b__law_hall := by
  intro args S Q E h
  unfold sp_hall at h
  split at h <;> first | contradiction | skip
  rename_i sc b most
  obtain ⟨ns, m, rfl, hb, hmost, h2⟩ := h
  unfold b__law_hall
  refine step fun K hK => ?_
  simp only [n__law_hall, wSs, wS, wE, wEs, wO, wI, wC, wIf, wBin, wSub, startE_cons, startE_nil, List.replicate, getV_0, getV_s, withO_s, withB_b, bind_one, bind_two, List.set_cons_zero, List.set_cons_succ, wipeE, Nat.zero_add, atI_0, atI_1, atI_2, atI_3, see_int, see_bl, see_str, see_non, dep_int, dep_bl, dep_str, dep_non, Nat.zero_min, Nat.min_zero, Nat.zero_le, true_imp_iff, false_imp_iff, Bool.not_false, Bool.not_true, reduceCtorEq, and_true, true_and, List.length_cons, List.length_nil, g.f102, sp_next]
  refine ⟨ns, m, rfl, hb, by omega, fun r r0 r1 => ⟨by omega, by omega, hK _ _ (step fun K2 hK2 => ?_)⟩⟩
  obtain ⟨base, hbs⟩ := Int.eq_ofNat_of_zero_le (show 0 ≤ 2 + r / 3 by omega)
  rw [hbs]
  have hbase : 2 ≤ base ∧ base ≤ 3 := by omega
  simp only [wSs, wS, wE, wEs, wO, wI, wC, wIf, wBin, wSub, startE_cons, startE_nil, List.replicate, getV_0, getV_s, withO_s, withB_b, bind_one, bind_two, List.set_cons_zero, List.set_cons_succ, wipeE, Nat.zero_add, atI_0, atI_1, atI_2, atI_3, see_int, see_bl, see_str, see_non, dep_int, dep_bl, dep_str, dep_non, Nat.zero_min, Nat.min_zero, Nat.zero_le, true_imp_iff, false_imp_iff, Bool.not_false, Bool.not_true, reduceCtorEq, and_true, true_and, List.length_cons, List.length_nil, g.f102, sp_next, g.f103, sp_row, wRng]
  refine ⟨ns, m + 1, rfl, DL.up_same, by omega, fun z z0 z1 => ?_⟩
  obtain ⟨z, rfl⟩ := Int.eq_ofNat_of_zero_le z0
  refine ⟨by omega, by omega, ?_⟩
  rw [show (1 + (z : Int)).toNat = z + 1 by omega, rangeL_nat, up_up]
  refine turns_inv (fun rest acc S' => ∃ (Rs : List Row) (j : Nat), acc = Rs.map Row.val ∧ (∀ R ∈ Rs, R.Ok base ∧ (R.steps.length : Int) ≤ most) ∧ Rs.length + rest.length = z + 1 ∧ S' = up S b (.lst [.int j])) ?_ ?_ _ _ _
    ⟨[], m + 1 + 1, rfl, by simp, by simp, rfl⟩
  · rintro x rest acc S' ⟨Rs, j, rfl, h3, h4, rfl⟩
    refine ⟨trivial, fun k hk => ?_⟩
    refine ⟨ns, j, rfl, DL.up_same, by omega, hmost, fun R j2 ok hl => ?_⟩
    rw [up_up]
    refine hk _ _ ⟨Rs ++ [R], j2, by simp, fun R' hR => ?_, by simp at h4 ⊢; omega, rfl⟩
    rcases List.mem_append.mp hR with q | q
    · exact h3 R' q
    · simp at q
      subst q
      exact ⟨by simpa using ok, hl⟩
  · rintro acc S' ⟨Rs, j, rfl, h3, h4, rfl⟩
    refine ⟨trivial, fun p hp => hK2 _ _ ?_⟩
    simp only [wSs, wS, wE, wEs, wO, wI, wC, wIf, wBin, wSub, startE_cons, startE_nil, List.replicate, getV_0, getV_s, withO_s, withB_b, bind_one, bind_two, List.set_cons_zero, List.set_cons_succ, wipeE, Nat.zero_add, atI_0, atI_1, atI_2, atI_3, see_int, see_bl, see_str, see_non, dep_int, dep_bl, dep_str, dep_non, Nat.zero_min, Nat.min_zero, Nat.zero_le, true_imp_iff, false_imp_iff, Bool.not_false, Bool.not_true, reduceCtorEq, and_true, true_and, List.length_cons, List.length_nil, wBt, DL.up_same, wBtL]
    refine ⟨_, up_le hp, h2 base Rs j hbase (by simp at h4; omega) h3⟩
end DL

set_option Elab.async false
set_option linter.all false
set_option maxRecDepth 100000
set_option maxHeartbeats 4000000
/-! Own layer, plain part 7: rows as values; what is equal to itself. -/
namespace DL
open PySem
theorem veqs_refl_aux : ∀ (n : Nat) (v : Val), sizeOf v ≤ n → v.dat = true → PyData.eqv v.py v.py = true := by
  intro n
  induction n with
  | zero => intro v h; cases v <;> simp at h
  | succ n ih =>
    intro v h hd
    have key : ∀ xs : List Val, sizeOf xs ≤ n → Val.dats xs = true → PyData.eqvAll (Val.pys xs) (Val.pys xs) = true := by
      intro xs
      induction xs with
      | nil => intro _ _; simp [Val.pys, PyData.eqvAll]
      | cons x xs ihx =>
        intro h1 h2
        simp only [Val.dats, Bool.and_eq_true] at h2
        simp only [List.cons.sizeOf_spec] at h1
        rw [Val.pys, PyData.eqvAll, ih x (by omega) h2.1, ihx (by omega) h2.2]
        rfl
    cases v with
    | tup xs =>
      simp only [Val.tup.sizeOf_spec] at h
      rw [Val.py, PyData.eqv]
      exact key xs (by omega) (by simpa [Val.dat] using hd)
    | lst xs => simp [Val.dat] at hd
    | ref a => simp [Val.dat] at hd
    | int i => rw [Val.py, eqv_int]; simp
    | non => simp [Val.py, PyData.eqv]
    | bl b => simp [Val.py, PyData.eqv]
    | str x => simp [Val.py, PyData.eqv]
theorem veq_refl {v : Val} (h : v.dat = true) : v.veq v = true := veqs_refl_aux _ v (Nat.le_refl _) h
theorem dats_map {α : Type} (f : α → Val) (h : ∀ x, (f x).dat = true) (xs : List α) : Val.dats (xs.map f) = true := by
  induction xs with
  | nil => rfl
  | cons x xs ih => simp [Val.dats, h, ih]
theorem deps_map {α : Type} (f : α → Val) (n : Nat) (h : ∀ x, (f x).dep ≤ n) (xs : List α) : Val.deps (xs.map f) ≤ n := by
  induction xs with
  | nil => simp [Val.deps]
  | cons x xs ih =>
    have := h x
    simp [Val.deps]
    omega
theorem kns_map {α : Type} (S : Sto) (f : α → Val) (h : ∀ x, kn S (f x) = true) (xs : List α) : kns S (xs.map f) = true := by
  induction xs with
  | nil => rfl
  | cons x xs ih => simp [kns, h, ih]
theorem row_dat (R : Row) : R.val.dat = true := by
  simp [Row.val, Val.dat, Val.dats, dats_map, natV]
theorem row_dep (R : Row) : R.val.dep ≤ 3 := by
  have h1 := deps_map natV 0 (fun x => by simp [natV, Val.dep]) R.signs
  have h2 := deps_map (fun s : List Nat => Val.tup (s.map natV)) 1 (fun s => by
    have := deps_map natV 0 (fun x => by simp [natV, Val.dep]) s
    simp only [Val.dep]
    omega) R.steps
  simp only [Row.val, Val.dep, Val.deps]
  omega
theorem row_kn (S : Sto) (R : Row) : kn S R.val = true := by
  simp [Row.val, kn, kns, kns_map, natV]
theorem isRow_val {R : Row} {b : Nat} (hb : 2 ≤ b) (o : R.Ok b) : isRow R.val b = true := by
  have h1 := o.pos
  have h2 := o.most
  have e1 : ((R.steps.map fun s => Val.tup (s.map natV)).all fun v => isState v b R.steps.length) = true := by
    rw [List.all_map, List.all_eq_true]
    intro s hs
    show isState (.tup (s.map natV)) b R.steps.length = true
    simp only [isState, List.length_map, o.wide s hs, decide_true, Bool.true_and, List.all_map, List.all_eq_true]
    intro t ht
    have := o.to s hs t ht
    show betw (natV t) 0 _ = true
    simp [betw_nat]
    omega
  have e2 : ((R.signs.map natV).all fun v => betw v 0 2) = true := by
    rw [List.all_map, List.all_eq_true]
    intro x hx
    have := o.two x hx
    show betw (natV x) 0 2 = true
    simp [betw_nat]
    omega
  have e3 : signsOk (R.steps.map fun s => Val.tup (s.map natV)) (R.signs.map natV) R.steps.length = true := by
    unfold signsOk
    rw [List.all_eq_true]
    intro k hk
    have hk : k < R.steps.length := List.mem_range.mp hk
    have hw := o.wide _ (List.getElem_mem hk)
    have hs := o.same k hk
    have ht := o.to _ (List.getElem_mem hk)
    have e4 : (R.steps.map fun s => Val.tup (s.map natV))[k]? = some (.tup (R.steps[k].map natV)) := by rw [List.getElem?_map, List.getElem?_eq_getElem hk]; rfl
    generalize R.steps[k] = s at hw hs ht e4
    cases s with
    | nil => simp at hw; omega
    | cons t ts =>
      have e5 := hs t rfl
      have hk2 : k < R.signs.length := by rw [o.sg]; exact hk
      have e6 : R.signs[k]? = some R.signs[k] := List.getElem?_eq_getElem hk2
      rw [e6] at e5
      unfold signAt
      rw [e4]
      simp only [List.getElem?_map, e6, List.map_cons, natV, Option.map_some, Int.toNat_natCast, e5]
      exact veq_refl rfl
  have e1' : (R.steps.all fun s => isState (.tup (s.map natV)) b R.steps.length) = true := by
    rw [List.all_map] at e1
    exact e1
  simp only [Row.val, isRow, List.length_map, o.sg, decide_true, Bool.true_and, e2, e3, Bool.and_true, List.all_map]
  rw [Bool.and_eq_true]
  refine ⟨decide_eq_true ⟨h1, h2⟩, ?_⟩
  exact e1'
theorem rowOf_val (R : Row) : rowOf R.val = R := by
  obtain ⟨st, sg⟩ := R
  simp only [rowOf, Row.val, List.map_map, natsV_map]
  congr
  conv => rhs; rw [← List.map_id st]
  refine List.map_congr_left fun s _ => ?_
  simp [natsV_map]
/-- a hall of rows -/
def hallV (b : Nat) (Rs : List Row) : Val := .tup [.int b, .tup (Rs.map Row.val)]
theorem hall_dat (b : Nat) (Rs : List Row) : (hallV b Rs).dat = true := by
  simp [hallV, Val.dat, Val.dats, dats_map, row_dat]
theorem hall_dep (b : Nat) (Rs : List Row) : (hallV b Rs).dep ≤ 5 := by
  have := deps_map Row.val 3 row_dep Rs
  simp only [hallV, Val.dep, Val.deps]
  omega
theorem hall_kn (S : Sto) (b : Nat) (Rs : List Row) : kn S (hallV b Rs) = true := by
  simp [hallV, kn, kns, kns_map, row_kn]
theorem isHall_val {b : Nat} {Rs : List Row} (hb : 2 ≤ b ∧ b ≤ 3) (hl : Rs.length ≤ 3) (h : ∀ R ∈ Rs, R.Ok b) : isHall (hallV b Rs) = true := by
  have e : betw (.int b) 2 3 = true := by simp [betw]; omega
  simp only [hallV, isHall, e, Bool.true_and, List.length_map, decide_eq_true hl, List.all_map, List.all_eq_true]
  exact fun R hR => isRow_val hb.1 (h R hR)
theorem digs_len {b : Nat} (hb : 2 ≤ b) : ∀ (k n : Nat), n < 2 ^ k → (digs b n).length ≤ k
  | 0, n, h => by
    have : n = 0 := by simpa using h
    subst this
    rw [digs_zero]
    simp
  | k + 1, n, h => by
    by_cases hn : 0 < n
    · rw [digs_pos hb hn, List.length_cons]
      have : n / b < 2 ^ k := by
        rw [Nat.div_lt_iff_lt_mul (by omega)]
        have : 2 ^ k * 2 ≤ 2 ^ k * b := Nat.mul_le_mul_left _ hb
        rw [Nat.pow_succ] at h
        omega
      have := digs_len hb k (n / b) this
      omega
    · have : n = 0 := by omega
      subst this
      rw [digs_zero]
      simp
end DL

set_option Elab.async false
set_option linter.all false
set_option maxRecDepth 100000
set_option maxHeartbeats 4000000
/-! law k01: its defs. -/
namespace DL
open PySem
def n__law_sign : List Str := ["_law_base", "_law_row_here", "_law_place", "_law_state"]
def b__law_sign : Sms :=
  (.cons (.asg 3 (.int 0))
  (.cons (.while (.cmp .gt (.var 2) (.int 0))
    (.cons (.asg 3 (.sub (.sub (.sub (.var 1) (.int 0)) (.var 3)) (.bin .mod (.var 2) (.var 0))))
      (.cons (.asg 2 (.bin .fdiv (.var 2) (.var 0)))
      .nil)))
  (.cons (.ret (.sub (.sub (.var 1) (.int 1)) (.var 3)))
  .nil)))

def n__law_odd_row : List Str := ["_law_base", "_law_row_here", "_law_cell", "_law_steps", "_law_signs", "_law_good", "_law_some"]
def b__law_odd_row : Sms :=
  (.cons (.asgs [3, 4] (.var 1))
  (.cons (.asg 5 (.bin .mul (.tup (.cons (.int 0) .nil)) (.var 0)))
  (.cons (.asg 6 (.lst (.cons (.blt .list (.cons (.var 1) .nil)) (.cons (.tup (.cons (.var 3) .nil)) (.cons (.tup (.cons (.blt .list (.cons (.var 3) .nil)) (.cons (.var 4) .nil))) (.cons (.tup (.cons (.var 3) (.cons (.blt .list (.cons (.var 4) .nil)) .nil))) (.cons (.tup (.cons (.tup .nil) (.cons (.tup .nil) .nil))) .nil)))))))
  (.cons (.expr (.meth (.var 6) .extend (.cons (.lst (.cons (.tup (.cons (.bin .mul (.tup (.cons (.var 5) .nil)) (.int 9)) (.cons (.bin .mul (.tup (.cons (.int 0) .nil)) (.int 9)) .nil))) (.cons .non .nil))) .nil)))
  (.cons (.expr (.meth (.var 6) .extend (.cons (.lst (.cons (.tup (.cons (.tup (.cons (.bin .add (.var 5) (.tup (.cons (.int 0) .nil))) .nil)) (.cons (.tup (.cons (.int 0) .nil)) .nil))) (.cons (.tup (.cons (.tup (.cons (.slice (.var 5) (.some (.int 1)) .none) .nil)) (.cons (.tup (.cons (.int 0) .nil)) .nil))) (.cons (.tup (.cons (.tup (.cons (.bin .mul (.tup (.cons (.int 1) .nil)) (.var 0)) .nil)) (.cons (.tup (.cons (.int 0) .nil)) .nil))) .nil)))) .nil)))
  (.cons (.expr (.meth (.var 6) .append (.cons (.tup (.cons (.bin .mul (.tup (.cons (.bin .add (.tup (.cons (.bl true) .nil)) (.slice (.var 5) (.some (.int 1)) .none)) .nil)) (.int 2)) (.cons (.tup (.cons (.int 0) (.cons (.int 0) .nil))) .nil))) .nil)))
  (.cons (.expr (.meth (.var 6) .extend (.cons (.lst (.cons (.tup (.cons (.tup (.cons (.var 5) .nil)) (.cons (.tup .nil) .nil))) (.cons (.tup (.cons (.tup (.cons (.var 5) .nil)) (.cons (.tup (.cons (.int 3) .nil)) .nil))) (.cons (.tup (.cons (.tup (.cons (.var 5) .nil)) (.cons (.tup (.cons (.bl true) .nil)) .nil))) (.cons (.tup (.cons (.tup (.cons (.var 5) .nil)) (.cons (.tup (.cons (.int 0) (.cons (.int 0) .nil))) .nil))) .nil))))) .nil)))
  (.cons (.expr (.meth (.var 6) .append (.cons (.tup (.cons (.tup (.cons (.bin .add (.tup (.cons (.int 1) .nil)) (.slice (.var 5) (.some (.int 1)) .none)) (.cons (.var 5) .nil))) (.cons (.tup (.cons (.int 0) (.cons (.int 1) .nil))) .nil))) .nil)))
  (.cons (.ret (.sub (.var 6) (.bin .mod (.var 2) (.int 16))))
  .nil)))))))))

def n__law_refused : List Str := ["_law_thing", "e"]
def b__law_refused : Sms :=
  (.cons (.try1
    (.cons (.expr (.call 5 (.cons (.var 0) .nil)))
      .nil)
    1 (some 1) (.conj [(0, true), (99, true), (2, false)]))
  (.cons (.ret (.bl false))
  .nil))

def n__law_no_number : List Str := ["_law_hall_here", "_law_row_here", "_law_place", "e"]
def b__law_no_number : Sms :=
  (.cons (.try1
    (.cons (.expr (.call 9 (.cons (.var 0) (.cons (.var 1) (.cons (.var 2) .nil)))))
      .nil)
    5 (some 3) (.conj [(0, true), (99, true)]))
  (.cons (.ret (.bl false))
  .nil))

def n_law : List Str := ["_law_script", "_law_hall_here", "_law_base", "_law_rows", "_law_place", "_law_row_here", "_law_one", "_law_cell", "_law_some", "_law_odd"]
def b_law : Sms :=
  (.cons (.asg 1 (.call 104 (.cons (.var 0) (.cons (.lst (.cons (.int 4) .nil)) (.cons (.int 4) .nil)))))
  (.cons (.asgs [2, 3] (.var 1))
  (.cons (.ite (.or (.cmp .ne (.call 5 (.cons (.var 1) .nil)) (.var 1)) (.cmp .ne (.call 5 (.cons (.tup (.cons (.var 2) (.cons (.tup .nil) .nil))) .nil)) (.tup (.cons (.var 2) (.cons (.tup .nil) .nil)))))
    (.cons (.ret (.bl false))
      .nil)
    .nil)
  (.cons (.asg 4 (.call 101 (.cons (.var 0) (.cons (.int 0) (.cons (.int 3000) .nil)))))
  (.cons (.for (.one 5) (.rng (.cons (.blt .len (.cons (.var 3) .nil)) .nil))
    (.cons (.for (.one 6) (.val (.tup (.cons (.var 4) (.cons (.bin .add (.bin .mul (.var 4) (.bin .pow (.int 10) (.int 20))) (.int 7)) (.cons (.var 5) .nil)))))
        (.cons (.ite (.cmp .ne (.call 9 (.cons (.var 1) (.cons (.var 5) (.cons (.var 6) .nil)))) (.call 120 (.cons (.var 2) (.cons (.sub (.var 3) (.var 5)) (.cons (.var 6) .nil)))))
            (.cons (.ret (.bl false))
              .nil)
            .nil)
          .nil))
      .nil))
  (.cons (.asg 7 (.call 101 (.cons (.var 0) (.cons (.int 1) (.cons (.bin .pow (.int 10) (.int 6)) .nil)))))
  (.cons (.asg 8 (.lst (.cons (.blt .list (.cons (.var 1) .nil)) (.cons (.tup (.cons (.int 1) (.cons (.tup .nil) .nil))) (.cons (.tup (.cons (.int 4) (.cons (.tup .nil) .nil))) (.cons (.tup (.cons (.bl true) (.cons (.tup .nil) .nil))) (.cons (.tup (.cons (.var 2) (.cons (.bin .mul (.var 3) (.int 4)) .nil))) (.cons (.tup (.cons (.var 2) (.cons (.blt .list (.cons (.var 3) .nil)) .nil))) (.cons (.tup (.cons (.var 2) .nil)) (.cons .non .nil))))))))))
  (.cons (.expr (.meth (.var 8) .append (.cons (.tup (.cons (.var 2) (.cons (.tup (.cons (.call 121 (.cons (.var 2) (.cons (.sub (.var 3) (.int 0)) (.cons (.bin .fdiv (.var 7) (.int 9)) .nil)))) .nil)) .nil))) .nil)))
  (.cons (.expr (.meth (.var 8) .append (.cons (.tup (.cons (.var 2) (.cons (.bin .add (.slice (.var 3) .none (.some (.int 1))) (.tup (.cons (.call 121 (.cons (.var 2) (.cons (.sub (.var 3) (.int 0)) (.cons (.bin .fdiv (.var 7) (.int 9)) .nil)))) .nil))) .nil))) .nil)))
  (.cons (.ite (.drop (.not (.call 122 (.cons (.sub (.lst (.cons (.sub (.var 8) (.bin .mod (.var 7) (.int 8))) (.cons (.sub (.var 8) (.bin .add (.int 8) (.bin .mod (.var 7) (.int 2)))) .nil))) (.bin .mod (.bin .fdiv (.var 7) (.int 3)) (.int 2))) .nil))))
    (.cons (.ret (.bl false))
      .nil)
    .nil)
  (.cons (.asg 9 (.sub (.lst (.cons (.neg (.int 1)) (.cons (.bl true) (.cons .non (.cons (.str "0") .nil))))) (.bin .mod (.var 7) (.int 4))))
  (.cons (.ret (.drop (.and (.call 123 (.cons (.var 1) (.cons (.int 0) (.cons (.var 9) .nil)))) (.call 123 (.cons (.var 1) (.cons (.sub (.lst (.cons (.blt .len (.cons (.var 3) .nil)) (.cons (.neg (.int 1)) (.cons .non .nil)))) (.bin .mod (.var 7) (.int 3))) (.cons (.var 4) .nil)))))))
  .nil))))))))))))

def sp_law_sign : Spec := fun vs S Q _ => match vs with
  | [.int b, r, .int n] => ∃ (bb : Nat) (R : Row) (m : Nat), b = bb ∧ 2 ≤ bb ∧ R.Ok bb ∧ r = R.val ∧ n = m ∧ bb ≤ 3 ∧ Q (natV (R.sign bb m)) S
  | _ => False
def sp_odd_row : Spec := fun vs S Q _ => match vs with
  | [.int b, r, .int n] => ∃ (bb : Nat) (R : Row), b = bb ∧ (bb = 2 ∨ bb = 3) ∧ R.Ok bb ∧ r = R.val ∧ ∀ v S', Sto.le S S' → kn S' v = true → isRow v b = false → Q v S'
  | _ => False
def sp_refused : Spec := fun vs S Q _ => match vs with
  | [v] => kn S v = true ∧ isHall v = false ∧ Q (.bl true) S
  | _ => False
def sp_no_number : Spec := fun vs S Q _ => match vs with
  | [h, r, n] => kn S h = true ∧ kn S r = true ∧ kn S n = true ∧ isHall h = true ∧ (betw r 0 (rowsN h - 1) = false ∨ ∀ m : Nat, n ≠ .int m) ∧ (∀ m : Nat, n = .int m → (digs (baseOf h) m).length < line) ∧ Q (.bl true) S
  | _ => False
structure K01G (G : Cfg) : Prop extends SignG G "STATES", DrawH G where
  f120 : G.fn 120 = some sp_law_sign
  f121 : G.fn 121 = some sp_odd_row
  f122 : G.fn 122 = some sp_refused
  f123 : G.fn 123 = some sp_no_number
  s10 : G.sub 1 0 = true
  s11 : G.sub 1 1 = true
  s12 : G.sub 1 2 = false
  s19 : G.sub 1 99 = true
  s50 : G.sub 5 0 = true
  s55 : G.sub 5 5 = true
  s59 : G.sub 5 99 = true
  e1 : G.ek 1 = true
  e5 : G.ek 5 = true
theorem w_law_sign {G : Cfg} : Wk G sp_law_sign n__law_sign b__law_sign := by
  intro args S Q E h
  unfold sp_law_sign at h
  split at h <;> first | contradiction | skip
  rename_i b r n
  obtain ⟨b, R, m, rfl, hb, ok, rfl, rfl, hb3, h2⟩ := h
  unfold b__law_sign
  refine step fun K hK => ?_
  simp only [n__law_sign, wSs, wS, wE, wEs, wO, wI, wC, wIf, wBin, wSub, startE_cons, startE_nil, List.replicate, getV_0, getV_s, withO_s, withB_b, bind_one, bind_two, List.set_cons_zero, List.set_cons_succ, wipeE, Nat.zero_add, atI_0, atI_1, atI_2, atI_3, see_int, see_bl, see_str, see_non, dep_int, dep_bl, dep_str, dep_non, Nat.zero_min, Nat.min_zero, Nat.zero_le, true_imp_iff, false_imp_iff, Bool.not_false, Bool.not_true, reduceCtorEq, and_true, true_and, List.length_cons, List.length_nil]
  refine hK _ _ (step fun K2 hK2 => ?_)
  refine while_step (fun k e S' => ∃ (s : Nat), s < R.steps.length ∧ R.run s (digs b k) = R.run 0 (digs b m) ∧ e = [some (.int b), some R.val, some (.int k), some (.int s)] ∧ S' = S) ⟨m, 0, ok.pos, rfl, rfl, rfl⟩ ?_
  rintro B hB k e S' ⟨s, hs, hr, rfl, rfl⟩
  simp only [wSs, wS, wE, wEs, wO, wI, wC, wIf, wBin, wSub, startE_cons, startE_nil, List.replicate, getV_0, getV_s, withO_s, withB_b, bind_one, bind_two, List.set_cons_zero, List.set_cons_succ, wipeE, Nat.zero_add, atI_0, atI_1, atI_2, atI_3, see_int, see_bl, see_str, see_non, dep_int, dep_bl, dep_str, dep_non, Nat.zero_min, Nat.min_zero, Nat.zero_le, true_imp_iff, false_imp_iff, Bool.not_false, Bool.not_true, reduceCtorEq, and_true, true_and, List.length_cons, List.length_nil, wCmp]
  refine ⟨fun c => hB _ _ _ (step fun K3 hK3 => ?_), fun c => hK2 _ _ ?_⟩
  · have hk : 0 < k := by
      have := of_decide_eq_true c
      omega
    rw [digs_pos hb hk] at hr
    have hd : k % b < b := Nat.mod_lt _ (by omega)
    obtain ⟨st, e1, e2, e3⟩ := ok.go hs hd
    have e4 : (k : Int) % (b : Int) = ((k % b : Nat) : Int) := by omega
    simp only [wSs, wS, wE, wEs, wO, wI, wC, wIf, wBin, wSub, startE_cons, startE_nil, List.replicate, getV_0, getV_s, withO_s, withB_b, bind_one, bind_two, List.set_cons_zero, List.set_cons_succ, wipeE, Nat.zero_add, atI_0, atI_1, atI_2, atI_3, see_int, see_bl, see_str, see_non, dep_int, dep_bl, dep_str, dep_non, Nat.zero_min, Nat.min_zero, Nat.zero_le, true_imp_iff, false_imp_iff, Bool.not_false, Bool.not_true, reduceCtorEq, and_true, true_and, List.length_cons, List.length_nil, Row.val, atI_nat, List.getElem?_map, e1, Option.map_some, e4, e2, natV]
    refine ⟨by omega, hK3 _ _ (step fun K4 hK4 => ?_)⟩
    have e5 : (k : Int) / (b : Int) = ((k / b : Nat) : Int) := by omega
    simp only [wSs, wS, wE, wEs, wO, wI, wC, wIf, wBin, wSub, startE_cons, startE_nil, List.replicate, getV_0, getV_s, withO_s, withB_b, bind_one, bind_two, List.set_cons_zero, List.set_cons_succ, wipeE, Nat.zero_add, atI_0, atI_1, atI_2, atI_3, see_int, see_bl, see_str, see_non, dep_int, dep_bl, dep_str, dep_non, Nat.zero_min, Nat.min_zero, Nat.zero_le, true_imp_iff, false_imp_iff, Bool.not_false, Bool.not_true, reduceCtorEq, and_true, true_and, List.length_cons, List.length_nil, e5]
    refine ⟨by omega, by omega, hK4 _ _ ?_⟩
    simp only [wSs, wS, wE, wEs, wO, wI, wC, wIf, wBin, wSub, startE_cons, startE_nil, List.replicate, getV_0, getV_s, withO_s, withB_b, bind_one, bind_two, List.set_cons_zero, List.set_cons_succ, wipeE, Nat.zero_add, atI_0, atI_1, atI_2, atI_3, see_int, see_bl, see_str, see_non, dep_int, dep_bl, dep_str, dep_non, Nat.zero_min, Nat.min_zero, Nat.zero_le, true_imp_iff, false_imp_iff, Bool.not_false, Bool.not_true, reduceCtorEq, and_true, true_and, List.length_cons, List.length_nil]
    exact ⟨k / b, Nat.div_lt_self hk (by omega), _, e3, hr, rfl⟩
  · have hk : k = 0 := by
      have := of_decide_eq_false c
      omega
    subst hk
    rw [digs_zero] at hr
    have hs' : s = R.run 0 (digs b m) := hr
    have e5 : R.signs[s]? = some (R.signs[s]'(by rw [ok.sg]; exact hs)) := List.getElem?_eq_getElem _
    have e6 : R.sign b m = R.signs[s]'(by rw [ok.sg]; exact hs) := by
      unfold Row.sign
      rw [← hs', e5]
      rfl
    rw [e6] at h2
    simp only [wSs, wS, wE, wEs, wO, wI, wC, wIf, wBin, wSub, startE_cons, startE_nil, List.replicate, getV_0, getV_s, withO_s, withB_b, bind_one, bind_two, List.set_cons_zero, List.set_cons_succ, wipeE, Nat.zero_add, atI_0, atI_1, atI_2, atI_3, see_int, see_bl, see_str, see_non, dep_int, dep_bl, dep_str, dep_non, Nat.zero_min, Nat.min_zero, Nat.zero_le, true_imp_iff, false_imp_iff, Bool.not_false, Bool.not_true, reduceCtorEq, and_true, true_and, List.length_cons, List.length_nil, Row.val, atI_nat, List.getElem?_map, e5, Option.map_some]
    exact rt_here h2
theorem w_refused {G : Cfg} (g : K01G G) : Wk G sp_refused n__law_refused b__law_refused := by
  intro args S Q E h
  unfold sp_refused at h
  split at h <;> first | contradiction | skip
  rename_i v
  obtain ⟨h1, h2, h3⟩ := h
  unfold b__law_refused
  refine step fun K hK => ?_
  simp only [n__law_refused, wSs, wS, wE, wEs, wO, wI, wC, wIf, wBin, wSub, startE_cons, startE_nil, List.replicate, getV_0, getV_s, withO_s, withB_b, bind_one, bind_two, List.set_cons_zero, List.set_cons_succ, wipeE, Nat.zero_add, atI_0, atI_1, atI_2, atI_3, see_int, see_bl, see_str, see_non, dep_int, dep_bl, dep_str, dep_non, Nat.zero_min, Nat.min_zero, Nat.zero_le, true_imp_iff, false_imp_iff, Bool.not_false, Bool.not_true, reduceCtorEq, and_true, true_and, List.length_cons, List.length_nil, g.f5, sp_checked]
  refine ⟨h1, fun a => ?_, fun a => ?_⟩
  · rw [h2] at a; cases a
  · simp only [g.e1, g.s11, wH, wSs, wS, wE, wEs, wO, wI, wC, wIf, wBin, wSub, startE_cons, startE_nil, List.replicate, getV_0, getV_s, withO_s, withB_b, bind_one, bind_two, List.set_cons_zero, List.set_cons_succ, wipeE, Nat.zero_add, atI_0, atI_1, atI_2, atI_3, see_int, see_bl, see_str, see_non, dep_int, dep_bl, dep_str, dep_non, Nat.zero_min, Nat.min_zero, Nat.zero_le, true_imp_iff, false_imp_iff, Bool.not_false, Bool.not_true, reduceCtorEq, and_true, true_and, List.length_cons, List.length_nil, List.all_cons, List.all_nil, g.s10, g.s19, g.s12]
    exact rt_here h3
theorem w_no_number {G : Cfg} (g : K01G G) : Wk G sp_no_number n__law_no_number b__law_no_number := by
  intro args S Q E h
  unfold sp_no_number at h
  split at h <;> first | contradiction | skip
  rename_i hl r n
  obtain ⟨h1, h2, h3, h4, h5, h6, h7⟩ := h
  unfold b__law_no_number
  refine step fun K hK => ?_
  simp only [n__law_no_number, wSs, wS, wE, wEs, wO, wI, wC, wIf, wBin, wSub, startE_cons, startE_nil, List.replicate, getV_0, getV_s, withO_s, withB_b, bind_one, bind_two, List.set_cons_zero, List.set_cons_succ, wipeE, Nat.zero_add, atI_0, atI_1, atI_2, atI_3, see_int, see_bl, see_str, see_non, dep_int, dep_bl, dep_str, dep_non, Nat.zero_min, Nat.min_zero, Nat.zero_le, true_imp_iff, false_imp_iff, Bool.not_false, Bool.not_true, reduceCtorEq, and_true, true_and, List.length_cons, List.length_nil, g.f9, sp_sign_at, g.e5, g.s55, wH, List.all_cons, List.all_nil, g.s50, g.s59]
  refine ⟨h1, h2, h3, fun a => ?_, fun a => ⟨fun b => ?_, fun b => ⟨fun m e => ⟨h6 m e, fun k e2 w hw => ?_⟩, fun c => ?_⟩⟩⟩
  · rw [h4] at a; cases a
  · exact rt_here h7
  · rcases h5 with q | q
    · rw [q] at b; cases b
    · exact absurd e (q m)
  · exact rt_here h7
theorem kns_app {S : Sto} : ∀ {xs ys : List Val}, kns S xs = true → kns S ys = true → kns S (xs ++ ys) = true
  | [], _, _, h => h
  | x :: xs, ys, h, h2 => by
    simp only [kns, Bool.and_eq_true, List.cons_append] at h ⊢
    exact ⟨h.1, kns_app h.2 h2⟩
mutual
theorem kn_mono {S S' : Sto} (le : Sto.le S S') : ∀ {v : Val}, kn S v = true → kn S' v = true
  | .ref a, h => by
    simp only [kn] at h ⊢
    split at h
    · rename_i xs e
      rw [le _ _ e]
    · cases h
  | .tup xs, h => by
    simp only [kn] at h ⊢
    exact kns_mono le h
  | .lst _, h => by simp [kn] at h
  | .non, _ => rfl
  | .bl _, _ => rfl
  | .int _, _ => rfl
  | .str _, _ => rfl
theorem kns_mono {S S' : Sto} (le : Sto.le S S') : ∀ {xs : List Val}, kns S xs = true → kns S' xs = true
  | [], _ => rfl
  | x :: xs, h => by
    simp only [kns, Bool.and_eq_true] at h ⊢
    exact ⟨kn_mono le h.1, kns_mono le h.2⟩
end
theorem kn_list {S : Sto} {a : Addr} {xs : List Val} (h : S a = some (.lst xs)) : kn S (.ref a) = true := by
  simp only [kn, h]
mutual
theorem kn_up {S : Sto} {q : Addr} {ys : List Val} : ∀ {v : Val}, kn S v = true → kn (up S q (.lst ys)) v = true
  | .ref a, h => by
    simp only [kn] at h ⊢
    by_cases e : a = q
    · rw [e, DL.up_same]
    · rw [up_get e]
      exact h
  | .tup xs, h => by
    simp only [kn] at h ⊢
    exact kns_up h
  | .lst _, h => by simp [kn] at h
  | .non, _ => rfl
  | .bl _, _ => rfl
  | .int _, _ => rfl
  | .str _, _ => rfl
theorem kns_up {S : Sto} {q : Addr} {ys : List Val} : ∀ {xs : List Val}, kns S xs = true → kns (up S q (.lst ys)) xs = true
  | [], _ => rfl
  | x :: xs, h => by
    simp only [kns, Bool.and_eq_true] at h ⊢
    exact ⟨kn_up h.1, kns_up h.2⟩
end
/-- a list of odd ones -/
structure Odd (S : Sto) (b : Nat) (p : Addr) (S1 : Sto) (L : List Val) (n : Nat) : Prop where
  le : Sto.le S S1
  at' : S1 p = some (.lst L)
  off : S p = none
  odd : ∀ v ∈ L, kn S1 v = true ∧ isRow v b = false
  len : L.length = n
theorem Odd.ext {S S1 : Sto} {b n : Nat} {p p2 : Addr} {L A ys : List Val} (o : Odd S b p S1 L n) (n2 : S1 p2 = none) (h : ∀ v ∈ A, kn (fun _ => none) v = true ∧ isRow v b = false) : Odd S b p (up (up S1 p2 (.lst ys)) p (.lst (L ++ A))) (L ++ A) (n + A.length) where
  le := le_write (le_new o.le n2) o.off
  at' := DL.up_same
  off := o.off
  odd := fun v hv => by
    rcases List.mem_append.mp hv with z | z
    · exact ⟨kn_up (kn_up (o.odd v z).1), (o.odd v z).2⟩
    · exact ⟨kn_mono (fun a o h => by cases h) (h v z).1, (h v z).2⟩
  len := by simp [o.len]
theorem Odd.app {S S1 : Sto} {b n : Nat} {p : Addr} {L : List Val} {v : Val} (o : Odd S b p S1 L n) (h1 : kn (fun _ => none) v = true) (h2 : isRow v b = false) : Odd S b p (up S1 p (.lst (L ++ [v]))) (L ++ [v]) (n + 1) where
  le := le_write o.le o.off
  at' := DL.up_same
  off := o.off
  odd := fun w hv => by
    rcases List.mem_append.mp hv with z | z
    · exact ⟨kn_up (o.odd w z).1, (o.odd w z).2⟩
    · simp at z
      subst z
      exact ⟨kn_mono (fun a o h => by cases h) h1, h2⟩
  len := by simp [o.len]
theorem Odd.extK {S S1 : Sto} {b n : Nat} {p p2 : Addr} {L A ys : List Val} {K : Sto → Prop} (o : Odd S b p S1 L n) (n2 : S1 p2 = none) (h : ∀ v ∈ A, kn (fun _ => none) v = true ∧ isRow v b = false) (k : ∀ S' L', Odd S b p S' L' (n + A.length) → K S') : K (up (up S1 p2 (.lst ys)) p (.lst (L ++ A))) :=
  k _ _ (o.ext n2 h)
theorem Odd.appK {S S1 : Sto} {b n : Nat} {p : Addr} {L : List Val} {v : Val} {K : Sto → Prop} (o : Odd S b p S1 L n) (h1 : kn (fun _ => none) v = true) (h2 : isRow v b = false) (k : ∀ S' L', Odd S b p S' L' (n + 1) → K S') : K (up S1 p (.lst (L ++ [v]))) :=
  k _ _ (o.app h1 h2)
theorem w_odd_row {G : Cfg} : Wk G sp_odd_row n__law_odd_row b__law_odd_row := by
  intro args S Q E h
  unfold sp_odd_row at h
  split at h <;> first | contradiction | skip
  rename_i b r n
  obtain ⟨b, R, rfl, hb, ok, rfl, h2⟩ := h
  unfold b__law_odd_row
  refine step fun K hK => ?_
  simp only [n__law_odd_row, wSs, wS, wE, wEs, wO, wI, wC, wIf, wBin, wSub, startE_cons, startE_nil, List.replicate, getV_0, getV_s, withO_s, withB_b, bind_one, bind_two, List.set_cons_zero, List.set_cons_succ, wipeE, Nat.zero_add, atI_0, atI_1, atI_2, atI_3, see_int, see_bl, see_str, see_non, dep_int, dep_bl, dep_str, dep_non, Nat.zero_min, Nat.min_zero, Nat.zero_le, true_imp_iff, false_imp_iff, Bool.not_false, Bool.not_true, reduceCtorEq, and_true, true_and, List.length_cons, List.length_nil, Row.val, bind_two]
  refine hK _ _ (step fun K2 hK2 => ?_)
  simp only [wSs, wS, wE, wEs, wO, wI, wC, wIf, wBin, wSub, startE_cons, startE_nil, List.replicate, getV_0, getV_s, withO_s, withB_b, bind_one, bind_two, List.set_cons_zero, List.set_cons_succ, wipeE, Nat.zero_add, atI_0, atI_1, atI_2, atI_3, see_int, see_bl, see_str, see_non, dep_int, dep_bl, dep_str, dep_non, Nat.zero_min, Nat.min_zero, Nat.zero_le, true_imp_iff, false_imp_iff, Bool.not_false, Bool.not_true, reduceCtorEq, and_true, true_and, List.length_cons, List.length_nil]
  refine ⟨⟨by simp, by omega, by omega, by omega⟩, ?_⟩
  have hgood : (List.replicate ((b : Int)).toNat [Val.int 0]).flatten = List.replicate b (.int 0) := by
    rw [Int.toNat_natCast]
    rcases hb with rfl | rfl <;> rfl
  rw [hgood]
  generalize hst : (R.steps.map fun s => Val.tup (s.map natV)) = st
  generalize hsg : R.signs.map natV = sg
  have kst : ∀ S : Sto, kns S st = true := fun S => by rw [← hst]; exact kns_map S _ (fun s => by simp [kn, kns_map, natV]) _
  have ksg : ∀ S : Sto, kns S sg = true := fun S => by rw [← hsg]; exact kns_map S _ (fun s => by simp [kn, natV]) _
  have kg : ∀ S : Sto, kns S (List.replicate b (.int 0)) = true := fun S => by rcases hb with rfl | rfl <;> rfl
  have hlen : (List.replicate b (Val.int 0)).length = b := List.length_replicate
  -- good: no row
  refine hK2 _ _ (step fun K3 hK3 => ?_)
  simp (config := { maxSteps := 2000000 }) only [wSs, wS, wE, wEs, wO, wI, wC, wIf, wBin, wSub, startE_cons, startE_nil, List.replicate, getV_0, getV_s, withO_s, withB_b, bind_one, bind_two, List.set_cons_zero, List.set_cons_succ, wipeE, Nat.zero_add, atI_0, atI_1, atI_2, atI_3, see_int, see_bl, see_str, see_non, dep_int, dep_bl, dep_str, dep_non, Nat.zero_min, Nat.min_zero, Nat.zero_le, true_imp_iff, false_imp_iff, Bool.not_false, Bool.not_true, reduceCtorEq, and_true, true_and, List.length_cons, List.length_nil, wBt]
  intro p1 n1 p2 n2 p3 n3 p n4
  have le4 : Sto.le S (up (up (up (up S p1 (.lst [.tup st, .tup sg])) p2 (.lst st)) p3 (.lst sg)) p (.lst [.ref p1, .tup [.tup st], .tup [.ref p2, .tup sg], .tup [.tup st, .ref p3], .tup [.tup [], .tup []]])) := le_new (le_new (le_new (up_le n1) n2) n3) n4
  have k1 := get_up (o2 := .lst [.ref p1, .tup [.tup st], .tup [.ref p2, .tup sg], .tup [.tup st, .ref p3], .tup [.tup [], .tup []]]) (get_up (o2 := .lst sg) (get_up (o2 := .lst st) (DL.up_same (S := S) (a := p1) (o := .lst [.tup st, .tup sg])) n2) n3) n4
  have k2 := get_up (o2 := .lst [.ref p1, .tup [.tup st], .tup [.ref p2, .tup sg], .tup [.tup st, .ref p3], .tup [.tup [], .tup []]]) (get_up (o2 := .lst sg) (DL.up_same (S := up S p1 (.lst [.tup st, .tup sg])) (a := p2) (o := .lst st)) n3) n4
  have k3 := get_up (o2 := .lst [.ref p1, .tup [.tup st], .tup [.ref p2, .tup sg], .tup [.tup st, .ref p3], .tup [.tup [], .tup []]]) (DL.up_same (S := up (up S p1 (.lst [.tup st, .tup sg])) p2 (.lst st)) (a := p3) (o := .lst sg)) n4
  have k4 : (up (up (up (up S p1 (.lst [.tup st, .tup sg])) p2 (.lst st)) p3 (.lst sg)) p (.lst [.ref p1, .tup [.tup st], .tup [.ref p2, .tup sg], .tup [.tup st, .ref p3], .tup [.tup [], .tup []]])) p = some (.lst [.ref p1, .tup [.tup st], .tup [.ref p2, .tup sg], .tup [.tup st, .ref p3], .tup [.tup [], .tup []]]) := DL.up_same
  have nS : S p = none := le_off (le_new (le_new (up_le n1) n2) n3) n4
  generalize (up (up (up (up S p1 (.lst [.tup st, .tup sg])) p2 (.lst st)) p3 (.lst sg)) p (.lst [.ref p1, .tup [.tup st], .tup [.ref p2, .tup sg], .tup [.tup st, .ref p3], .tup [.tup [], .tup []]])) = S1 at le4 k1 k2 k3 k4
  have q1 : ∀ v ∈ [Val.ref p1, .tup [.tup st], .tup [.ref p2, .tup sg], .tup [.tup st, .ref p3], .tup [.tup [], .tup []]], kn S1 v = true ∧ isRow v b = false := by
    intro v hv
    simp only [List.mem_cons, List.not_mem_nil, or_false] at hv
    rcases hv with rfl | rfl | rfl | rfl | rfl
    · exact ⟨kn_list k1, rfl⟩
    · exact ⟨by simp [kn, kns, kst], rfl⟩
    · exact ⟨by simp [kn, kns, ksg, k2], rfl⟩
    · exact ⟨by simp [kn, kns, kst, k3], by simp [isRow]⟩
    · exact ⟨rfl, rfl⟩
  have l1 : [Val.ref p1, .tup [.tup st], .tup [.ref p2, .tup sg], .tup [.tup st, .ref p3], .tup [.tup [], .tup []]].length = 5 := rfl
  generalize [Val.ref p1, .tup [.tup st], .tup [.ref p2, .tup sg], .tup [.tup st, .ref p3], .tup [.tup [], .tup []]] = L1 at k4 q1 l1
  clear k1 k2 k3 n1 n2 n3 n4
  have o1 : Odd S b p S1 L1 5 := ⟨le4, k4, nS, q1, l1⟩
  clear k4 q1 le4 l1 kst ksg kg hst hsg
  -- None, nine states
  refine hK3 _ _ (step fun K4 hK4 => ?_)
  simp only [wSs, wS, wE, wEs, wO, wI, wC, wIf, wBin, wSub, startE_cons, startE_nil, List.replicate, getV_0, getV_s, withO_s, withB_b, bind_one, bind_two, List.set_cons_zero, List.set_cons_succ, wipeE, Nat.zero_add, atI_0, atI_1, atI_2, atI_3, see_int, see_bl, see_str, see_non, dep_int, dep_bl, dep_str, dep_non, Nat.zero_min, Nat.min_zero, Nat.zero_le, true_imp_iff, false_imp_iff, Bool.not_false, Bool.not_true, reduceCtorEq, and_true, true_and, List.length_cons, List.length_nil, recv, o1.at']
  refine ⟨⟨by simp, by omega, by omega, by omega⟩, ⟨by simp, by omega, by omega, by omega⟩, fun p2 n2 => ?_⟩
  simp only [wMt, get_up o1.at' n2, DL.up_same]
  refine ⟨ne_new o1.at' n2, by simp [o1.len, line], hK4 _ _ (step fun K5 hK5 => ?_)⟩
  have o2 := o1.ext (ys := [.tup [.tup (List.replicate (9 : Int).toNat [Val.tup (List.replicate b (Val.int 0))]).flatten, .tup (List.replicate (9 : Int).toNat [Val.int 0]).flatten], .non]) n2 (A := [.tup [.tup (List.replicate (9 : Int).toNat [Val.tup (List.replicate b (Val.int 0))]).flatten, .tup (List.replicate (9 : Int).toNat [Val.int 0]).flatten], .non]) fun v hv => by
    simp only [List.mem_cons, List.not_mem_nil, or_false] at hv
    rcases hv with rfl | rfl
    · rcases hb with rfl | rfl <;> exact ⟨by decide +kernel, by decide +kernel⟩
    · exact ⟨rfl, rfl⟩
  generalize up (up S1 p2 _) p _ = S2 at o2 ⊢
  generalize L1 ++ _ = L2 at o2 ⊢
  simp only [wSs, wS, wE, wEs, wO, wI, wC, wIf, wBin, wSub, startE_cons, startE_nil, List.replicate, getV_0, getV_s, withO_s, withB_b, bind_one, bind_two, List.set_cons_zero, List.set_cons_succ, wipeE, Nat.zero_add, atI_0, atI_1, atI_2, atI_3, see_int, see_bl, see_str, see_non, dep_int, dep_bl, dep_str, dep_non, Nat.zero_min, Nat.min_zero, Nat.zero_le, true_imp_iff, false_imp_iff, Bool.not_false, Bool.not_true, reduceCtorEq, and_true, true_and, List.length_cons, List.length_nil, recv, o2.at', cutL, wSlice]
  refine ⟨by simp [line]; omega, ⟨by simp, by omega, by omega, by omega⟩, fun p3 n3 => ?_⟩
  simp only [wMt, get_up o2.at' n3, DL.up_same]
  refine ⟨ne_new o2.at' n3, by simp [o2.len, line], hK5 _ _ (step fun K6 hK6 => ?_)⟩
  refine o2.extK (K := fun S' => wS G _ _ _ K6 _ S') n3 (fun v hv => ?_) fun S3 L3 o3 => ?_
  · simp only [List.mem_cons, List.not_mem_nil, or_false] at hv
    rcases hv with rfl | rfl | rfl <;> rcases hb with rfl | rfl <;> exact ⟨by decide +kernel, by decide +kernel⟩
  simp only [wSs, wS, wE, wEs, wO, wI, wC, wIf, wBin, wSub, startE_cons, startE_nil, List.replicate, getV_0, getV_s, withO_s, withB_b, bind_one, bind_two, List.set_cons_zero, List.set_cons_succ, wipeE, Nat.zero_add, atI_0, atI_1, atI_2, atI_3, see_int, see_bl, see_str, see_non, dep_int, dep_bl, dep_str, dep_non, Nat.zero_min, Nat.min_zero, Nat.zero_le, true_imp_iff, false_imp_iff, Bool.not_false, Bool.not_true, reduceCtorEq, and_true, true_and, List.length_cons, List.length_nil, recv, o3.at', cutL, wSlice, wMt]
  refine ⟨by simp [line]; omega, ⟨by simp, by omega, by omega, by omega⟩, by simp [o3.len, line], hK6 _ _ (step fun K7 hK7 => ?_)⟩
  refine o3.appK (K := fun S' => wS G _ _ _ K7 _ S') ?_ ?_ fun S4 L4 o4 => ?_
  · rcases hb with rfl | rfl <;> decide +kernel
  · rcases hb with rfl | rfl <;> decide +kernel
  simp only [wSs, wS, wE, wEs, wO, wI, wC, wIf, wBin, wSub, startE_cons, startE_nil, List.replicate, getV_0, getV_s, withO_s, withB_b, bind_one, bind_two, List.set_cons_zero, List.set_cons_succ, wipeE, Nat.zero_add, atI_0, atI_1, atI_2, atI_3, see_int, see_bl, see_str, see_non, dep_int, dep_bl, dep_str, dep_non, Nat.zero_min, Nat.min_zero, Nat.zero_le, true_imp_iff, false_imp_iff, Bool.not_false, Bool.not_true, reduceCtorEq, and_true, true_and, List.length_cons, List.length_nil, recv, o4.at']
  intro p5 n5
  simp only [wMt, get_up o4.at' n5, DL.up_same]
  refine ⟨ne_new o4.at' n5, by simp [o4.len, line], hK7 _ _ (step fun K8 hK8 => ?_)⟩
  refine o4.extK (K := fun S' => wS G _ _ _ K8 _ S') n5 (fun v hv => ?_) fun S5 L5 o5 => ?_
  · simp only [List.mem_cons, List.not_mem_nil, or_false] at hv
    rcases hv with rfl | rfl | rfl | rfl <;> rcases hb with rfl | rfl <;> exact ⟨by decide +kernel, by decide +kernel⟩
  simp only [wSs, wS, wE, wEs, wO, wI, wC, wIf, wBin, wSub, startE_cons, startE_nil, List.replicate, getV_0, getV_s, withO_s, withB_b, bind_one, bind_two, List.set_cons_zero, List.set_cons_succ, wipeE, Nat.zero_add, atI_0, atI_1, atI_2, atI_3, see_int, see_bl, see_str, see_non, dep_int, dep_bl, dep_str, dep_non, Nat.zero_min, Nat.min_zero, Nat.zero_le, true_imp_iff, false_imp_iff, Bool.not_false, Bool.not_true, reduceCtorEq, and_true, true_and, List.length_cons, List.length_nil, recv, o5.at', cutL, wSlice, wMt]
  refine ⟨by simp [line]; omega, by simp [o5.len, line], hK8 _ _ (step fun K9 hK9 => ?_)⟩
  refine o5.appK (K := fun S' => wS G _ _ _ K9 _ S') ?_ ?_ fun S6 L6 o6 => ?_
  · rcases hb with rfl | rfl <;> decide +kernel
  · have no : ∀ (s1 s2 : Val) (ts : List Val), s1 = .tup (.int 1 :: ts) → isRow (.tup [.tup [s1, s2], .tup [.int 0, .int 1]]) b = false := by
      rintro s1 s2 ts rfl
      have : signsOk [.tup (.int 1 :: ts), s2] [.int 0, .int 1] 2 = false := by
        unfold signsOk
        rw [List.all_eq_false]
        exact ⟨0, by simp, by simp [signAt, int_eq]⟩
      simp [isRow, this]
    exact no _ _ _ rfl
  simp only [wSs, wS, wE, wEs, wO, wI, wC, wIf, wBin, wSub, startE_cons, startE_nil, List.replicate, getV_0, getV_s, withO_s, withB_b, bind_one, bind_two, List.set_cons_zero, List.set_cons_succ, wipeE, Nat.zero_add, atI_0, atI_1, atI_2, atI_3, see_int, see_bl, see_str, see_non, dep_int, dep_bl, dep_str, dep_non, Nat.zero_min, Nat.min_zero, Nat.zero_le, true_imp_iff, false_imp_iff, Bool.not_false, Bool.not_true, reduceCtorEq, and_true, true_and, List.length_cons, List.length_nil, o6.at']
  have hj : ∃ j : Nat, n % 16 = j ∧ j < 16 := ⟨(n % 16).toNat, by omega, by omega⟩
  obtain ⟨j, ej, hj⟩ := hj
  have hl6 := o6.len
  simp only [List.length_cons, List.length_nil] at hl6
  have e6 : L6[j]? = some (L6[j]'(by omega)) := List.getElem?_eq_getElem _
  rw [ej, atI_nat, e6]
  refine ⟨by omega, rt_here (h2 _ _ o6.le (o6.odd _ (List.getElem_mem _)).1 (o6.odd _ (List.getElem_mem _)).2)⟩
end DL

set_option Elab.async false
set_option linter.all false
set_option maxRecDepth 100000
set_option maxHeartbeats 4000000
/-! law k01: the law. -/
namespace DL
open PySem
def sp_law : Spec := fun vs S Q _ => match vs with
  | [.lst sc] => ∃ ns : List Int, sc = ns.map .int ∧ ∀ S', Q (.bl true) S'
  | _ => False
theorem ne_self {v : Val} {S : Sto} {Q : KV} (hd : v.dat = true) (hp : v.dep ≤ 100) (h : Q (.bl false) S) : wCmp .ne v v S Q := by
  simp only [wCmp, see_dat hd, withO_s, Nat.min_self]
  refine ⟨hp, ?_⟩
  rw [veq_refl hd]
  exact h
theorem two_at {L : List Val} {x y : Val} {j : Nat} (hx : x ∈ L) (hy : y ∈ L) (h : j < 2) : ∃ w, [x, y][j]? = some w ∧ w ∈ L := by
  match j, h with
  | 0, _ => exact ⟨x, rfl, hx⟩
  | 1, _ => exact ⟨y, rfl, hy⟩
theorem odd_at {j : Nat} (h : j < 4) : ∃ o, [Val.int (-1), .bl true, .non, .str "0"][j]? = some o ∧ (∀ S, kn S o = true) ∧ ∀ m : Nat, o ≠ .int m := by
  match j, h with
  | 0, _ => exact ⟨_, rfl, fun _ => rfl, fun m z => by
      have := Val.int.inj z
      omega⟩
  | 1, _ => exact ⟨_, rfl, fun _ => rfl, fun m z => by cases z⟩
  | 2, _ => exact ⟨_, rfl, fun _ => rfl, fun m z => by cases z⟩
  | 3, _ => exact ⟨_, rfl, fun _ => rfl, fun m z => by cases z⟩
theorem bad_at {j n : Nat} (h : j < 3) : ∃ r, [Val.int (n : Nat), .int (-1), .non][j]? = some r ∧ (∀ S, kn S r = true) ∧ betw r 0 (n - 1) = false := by
  match j, h with
  | 0, _ => exact ⟨_, rfl, fun _ => rfl, by simp [betw]; omega⟩
  | 1, _ => exact ⟨_, rfl, fun _ => rfl, by simp [betw]⟩
  | 2, _ => exact ⟨_, rfl, fun _ => rfl, rfl⟩
theorem w_law {G : Cfg} (g : K01G G) : Wk G sp_law n_law b_law := by
  intro args S Q E h
  unfold sp_law at h
  split at h <;> first | contradiction | skip
  rename_i sc
  obtain ⟨ns, rfl, h2⟩ := h
  unfold b_law
  refine step fun K hK => ?_
  simp only [n_law, wSs, wS, wE, wEs, wO, wI, wC, wIf, wBin, wSub, startE_cons, startE_nil, List.replicate, getV_0, getV_s, withO_s, withB_b, bind_one, bind_two, List.set_cons_zero, List.set_cons_succ, wipeE, Nat.zero_add, atI_0, atI_1, atI_2, atI_3, see_int, see_bl, see_str, see_non, dep_int, dep_bl, dep_str, dep_non, Nat.zero_min, Nat.min_zero, Nat.zero_le, true_imp_iff, false_imp_iff, Bool.not_false, Bool.not_true, reduceCtorEq, and_true, true_and, List.length_cons, List.length_nil, g.f104, sp_hall]
  intro p hp
  refine ⟨ns, 4, rfl, DL.up_same, by omega, fun base Rs j hb hl hR => hK _ _ (step fun K2 hK2 => ?_)⟩
  generalize up (up S p (.lst [.int 4])) p (.lst [.int j]) = S1
  have hH : isHall (hallV base Rs) = true := isHall_val hb (by omega) fun R hr => (hR R hr).1
  have hfold : Val.tup [.int base, .tup (Rs.map Row.val)] = hallV base Rs := rfl
  simp only [wSs, wS, wE, wEs, wO, wI, wC, wIf, wBin, wSub, startE_cons, startE_nil, List.replicate, getV_0, getV_s, withO_s, withB_b, bind_one, bind_two, List.set_cons_zero, List.set_cons_succ, wipeE, Nat.zero_add, atI_0, atI_1, atI_2, atI_3, see_int, see_bl, see_str, see_non, dep_int, dep_bl, dep_str, dep_non, Nat.zero_min, Nat.min_zero, Nat.zero_le, true_imp_iff, false_imp_iff, Bool.not_false, Bool.not_true, reduceCtorEq, and_true, true_and, List.length_cons, List.length_nil, bind_two]
  refine hK2 _ _ (step fun K3 hK3 => ite_step fun A B hA hB => ?_)
  have hb' : isHall (.tup [.int base, .tup []]) = true := isHall_val (Rs := []) hb (by simp) (by simp)
  simp only [wSs, wS, wE, wEs, wO, wI, wC, wIf, wBin, wSub, startE_cons, startE_nil, List.replicate, getV_0, getV_s, withO_s, withB_b, bind_one, bind_two, List.set_cons_zero, List.set_cons_succ, wipeE, Nat.zero_add, atI_0, atI_1, atI_2, atI_3, see_int, see_bl, see_str, see_non, dep_int, dep_bl, dep_str, dep_non, Nat.zero_min, Nat.min_zero, Nat.zero_le, true_imp_iff, false_imp_iff, Bool.not_false, Bool.not_true, reduceCtorEq, and_true, true_and, List.length_cons, List.length_nil, g.f5, sp_checked, hfold]
  refine ⟨hall_kn _ _ _, fun _ => ne_self (hall_dat _ _) (Nat.le_trans (hall_dep _ _) (by omega)) ?_, fun z => by rw [hH] at z; cases z⟩
  simp only [wSs, wS, wE, wEs, wO, wI, wC, wIf, wBin, wSub, startE_cons, startE_nil, List.replicate, getV_0, getV_s, withO_s, withB_b, bind_one, bind_two, List.set_cons_zero, List.set_cons_succ, wipeE, Nat.zero_add, atI_0, atI_1, atI_2, atI_3, see_int, see_bl, see_str, see_non, dep_int, dep_bl, dep_str, dep_non, Nat.zero_min, Nat.min_zero, Nat.zero_le, true_imp_iff, false_imp_iff, Bool.not_false, Bool.not_true, reduceCtorEq, and_true, true_and, List.length_cons, List.length_nil]
  refine ⟨rfl, fun _ => ne_self rfl (by simp [Val.dep, Val.deps]) ?_, fun z => by rw [hb'] at z; cases z⟩
  simp only [wSs, wS, wE, wEs, wO, wI, wC, wIf, wBin, wSub, startE_cons, startE_nil, List.replicate, getV_0, getV_s, withO_s, withB_b, bind_one, bind_two, List.set_cons_zero, List.set_cons_succ, wipeE, Nat.zero_add, atI_0, atI_1, atI_2, atI_3, see_int, see_bl, see_str, see_non, dep_int, dep_bl, dep_str, dep_non, Nat.zero_min, Nat.min_zero, Nat.zero_le, true_imp_iff, false_imp_iff, Bool.not_false, Bool.not_true, reduceCtorEq, and_true, true_and, List.length_cons, List.length_nil]
  refine hB _ _ ?_
  simp only [wSs, wS, wE, wEs, wO, wI, wC, wIf, wBin, wSub, startE_cons, startE_nil, List.replicate, getV_0, getV_s, withO_s, withB_b, bind_one, bind_two, List.set_cons_zero, List.set_cons_succ, wipeE, Nat.zero_add, atI_0, atI_1, atI_2, atI_3, see_int, see_bl, see_str, see_non, dep_int, dep_bl, dep_str, dep_non, Nat.zero_min, Nat.min_zero, Nat.zero_le, true_imp_iff, false_imp_iff, Bool.not_false, Bool.not_true, reduceCtorEq, and_true, true_and, List.length_cons, List.length_nil]
  refine hK3 _ _ (step fun K4 hK4 => ?_)
  simp only [wSs, wS, wE, wEs, wO, wI, wC, wIf, wBin, wSub, startE_cons, startE_nil, List.replicate, getV_0, getV_s, withO_s, withB_b, bind_one, bind_two, List.set_cons_zero, List.set_cons_succ, wipeE, Nat.zero_add, atI_0, atI_1, atI_2, atI_3, see_int, see_bl, see_str, see_non, dep_int, dep_bl, dep_str, dep_non, Nat.zero_min, Nat.min_zero, Nat.zero_le, true_imp_iff, false_imp_iff, Bool.not_false, Bool.not_true, reduceCtorEq, and_true, true_and, List.length_cons, List.length_nil, g.f101, sp_mixed]
  refine ⟨ns, 0, rfl, rfl, by omega, hK4 _ _ (step fun K5 hK5 => for_step fun B2 hB2 => ?_)⟩
  obtain ⟨pl, hpl⟩ := Int.eq_ofNat_of_zero_le (mixed_in (ns := ns) (k := 0) (many := 3000) (by omega)).1
  have hpl3 : pl < 3000 := by
    have := (mixed_in (ns := ns) (k := 0) (many := 3000) (by omega)).2
    omega
  rw [hpl]
  simp only [wSs, wS, wE, wEs, wO, wI, wC, wIf, wBin, wSub, startE_cons, startE_nil, List.replicate, getV_0, getV_s, withO_s, withB_b, bind_one, bind_two, List.set_cons_zero, List.set_cons_succ, wipeE, Nat.zero_add, atI_0, atI_1, atI_2, atI_3, see_int, see_bl, see_str, see_non, dep_int, dep_bl, dep_str, dep_non, Nat.zero_min, Nat.min_zero, Nat.zero_le, true_imp_iff, false_imp_iff, Bool.not_false, Bool.not_true, reduceCtorEq, and_true, true_and, List.length_cons, List.length_nil, wBt, wRng, List.length_map]
  refine ⟨by omega, by omega, ?_⟩
  rw [Int.toNat_natCast, rangeL_nat]
  refine for_inv (fun rest e S' => (∀ x ∈ rest, ∃ k : Nat, k < Rs.length ∧ x = natV k) ∧ S' = S1 ∧ ∃ v5 v6 : Option Val, e = [some (.lst (ns.map .int)), some (hallV base Rs), some (.int base), some (.tup (Rs.map Row.val)), some (.int pl), v5, v6, none, none, none]) ?_ ?_ _ _ _
    ⟨fun x hx => by
      obtain ⟨k, hk, rfl⟩ := List.mem_map.mp hx
      exact ⟨k, by simpa using hk, rfl⟩, rfl, none, none, rfl⟩
  · rintro x rest e S' ⟨hx, rfl, v5, v6, rfl⟩
    obtain ⟨k, hk, rfl⟩ := hx x (by simp)
    refine ⟨trivial, ?_⟩
    simp only [bind_one, bind_two, withO_s, List.set_cons_zero, List.set_cons_succ]
    intro kk hkk
    refine hB2 _ _ _ (step fun K6 hK6 => for_step fun B3 hB3 => ?_)
    simp only [wSs, wS, wE, wEs, wO, wI, wC, wIf, wBin, wSub, startE_cons, startE_nil, List.replicate, getV_0, getV_s, withO_s, withB_b, bind_one, bind_two, List.set_cons_zero, List.set_cons_succ, wipeE, Nat.zero_add, atI_0, atI_1, atI_2, atI_3, see_int, see_bl, see_str, see_non, dep_int, dep_bl, dep_str, dep_non, Nat.zero_min, Nat.min_zero, Nat.zero_le, true_imp_iff, false_imp_iff, Bool.not_false, Bool.not_true, reduceCtorEq, and_true, true_and, List.length_cons, List.length_nil, iterOf]
    refine ⟨⟨by omega, by omega, by omega⟩, .inl (.inl (by omega)), ?_⟩
    refine for_inv (fun rest e S'' => (∀ x ∈ rest, ∃ m : Nat, m < 2 ^ 100 ∧ x = natV m) ∧ S'' = S' ∧ ∃ v6 : Option Val, e = [some (.lst (ns.map .int)), some (hallV base Rs), some (.int base), some (.tup (Rs.map Row.val)), some (.int pl), some (natV k), v6, none, none, none]) ?_ ?_ _ _ _
      ⟨fun x hx => ?_, rfl, v6, rfl⟩
    · rintro x rest2 e S'' ⟨hx2, rfl, w6, rfl⟩
      obtain ⟨m, hm, rfl⟩ := hx2 x (by simp)
      refine ⟨trivial, ?_⟩
      simp only [bind_one, bind_two, withO_s, List.set_cons_zero, List.set_cons_succ]
      intro k2 hk2
      refine hB3 _ _ _ (step fun K7 hK7 => ite_step fun A4 B4 hA4 hB4 => ?_)
      have e1 : Rs[k]? = some Rs[k] := List.getElem?_eq_getElem hk
      have ok := (hR _ (List.getElem_mem hk)).1
      simp only [wSs, wS, wE, wEs, wO, wI, wC, wIf, wBin, wSub, startE_cons, startE_nil, List.replicate, getV_0, getV_s, withO_s, withB_b, bind_one, bind_two, List.set_cons_zero, List.set_cons_succ, wipeE, Nat.zero_add, atI_0, atI_1, atI_2, atI_3, see_int, see_bl, see_str, see_non, dep_int, dep_bl, dep_str, dep_non, Nat.zero_min, Nat.min_zero, Nat.zero_le, true_imp_iff, false_imp_iff, Bool.not_false, Bool.not_true, reduceCtorEq, and_true, true_and, List.length_cons, List.length_nil, g.f9, sp_sign_at]
      refine ⟨hall_kn _ _ _, rfl, rfl, (fun z => by rw [hH] at z; cases z), fun _ => ⟨fun z => ?_, fun _ => ⟨fun m' em => ?_, fun z => absurd rfl (z m)⟩⟩⟩
      · have : betw (natV k) 0 (rowsN (hallV base Rs) - 1) = true := by
          simp [betw_nat, hallV, rowsN]
          omega
        rw [this] at z
        cases z
      · have em' : m' = m := by
          have := Val.int.inj em
          omega
        subst em'
        have hbo : baseOf (hallV base Rs) = base := by simp [baseOf, hallV]
        rw [hbo]
        refine ⟨Nat.lt_of_le_of_lt (digs_len hb.1 100 m' hm) (by unfold line; omega), fun k' ek w hw => ?_⟩
        have ek' : k' = k := by
          have := Val.int.inj ek
          omega
        subst ek'
        have ew : w = Rs[k'].val := by
          simp only [rowsOf, hallV, List.getElem?_map, e1, Option.map_some] at hw
          exact (Option.some.inj hw).symm
        subst ew
        rw [rowOf_val]
        simp only [natV, wSs, wS, wE, wEs, wO, wI, wC, wIf, wBin, wSub, startE_cons, startE_nil, List.replicate, getV_0, getV_s, withO_s, withB_b, bind_one, bind_two, List.set_cons_zero, List.set_cons_succ, wipeE, Nat.zero_add, atI_0, atI_1, atI_2, atI_3, see_int, see_bl, see_str, see_non, dep_int, dep_bl, dep_str, dep_non, Nat.zero_min, Nat.min_zero, Nat.zero_le, true_imp_iff, false_imp_iff, Bool.not_false, Bool.not_true, reduceCtorEq, and_true, true_and, List.length_cons, List.length_nil, atI_nat, List.getElem?_map, e1, Option.map_some, g.f120, sp_law_sign]
        refine ⟨base, Rs[k'], m', rfl, hb.1, ok, rfl, rfl, hb.2, ?_⟩
        simp only [natV, wCmp, wSs, wS, wE, wEs, wO, wI, wC, wIf, wBin, wSub, startE_cons, startE_nil, List.replicate, getV_0, getV_s, withO_s, withB_b, bind_one, bind_two, List.set_cons_zero, List.set_cons_succ, wipeE, Nat.zero_add, atI_0, atI_1, atI_2, atI_3, see_int, see_bl, see_str, see_non, dep_int, dep_bl, dep_str, dep_non, Nat.zero_min, Nat.min_zero, Nat.zero_le, true_imp_iff, false_imp_iff, Bool.not_false, Bool.not_true, reduceCtorEq, and_true, true_and, List.length_cons, List.length_nil, int_eq, decide_true]
        refine hB4 _ _ ?_
        simp only [wSs, wS, wE, wEs, wO, wI, wC, wIf, wBin, wSub, startE_cons, startE_nil, List.replicate, getV_0, getV_s, withO_s, withB_b, bind_one, bind_two, List.set_cons_zero, List.set_cons_succ, wipeE, Nat.zero_add, atI_0, atI_1, atI_2, atI_3, see_int, see_bl, see_str, see_non, dep_int, dep_bl, dep_str, dep_non, Nat.zero_min, Nat.min_zero, Nat.zero_le, true_imp_iff, false_imp_iff, Bool.not_false, Bool.not_true, reduceCtorEq, and_true, true_and, List.length_cons, List.length_nil]
        refine hK7 _ _ ?_
        simp only [wSs, wS, wE, wEs, wO, wI, wC, wIf, wBin, wSub, startE_cons, startE_nil, List.replicate, getV_0, getV_s, withO_s, withB_b, bind_one, bind_two, List.set_cons_zero, List.set_cons_succ, wipeE, Nat.zero_add, atI_0, atI_1, atI_2, atI_3, see_int, see_bl, see_str, see_non, dep_int, dep_bl, dep_str, dep_non, Nat.zero_min, Nat.min_zero, Nat.zero_le, true_imp_iff, false_imp_iff, Bool.not_false, Bool.not_true, reduceCtorEq, and_true, true_and, List.length_cons, List.length_nil]
        exact hk2 _ _ ⟨fun x hx => hx2 x (by simp [hx]), rfl, _, rfl⟩
    · rintro e S'' ⟨_, rfl, w6, rfl⟩
      refine ⟨trivial, hK6 _ _ ?_⟩
      simp only [wSs, wS, wE, wEs, wO, wI, wC, wIf, wBin, wSub, startE_cons, startE_nil, List.replicate, getV_0, getV_s, withO_s, withB_b, bind_one, bind_two, List.set_cons_zero, List.set_cons_succ, wipeE, Nat.zero_add, atI_0, atI_1, atI_2, atI_3, see_int, see_bl, see_str, see_non, dep_int, dep_bl, dep_str, dep_non, Nat.zero_min, Nat.min_zero, Nat.zero_le, true_imp_iff, false_imp_iff, Bool.not_false, Bool.not_true, reduceCtorEq, and_true, true_and, List.length_cons, List.length_nil]
      exact hkk _ _ ⟨fun x hx2 => hx x (by simp [hx2]), rfl, _, _, rfl⟩
    · simp only [List.mem_cons, List.not_mem_nil, or_false] at hx
      rcases ‹x = _ ∨ _› with rfl | rfl | rfl
      · exact ⟨pl, by omega, rfl⟩
      · exact ⟨pl * 10 ^ 20 + 7, by omega, by simp [natV]⟩
      · exact ⟨k, by omega, rfl⟩
  · rintro e S' ⟨_, rfl, v5, v6, rfl⟩
    refine ⟨trivial, hK5 _ _ (step fun K6 hK6 => ?_)⟩
    simp only [wSs, wS, wE, wEs, wO, wI, wC, wIf, wBin, wSub, startE_cons, startE_nil, List.replicate, getV_0, getV_s, withO_s, withB_b, bind_one, bind_two, List.set_cons_zero, List.set_cons_succ, wipeE, Nat.zero_add, atI_0, atI_1, atI_2, atI_3, see_int, see_bl, see_str, see_non, dep_int, dep_bl, dep_str, dep_non, Nat.zero_min, Nat.min_zero, Nat.zero_le, true_imp_iff, false_imp_iff, Bool.not_false, Bool.not_true, reduceCtorEq, and_true, true_and, List.length_cons, List.length_nil, g.f101, sp_mixed]
    refine ⟨⟨by omega, by omega, by decide⟩, ns, 1, rfl, rfl, by decide, hK6 _ _ (step fun K7 hK7 => ?_)⟩
    have hcell := mixed_in (ns := ns) (k := 1) (many := 10 ^ (6 : Int).toNat) (by decide)
    generalize mixed ns 1 (10 ^ (6 : Int).toNat) = cell at hcell
    have hR0 : Rs[0]? = some (Rs[0]'(by omega)) := List.getElem?_eq_getElem _
    have ok0 := (hR _ (List.getElem_mem (show 0 < Rs.length by omega))).1
    simp (config := { maxSteps := 2000000 }) only [wSs, wS, wE, wEs, wO, wI, wC, wIf, wBin, wSub, startE_cons, startE_nil, List.replicate, getV_0, getV_s, withO_s, withB_b, bind_one, bind_two, List.set_cons_zero, List.set_cons_succ, wipeE, Nat.zero_add, atI_0, atI_1, atI_2, atI_3, see_int, see_bl, see_str, see_non, dep_int, dep_bl, dep_str, dep_non, Nat.zero_min, Nat.min_zero, Nat.zero_le, true_imp_iff, false_imp_iff, Bool.not_false, Bool.not_true, reduceCtorEq, and_true, true_and, List.length_cons, List.length_nil, wBt, hallV]
    intro p1 n1
    refine ⟨⟨fun z => by
      have := congrArg List.length z
      simp at this
      rw [this] at hl
      simp at hl, by omega, by omega, by rw [List.length_map]; omega⟩, fun p2 n2 p3 n3 => ?_⟩
    have k1 := get_up (o2 := .lst [.ref p1, .tup [.int 1, .tup []], .tup [.int 4, .tup []], .tup [.bl true, .tup []], .tup [.int base, .tup (List.replicate (4 : Int).toNat (Rs.map Row.val)).flatten], .tup [.int base, .ref p2], .tup [.int base], .non])
      (get_up (o2 := .lst (Rs.map Row.val)) (DL.up_same (S := S') (a := p1) (o := .lst [.int base, .tup (Rs.map Row.val)])) n2) n3
    have k2 := get_up (o2 := .lst [.ref p1, .tup [.int 1, .tup []], .tup [.int 4, .tup []], .tup [.bl true, .tup []], .tup [.int base, .tup (List.replicate (4 : Int).toNat (Rs.map Row.val)).flatten], .tup [.int base, .ref p2], .tup [.int base], .non])
      (DL.up_same (S := up S' p1 (.lst [.int base, .tup (Rs.map Row.val)])) (a := p2) (o := .lst (Rs.map Row.val))) n3
    have k3 := DL.up_same (S := up (up S' p1 (.lst [.int base, .tup (Rs.map Row.val)])) p2 (.lst (Rs.map Row.val))) (a := p3) (o := .lst [.ref p1, .tup [.int 1, .tup []], .tup [.int 4, .tup []], .tup [.bl true, .tup []], .tup [.int base, .tup (List.replicate (4 : Int).toNat (Rs.map Row.val)).flatten], .tup [.int base, .ref p2], .tup [.int base], .non])
    refine hK7 _ _ (step fun K8 hK8 => ?_)
    generalize up (up (up S' p1 (.lst [.int base, .tup (Rs.map Row.val)])) p2 (.lst (Rs.map Row.val))) p3 _ = S2 at k1 k2 k3 ⊢
    have q1 : ∀ v ∈ [Val.ref p1, .tup [.int 1, .tup []], .tup [.int 4, .tup []], .tup [.bl true, .tup []], .tup [.int base, .tup (List.replicate (4 : Int).toNat (Rs.map Row.val)).flatten], .tup [.int base, .ref p2], .tup [.int base], .non], kn S2 v = true ∧ isHall v = false := by
      intro v hv
      simp only [List.mem_cons, List.not_mem_nil, or_false] at hv
      rcases hv with rfl | rfl | rfl | rfl | rfl | rfl | rfl | rfl
      · exact ⟨kn_list k1, rfl⟩
      · exact ⟨rfl, by decide +kernel⟩
      · exact ⟨rfl, by decide +kernel⟩
      · exact ⟨rfl, by decide +kernel⟩
      · refine ⟨?_, ?_⟩
        · have : ∀ n : Nat, kns S2 (List.replicate n (Rs.map Row.val)).flatten = true := by
            intro n
            induction n with
            | zero => rfl
            | succ n ih =>
              rw [List.replicate_succ, List.flatten_cons]
              exact kns_app (kns_map _ _ (row_kn _) _) ih
          simp only [kn, kns, this, Bool.and_true]
        · have : ¬ (List.replicate (4 : Int).toNat (Rs.map Row.val)).flatten.length ≤ 3 := by
            simp
            omega
          simp only [isHall, this, decide_false, Bool.false_and, Bool.and_false]
      · exact ⟨by simp [kn, kns, k2], by simp [isHall]⟩
      · exact ⟨by simp [kn, kns], rfl⟩
      · exact ⟨rfl, rfl⟩
    have l1 : [Val.ref p1, .tup [.int 1, .tup []], .tup [.int 4, .tup []], .tup [.bl true, .tup []], .tup [.int base, .tup (List.replicate (4 : Int).toNat (Rs.map Row.val)).flatten], .tup [.int base, .ref p2], .tup [.int base], .non].length = 8 := rfl
    generalize [Val.ref p1, .tup [.int 1, .tup []], .tup [.int 4, .tup []], .tup [.bl true, .tup []], .tup [.int base, .tup (List.replicate (4 : Int).toNat (Rs.map Row.val)).flatten], .tup [.int base, .ref p2], .tup [.int base], .non] = L1 at k3 q1 l1
    clear k1 k2 n1 n2 n3
    have hbb : base = 2 ∨ base = 3 := by omega
    have e0 : (Rs.map Row.val)[0]? = some (Rs[0]'(by omega)).val := by rw [List.getElem?_map, hR0]; rfl
    have e00 : L2.atI (Rs.map Row.val) 0 = some (Rs[0]'(by omega)).val := (atI_nat _ 0).trans e0
    simp only [wSs, wS, wE, wEs, wO, wI, wC, wIf, wBin, wSub, startE_cons, startE_nil, List.replicate, getV_0, getV_s, withO_s, withB_b, bind_one, bind_two, List.set_cons_zero, List.set_cons_succ, wipeE, Nat.zero_add, atI_0, atI_1, atI_2, atI_3, see_int, see_bl, see_str, see_non, dep_int, dep_bl, dep_str, dep_non, Nat.zero_min, Nat.min_zero, Nat.zero_le, true_imp_iff, false_imp_iff, Bool.not_false, Bool.not_true, reduceCtorEq, and_true, true_and, List.length_cons, List.length_nil, recv, k3, e00, g.f121, sp_odd_row]
    refine ⟨by omega, by omega, base, _, rfl, hbb, ok0, rfl, fun v S3 le3 kv hv => ?_⟩
    simp only [wMt, le3 _ _ k3]
    refine ⟨by simp [l1, line], hK8 _ _ (step fun K9 hK9 => ?_)⟩
    have q3 : ∀ w ∈ L1 ++ [.tup [.int base, .tup [v]]], kn (up S3 p3 (.lst (L1 ++ [.tup [.int base, .tup [v]]]))) w = true ∧ isHall w = false := by
      intro w hw
      rcases List.mem_append.mp hw with z | z
      · exact ⟨kn_up (kn_mono le3 (q1 w z).1), (q1 w z).2⟩
      · simp at z
        subst z
        refine ⟨kn_up (by simp [kn, kns, kv]), ?_⟩
        simp [isHall, hv]
    have k4 := DL.up_same (S := S3) (a := p3) (o := .lst (L1 ++ [.tup [.int base, .tup [v]]]))
    have l4 : (L1 ++ [Val.tup [.int base, .tup [v]]]).length = 9 := by simp [l1]
    generalize up S3 p3 _ = S4 at k4 q3 ⊢
    generalize L1 ++ _ = L4 at k4 q3 l4
    clear q1 k3 le3 kv hv v l1
    simp only [wSs, wS, wE, wEs, wO, wI, wC, wIf, wBin, wSub, startE_cons, startE_nil, List.replicate, getV_0, getV_s, withO_s, withB_b, bind_one, bind_two, List.set_cons_zero, List.set_cons_succ, wipeE, Nat.zero_add, atI_0, atI_1, atI_2, atI_3, see_int, see_bl, see_str, see_non, dep_int, dep_bl, dep_str, dep_non, Nat.zero_min, Nat.min_zero, Nat.zero_le, true_imp_iff, false_imp_iff, Bool.not_false, Bool.not_true, reduceCtorEq, and_true, true_and, List.length_cons, List.length_nil, recv, k4, e00, g.f121, sp_odd_row, wSlice]
    refine ⟨by omega, by omega, base, _, rfl, hbb, ok0, rfl, fun v S5 le5 kv hv => ⟨?_, ?_⟩⟩
    · have : (cutL (Rs.map Row.val) none (some 1)).length ≤ 2 := by
        unfold cutL
        simp
        omega
      have hl : line = 16777216 := rfl
      omega
    simp only [wMt, le5 _ _ k4]
    refine ⟨by simp [l4, line], hK9 _ _ (step fun K10 hK10 => ite_step fun A6 B6 hA6 hB6 => ?_)⟩
    have hcut : ∀ x ∈ cutL (Rs.map Row.val) none (some 1), ∃ R : Row, x = R.val := by
      intro x hx
      unfold cutL at hx
      obtain ⟨R, _, rfl⟩ := List.mem_map.mp (List.mem_of_mem_drop (List.mem_of_mem_take hx))
      exact ⟨R, rfl⟩
    have kcut : kns S5 (cutL (Rs.map Row.val) none (some 1)) = true := by
      have : ∀ xs : List Val, (∀ x ∈ xs, ∃ R : Row, x = R.val) → kns S5 xs = true := by
        intro xs
        induction xs with
        | nil => intro _; rfl
        | cons x xs ih =>
          intro h
          obtain ⟨R, rfl⟩ := h x (by simp)
          simp only [kns, row_kn, Bool.true_and]
          exact ih fun y hy => h y (by simp [hy])
      exact this _ hcut
    have q5 : ∀ w ∈ L4 ++ [.tup [.int base, .tup (cutL (Rs.map Row.val) none (some 1) ++ [v])]], kn (up S5 p3 (.lst (L4 ++ [.tup [.int base, .tup (cutL (Rs.map Row.val) none (some 1) ++ [v])]]))) w = true ∧ isHall w = false := by
      intro w hw
      rcases List.mem_append.mp hw with z | z
      · exact ⟨kn_up (kn_mono le5 (q3 w z).1), (q3 w z).2⟩
      · simp only [List.mem_singleton] at z
        subst z
        refine ⟨kn_up ?_, ?_⟩
        · have := kns_app kcut (ys := [v]) (by simp [kns, kv])
          simp [kn, kns, this]
        · have : ((cutL (Rs.map Row.val) none (some 1) ++ [v]).all fun r => isRow r base) = false := by
            rw [List.all_eq_false]
            exact ⟨v, by simp, by simp [hv]⟩
          simp only [isHall, this, Bool.and_false]
    have k6 := DL.up_same (S := S5) (a := p3) (o := .lst (L4 ++ [.tup [.int base, .tup (cutL (Rs.map Row.val) none (some 1) ++ [v])]]))
    have l6 : (L4 ++ [Val.tup [.int base, .tup (cutL (Rs.map Row.val) none (some 1) ++ [v])]]).length = 10 := by simp [l4]
    generalize up S5 p3 _ = S6 at k6 q5 ⊢
    generalize L4 ++ _ = L6 at k6 q5 l6
    clear q3 k4 le5 l4
    have small : ∀ (x : Int) (n : Nat), 0 < n → ∃ j : Nat, x % n = j ∧ j < n := fun x n hn => by
      have h1 := Int.emod_nonneg x (b := (n : Int)) (by omega)
      have h2 := Int.emod_lt_of_pos x (b := (n : Int)) (by omega)
      exact ⟨(x % n).toNat, by omega, by omega⟩
    obtain ⟨j1, ej1, hj1⟩ := small cell 8 (by omega)
    obtain ⟨j2, ej2, hj2⟩ := small cell 2 (by omega)
    obtain ⟨j3, ej3, hj3⟩ := small (cell / 3) 2 (by omega)
    obtain ⟨j4, ej4, hj4⟩ := small cell 4 (by omega)
    obtain ⟨j5, ej5, hj5⟩ := small cell 3 (by omega)
    have ej1 : cell % 8 = j1 := ej1
    have ej2 : cell % 2 = j2 := ej2
    have ej3 : cell / 3 % 2 = j3 := ej3
    have ej4 : cell % 4 = j4 := ej4
    have ej5 : cell % 3 = j5 := ej5
    have ej2' : (8 : Int) + (j2 : Int) = ((8 + j2 : Nat) : Int) := by omega
    have g1 : L6[j1]? = some (L6[j1]'(by omega)) := List.getElem?_eq_getElem _
    have g2 : L6[8 + j2]? = some (L6[8 + j2]'(by omega)) := List.getElem?_eq_getElem _
    simp only [wSs, wS, wE, wEs, wO, wI, wC, wIf, wBin, wSub, startE_cons, startE_nil, List.replicate, getV_0, getV_s, withO_s, withB_b, bind_one, bind_two, List.set_cons_zero, List.set_cons_succ, wipeE, Nat.zero_add, atI_0, atI_1, atI_2, atI_3, see_int, see_bl, see_str, see_non, dep_int, dep_bl, dep_str, dep_non, Nat.zero_min, Nat.min_zero, Nat.zero_le, true_imp_iff, false_imp_iff, Bool.not_false, Bool.not_true, reduceCtorEq, and_true, true_and, List.length_cons, List.length_nil, k6, ej1, ej2, ej3, ej2', atI_nat, g1, g2]
    refine ⟨by omega, by omega, fun p7 n7 => ?_⟩
    have hv := two_at (List.getElem_mem (show j1 < L6.length by omega)) (List.getElem_mem (show 8 + j2 < L6.length by omega)) hj3
    obtain ⟨w, ew, hw⟩ := hv
    simp only [DL.up_same, ew, wSs, wS, wE, wEs, wO, wI, wC, wIf, wBin, wSub, startE_cons, startE_nil, List.replicate, getV_0, getV_s, withO_s, withB_b, bind_one, bind_two, List.set_cons_zero, List.set_cons_succ, wipeE, Nat.zero_add, atI_0, atI_1, atI_2, atI_3, see_int, see_bl, see_str, see_non, dep_int, dep_bl, dep_str, dep_non, Nat.zero_min, Nat.min_zero, Nat.zero_le, true_imp_iff, false_imp_iff, Bool.not_false, Bool.not_true, reduceCtorEq, and_true, true_and, List.length_cons, List.length_nil, atI_nat, g.f122, sp_refused]
    have hkeep : ∀ b : Bool, keep S6 (up S6 p7 (.lst [L6[j1]'(by omega), L6[8 + j2]'(by omega)])) (.bl b) = S6 := fun b => by rw [keep_up (by simp) n7, keep_self S6 (by simp)]
    refine ⟨by omega, by omega, by omega, kn_up (q5 w hw).1, (q5 w hw).2, ?_⟩
    simp only [hkeep, wSs, wS, wE, wEs, wO, wI, wC, wIf, wBin, wSub, startE_cons, startE_nil, List.replicate, getV_0, getV_s, withO_s, withB_b, bind_one, bind_two, List.set_cons_zero, List.set_cons_succ, wipeE, Nat.zero_add, atI_0, atI_1, atI_2, atI_3, see_int, see_bl, see_str, see_non, dep_int, dep_bl, dep_str, dep_non, Nat.zero_min, Nat.min_zero, Nat.zero_le, true_imp_iff, false_imp_iff, Bool.not_false, Bool.not_true, reduceCtorEq, and_true, true_and, List.length_cons, List.length_nil]
    refine hB6 _ _ ?_
    simp only [wSs, wS, wE, wEs, wO, wI, wC, wIf, wBin, wSub, startE_cons, startE_nil, List.replicate, getV_0, getV_s, withO_s, withB_b, bind_one, bind_two, List.set_cons_zero, List.set_cons_succ, wipeE, Nat.zero_add, atI_0, atI_1, atI_2, atI_3, see_int, see_bl, see_str, see_non, dep_int, dep_bl, dep_str, dep_non, Nat.zero_min, Nat.min_zero, Nat.zero_le, true_imp_iff, false_imp_iff, Bool.not_false, Bool.not_true, reduceCtorEq, and_true, true_and, List.length_cons, List.length_nil]
    refine hK10 _ _ (step fun K11 hK11 => ?_)
    simp only [wSs, wS, wE, wEs, wO, wI, wC, wIf, wBin, wSub, startE_cons, startE_nil, List.replicate, getV_0, getV_s, withO_s, withB_b, bind_one, bind_two, List.set_cons_zero, List.set_cons_succ, wipeE, Nat.zero_add, atI_0, atI_1, atI_2, atI_3, see_int, see_bl, see_str, see_non, dep_int, dep_bl, dep_str, dep_non, Nat.zero_min, Nat.min_zero, Nat.zero_le, true_imp_iff, false_imp_iff, Bool.not_false, Bool.not_true, reduceCtorEq, and_true, true_and, List.length_cons, List.length_nil]
    intro p8 n8
    have hodd := odd_at hj4
    obtain ⟨o, eo, ko, no⟩ := hodd
    simp only [DL.up_same, ej4, atI_nat, eo, wSs, wS, wE, wEs, wO, wI, wC, wIf, wBin, wSub, startE_cons, startE_nil, List.replicate, getV_0, getV_s, withO_s, withB_b, bind_one, bind_two, List.set_cons_zero, List.set_cons_succ, wipeE, Nat.zero_add, atI_0, atI_1, atI_2, atI_3, see_int, see_bl, see_str, see_non, dep_int, dep_bl, dep_str, dep_non, Nat.zero_min, Nat.min_zero, Nat.zero_le, true_imp_iff, false_imp_iff, Bool.not_false, Bool.not_true, reduceCtorEq, and_true, true_and, List.length_cons, List.length_nil]
    refine ⟨by omega, hK11 _ _ ?_⟩
    simp only [wSs, wS, wE, wEs, wO, wI, wC, wIf, wBin, wSub, startE_cons, startE_nil, List.replicate, getV_0, getV_s, withO_s, withB_b, bind_one, bind_two, List.set_cons_zero, List.set_cons_succ, wipeE, Nat.zero_add, atI_0, atI_1, atI_2, atI_3, see_int, see_bl, see_str, see_non, dep_int, dep_bl, dep_str, dep_non, Nat.zero_min, Nat.min_zero, Nat.zero_le, true_imp_iff, false_imp_iff, Bool.not_false, Bool.not_true, reduceCtorEq, and_true, true_and, List.length_cons, List.length_nil, g.f123, sp_no_number, hfold, wBt]
    have hbo : baseOf (hallV base Rs) = base := by simp [baseOf, hallV]
    refine ⟨hall_kn _ _ _, rfl, ko _, hH, .inr no, fun m e => absurd e (no m), ?_⟩
    intro p9 n9
    have hbad := bad_at (n := (Rs.map Row.val).length) hj5
    obtain ⟨r, er, kr, hr⟩ := hbad
    simp only [DL.up_same, ej5, atI_nat, er, wSs, wS, wE, wEs, wO, wI, wC, wIf, wBin, wSub, startE_cons, startE_nil, List.replicate, getV_0, getV_s, withO_s, withB_b, bind_one, bind_two, List.set_cons_zero, List.set_cons_succ, wipeE, Nat.zero_add, atI_0, atI_1, atI_2, atI_3, see_int, see_bl, see_str, see_non, dep_int, dep_bl, dep_str, dep_non, Nat.zero_min, Nat.min_zero, Nat.zero_le, true_imp_iff, false_imp_iff, Bool.not_false, Bool.not_true, reduceCtorEq, and_true, true_and, List.length_cons, List.length_nil]
    refine ⟨by omega, hall_kn _ _ _, kr _, rfl, hH, .inl (by simpa [rowsN, hallV] using hr), fun m e => ?_, rt_here (h2 _)⟩
    have : m = pl := by
      have := Val.int.inj e
      omega
    subst this
    rw [hbo]
    exact Nat.lt_of_le_of_lt (digs_len hb.1 100 m (by omega)) (by unfold line; omega)
end DL

set_option Elab.async false
set_option linter.all false
set_option maxRecDepth 100000
set_option maxHeartbeats 8000000
/-! law_k01_halls: the end. -/
namespace DL
open PySem PySem.Spec PyProof.Rows L2

/-- the i-th statement of the program -/
def top (i : Nat) : Stmt := PySem.Challenge.pw_digitrow_k01_halls.main.body.getD i (.Pass ⟨0, 0, 0, 0⟩)
abbrev exsK : List (Str × Nat) := [("RowError", 0), ("NoHall", 1), ("NoRule", 2), ("NoNumber", 5)]
def gK : Cfg where
  fn := fun n => match n with
    | 0 => some sp_is_whole
    | 1 => some sp_between
    | 2 => some sp_is_state
    | 3 => some sp_is_row
    | 4 => some sp_is_hall
    | 5 => some sp_checked
    | 6 => some sp_need_row
    | 7 => some sp_figures_of
    | 8 => some sp_sign_of
    | 9 => some sp_sign_at
    | 100 => some sp_cell_at
    | 101 => some sp_mixed
    | 102 => some sp_next
    | 103 => some sp_row
    | 104 => some sp_hall
    | 120 => some sp_law_sign
    | 121 => some sp_odd_row
    | 122 => some sp_refused
    | 123 => some sp_no_number
    | _ => none
  mt := fun _ _ => none
  cv := fun x => if x = "STATES" then some (.int 8) else none
  fl := fun _ _ => false
  sub := fun x y => x == y || y == 0 || y == 99
  ek := fun x => [0, 1, 2, 5].contains x
abbrev t_is_whole : Tab := ⟨n_is_whole, [], [], exsK⟩
theorem sc_is_whole : FnScope n_is_whole ["thing"] (defScope (top 7)) := ⟨rfl, rfl, rfl, by decide +kernel, rfl, by decide +kernel, by decide +kernel⟩
theorem ck_is_whole : chkSs t_is_whole (defScope (top 7)) b_is_whole (defBody (top 7)) = true := by decide +kernel
abbrev t_between : Tab := ⟨n_between, [("is_whole", 0)], [], exsK⟩
theorem sc_between : FnScope n_between ["thing", "low", "most"] (defScope (top 8)) := ⟨rfl, rfl, rfl, by decide +kernel, rfl, by decide +kernel, by decide +kernel⟩
theorem ck_between : chkSs t_between (defScope (top 8)) b_between (defBody (top 8)) = true := by decide +kernel
abbrev t_is_state : Tab := ⟨n_is_state, [("between", 1)], [], exsK⟩
theorem sc_is_state : FnScope n_is_state ["thing", "base", "many"] (defScope (top 9)) := ⟨rfl, rfl, rfl, by decide +kernel, rfl, by decide +kernel, by decide +kernel⟩
theorem ck_is_state : chkSs t_is_state (defScope (top 9)) b_is_state (defBody (top 9)) = true := by decide +kernel
abbrev t_is_row : Tab := ⟨n_is_row, [("between", 1), ("is_state", 2)], [], exsK⟩
theorem sc_is_row : FnScope n_is_row ["thing", "base"] (defScope (top 10)) := ⟨rfl, rfl, rfl, by decide +kernel, rfl, by decide +kernel, by decide +kernel⟩
theorem ck_is_row : chkSs t_is_row (defScope (top 10)) (b_is_row "STATES") (defBody (top 10)) = true := by decide +kernel
abbrev t_is_hall : Tab := ⟨n_is_hall, [("between", 1), ("is_row", 3)], [], exsK⟩
theorem sc_is_hall : FnScope n_is_hall ["thing"] (defScope (top 11)) := ⟨rfl, rfl, rfl, by decide +kernel, rfl, by decide +kernel, by decide +kernel⟩
theorem ck_is_hall : chkSs t_is_hall (defScope (top 11)) b_is_hall (defBody (top 11)) = true := by decide +kernel
abbrev t_checked : Tab := ⟨n_checked, [("is_hall", 4)], [], exsK⟩
theorem sc_checked : FnScope n_checked ["hall"] (defScope (top 12)) := ⟨rfl, rfl, rfl, by decide +kernel, rfl, by decide +kernel, by decide +kernel⟩
theorem ck_checked : chkSs t_checked (defScope (top 12)) b_checked (defBody (top 12)) = true := by decide +kernel
abbrev t_need_row : Tab := ⟨n_need_row, [("between", 1), ("checked", 5)], [], exsK⟩
theorem sc_need_row : FnScope n_need_row ["hall", "row"] (defScope (top 13)) := ⟨rfl, rfl, rfl, by decide +kernel, rfl, by decide +kernel, by decide +kernel⟩
theorem ck_need_row : chkSs t_need_row (defScope (top 13)) b_need_row (defBody (top 13)) = true := by decide +kernel
abbrev t_figures_of : Tab := ⟨n_figures_of, [], [], exsK⟩
theorem sc_figures_of : FnScope n_figures_of ["base", "number"] (defScope (top 14)) := ⟨rfl, rfl, rfl, by decide +kernel, rfl, by decide +kernel, by decide +kernel⟩
theorem ck_figures_of : chkSs t_figures_of (defScope (top 14)) b_figures_of (defBody (top 14)) = true := by decide +kernel
abbrev t_sign_of : Tab := ⟨n_sign_of, [("figures_of", 7)], [], exsK⟩
theorem sc_sign_of : FnScope n_sign_of ["base", "row", "place"] (defScope (top 15)) := ⟨rfl, rfl, rfl, by decide +kernel, rfl, by decide +kernel, by decide +kernel⟩
theorem ck_sign_of : chkSs t_sign_of (defScope (top 15)) b_sign_of (defBody (top 15)) = true := by decide +kernel
abbrev t_sign_at : Tab := ⟨n_sign_at, [("is_whole", 0), ("need_row", 6), ("sign_of", 8)], [], exsK⟩
theorem sc_sign_at : FnScope n_sign_at ["hall", "row", "place"] (defScope (top 16)) := ⟨rfl, rfl, rfl, by decide +kernel, rfl, by decide +kernel, by decide +kernel⟩
theorem ck_sign_at : chkSs t_sign_at (defScope (top 16)) b_sign_at (defBody (top 16)) = true := by decide +kernel
abbrev t__law_cell_at : Tab := ⟨n__law_cell_at, [], [], exsK⟩
theorem sc__law_cell_at : FnScope n__law_cell_at ["_law_script", "_law_k"] (defScope (top 18)) := ⟨rfl, rfl, rfl, by decide +kernel, rfl, by decide +kernel, by decide +kernel⟩
theorem ck__law_cell_at : chkSs t__law_cell_at (defScope (top 18)) b__law_cell_at (defBody (top 18)) = true := by decide +kernel
abbrev t__law_mixed : Tab := ⟨n__law_mixed, [("_law_cell_at", 100)], [], exsK⟩
theorem sc__law_mixed : FnScope n__law_mixed ["_law_script", "_law_k", "_law_many"] (defScope (top 19)) := ⟨rfl, rfl, rfl, by decide +kernel, rfl, by decide +kernel, by decide +kernel⟩
theorem ck__law_mixed : chkSs t__law_mixed (defScope (top 19)) b__law_mixed (defBody (top 19)) = true := by decide +kernel
abbrev t__law_next : Tab := ⟨n__law_next, [("_law_mixed", 101)], [], exsK⟩
theorem sc__law_next : FnScope n__law_next ["_law_script", "_law_m", "_law_many"] (defScope (top 20)) := ⟨rfl, rfl, rfl, by decide +kernel, rfl, by decide +kernel, by decide +kernel⟩
theorem ck__law_next : chkSs t__law_next (defScope (top 20)) b__law_next (defBody (top 20)) = true := by decide +kernel
abbrev t__law_row : Tab := ⟨n__law_row, [("_law_next", 102)], [], exsK⟩
theorem sc__law_row : FnScope n__law_row ["_law_script", "_law_m", "_law_base", "_law_most"] (defScope (top 21)) := ⟨rfl, rfl, rfl, by decide +kernel, rfl, by decide +kernel, by decide +kernel⟩
theorem ck__law_row : chkSs t__law_row (defScope (top 21)) b__law_row (defBody (top 21)) = true := by decide +kernel
abbrev t__law_hall : Tab := ⟨n__law_hall, [("_law_next", 102), ("_law_row", 103)], [], exsK⟩
theorem sc__law_hall : FnScope n__law_hall ["_law_script", "_law_m", "_law_most"] (defScope (top 22)) := ⟨rfl, rfl, rfl, by decide +kernel, rfl, by decide +kernel, by decide +kernel⟩
theorem ck__law_hall : chkSs t__law_hall (defScope (top 22)) b__law_hall (defBody (top 22)) = true := by decide +kernel
abbrev t__law_sign : Tab := ⟨n__law_sign, [], [], exsK⟩
theorem sc__law_sign : FnScope n__law_sign ["_law_base", "_law_row_here", "_law_place"] (defScope (top 23)) := ⟨rfl, rfl, rfl, by decide +kernel, rfl, by decide +kernel, by decide +kernel⟩
theorem ck__law_sign : chkSs t__law_sign (defScope (top 23)) b__law_sign (defBody (top 23)) = true := by decide +kernel
abbrev t__law_odd_row : Tab := ⟨n__law_odd_row, [], [], exsK⟩
theorem sc__law_odd_row : FnScope n__law_odd_row ["_law_base", "_law_row_here", "_law_cell"] (defScope (top 24)) := ⟨rfl, rfl, rfl, by decide +kernel, rfl, by decide +kernel, by decide +kernel⟩
theorem ck__law_odd_row : chkSs t__law_odd_row (defScope (top 24)) b__law_odd_row (defBody (top 24)) = true := by decide +kernel
abbrev t__law_refused : Tab := ⟨n__law_refused, [("checked", 5)], [], exsK⟩
theorem sc__law_refused : FnScope n__law_refused ["_law_thing"] (defScope (top 25)) := ⟨rfl, rfl, rfl, by decide +kernel, rfl, by decide +kernel, by decide +kernel⟩
theorem ck__law_refused : chkSs t__law_refused (defScope (top 25)) b__law_refused (defBody (top 25)) = true := by decide +kernel
abbrev t__law_no_number : Tab := ⟨n__law_no_number, [("sign_at", 9)], [], exsK⟩
theorem sc__law_no_number : FnScope n__law_no_number ["_law_hall_here", "_law_row_here", "_law_place"] (defScope (top 26)) := ⟨rfl, rfl, rfl, by decide +kernel, rfl, by decide +kernel, by decide +kernel⟩
theorem ck__law_no_number : chkSs t__law_no_number (defScope (top 26)) b__law_no_number (defBody (top 26)) = true := by decide +kernel
abbrev t_law : Tab := ⟨n_law, [("checked", 5), ("sign_at", 9), ("_law_mixed", 101), ("_law_hall", 104), ("_law_sign", 120), ("_law_odd_row", 121), ("_law_refused", 122), ("_law_no_number", 123)], [], exsK⟩
theorem sc_law : FnScope n_law ["_law_script"] (defScope (top 27)) := ⟨rfl, rfl, rfl, by decide +kernel, rfl, by decide +kernel, by decide +kernel⟩
theorem ck_law : chkSs t_law (defScope (top 27)) b_law (defBody (top 27)) = true := by decide +kernel
theorem gk1 : K01G gK := by
  refine ⟨⟨⟨?_, ?_, ?_, ?_, ?_, ?_, ?_, ?_⟩, ?_, ?_, ?_⟩, ⟨⟨?_, ?_, ?_⟩, ?_, ?_⟩, ?_, ?_, ?_, ?_, ?_, ?_, ?_, ?_, ?_, ?_, ?_, ?_, ?_⟩ <;> rfl
theorem ar_is_whole : Arity 1 sp_is_whole := fun args S Q E h => by
  unfold sp_is_whole at h
  split at h <;> first | rfl | contradiction
theorem ar_between : Arity 3 sp_between := fun args S Q E h => by
  unfold sp_between at h
  split at h <;> first | rfl | contradiction
theorem ar_is_state : Arity 3 sp_is_state := fun args S Q E h => by
  unfold sp_is_state at h
  split at h <;> first | rfl | contradiction
theorem ar_is_row : Arity 2 sp_is_row := fun args S Q E h => by
  unfold sp_is_row at h
  split at h <;> first | rfl | contradiction
theorem ar_is_hall : Arity 1 sp_is_hall := fun args S Q E h => by
  unfold sp_is_hall at h
  split at h <;> first | rfl | contradiction
theorem ar_checked : Arity 1 sp_checked := fun args S Q E h => by
  unfold sp_checked at h
  split at h <;> first | rfl | contradiction
theorem ar_need_row : Arity 2 sp_need_row := fun args S Q E h => by
  unfold sp_need_row at h
  split at h <;> first | rfl | contradiction
theorem ar_figures_of : Arity 2 sp_figures_of := fun args S Q E h => by
  unfold sp_figures_of at h
  split at h <;> first | rfl | contradiction
theorem ar_sign_of : Arity 3 sp_sign_of := fun args S Q E h => by
  unfold sp_sign_of at h
  split at h <;> first | rfl | contradiction
theorem ar_sign_at : Arity 3 sp_sign_at := fun args S Q E h => by
  unfold sp_sign_at at h
  split at h <;> first | rfl | contradiction
theorem ar__law_cell_at : Arity 2 sp_cell_at := fun args S Q E h => by
  unfold sp_cell_at at h
  split at h <;> first | rfl | contradiction
theorem ar__law_mixed : Arity 3 sp_mixed := fun args S Q E h => by
  unfold sp_mixed at h
  split at h <;> first | rfl | contradiction
theorem ar__law_next : Arity 3 sp_next := fun args S Q E h => by
  unfold sp_next at h
  split at h <;> first | rfl | contradiction
theorem ar__law_row : Arity 4 sp_row := fun args S Q E h => by
  unfold sp_row at h
  split at h <;> first | rfl | contradiction
theorem ar__law_hall : Arity 3 sp_hall := fun args S Q E h => by
  unfold sp_hall at h
  split at h <;> first | rfl | contradiction
theorem ar__law_sign : Arity 3 sp_law_sign := fun args S Q E h => by
  unfold sp_law_sign at h
  split at h <;> first | rfl | contradiction
theorem ar__law_odd_row : Arity 3 sp_odd_row := fun args S Q E h => by
  unfold sp_odd_row at h
  split at h <;> first | rfl | contradiction
theorem ar__law_refused : Arity 1 sp_refused := fun args S Q E h => by
  unfold sp_refused at h
  split at h <;> first | rfl | contradiction
theorem ar__law_no_number : Arity 3 sp_no_number := fun args S Q E h => by
  unfold sp_no_number at h
  split at h <;> first | rfl | contradiction
theorem ar_law : Arity 1 sp_law := fun args S Q E h => by
  unfold sp_law at h
  split at h <;> first | rfl | contradiction
def spTop (K : PySem.W.Frag) : Sp := fun vs H Q _ => ∃ (a : Addr) (ns : List Int), vs = [.ref a] ∧ Only H ∧ SqL K H a (ns.map V.int) ∧ ∀ H', Q (.bl true) H'
theorem rv_script {K : PySem.W.Frag} {H : Hp} : ∀ ns : List Int, RVs K H (ns.map .int) (ns.map V.int)
  | [] => rfl
  | i :: r => ⟨.int i, r.map V.int, rfl, rfl, rv_script r⟩
theorem top_in {P : Program} {w : World} {K : PySem.W.Frag} {ca ex : Nat → Addr} {vs : List V} {H : Hp} {Q : VK} {E : XK} (h : spTop K vs H Q E) : lift ⟨P, w, K, ca, ex⟩ sp_law vs H Q E := by
  obtain ⟨a, ns, rfl, hO, hS, q⟩ := h
  have fz : FzL K H a (ns.map V.int) := by
    rcases hS with (z | z) | z
    · rcases hO a with e | ⟨o, xs, e⟩
      · rw [z] at e; cases e
      · rw [z] at e; cases e
    · exact .inl z
    · exact .inr z
  refine ⟨[.lst (ns.map .int)], fun _ => none, fun v _ => v = .bl true, noE, ⟨.ref a, [], rfl, ⟨a, _, rfl, fz, rv_script ns⟩, rfl⟩, fun _ _ z => (by cases z), ⟨ns, rfl, fun _ => rfl⟩, fun v S' u H' _ e _ rv => ?_, fun _ _ _ _ z => z.elim⟩
  subst e
  cases rv
  exact q H'
theorem cx_no {P : Program} {w : World} {outer : List PySem.Env} {H : Hp} {s : Shared} {e : Value} {s' : Shared} (z : L2.CX P w outer H s (fun _ _ _ => False) e s') : False := by
  obtain ⟨_, _, _, _, _, _, _, _, _, _, _, _, z⟩ := z
  exact z
theorem kitV_of {K : PySem.W.Frag} {a : Addr} (h : PySem.W.subIn K (.ref a) (.type "ValueError") = some true) : PySem.W.kitOne K (.ref a) (.type "ValueError") = some true := by
  unfold PySem.W.kitOne
  rw [if_neg (by intro z; cases z)]
  show (if PySem.W.kitMeta "ValueError" = true then PySem.W.subIn K (.ref a) (.type "ValueError") else none) = some true
  rw [if_pos (by decide +kernel)]
  exact h

/-- what the top has written -/
structure Fx (K : PySem.W.Frag) (mg : Str → Option Value) (c : LC) : Prop where
  blt : ∀ x : Str, x ∈ [("len" : Str), "all", "any", "tuple", "list", "dict", "sorted", "int", "max", "min", "sum", "str", "isinstance", "range", "enumerate", "zip", "bool"] → mg x = none
  vale : mg "ValueError" = none
  cv0 : ∃ t, mg "STATES" = some (.int 8 t)
  exs : ∀ x ci, exsK.lookup x = some ci → ExAt K mg c x ci
  exc : ∀ x, gK.ek x = true → L2.ExcC K (c.ex x)
  exm : ∀ x y, gK.ek x = true → gK.ek y = true → PySem.W.exmOne K (.ref (c.ex x)) (.ref (c.ex y)) = some (gK.sub x y)
  kit : ∀ x y, gK.ek x = true → gK.ek y = true → PySem.W.kitOne K (.ref (c.ex x)) (.ref (c.ex y)) = some (gK.sub x y)
  kitV : ∀ x, gK.ek x = true → PySem.W.kitOne K (.ref (c.ex x)) (.type "ValueError") = some (gK.sub x 99)
section
variable {P : Program} {w : World} {K : PySem.W.Frag} {mg : Str → Option Value} {base : Heap} {c : LC}
theorem nm_of (F : Fx K mg c) {T : Tab} {k : Nat} (ec : T.cls = []) (ee : T.exs = exsK) (nd : T.N.Nodup) (h : ∀ p ∈ T.fns, ∃ sp, gK.fn p.2 = some sp ∧ FnAt P w K mg base c k p.1 sp) : Nm P w K mg base c gK T k where
  fns := fun x f q => h (x, f) (PySem.mem_of_lookup q)
  mts := fun ci m sp q => by cases q
  news := fun x ci q => by rw [ec] at q; cases q
  cvs := fun x v q => by
    unfold gK at q
    simp only at q
    split at q
    · rename_i e
      subst e
      cases q
      obtain ⟨t, e⟩ := F.cv0
      exact ⟨_, .int 8, e, ⟨t, rfl⟩, fun _ => rfl⟩
    cases q
  blt := F.blt
  nd := nd
  exs := fun x ci q => F.exs x ci (by rw [← ee]; exact q)
  exk := fun x ci q => by
    rw [ee] at q
    have m := PySem.mem_of_lookup q
    simp only [exsK, List.mem_cons, Prod.mk.injEq, List.not_mem_nil, or_false] at m
    rcases m with ⟨_, rfl⟩ | ⟨_, rfl⟩ | ⟨_, rfl⟩ | ⟨_, rfl⟩ <;> rfl
  exc := F.exc
  exm := F.exm
  kit := F.kit
  kitV := F.kitV
  vale := F.vale
  fls := fun ci f q => by cases q
end
theorem all_mk {P : Program} {w : World} {K : PySem.W.Frag} {h : Heap} {mg : Str → Option Value} {fa : Addr} (X : K.In h) (G : h.Ns mainGlobals mg) (hfa : mg "law" = some (.ref fa))
    {f0 f1 f2 f3 f4 f5 f6 f7 f8 f9 f10 f11 f12 f13 f14 f15 f16 f17 f18 f19 x0 x1 x2 x5 : Addr}
    {oc0 oc1 oc2 oc3 oc4 oc5 oc6 oc7 oc8 oc9 oc10 oc11 oc12 oc13 oc14 oc15 oc16 oc17 oc18 oc19 : Value}
    {kV0 kV1 kV2 kV3 kV4 kV5 kV6 kV7 kV8 kV9 kV10 kV11 kV12 kV13 kV14 kV15 kV16 kV17 kV18 kV19 : Value}
    {dc0 dc1 dc2 dc3 dc4 dc5 dc6 dc7 dc8 dc9 dc10 dc11 dc12 dc13 dc14 dc15 dc16 dc17 dc18 dc19 : Value}
    {pm0 pm1 pm2 pm3 pm4 pm5 pm6 pm7 pm8 pm9 pm10 pm11 pm12 pm13 pm14 pm15 pm16 pm17 pm18 pm19 : Value}
    {cd0 cd1 cd2 cd3 cd4 cd5 cd6 cd7 cd8 cd9 cd10 cd11 cd12 cd13 cd14 cd15 cd16 cd17 cd18 cd19 : Value}
    {ct0 ct1 ct2 ct3 ct4 ct5 ct6 ct7 ct8 ct9 ct10 ct11 ct12 ct13 ct14 ct15 ct16 ct17 ct18 ct19 : Value}
    {od0 od1 od2 od3 od4 od5 od6 od7 od8 od9 od10 od11 od12 od13 od14 od15 od16 od17 od18 od19 : Option Addr}
    {an0 an1 an2 an3 an4 an5 an6 an7 an8 an9 an10 an11 an12 an13 an14 an15 an16 an17 an18 an19 : Option Addr}
    {sl0 sl1 sl2 sl3 sl4 sl5 sl6 sl7 sl8 sl9 sl10 sl11 sl12 sl13 sl14 sl15 sl16 sl17 sl18 sl19 : Array (Option Value)}
    {tk0 : Tok}
    (a0 : PySem.W.nsIn K mainGlobals "is_whole" = some (some (.ref f0)))
    (l0 : K.lookup f0 = some ⟨oc0, od0, .func (PySem.W.fnOf "is_whole" "is_whole" (defArgs (top 7)) (defBody (top 7)) (defScope (top 7)) .none kV0 dc0 pm0 an0 cd0 ct0), sl0⟩)
    (c0 : PySem.W.codeIn K cd0 "is_whole" = true)
    (k0 : PySem.W.keepIn K (.ref f0) = true)
    (a1 : PySem.W.nsIn K mainGlobals "between" = some (some (.ref f1)))
    (l1 : K.lookup f1 = some ⟨oc1, od1, .func (PySem.W.fnOf "between" "between" (defArgs (top 8)) (defBody (top 8)) (defScope (top 8)) .none kV1 dc1 pm1 an1 cd1 ct1), sl1⟩)
    (c1 : PySem.W.codeIn K cd1 "between" = true)
    (k1 : PySem.W.keepIn K (.ref f1) = true)
    (a2 : PySem.W.nsIn K mainGlobals "is_state" = some (some (.ref f2)))
    (l2 : K.lookup f2 = some ⟨oc2, od2, .func (PySem.W.fnOf "is_state" "is_state" (defArgs (top 9)) (defBody (top 9)) (defScope (top 9)) .none kV2 dc2 pm2 an2 cd2 ct2), sl2⟩)
    (c2 : PySem.W.codeIn K cd2 "is_state" = true)
    (k2 : PySem.W.keepIn K (.ref f2) = true)
    (a3 : PySem.W.nsIn K mainGlobals "is_row" = some (some (.ref f3)))
    (l3 : K.lookup f3 = some ⟨oc3, od3, .func (PySem.W.fnOf "is_row" "is_row" (defArgs (top 10)) (defBody (top 10)) (defScope (top 10)) .none kV3 dc3 pm3 an3 cd3 ct3), sl3⟩)
    (c3 : PySem.W.codeIn K cd3 "is_row" = true)
    (k3 : PySem.W.keepIn K (.ref f3) = true)
    (a4 : PySem.W.nsIn K mainGlobals "is_hall" = some (some (.ref f4)))
    (l4 : K.lookup f4 = some ⟨oc4, od4, .func (PySem.W.fnOf "is_hall" "is_hall" (defArgs (top 11)) (defBody (top 11)) (defScope (top 11)) .none kV4 dc4 pm4 an4 cd4 ct4), sl4⟩)
    (c4 : PySem.W.codeIn K cd4 "is_hall" = true)
    (k4 : PySem.W.keepIn K (.ref f4) = true)
    (a5 : PySem.W.nsIn K mainGlobals "checked" = some (some (.ref f5)))
    (l5 : K.lookup f5 = some ⟨oc5, od5, .func (PySem.W.fnOf "checked" "checked" (defArgs (top 12)) (defBody (top 12)) (defScope (top 12)) .none kV5 dc5 pm5 an5 cd5 ct5), sl5⟩)
    (c5 : PySem.W.codeIn K cd5 "checked" = true)
    (k5 : PySem.W.keepIn K (.ref f5) = true)
    (a6 : PySem.W.nsIn K mainGlobals "need_row" = some (some (.ref f6)))
    (l6 : K.lookup f6 = some ⟨oc6, od6, .func (PySem.W.fnOf "need_row" "need_row" (defArgs (top 13)) (defBody (top 13)) (defScope (top 13)) .none kV6 dc6 pm6 an6 cd6 ct6), sl6⟩)
    (c6 : PySem.W.codeIn K cd6 "need_row" = true)
    (k6 : PySem.W.keepIn K (.ref f6) = true)
    (a7 : PySem.W.nsIn K mainGlobals "figures_of" = some (some (.ref f7)))
    (l7 : K.lookup f7 = some ⟨oc7, od7, .func (PySem.W.fnOf "figures_of" "figures_of" (defArgs (top 14)) (defBody (top 14)) (defScope (top 14)) .none kV7 dc7 pm7 an7 cd7 ct7), sl7⟩)
    (c7 : PySem.W.codeIn K cd7 "figures_of" = true)
    (k7 : PySem.W.keepIn K (.ref f7) = true)
    (a8 : PySem.W.nsIn K mainGlobals "sign_of" = some (some (.ref f8)))
    (l8 : K.lookup f8 = some ⟨oc8, od8, .func (PySem.W.fnOf "sign_of" "sign_of" (defArgs (top 15)) (defBody (top 15)) (defScope (top 15)) .none kV8 dc8 pm8 an8 cd8 ct8), sl8⟩)
    (c8 : PySem.W.codeIn K cd8 "sign_of" = true)
    (k8 : PySem.W.keepIn K (.ref f8) = true)
    (a9 : PySem.W.nsIn K mainGlobals "sign_at" = some (some (.ref f9)))
    (l9 : K.lookup f9 = some ⟨oc9, od9, .func (PySem.W.fnOf "sign_at" "sign_at" (defArgs (top 16)) (defBody (top 16)) (defScope (top 16)) .none kV9 dc9 pm9 an9 cd9 ct9), sl9⟩)
    (c9 : PySem.W.codeIn K cd9 "sign_at" = true)
    (k9 : PySem.W.keepIn K (.ref f9) = true)
    (a10 : PySem.W.nsIn K mainGlobals "_law_cell_at" = some (some (.ref f10)))
    (l10 : K.lookup f10 = some ⟨oc10, od10, .func (PySem.W.fnOf "_law_cell_at" "_law_cell_at" (defArgs (top 18)) (defBody (top 18)) (defScope (top 18)) .none kV10 dc10 pm10 an10 cd10 ct10), sl10⟩)
    (c10 : PySem.W.codeIn K cd10 "_law_cell_at" = true)
    (k10 : PySem.W.keepIn K (.ref f10) = true)
    (a11 : PySem.W.nsIn K mainGlobals "_law_mixed" = some (some (.ref f11)))
    (l11 : K.lookup f11 = some ⟨oc11, od11, .func (PySem.W.fnOf "_law_mixed" "_law_mixed" (defArgs (top 19)) (defBody (top 19)) (defScope (top 19)) .none kV11 dc11 pm11 an11 cd11 ct11), sl11⟩)
    (c11 : PySem.W.codeIn K cd11 "_law_mixed" = true)
    (k11 : PySem.W.keepIn K (.ref f11) = true)
    (a12 : PySem.W.nsIn K mainGlobals "_law_next" = some (some (.ref f12)))
    (l12 : K.lookup f12 = some ⟨oc12, od12, .func (PySem.W.fnOf "_law_next" "_law_next" (defArgs (top 20)) (defBody (top 20)) (defScope (top 20)) .none kV12 dc12 pm12 an12 cd12 ct12), sl12⟩)
    (c12 : PySem.W.codeIn K cd12 "_law_next" = true)
    (k12 : PySem.W.keepIn K (.ref f12) = true)
    (a13 : PySem.W.nsIn K mainGlobals "_law_row" = some (some (.ref f13)))
    (l13 : K.lookup f13 = some ⟨oc13, od13, .func (PySem.W.fnOf "_law_row" "_law_row" (defArgs (top 21)) (defBody (top 21)) (defScope (top 21)) .none kV13 dc13 pm13 an13 cd13 ct13), sl13⟩)
    (c13 : PySem.W.codeIn K cd13 "_law_row" = true)
    (k13 : PySem.W.keepIn K (.ref f13) = true)
    (a14 : PySem.W.nsIn K mainGlobals "_law_hall" = some (some (.ref f14)))
    (l14 : K.lookup f14 = some ⟨oc14, od14, .func (PySem.W.fnOf "_law_hall" "_law_hall" (defArgs (top 22)) (defBody (top 22)) (defScope (top 22)) .none kV14 dc14 pm14 an14 cd14 ct14), sl14⟩)
    (c14 : PySem.W.codeIn K cd14 "_law_hall" = true)
    (k14 : PySem.W.keepIn K (.ref f14) = true)
    (a15 : PySem.W.nsIn K mainGlobals "_law_sign" = some (some (.ref f15)))
    (l15 : K.lookup f15 = some ⟨oc15, od15, .func (PySem.W.fnOf "_law_sign" "_law_sign" (defArgs (top 23)) (defBody (top 23)) (defScope (top 23)) .none kV15 dc15 pm15 an15 cd15 ct15), sl15⟩)
    (c15 : PySem.W.codeIn K cd15 "_law_sign" = true)
    (k15 : PySem.W.keepIn K (.ref f15) = true)
    (a16 : PySem.W.nsIn K mainGlobals "_law_odd_row" = some (some (.ref f16)))
    (l16 : K.lookup f16 = some ⟨oc16, od16, .func (PySem.W.fnOf "_law_odd_row" "_law_odd_row" (defArgs (top 24)) (defBody (top 24)) (defScope (top 24)) .none kV16 dc16 pm16 an16 cd16 ct16), sl16⟩)
    (c16 : PySem.W.codeIn K cd16 "_law_odd_row" = true)
    (k16 : PySem.W.keepIn K (.ref f16) = true)
    (a17 : PySem.W.nsIn K mainGlobals "_law_refused" = some (some (.ref f17)))
    (l17 : K.lookup f17 = some ⟨oc17, od17, .func (PySem.W.fnOf "_law_refused" "_law_refused" (defArgs (top 25)) (defBody (top 25)) (defScope (top 25)) .none kV17 dc17 pm17 an17 cd17 ct17), sl17⟩)
    (c17 : PySem.W.codeIn K cd17 "_law_refused" = true)
    (k17 : PySem.W.keepIn K (.ref f17) = true)
    (a18 : PySem.W.nsIn K mainGlobals "_law_no_number" = some (some (.ref f18)))
    (l18 : K.lookup f18 = some ⟨oc18, od18, .func (PySem.W.fnOf "_law_no_number" "_law_no_number" (defArgs (top 26)) (defBody (top 26)) (defScope (top 26)) .none kV18 dc18 pm18 an18 cd18 ct18), sl18⟩)
    (c18 : PySem.W.codeIn K cd18 "_law_no_number" = true)
    (k18 : PySem.W.keepIn K (.ref f18) = true)
    (a19 : PySem.W.nsIn K mainGlobals "law" = some (some (.ref f19)))
    (l19 : K.lookup f19 = some ⟨oc19, od19, .func (PySem.W.fnOf "law" "law" (defArgs (top 27)) (defBody (top 27)) (defScope (top 27)) .none kV19 dc19 pm19 an19 cd19 ct19), sl19⟩)
    (c19 : PySem.W.codeIn K cd19 "law" = true)
    (k19 : PySem.W.keepIn K (.ref f19) = true)
    (z0 : PySem.W.nsIn K mainGlobals "len" = some none)
    (z1 : PySem.W.nsIn K mainGlobals "all" = some none)
    (z2 : PySem.W.nsIn K mainGlobals "any" = some none)
    (z3 : PySem.W.nsIn K mainGlobals "tuple" = some none)
    (z4 : PySem.W.nsIn K mainGlobals "list" = some none)
    (z5 : PySem.W.nsIn K mainGlobals "dict" = some none)
    (z6 : PySem.W.nsIn K mainGlobals "sorted" = some none)
    (z7 : PySem.W.nsIn K mainGlobals "int" = some none)
    (z8 : PySem.W.nsIn K mainGlobals "max" = some none)
    (z9 : PySem.W.nsIn K mainGlobals "min" = some none)
    (z10 : PySem.W.nsIn K mainGlobals "sum" = some none)
    (z11 : PySem.W.nsIn K mainGlobals "str" = some none)
    (z12 : PySem.W.nsIn K mainGlobals "isinstance" = some none)
    (z13 : PySem.W.nsIn K mainGlobals "range" = some none)
    (z14 : PySem.W.nsIn K mainGlobals "enumerate" = some none)
    (z15 : PySem.W.nsIn K mainGlobals "zip" = some none)
    (z16 : PySem.W.nsIn K mainGlobals "bool" = some none)
    (z17 : PySem.W.nsIn K mainGlobals "ValueError" = some none)
    (v0 : PySem.W.nsIn K mainGlobals "STATES" = some (some (.int 8 tk0)))
    (ea0 : PySem.W.nsIn K mainGlobals "RowError" = some (some (.ref x0)))
    (ex0 : PySem.W.excIn K x0 [.type "ValueError", .type "Exception", .type "BaseException", .type "object"] "ValueError.__new__" = true)
    (ek0 : PySem.W.keepIn K (.ref x0) = true)
    (eb0 : PySem.W.subIn K (.ref x0) (.type "BaseException") = some true)
    (et0 : PySem.W.typeIn K (.ref x0) = some (.type "type"))
    (eg0 : PySem.W.findIn K (.ref x0) "__getattribute__" = some (some (.builtin "BaseException.__getattribute__")))
    (eh0 : PySem.W.findIn K (.ref x0) "__getattr__" = some none)
    (ed0 : PySem.W.hasDictIn K x0 = true)
    (ec0 : PySem.W.findIn K (.ref x0) "__class__" = some (some (.builtin "object.__class__")))
    (em0 : PySem.W.mroIn K x0 (.type "object") = some true)
    (ev0 : PySem.W.subIn K (.ref x0) (.type "ValueError") = some true)
    (ea1 : PySem.W.nsIn K mainGlobals "NoHall" = some (some (.ref x1)))
    (ex1 : PySem.W.excIn K x1 [.type "ValueError", .type "Exception", .type "BaseException", .type "object"] "ValueError.__new__" = true)
    (ek1 : PySem.W.keepIn K (.ref x1) = true)
    (eb1 : PySem.W.subIn K (.ref x1) (.type "BaseException") = some true)
    (et1 : PySem.W.typeIn K (.ref x1) = some (.type "type"))
    (eg1 : PySem.W.findIn K (.ref x1) "__getattribute__" = some (some (.builtin "BaseException.__getattribute__")))
    (eh1 : PySem.W.findIn K (.ref x1) "__getattr__" = some none)
    (ed1 : PySem.W.hasDictIn K x1 = true)
    (ec1 : PySem.W.findIn K (.ref x1) "__class__" = some (some (.builtin "object.__class__")))
    (em1 : PySem.W.mroIn K x1 (.type "object") = some true)
    (ev1 : PySem.W.subIn K (.ref x1) (.type "ValueError") = some true)
    (ea2 : PySem.W.nsIn K mainGlobals "NoRule" = some (some (.ref x2)))
    (ex2 : PySem.W.excIn K x2 [.type "ValueError", .type "Exception", .type "BaseException", .type "object"] "ValueError.__new__" = true)
    (ek2 : PySem.W.keepIn K (.ref x2) = true)
    (eb2 : PySem.W.subIn K (.ref x2) (.type "BaseException") = some true)
    (et2 : PySem.W.typeIn K (.ref x2) = some (.type "type"))
    (eg2 : PySem.W.findIn K (.ref x2) "__getattribute__" = some (some (.builtin "BaseException.__getattribute__")))
    (eh2 : PySem.W.findIn K (.ref x2) "__getattr__" = some none)
    (ed2 : PySem.W.hasDictIn K x2 = true)
    (ec2 : PySem.W.findIn K (.ref x2) "__class__" = some (some (.builtin "object.__class__")))
    (em2 : PySem.W.mroIn K x2 (.type "object") = some true)
    (ev2 : PySem.W.subIn K (.ref x2) (.type "ValueError") = some true)
    (ea5 : PySem.W.nsIn K mainGlobals "NoNumber" = some (some (.ref x5)))
    (ex5 : PySem.W.excIn K x5 [.type "ValueError", .type "Exception", .type "BaseException", .type "object"] "ValueError.__new__" = true)
    (ek5 : PySem.W.keepIn K (.ref x5) = true)
    (eb5 : PySem.W.subIn K (.ref x5) (.type "BaseException") = some true)
    (et5 : PySem.W.typeIn K (.ref x5) = some (.type "type"))
    (eg5 : PySem.W.findIn K (.ref x5) "__getattribute__" = some (some (.builtin "BaseException.__getattribute__")))
    (eh5 : PySem.W.findIn K (.ref x5) "__getattr__" = some none)
    (ed5 : PySem.W.hasDictIn K x5 = true)
    (ec5 : PySem.W.findIn K (.ref x5) "__class__" = some (some (.builtin "object.__class__")))
    (em5 : PySem.W.mroIn K x5 (.type "object") = some true)
    (ev5 : PySem.W.subIn K (.ref x5) (.type "ValueError") = some true)
    (s0_0 : PySem.W.subIn K (.ref x0) (.ref x0) = some true)
    (t0_0 : PySem.W.kitOne K (.ref x0) (.ref x0) = some true)
    (s0_1 : PySem.W.subIn K (.ref x0) (.ref x1) = some false)
    (t0_1 : PySem.W.kitOne K (.ref x0) (.ref x1) = some false)
    (s0_2 : PySem.W.subIn K (.ref x0) (.ref x2) = some false)
    (t0_2 : PySem.W.kitOne K (.ref x0) (.ref x2) = some false)
    (s0_5 : PySem.W.subIn K (.ref x0) (.ref x5) = some false)
    (t0_5 : PySem.W.kitOne K (.ref x0) (.ref x5) = some false)
    (s1_0 : PySem.W.subIn K (.ref x1) (.ref x0) = some true)
    (t1_0 : PySem.W.kitOne K (.ref x1) (.ref x0) = some true)
    (s1_1 : PySem.W.subIn K (.ref x1) (.ref x1) = some true)
    (t1_1 : PySem.W.kitOne K (.ref x1) (.ref x1) = some true)
    (s1_2 : PySem.W.subIn K (.ref x1) (.ref x2) = some false)
    (t1_2 : PySem.W.kitOne K (.ref x1) (.ref x2) = some false)
    (s1_5 : PySem.W.subIn K (.ref x1) (.ref x5) = some false)
    (t1_5 : PySem.W.kitOne K (.ref x1) (.ref x5) = some false)
    (s2_0 : PySem.W.subIn K (.ref x2) (.ref x0) = some true)
    (t2_0 : PySem.W.kitOne K (.ref x2) (.ref x0) = some true)
    (s2_1 : PySem.W.subIn K (.ref x2) (.ref x1) = some false)
    (t2_1 : PySem.W.kitOne K (.ref x2) (.ref x1) = some false)
    (s2_2 : PySem.W.subIn K (.ref x2) (.ref x2) = some true)
    (t2_2 : PySem.W.kitOne K (.ref x2) (.ref x2) = some true)
    (s2_5 : PySem.W.subIn K (.ref x2) (.ref x5) = some false)
    (t2_5 : PySem.W.kitOne K (.ref x2) (.ref x5) = some false)
    (s5_0 : PySem.W.subIn K (.ref x5) (.ref x0) = some true)
    (t5_0 : PySem.W.kitOne K (.ref x5) (.ref x0) = some true)
    (s5_1 : PySem.W.subIn K (.ref x5) (.ref x1) = some false)
    (t5_1 : PySem.W.kitOne K (.ref x5) (.ref x1) = some false)
    (s5_2 : PySem.W.subIn K (.ref x5) (.ref x2) = some false)
    (t5_2 : PySem.W.kitOne K (.ref x5) (.ref x2) = some false)
    (s5_5 : PySem.W.subIn K (.ref x5) (.ref x5) = some true)
    (t5_5 : PySem.W.kitOne K (.ref x5) (.ref x5) = some true)
    (yn : PySem.W.specialIn K (.builtin "object.__class__") "__get__" = some (some (.builtin "getset_descriptor.__get__")))
    (yt : PySem.W.takesIn K (.builtin "object.__class__") = some true)
    : ∃ fd : FuncData, (∀ (s : Shared) (u : Value), BindsTo s fd ⟨[u], []⟩ [("_law_script", u)]) ∧ ∀ base : Heap, K.In base → base.Ns mainGlobals mg → FnOk P w K mg base (L2.CX P w) 10 fa fd ["_law_script"] (spTop K) := by
  have e := hfa.symm.trans (PySem.W.mg_of X G a19)
  cases e
  let c : LC := ⟨fun _ => 0, fun n => match n with
    | 0 => x0
    | 1 => x1
    | 2 => x2
    | 5 => x5
    | _ => 0⟩
  have ek : ∀ x, gK.ek x = true → x = 0 ∨ x = 1 ∨ x = 2 ∨ x = 5 := fun x q => by
    unfold gK at q
    simpa using q
  have F : Fx K mg c := by
    refine ⟨fun x hx => ?_, PySem.W.mg_none_of X G z17, ⟨_, PySem.W.mg_of X G v0⟩, fun x ci q => ?_, fun x q => ?_, fun x y q r => ?_, fun x y q r => ?_, fun x q => ?_⟩
    · simp only [List.mem_cons, List.not_mem_nil, or_false] at hx
      rcases hx with rfl | rfl | rfl | rfl | rfl | rfl | rfl | rfl | rfl | rfl | rfl | rfl | rfl | rfl | rfl | rfl | rfl
      · exact PySem.W.mg_none_of X G z0
      · exact PySem.W.mg_none_of X G z1
      · exact PySem.W.mg_none_of X G z2
      · exact PySem.W.mg_none_of X G z3
      · exact PySem.W.mg_none_of X G z4
      · exact PySem.W.mg_none_of X G z5
      · exact PySem.W.mg_none_of X G z6
      · exact PySem.W.mg_none_of X G z7
      · exact PySem.W.mg_none_of X G z8
      · exact PySem.W.mg_none_of X G z9
      · exact PySem.W.mg_none_of X G z10
      · exact PySem.W.mg_none_of X G z11
      · exact PySem.W.mg_none_of X G z12
      · exact PySem.W.mg_none_of X G z13
      · exact PySem.W.mg_none_of X G z14
      · exact PySem.W.mg_none_of X G z15
      · exact PySem.W.mg_none_of X G z16
    · have m := PySem.mem_of_lookup q
      simp only [exsK, List.mem_cons, Prod.mk.injEq, List.not_mem_nil, or_false] at m
      rcases m with ⟨rfl, rfl⟩ | ⟨rfl, rfl⟩ | ⟨rfl, rfl⟩ | ⟨rfl, rfl⟩
      · exact ⟨_, _, _, _, PySem.F.excBase_ValueError, ex0, PySem.W.mg_of X G ea0, ek0, eb0, et0⟩
      · exact ⟨_, _, _, _, PySem.F.excBase_ValueError, ex1, PySem.W.mg_of X G ea1, ek1, eb1, et1⟩
      · exact ⟨_, _, _, _, PySem.F.excBase_ValueError, ex2, PySem.W.mg_of X G ea2, ek2, eb2, et2⟩
      · exact ⟨_, _, _, _, PySem.F.excBase_ValueError, ex5, PySem.W.mg_of X G ea5, ek5, eb5, et5⟩
    · rcases ek x q with rfl | rfl | rfl | rfl
      · exact ⟨eg0, eh0, eb0, ed0, ec0, yn, yt, em0⟩
      · exact ⟨eg1, eh1, eb1, ed1, ec1, yn, yt, em1⟩
      · exact ⟨eg2, eh2, eb2, ed2, ec2, yn, yt, em2⟩
      · exact ⟨eg5, eh5, eb5, ed5, ec5, yn, yt, em5⟩
    · rcases ek x q with rfl | rfl | rfl | rfl <;> rcases ek y r with rfl | rfl | rfl | rfl
      · exact PySem.W.exm_ref eb0 ed0 et0 s0_0
      · exact PySem.W.exm_ref eb1 ed1 et1 s0_1
      · exact PySem.W.exm_ref eb2 ed2 et2 s0_2
      · exact PySem.W.exm_ref eb5 ed5 et5 s0_5
      · exact PySem.W.exm_ref eb0 ed0 et0 s1_0
      · exact PySem.W.exm_ref eb1 ed1 et1 s1_1
      · exact PySem.W.exm_ref eb2 ed2 et2 s1_2
      · exact PySem.W.exm_ref eb5 ed5 et5 s1_5
      · exact PySem.W.exm_ref eb0 ed0 et0 s2_0
      · exact PySem.W.exm_ref eb1 ed1 et1 s2_1
      · exact PySem.W.exm_ref eb2 ed2 et2 s2_2
      · exact PySem.W.exm_ref eb5 ed5 et5 s2_5
      · exact PySem.W.exm_ref eb0 ed0 et0 s5_0
      · exact PySem.W.exm_ref eb1 ed1 et1 s5_1
      · exact PySem.W.exm_ref eb2 ed2 et2 s5_2
      · exact PySem.W.exm_ref eb5 ed5 et5 s5_5
    · rcases ek x q with rfl | rfl | rfl | rfl <;> rcases ek y r with rfl | rfl | rfl | rfl
      · exact t0_0
      · exact t0_1
      · exact t0_2
      · exact t0_5
      · exact t1_0
      · exact t1_1
      · exact t1_2
      · exact t1_5
      · exact t2_0
      · exact t2_1
      · exact t2_2
      · exact t2_5
      · exact t5_0
      · exact t5_1
      · exact t5_2
      · exact t5_5
    · rcases ek x q with rfl | rfl | rfl | rfl
      · exact kitV_of ev0
      · exact kitV_of ev1
      · exact kitV_of ev2
      · exact kitV_of ev5
  have U0 := fun_mk (st := top 7) l0 c0 k0
  have B0 := U0.binds (ps := ["thing"]) fun _ _ _ _ _ _ us hl => match us, hl with | [_], _ => rfl
  have U1 := fun_mk (st := top 8) l1 c1 k1
  have B1 := U1.binds (ps := ["thing", "low", "most"]) fun _ _ _ _ _ _ us hl => match us, hl with | [_, _, _], _ => rfl
  have U2 := fun_mk (st := top 9) l2 c2 k2
  have B2 := U2.binds (ps := ["thing", "base", "many"]) fun _ _ _ _ _ _ us hl => match us, hl with | [_, _, _], _ => rfl
  have U3 := fun_mk (st := top 10) l3 c3 k3
  have B3 := U3.binds (ps := ["thing", "base"]) fun _ _ _ _ _ _ us hl => match us, hl with | [_, _], _ => rfl
  have U4 := fun_mk (st := top 11) l4 c4 k4
  have B4 := U4.binds (ps := ["thing"]) fun _ _ _ _ _ _ us hl => match us, hl with | [_], _ => rfl
  have U5 := fun_mk (st := top 12) l5 c5 k5
  have B5 := U5.binds (ps := ["hall"]) fun _ _ _ _ _ _ us hl => match us, hl with | [_], _ => rfl
  have U6 := fun_mk (st := top 13) l6 c6 k6
  have B6 := U6.binds (ps := ["hall", "row"]) fun _ _ _ _ _ _ us hl => match us, hl with | [_, _], _ => rfl
  have U7 := fun_mk (st := top 14) l7 c7 k7
  have B7 := U7.binds (ps := ["base", "number"]) fun _ _ _ _ _ _ us hl => match us, hl with | [_, _], _ => rfl
  have U8 := fun_mk (st := top 15) l8 c8 k8
  have B8 := U8.binds (ps := ["base", "row", "place"]) fun _ _ _ _ _ _ us hl => match us, hl with | [_, _, _], _ => rfl
  have U9 := fun_mk (st := top 16) l9 c9 k9
  have B9 := U9.binds (ps := ["hall", "row", "place"]) fun _ _ _ _ _ _ us hl => match us, hl with | [_, _, _], _ => rfl
  have U10 := fun_mk (st := top 18) l10 c10 k10
  have B10 := U10.binds (ps := ["_law_script", "_law_k"]) fun _ _ _ _ _ _ us hl => match us, hl with | [_, _], _ => rfl
  have U11 := fun_mk (st := top 19) l11 c11 k11
  have B11 := U11.binds (ps := ["_law_script", "_law_k", "_law_many"]) fun _ _ _ _ _ _ us hl => match us, hl with | [_, _, _], _ => rfl
  have U12 := fun_mk (st := top 20) l12 c12 k12
  have B12 := U12.binds (ps := ["_law_script", "_law_m", "_law_many"]) fun _ _ _ _ _ _ us hl => match us, hl with | [_, _, _], _ => rfl
  have U13 := fun_mk (st := top 21) l13 c13 k13
  have B13 := U13.binds (ps := ["_law_script", "_law_m", "_law_base", "_law_most"]) fun _ _ _ _ _ _ us hl => match us, hl with | [_, _, _, _], _ => rfl
  have U14 := fun_mk (st := top 22) l14 c14 k14
  have B14 := U14.binds (ps := ["_law_script", "_law_m", "_law_most"]) fun _ _ _ _ _ _ us hl => match us, hl with | [_, _, _], _ => rfl
  have U15 := fun_mk (st := top 23) l15 c15 k15
  have B15 := U15.binds (ps := ["_law_base", "_law_row_here", "_law_place"]) fun _ _ _ _ _ _ us hl => match us, hl with | [_, _, _], _ => rfl
  have U16 := fun_mk (st := top 24) l16 c16 k16
  have B16 := U16.binds (ps := ["_law_base", "_law_row_here", "_law_cell"]) fun _ _ _ _ _ _ us hl => match us, hl with | [_, _, _], _ => rfl
  have U17 := fun_mk (st := top 25) l17 c17 k17
  have B17 := U17.binds (ps := ["_law_thing"]) fun _ _ _ _ _ _ us hl => match us, hl with | [_], _ => rfl
  have U18 := fun_mk (st := top 26) l18 c18 k18
  have B18 := U18.binds (ps := ["_law_hall_here", "_law_row_here", "_law_place"]) fun _ _ _ _ _ _ us hl => match us, hl with | [_, _, _], _ => rfl
  have U19 := fun_mk (st := top 27) l19 c19 k19
  have B19 := U19.binds (ps := ["_law_script"]) fun _ _ _ _ _ _ us hl => match us, hl with | [_], _ => rfl
  refine ⟨PySem.W.fnOf "law" "law" (defArgs (top 27)) (defBody (top 27)) (defScope (top 27)) .none kV19 dc19 pm19 an19 cd19 ct19, fun s u => .of_eq rfl, fun base _ _ => ?_⟩
  have D0 : FnOk P w K mg base (L2.CX P w) 1 f0 _ _ (lift ⟨P, w, K, c.ca, c.ex⟩ sp_is_whole) := def_ok (k := 0) (c := c) (G := gK) (T := t_is_whole) U0 sc_is_whole (nm_of F rfl rfl (by decide +kernel) (fun p hp => by
    simp [t_is_whole] at hp
    )) rfl ck_is_whole ar_is_whole (w_is_whole)
  have D1 : FnOk P w K mg base (L2.CX P w) 2 f1 _ _ (lift ⟨P, w, K, c.ca, c.ex⟩ sp_between) := def_ok (k := 1) (c := c) (G := gK) (T := t_between) U1 sc_between (nm_of F rfl rfl (by decide +kernel) (fun p hp => by
    simp only [t_between, List.mem_cons, List.not_mem_nil, or_false] at hp
    rcases hp with rfl
    · exact ⟨_, rfl, ⟨⟨_, _, _, D0.mono (by decide), PySem.W.mg_of X G a0, k0, B0⟩⟩⟩
    )) rfl ck_between ar_between (w_between gk1.toHallG)
  have D2 : FnOk P w K mg base (L2.CX P w) 3 f2 _ _ (lift ⟨P, w, K, c.ca, c.ex⟩ sp_is_state) := def_ok (k := 2) (c := c) (G := gK) (T := t_is_state) U2 sc_is_state (nm_of F rfl rfl (by decide +kernel) (fun p hp => by
    simp only [t_is_state, List.mem_cons, List.not_mem_nil, or_false] at hp
    rcases hp with rfl
    · exact ⟨_, rfl, ⟨⟨_, _, _, D1.mono (by decide), PySem.W.mg_of X G a1, k1, B1⟩⟩⟩
    )) rfl ck_is_state ar_is_state (w_is_state gk1.toHallG)
  have D3 : FnOk P w K mg base (L2.CX P w) 4 f3 _ _ (lift ⟨P, w, K, c.ca, c.ex⟩ sp_is_row) := def_ok (k := 3) (c := c) (G := gK) (T := t_is_row) U3 sc_is_row (nm_of F rfl rfl (by decide +kernel) (fun p hp => by
    simp only [t_is_row, List.mem_cons, List.not_mem_nil, or_false] at hp
    rcases hp with rfl | rfl
    · exact ⟨_, rfl, ⟨⟨_, _, _, D1.mono (by decide), PySem.W.mg_of X G a1, k1, B1⟩⟩⟩
    · exact ⟨_, rfl, ⟨⟨_, _, _, D2.mono (by decide), PySem.W.mg_of X G a2, k2, B2⟩⟩⟩
    )) rfl ck_is_row ar_is_row (w_is_row gk1.toHallG)
  have D4 : FnOk P w K mg base (L2.CX P w) 5 f4 _ _ (lift ⟨P, w, K, c.ca, c.ex⟩ sp_is_hall) := def_ok (k := 4) (c := c) (G := gK) (T := t_is_hall) U4 sc_is_hall (nm_of F rfl rfl (by decide +kernel) (fun p hp => by
    simp only [t_is_hall, List.mem_cons, List.not_mem_nil, or_false] at hp
    rcases hp with rfl | rfl
    · exact ⟨_, rfl, ⟨⟨_, _, _, D1.mono (by decide), PySem.W.mg_of X G a1, k1, B1⟩⟩⟩
    · exact ⟨_, rfl, ⟨⟨_, _, _, D3.mono (by decide), PySem.W.mg_of X G a3, k3, B3⟩⟩⟩
    )) rfl ck_is_hall ar_is_hall (w_is_hall gk1.toHallG)
  have D5 : FnOk P w K mg base (L2.CX P w) 6 f5 _ _ (lift ⟨P, w, K, c.ca, c.ex⟩ sp_checked) := def_ok (k := 5) (c := c) (G := gK) (T := t_checked) U5 sc_checked (nm_of F rfl rfl (by decide +kernel) (fun p hp => by
    simp only [t_checked, List.mem_cons, List.not_mem_nil, or_false] at hp
    rcases hp with rfl
    · exact ⟨_, rfl, ⟨⟨_, _, _, D4.mono (by decide), PySem.W.mg_of X G a4, k4, B4⟩⟩⟩
    )) rfl ck_checked ar_checked (w_checked gk1.toHallG)
  have D6 : FnOk P w K mg base (L2.CX P w) 7 f6 _ _ (lift ⟨P, w, K, c.ca, c.ex⟩ sp_need_row) := def_ok (k := 6) (c := c) (G := gK) (T := t_need_row) U6 sc_need_row (nm_of F rfl rfl (by decide +kernel) (fun p hp => by
    simp only [t_need_row, List.mem_cons, List.not_mem_nil, or_false] at hp
    rcases hp with rfl | rfl
    · exact ⟨_, rfl, ⟨⟨_, _, _, D1.mono (by decide), PySem.W.mg_of X G a1, k1, B1⟩⟩⟩
    · exact ⟨_, rfl, ⟨⟨_, _, _, D5.mono (by decide), PySem.W.mg_of X G a5, k5, B5⟩⟩⟩
    )) rfl ck_need_row ar_need_row (w_need_row gk1.toHallG)
  have D7 : FnOk P w K mg base (L2.CX P w) 1 f7 _ _ (lift ⟨P, w, K, c.ca, c.ex⟩ sp_figures_of) := def_ok (k := 0) (c := c) (G := gK) (T := t_figures_of) U7 sc_figures_of (nm_of F rfl rfl (by decide +kernel) (fun p hp => by
    simp [t_figures_of] at hp
    )) rfl ck_figures_of ar_figures_of (w_figures_of gk1.toSignG)
  have D8 : FnOk P w K mg base (L2.CX P w) 2 f8 _ _ (lift ⟨P, w, K, c.ca, c.ex⟩ sp_sign_of) := def_ok (k := 1) (c := c) (G := gK) (T := t_sign_of) U8 sc_sign_of (nm_of F rfl rfl (by decide +kernel) (fun p hp => by
    simp only [t_sign_of, List.mem_cons, List.not_mem_nil, or_false] at hp
    rcases hp with rfl
    · exact ⟨_, rfl, ⟨⟨_, _, _, D7.mono (by decide), PySem.W.mg_of X G a7, k7, B7⟩⟩⟩
    )) rfl ck_sign_of ar_sign_of (w_sign_of gk1.toSignG)
  have D9 : FnOk P w K mg base (L2.CX P w) 8 f9 _ _ (lift ⟨P, w, K, c.ca, c.ex⟩ sp_sign_at) := def_ok (k := 7) (c := c) (G := gK) (T := t_sign_at) U9 sc_sign_at (nm_of F rfl rfl (by decide +kernel) (fun p hp => by
    simp only [t_sign_at, List.mem_cons, List.not_mem_nil, or_false] at hp
    rcases hp with rfl | rfl | rfl
    · exact ⟨_, rfl, ⟨⟨_, _, _, D0.mono (by decide), PySem.W.mg_of X G a0, k0, B0⟩⟩⟩
    · exact ⟨_, rfl, ⟨⟨_, _, _, D6.mono (by decide), PySem.W.mg_of X G a6, k6, B6⟩⟩⟩
    · exact ⟨_, rfl, ⟨⟨_, _, _, D8.mono (by decide), PySem.W.mg_of X G a8, k8, B8⟩⟩⟩
    )) rfl ck_sign_at ar_sign_at (w_sign_at gk1.toSignG)
  have D10 : FnOk P w K mg base (L2.CX P w) 1 f10 _ _ (lift ⟨P, w, K, c.ca, c.ex⟩ sp_cell_at) := def_ok (k := 0) (c := c) (G := gK) (T := t__law_cell_at) U10 sc__law_cell_at (nm_of F rfl rfl (by decide +kernel) (fun p hp => by
    simp [t__law_cell_at] at hp
    )) rfl ck__law_cell_at ar__law_cell_at (w_cell_at)
  have D11 : FnOk P w K mg base (L2.CX P w) 2 f11 _ _ (lift ⟨P, w, K, c.ca, c.ex⟩ sp_mixed) := def_ok (k := 1) (c := c) (G := gK) (T := t__law_mixed) U11 sc__law_mixed (nm_of F rfl rfl (by decide +kernel) (fun p hp => by
    simp only [t__law_mixed, List.mem_cons, List.not_mem_nil, or_false] at hp
    rcases hp with rfl
    · exact ⟨_, rfl, ⟨⟨_, _, _, D10.mono (by decide), PySem.W.mg_of X G a10, k10, B10⟩⟩⟩
    )) rfl ck__law_mixed ar__law_mixed (w_mixed gk1.toDrawG)
  have D12 : FnOk P w K mg base (L2.CX P w) 3 f12 _ _ (lift ⟨P, w, K, c.ca, c.ex⟩ sp_next) := def_ok (k := 2) (c := c) (G := gK) (T := t__law_next) U12 sc__law_next (nm_of F rfl rfl (by decide +kernel) (fun p hp => by
    simp only [t__law_next, List.mem_cons, List.not_mem_nil, or_false] at hp
    rcases hp with rfl
    · exact ⟨_, rfl, ⟨⟨_, _, _, D11.mono (by decide), PySem.W.mg_of X G a11, k11, B11⟩⟩⟩
    )) rfl ck__law_next ar__law_next (w_next gk1.toDrawG)
  have D13 : FnOk P w K mg base (L2.CX P w) 4 f13 _ _ (lift ⟨P, w, K, c.ca, c.ex⟩ sp_row) := def_ok (k := 3) (c := c) (G := gK) (T := t__law_row) U13 sc__law_row (nm_of F rfl rfl (by decide +kernel) (fun p hp => by
    simp only [t__law_row, List.mem_cons, List.not_mem_nil, or_false] at hp
    rcases hp with rfl
    · exact ⟨_, rfl, ⟨⟨_, _, _, D12.mono (by decide), PySem.W.mg_of X G a12, k12, B12⟩⟩⟩
    )) rfl ck__law_row ar__law_row (w_row gk1.toDrawH)
  have D14 : FnOk P w K mg base (L2.CX P w) 5 f14 _ _ (lift ⟨P, w, K, c.ca, c.ex⟩ sp_hall) := def_ok (k := 4) (c := c) (G := gK) (T := t__law_hall) U14 sc__law_hall (nm_of F rfl rfl (by decide +kernel) (fun p hp => by
    simp only [t__law_hall, List.mem_cons, List.not_mem_nil, or_false] at hp
    rcases hp with rfl | rfl
    · exact ⟨_, rfl, ⟨⟨_, _, _, D12.mono (by decide), PySem.W.mg_of X G a12, k12, B12⟩⟩⟩
    · exact ⟨_, rfl, ⟨⟨_, _, _, D13.mono (by decide), PySem.W.mg_of X G a13, k13, B13⟩⟩⟩
    )) rfl ck__law_hall ar__law_hall (w_hall gk1.toDrawH)
  have D15 : FnOk P w K mg base (L2.CX P w) 1 f15 _ _ (lift ⟨P, w, K, c.ca, c.ex⟩ sp_law_sign) := def_ok (k := 0) (c := c) (G := gK) (T := t__law_sign) U15 sc__law_sign (nm_of F rfl rfl (by decide +kernel) (fun p hp => by
    simp [t__law_sign] at hp
    )) rfl ck__law_sign ar__law_sign (w_law_sign)
  have D16 : FnOk P w K mg base (L2.CX P w) 1 f16 _ _ (lift ⟨P, w, K, c.ca, c.ex⟩ sp_odd_row) := def_ok (k := 0) (c := c) (G := gK) (T := t__law_odd_row) U16 sc__law_odd_row (nm_of F rfl rfl (by decide +kernel) (fun p hp => by
    simp [t__law_odd_row] at hp
    )) rfl ck__law_odd_row ar__law_odd_row (w_odd_row)
  have D17 : FnOk P w K mg base (L2.CX P w) 7 f17 _ _ (lift ⟨P, w, K, c.ca, c.ex⟩ sp_refused) := def_ok (k := 6) (c := c) (G := gK) (T := t__law_refused) U17 sc__law_refused (nm_of F rfl rfl (by decide +kernel) (fun p hp => by
    simp only [t__law_refused, List.mem_cons, List.not_mem_nil, or_false] at hp
    rcases hp with rfl
    · exact ⟨_, rfl, ⟨⟨_, _, _, D5.mono (by decide), PySem.W.mg_of X G a5, k5, B5⟩⟩⟩
    )) rfl ck__law_refused ar__law_refused (w_refused gk1)
  have D18 : FnOk P w K mg base (L2.CX P w) 9 f18 _ _ (lift ⟨P, w, K, c.ca, c.ex⟩ sp_no_number) := def_ok (k := 8) (c := c) (G := gK) (T := t__law_no_number) U18 sc__law_no_number (nm_of F rfl rfl (by decide +kernel) (fun p hp => by
    simp only [t__law_no_number, List.mem_cons, List.not_mem_nil, or_false] at hp
    rcases hp with rfl
    · exact ⟨_, rfl, ⟨⟨_, _, _, D9.mono (by decide), PySem.W.mg_of X G a9, k9, B9⟩⟩⟩
    )) rfl ck__law_no_number ar__law_no_number (w_no_number gk1)
  have D19 : FnOk P w K mg base (L2.CX P w) 10 fa _ _ (lift ⟨P, w, K, c.ca, c.ex⟩ sp_law) := def_ok (k := 9) (c := c) (G := gK) (T := t_law) U19 sc_law (nm_of F rfl rfl (by decide +kernel) (fun p hp => by
    simp only [t_law, List.mem_cons, List.not_mem_nil, or_false] at hp
    rcases hp with rfl | rfl | rfl | rfl | rfl | rfl | rfl | rfl
    · exact ⟨_, rfl, ⟨⟨_, _, _, D5.mono (by decide), PySem.W.mg_of X G a5, k5, B5⟩⟩⟩
    · exact ⟨_, rfl, ⟨⟨_, _, _, D9.mono (by decide), PySem.W.mg_of X G a9, k9, B9⟩⟩⟩
    · exact ⟨_, rfl, ⟨⟨_, _, _, D11.mono (by decide), PySem.W.mg_of X G a11, k11, B11⟩⟩⟩
    · exact ⟨_, rfl, ⟨⟨_, _, _, D14.mono (by decide), PySem.W.mg_of X G a14, k14, B14⟩⟩⟩
    · exact ⟨_, rfl, ⟨⟨_, _, _, D15.mono (by decide), PySem.W.mg_of X G a15, k15, B15⟩⟩⟩
    · exact ⟨_, rfl, ⟨⟨_, _, _, D16.mono (by decide), PySem.W.mg_of X G a16, k16, B16⟩⟩⟩
    · exact ⟨_, rfl, ⟨⟨_, _, _, D17.mono (by decide), PySem.W.mg_of X G a17, k17, B17⟩⟩⟩
    · exact ⟨_, rfl, ⟨⟨_, _, _, D18.mono (by decide), PySem.W.mg_of X G a18, k18, B18⟩⟩⟩
    )) rfl ck_law ar_law (w_law gk1)
  exact D19.imp fun vs H Q E q => top_in q
theorem walk_law {l : PySem.W.OpenLaw} {q : Program} {loose : List Str} {XP : (Str → Option Value) → Heap → Prop} {YP : World → Heap → Prop} {d : DefRec} {K : Params → PySem.W.Frag} (hn : l.most = some 63) (hdf : d.params.defaults = [])
    (hY : ∀ (w : World) (h : Heap), YP w h → (K w.params).In h)
    (F : ∀ (w : World) (mg : Str → Option Value) (fa : Addr) (h : Heap), (K w.params).In h → h.Ns mainGlobals mg → mg d.name = some (.ref fa) →
      ∃ fd : FuncData, (∀ (s : Shared) (u : Value), BindsTo s fd ⟨[u], []⟩ [("_law_script", u)]) ∧ ∀ base : Heap, (K w.params).In base → base.Ns mainGlobals mg → FnOk l.prog w (K w.params) mg base (L2.CX l.prog w) 10 fa fd ["_law_script"] (spTop (K w.params))) :
    PySem.W.WalkO q loose XP YP l.row.toRowW d [] (fun f vs => PySem.call f vs) :=
  L2.walk_of (n := 63) (k := 10) (x := "_law_script") (CX := fun w => L2.CX l.prog w) (sp := fun w => spTop (K w.params)) hn (by decide) hdf ⟨rfl, by decide, by decide⟩ hY F (fun _ _ a ns hl hO hS => ⟨a, ns, rfl, hO, hS, fun _ => rfl⟩) (fun _ _ _ _ _ z => cx_no z)
end DL
open PySem PySem.W PyProof.Rows
theorem PySem.Challenge.cw_digitrow_k01_halls_holds : PySem.Challenge.rw_digitrow_k01_halls.Holds := by
  w_on; o_law; k_head; (case hw => w_witness2)
  k_fill
  refine DL.walk_law (l := PySem.Challenge.rw_digitrow_k01_halls) rfl rfl (fun w h Y => PySem.W.kIn_of Y) ?F
  case F =>
    intro w mg fa h KX G hmg
    refine' DL.all_mk KX G hmg ?a0 ?l0 ?c0 ?k0 ?a1 ?l1 ?c1 ?k1 ?a2 ?l2 ?c2 ?k2 ?a3 ?l3 ?c3 ?k3 ?a4 ?l4 ?c4 ?k4 ?a5 ?l5 ?c5 ?k5 ?a6 ?l6 ?c6 ?k6 ?a7 ?l7 ?c7 ?k7 ?a8 ?l8 ?c8 ?k8 ?a9 ?l9 ?c9 ?k9 ?a10 ?l10 ?c10 ?k10 ?a11 ?l11 ?c11 ?k11 ?a12 ?l12 ?c12 ?k12 ?a13 ?l13 ?c13 ?k13 ?a14 ?l14 ?c14 ?k14 ?a15 ?l15 ?c15 ?k15 ?a16 ?l16 ?c16 ?k16 ?a17 ?l17 ?c17 ?k17 ?a18 ?l18 ?c18 ?k18 ?a19 ?l19 ?c19 ?k19 ?z0 ?z1 ?z2 ?z3 ?z4 ?z5 ?z6 ?z7 ?z8 ?z9 ?z10 ?z11 ?z12 ?z13 ?z14 ?z15 ?z16 ?z17 ?v0 ?ea0 ?ex0 ?ek0 ?eb0 ?et0 ?eg0 ?eh0 ?ed0 ?ec0 ?em0 ?ev0 ?ea1 ?ex1 ?ek1 ?eb1 ?et1 ?eg1 ?eh1 ?ed1 ?ec1 ?em1 ?ev1 ?ea2 ?ex2 ?ek2 ?eb2 ?et2 ?eg2 ?eh2 ?ed2 ?ec2 ?em2 ?ev2 ?ea5 ?ex5 ?ek5 ?eb5 ?et5 ?eg5 ?eh5 ?ed5 ?ec5 ?em5 ?ev5 ?s0_0 ?t0_0 ?s0_1 ?t0_1 ?s0_2 ?t0_2 ?s0_5 ?t0_5 ?s1_0 ?t1_0 ?s1_1 ?t1_1 ?s1_2 ?t1_2 ?s1_5 ?t1_5 ?s2_0 ?t2_0 ?s2_1 ?t2_1 ?s2_2 ?t2_2 ?s2_5 ?t2_5 ?s5_0 ?t5_0 ?s5_1 ?t5_1 ?s5_2 ?t5_2 ?s5_5 ?t5_5 ?yn ?yt
    (case a0 => k_is)
    (case l0 => k_is)
    (case c0 => k_is)
    (case k0 => k_is)
    (case a1 => k_is)
    (case l1 => k_is)
    (case c1 => k_is)
    (case k1 => k_is)
    (case a2 => k_is)
    (case l2 => k_is)
    (case c2 => k_is)
    (case k2 => k_is)
    (case a3 => k_is)
    (case l3 => k_is)
    (case c3 => k_is)
    (case k3 => k_is)
    (case a4 => k_is)
    (case l4 => k_is)
    (case c4 => k_is)
    (case k4 => k_is)
    (case a5 => k_is)
    (case l5 => k_is)
    (case c5 => k_is)
    (case k5 => k_is)
    (case a6 => k_is)
    (case l6 => k_is)
    (case c6 => k_is)
    (case k6 => k_is)
    (case a7 => k_is)
    (case l7 => k_is)
    (case c7 => k_is)
    (case k7 => k_is)
    (case a8 => k_is)
    (case l8 => k_is)
    (case c8 => k_is)
    (case k8 => k_is)
    (case a9 => k_is)
    (case l9 => k_is)
    (case c9 => k_is)
    (case k9 => k_is)
    (case a10 => k_is)
    (case l10 => k_is)
    (case c10 => k_is)
    (case k10 => k_is)
    (case a11 => k_is)
    (case l11 => k_is)
    (case c11 => k_is)
    (case k11 => k_is)
    (case a12 => k_is)
    (case l12 => k_is)
    (case c12 => k_is)
    (case k12 => k_is)
    (case a13 => k_is)
    (case l13 => k_is)
    (case c13 => k_is)
    (case k13 => k_is)
    (case a14 => k_is)
    (case l14 => k_is)
    (case c14 => k_is)
    (case k14 => k_is)
    (case a15 => k_is)
    (case l15 => k_is)
    (case c15 => k_is)
    (case k15 => k_is)
    (case a16 => k_is)
    (case l16 => k_is)
    (case c16 => k_is)
    (case k16 => k_is)
    (case a17 => k_is)
    (case l17 => k_is)
    (case c17 => k_is)
    (case k17 => k_is)
    (case a18 => k_is)
    (case l18 => k_is)
    (case c18 => k_is)
    (case k18 => k_is)
    (case a19 => k_is)
    (case l19 => k_is)
    (case c19 => k_is)
    (case k19 => k_is)
    (case z0 => k_is)
    (case z1 => k_is)
    (case z2 => k_is)
    (case z3 => k_is)
    (case z4 => k_is)
    (case z5 => k_is)
    (case z6 => k_is)
    (case z7 => k_is)
    (case z8 => k_is)
    (case z9 => k_is)
    (case z10 => k_is)
    (case z11 => k_is)
    (case z12 => k_is)
    (case z13 => k_is)
    (case z14 => k_is)
    (case z15 => k_is)
    (case z16 => k_is)
    (case z17 => k_is)
    (case v0 => k_is)
    (case ea0 => k_is)
    (case ex0 => k_exc)
    (case ek0 => k_is)
    (case eb0 => k_is)
    (case et0 => k_is)
    (case eg0 => k_is)
    (case eh0 => k_is)
    (case ed0 => k_is)
    (case ec0 => k_is)
    (case em0 => k_is)
    (case ev0 => k_is)
    (case ea1 => k_is)
    (case ex1 => k_exc)
    (case ek1 => k_is)
    (case eb1 => k_is)
    (case et1 => k_is)
    (case eg1 => k_is)
    (case eh1 => k_is)
    (case ed1 => k_is)
    (case ec1 => k_is)
    (case em1 => k_is)
    (case ev1 => k_is)
    (case ea2 => k_is)
    (case ex2 => k_exc)
    (case ek2 => k_is)
    (case eb2 => k_is)
    (case et2 => k_is)
    (case eg2 => k_is)
    (case eh2 => k_is)
    (case ed2 => k_is)
    (case ec2 => k_is)
    (case em2 => k_is)
    (case ev2 => k_is)
    (case ea5 => k_is)
    (case ex5 => k_exc)
    (case ek5 => k_is)
    (case eb5 => k_is)
    (case et5 => k_is)
    (case eg5 => k_is)
    (case eh5 => k_is)
    (case ed5 => k_is)
    (case ec5 => k_is)
    (case em5 => k_is)
    (case ev5 => k_is)
    (case s0_0 => first | rfl | k_is)
    (case t0_0 => first | rfl | k_is)
    (case s0_1 => first | rfl | k_is)
    (case t0_1 => first | rfl | k_is)
    (case s0_2 => first | rfl | k_is)
    (case t0_2 => first | rfl | k_is)
    (case s0_5 => first | rfl | k_is)
    (case t0_5 => first | rfl | k_is)
    (case s1_0 => first | rfl | k_is)
    (case t1_0 => first | rfl | k_is)
    (case s1_1 => first | rfl | k_is)
    (case t1_1 => first | rfl | k_is)
    (case s1_2 => first | rfl | k_is)
    (case t1_2 => first | rfl | k_is)
    (case s1_5 => first | rfl | k_is)
    (case t1_5 => first | rfl | k_is)
    (case s2_0 => first | rfl | k_is)
    (case t2_0 => first | rfl | k_is)
    (case s2_1 => first | rfl | k_is)
    (case t2_1 => first | rfl | k_is)
    (case s2_2 => first | rfl | k_is)
    (case t2_2 => first | rfl | k_is)
    (case s2_5 => first | rfl | k_is)
    (case t2_5 => first | rfl | k_is)
    (case s5_0 => first | rfl | k_is)
    (case t5_0 => first | rfl | k_is)
    (case s5_1 => first | rfl | k_is)
    (case t5_1 => first | rfl | k_is)
    (case s5_2 => first | rfl | k_is)
    (case t5_2 => first | rfl | k_is)
    (case s5_5 => first | rfl | k_is)
    (case t5_5 => first | rfl | k_is)
    (case yn => k_is)
    (case yt => k_is)
#print axioms PySem.Challenge.cw_digitrow_k01_halls_holds
