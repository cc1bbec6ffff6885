import PyProof.Rows.All
import Wide.All
import OpenK.AllK
import Wide.FinOn
import HandS.ForMost
import HandS.ForExc
import HandS.ExcOwn
import HandS.Style
import HandS.HotCalls
import HandS.ExcIs
import HandS.ExcField
import HandS.Wide
import HandS.TupAny
import HandS.ForDict
import HandS.SortInts
import HandS.SortRule
import HandS.More
import HandS.Conv
import HandS.TupSets
import HandS.IsInst
import HandS.Deep
import HandS.Strs
import HandS.WideBits
import HandS.SetFor
import HandS.Zip
import HandS.Rev
import HandS.Comp
import HandS.Small
import HandS.DictTup
import PyProof.DictMoreH
import HandS.ExcInitHot
import HandS.DictComp
import HandS.Ends
import HandS.Text
import PySem.Challenge.RW_lookundone_k46_accounts_and_names
set_option Elab.async false
set_option linter.all false
set_option maxRecDepth 100000
set_option maxHeartbeats 4000000
/-! VmA -/
namespace Vm
open PySem

/-- data that never changes -/
inductive D where
  | non | bl (b : Bool) | int (i : Int) | str (x : Str) | tup (k : Bool) (l : List D) | fls (l : List D) | fdc (t : Bool) (ks vs : List D)
  deriving Inhabited

/-- what a slot holds -/
inductive S where
  | v (d : D) | lst (l : List S) | dic (t : Bool) (l : List (D × D)) | obj (c : Nat) (fs : List Nat) (vs : List S) | exn (c : Nat) (fs : List Nat) (vs : List D)
  deriving Inhabited

abbrev Fr := List (Option S)
/-- what a slot holds, but an exception -/
def getS (ρ : Fr) (i : Nat) : Option S :=
  match ρ[i]? with
  | some (some (.exn _ _ _)) => none
  | some o => o
  | none => none
/-- .. an exception -/
def getX (ρ : Fr) (i : Nat) : Option (Nat × List Nat × List D) :=
  match ρ[i]? with
  | some (some (.exn c fs vs)) => some (c, fs, vs)
  | _ => none

/-- an exception: its class, its fields -/
structure Ex where
  c : Nat
  fs : List Nat
  vs : List D

inductive R (α : Type) where
  | bad
  | ok (a : α) (ρ : Fr)
  | ex (e : Ex) (ρ : Fr)
def R.bind {α β : Type} : R α → (α → Fr → R β) → R β
  | .bad, _ => .bad
  | .ok a ρ, k => k a ρ
  | .ex e ρ, _ => .ex e ρ
@[simp] theorem R.bind_ok {α β : Type} (a : α) (ρ : Fr) (k : α → Fr → R β) : (R.ok a ρ).bind k = k a ρ := rfl
@[simp] theorem R.bind_bad {α β : Type} (k : α → Fr → R β) : (R.bad : R α).bind k = .bad := rfl
@[simp] theorem R.bind_ex {α β : Type} (e : Ex) (ρ : Fr) (k : α → Fr → R β) : (R.ex e ρ : R α).bind k = .ex e ρ := rfl
def R.of {α : Type} (ρ : Fr) : Option α → R α
  | some a => .ok a ρ
  | none => .bad
@[simp] theorem R.of_some {α : Type} (ρ : Fr) (a : α) : R.of ρ (some a) = .ok a ρ := rfl
@[simp] theorem R.of_none {α : Type} (ρ : Fr) : (R.of ρ none : R α) = .bad := rfl
theorem R.bind_eq_ok {α β : Type} {r : R α} {k : α → Fr → R β} {b : β} {ρ : Fr} (h : r.bind k = .ok b ρ) : ∃ a ρ1, r = .ok a ρ1 ∧ k a ρ1 = .ok b ρ := by
  cases r with
  | bad => cases h
  | ok a ρ1 => exact ⟨a, ρ1, rfl, h⟩
  | ex e ρ1 => cases h

/-- what a call gives: its value and what the changed parameters hold behind it -/
inductive Out where
  | bad
  | ok (r : S) (fin : List S)
  | ex (e : Ex) (fin : List S)

inductive Cst where
  | non | bl (b : Bool) | int (i : Int) | str (x : Str)
  deriving DecidableEq
def Cst.d : Cst → D
  | .non => .non
  | .bl b => .bl b
  | .int i => .int i
  | .str x => .str x

inductive Op2 where
  | add | sub | mul | fdiv | mod | pow | shl | shr | band | bor | bxor
  deriving DecidableEq
inductive Op1 where
  | neg | inv
  deriving DecidableEq
inductive Cm where
  | lt | le | gt | ge | eq | ne | is | nis | inn | nin
  deriving DecidableEq
inductive Ty where
  | int | bool | str | tuple | list | cls (c : Nat)
  deriving DecidableEq
/-- built-ins: called with values -/
inductive Bi where
  | int | len | abs | min2 | max2 | sum | all | any | sorted | sset | tuple | list | set | bool | min1 | max1
  deriving DecidableEq
/-- methods of built-in types that change nothing -/
inductive Me where
  | index | count | bitlen | get1 | get2
  deriving DecidableEq
/-- .. that change their object -/
inductive Mu where
  | append | pop | popAt | remove | insert | extend | reverse | clear
  deriving DecidableEq

mutual
inductive X where
  | c (k : Cst)
  | nm (i : Nat)
  | mv (i : Nat)
  | fz (x : X)
  | om
  | att (x : X) (f : Nat)
  | ix (x i : X)
  | slc (x lo hi : X)
  | bin (o : Op2) (a b : X)
  | un (o : Op1) (a : X)
  | cmp (o : Cm) (a b : X)
  | cm2 (o p : Cm) (a b c : X)
  | not (a : X)
  | and (xs : Xs)
  | or (xs : Xs)
  | ife (c a b : X)
  | tup (xs : Xs)
  | lst (xs : Xs)
  | dnew (t : Bool)
  | bi (b : Bi) (xs : Xs)
  | isi (x : X) (t : Ty)
  | exf (i f : Nat)
  | exi (i c : Nat)
  | me (m : Me) (x : X) (xs : Xs)
  | mu (m : Mu) (i : Nat) (fs : List Nat) (xs : Xs)
  | call (f : Nat) (xs : Xs)
  | callk (f : Nat) (perm : List Nat) (xs : Xs)
  | mcall (f : Nat) (i : Nat) (xs : Xs)
  | new (c : Nat) (xs : Xs)
  | lc (e : X) (t : List Nat) (it : X) (cs : Xs)
  | lc2 (e : X) (t : List Nat) (it : X) (cs : Xs) (t2 : List Nat) (it2 : X) (cs2 : Xs)
  | dc (dt : Bool) (k v : X) (t : List Nat) (it : X) (cs : Xs)
  | rng (xs : Xs)
  | zip (xs : Xs)
  | enu (x : X)
  | rev (x : X)
inductive Xs where
  | nil
  | cons (x : X) (xs : Xs)
end

def X.isPath : X → Bool
  | .nm _ => true
  | .att _ _ => true
  | .ix _ _ => true
  | _ => false

def S.d? : S → Option D
  | .v d => some d
  | _ => none
def S.i? : S → Option Int
  | .v (.int i) => some i
  | _ => none
def ds? : List S → Option (List D)
  | [] => some []
  | s :: r => match s, ds? r with
    | .v d, some l => some (d :: l)
    | _, _ => none
/-- frozen -/
def fzD : S → Option D
  | .v d => some d
  | .lst l => (ds? l).map D.fls
  | .dic t l => some (.fdc t (l.map (·.1)) (l.map (·.2)))
  | _ => none
def fzs : List S → Option (List D)
  | [] => some []
  | s :: r => match fzD s, fzs r with
    | some d, some l => some (d :: l)
    | _, _ => none

abbrev B64 (i : Int) : Bool := decide (-(2 ^ 64) < i) && decide (i < 2 ^ 64)
def lineN : Nat := 16777216
/-- int arithmetic within what the model of Python is known to reckon -/
def arith : Op2 → Int → Int → Option Int
  | .add, i, j => some (i + j)
  | .sub, i, j => some (i - j)
  | .mul, i, j => if B64 i || B64 j then some (i * j) else none
  | .fdiv, i, j => if decide (0 < j) && decide (j < 1073741824) then some (i / j) else none
  | .mod, i, j => if decide (0 < j) then some (i % j) else none
  | .pow, i, j => if decide (0 ≤ j) && decide (j ≤ 1000000) && B64 i then some (i ^ j.toNat) else none
  | .shl, i, j => if decide (0 ≤ j) && decide (j ≤ 1000000) && B64 i then some (i * 2 ^ j.toNat) else none
  | .shr, i, j => if decide (0 ≤ j) then some (i / 2 ^ j.toNat) else none
  | .band, i, j => some (Builtin.bitAnd i j)
  | .bor, i, j => some (Builtin.bitOr i j)
  | .bxor, i, j => some (Builtin.bitXor i j)
/-- the items of a sequence -/
def seqD : S → Option (List D)
  | .v (.tup _ l) => some l
  | .v (.fls l) => some l
  | .lst l => ds? l
  | _ => none
def lstD : S → Option (List D)
  | .v (.fls l) => some l
  | .lst l => ds? l
  | _ => none
def op2 (o : Op2) (a b : S) : Option S :=
  match a, b with
  | .v (.int i), .v (.int j) => (arith o i j).map fun k => .v (.int k)
  | .v (.tup k l), .v (.tup j m) => if o = .add && decide (l.length + m.length ≤ lineN) then some (.v (if l.isEmpty then .tup j m else if m.isEmpty then .tup k l else .tup true (l ++ m))) else none
  | .lst l, .lst m => if o = .add && decide (l.length + m.length ≤ lineN) then match ds? l, ds? m with
      | some l, some m => some (.lst ((l ++ m).map S.v))
      | _, _ => none
    else none
  | .lst l, .v (.int k) => if o = .mul && decide (-(2 ^ 63) ≤ k) && decide (k < 2 ^ 63) && decide (l.length * k.toNat ≤ lineN) then match ds? l with
      | some l => some (.lst ((List.replicate k.toNat l).flatten.map S.v))
      | _ => none
    else none
  | _, _ => none
def op1 (o : Op1) (a : S) : Option S :=
  match a with
  | .v (.int i) => match o with
    | .neg => some (.v (.int (-i)))
    | .inv => some (.v (.int (Builtin.bitNot i)))
  | _ => none

mutual
/-- as the library's data -/
def D.py : D → PyData
  | .non => .none
  | .bl b => .bool b
  | .int i => .int i
  | .str x => .str x
  | .tup _ l => .tuple (D.pys l)
  | .fls l => .list (D.pys l)
  | .fdc _ _ _ => .dict []
termination_by structural d => d
def D.pys : List D → List PyData
  | [] => []
  | d :: l => D.py d :: D.pys l
termination_by structural l => l
end
/-- data whose == the library knows -/
def D.lay (d : D) : Bool := SeqAt.shaped d.py
/-- Python's == -/
def D.eqb (x y : D) : Bool := PyData.eqv x.py y.py

/-- flat data, for 'in' over sequences -/
def D.flat : D → Bool
  | .non => true
  | .bl _ => true
  | .int _ => true
  | .str _ => true
  | _ => false
def D.feq : D → D → Bool
  | .non, .non => true
  | .bl x, .bl y => x == y
  | .bl x, .int j => (if x then 1 else 0) == j
  | .int x, .int y => x == y
  | .int x, .bl y => x == (if y then 1 else 0)
  | .str x, .str y => x == y
  | _, _ => false
/-- keys of dicts: ints and texts (t = false), tuples of such (t = true) -/
def D.isKey (t : Bool) : D → Bool
  | .int _ => !t
  | .str _ => !t
  | .tup k l => t && k && l.all fun d => match d with
    | .int _ => true
    | .str _ => true
    | _ => false
  | _ => false
mutual
def D.same : D → D → Bool
  | .non, b => match b with
    | .non => true
    | _ => false
  | .bl x, b => match b with
    | .bl y => x == y
    | _ => false
  | .int x, b => match b with
    | .int y => x == y
    | _ => false
  | .str x, b => match b with
    | .str y => x == y
    | _ => false
  | .tup _ l, b => match b with
    | .tup _ m => D.sames l m
    | _ => false
  | .fls l, b => match b with
    | .fls m => D.sames l m
    | _ => false
  | .fdc t ks vs, b => match b with
    | .fdc u js ws => t == u && D.sames ks js && D.sames vs ws
    | _ => false
def D.sames : List D → List D → Bool
  | [], m => m.isEmpty
  | d :: l, ms => match ms with
    | [] => false
    | m :: ms => D.same d m && D.sames l ms
end
def dget (l : List (D × D)) (k : D) : Option D := (l.find? fun p => D.same p.1 k).map (·.2)
def dput (l : List (D × D)) (k v : D) : List (D × D) :=
  if l.any fun p => D.same p.1 k then l.map fun p => if D.same p.1 k then (p.1, v) else p else l ++ [(k, v)]
def ddel (l : List (D × D)) (k : D) : List (D × D) := l.filter fun p => !D.same p.1 k
/-- what a dict is: its kind, its pairs -/
def dictD : S → Option (Bool × List (D × D))
  | .dic t l => some (t, l)
  | .v (.fdc t ks vs) => some (t, ks.zip vs)
  | _ => none

def D.isNon : D → Bool
  | .non => true
  | _ => false
def D.isBl (c : Bool) : D → Bool
  | .bl y => y == c
  | _ => false
def b01 (b : Bool) : S := .v (.bl b)
def cmpI (o : Cm) (i j : Int) : Option Bool :=
  match o with
  | .lt => some (decide (i < j))
  | .le => some (decide (i ≤ j))
  | .gt => some (decide (j < i))
  | .ge => some (decide (j ≤ i))
  | _ => none
def cmpInts (o : Cm) (a b : S) : Option Bool :=
  match a, b with
  | .v (.int i), .v (.int j) => cmpI o i j
  | _, _ => none
def inD (x : D) (c : S) : Option Bool :=
  match seqD c with
  | some l => if x.flat && l.all D.flat then some (l.any fun y => D.feq y x) else none
  | none => match dictD c with
    | some (t, l) => if x.isKey t then some (dget l x).isSome else none
    | none => none
def eqD (x y : D) : Option Bool := if x.flat && y.flat then some (D.feq x y) else if x.lay && y.lay then some (D.eqb x y) else none
def cmpV (o : Cm) (a b : S) : Option Bool :=
  match o with
  | .eq => match a, b with
    | .v x, .v y => eqD x y
    | _, _ => none
  | .ne => match a, b with
    | .v x, .v y => (eqD x y).map Bool.not
    | _, _ => none
  | .is => match a, b with
    | .v x, .v .non => some x.isNon
    | .v x, .v (.bl c) => some (x.isBl c)
    | _, _ => none
  | .nis => match a, b with
    | .v x, .v .non => some (!x.isNon)
    | _, _ => none
  | .inn => match a with
    | .v x => inD x b
    | _ => none
  | .nin => match a with
    | .v x => (inD x b).map Bool.not
    | _ => none
  | o => cmpInts o a b

/-- an item by its place, also from the end -/
abbrev atIx {α : Type} (l : List α) (i : Int) : Option α := L2.atI l i
abbrev placeIx (n : Nat) (i : Int) : Option Nat := L2.ixN n i
def getIx (a b : S) : Option S :=
  match a, b with
  | .v (.tup _ l), .v (.int i) => (atIx l i).map S.v
  | .v (.fls l), .v (.int i) => (atIx l i).map S.v
  | .lst l, .v (.int i) => atIx l i
  | .dic t l, .v k => if k.isKey t then (dget l k).map S.v else none
  | .v (.fdc t ks vs), .v k => if k.isKey t then (dget (ks.zip vs) k).map S.v else none
  | _, _ => none
/-- a slice's ends -/
def cut {α : Type} (l : List α) (lo hi : Option Int) : List α :=
  (l.drop (HT.sIx l.length 0 lo)).take (HT.sIx l.length l.length hi - HT.sIx l.length 0 lo)
def getSl (a : S) (lo hi : Option Int) : Option S :=
  match a with
  | .v (.tup k l) => some (.v (.tup (if decide (HT.sIx l.length 0 lo = 0) && decide (HT.sIx l.length l.length hi = l.length) then k else true) (cut l lo hi)))
  | .lst l => (ds? l).map fun l => .lst ((cut l lo hi).map S.v)
  | _ => none
def truth : S → Option Bool
  | .v .non => some false
  | .v (.bl b) => some b
  | .v (.int i) => some (i != 0)
  | .v (.tup _ l) => some (!l.isEmpty)
  | .v (.fls l) => some (!l.isEmpty)
  | .lst l => some (!l.isEmpty)
  | .dic false l => some (!l.isEmpty)
  | _ => none
def isTy0 (s : S) (t : Ty) : Option Bool :=
  match s with
  | .v (.int _) => some (decide (t = .int))
  | .v (.bl _) => some (decide (t = .int) || decide (t = .bool))
  | .v .non => some false
  | .v (.str _) => some (decide (t = .str))
  | .v (.tup _ _) => some (decide (t = .tuple))
  | .v (.fls _) => some (decide (t = .list))
  | .lst _ => some (decide (t = .list))
  | _ => none
def isTy (s : S) (t : Ty) : Option Bool :=
  match t with
  | .cls _ => none
  | t => isTy0 s t

def ints? : List D → Option (List Int)
  | [] => some []
  | d :: r => match d, ints? r with
    | .int i, some l => some (i :: l)
    | _, _ => none
def bools? : List D → Option (List Bool)
  | [] => some []
  | d :: r => match d, bools? r with
    | .bl i, some l => some (i :: l)
    | _, _ => none
def pairs? : List D → Option (List (Int × Int))
  | [] => some []
  | d :: r => match d, pairs? r with
    | .tup true [.int i, .int j], some l => some ((i, j) :: l)
    | _, _ => none
/-- sorting, by insertion -/
def insI (x : Int) : List Int → List Int
  | [] => [x]
  | y :: r => if x ≤ y then x :: y :: r else y :: insI x r
def sortI : List Int → List Int
  | [] => []
  | x :: r => insI x (sortI r)
def leP (a b : Int × Int) : Bool := decide (a.1 < b.1) || (decide (a.1 = b.1) && decide (a.2 ≤ b.2))
def insP (x : Int × Int) : List (Int × Int) → List (Int × Int)
  | [] => [x]
  | y :: r => if leP x y then x :: y :: r else y :: insP x r
def sortP : List (Int × Int) → List (Int × Int)
  | [] => []
  | x :: r => insP x (sortP r)
def dP (p : Int × Int) : D := .tup true [.int p.1, .int p.2]
def sortD (l : List D) : Option (List D) :=
  match ints? l with
  | some is => some ((sortI is).map D.int)
  | none => match pairs? l with
    | some ps => some ((sortP ps).map dP)
    | none => none
/-- the items that list, tuple, sorted take -/
def itemsD (s : S) : Option (List D) :=
  match seqD s with
  | some l => some l
  | none => match s with
    | .dic _ l => some (l.map (·.1))
    | _ => none
/-- without doubles -/
def undup : List (Int × Int) → List (Int × Int)
  | [] => []
  | x :: r => if r.contains x then undup r else x :: undup r
def lenS : S → Option Nat
  | .v (.tup _ l) => some l.length
  | .v (.fls l) => some l.length
  | .lst l => some l.length
  | .dic false l => some l.length
  | .v (.str x) => if x.length ≤ lineN then some x.length else none
  | _ => none
def intS : S → Option S
  | .v (.int i) => some (.v (.int i))
  | .v (.bl c) => some (.v (.int (if c then 1 else 0)))
  | _ => none
def absS : S → Option S
  | .v (.int i) => some (.v (.int (if i < 0 then -i else i)))
  | _ => none
def min2S (a b : S) : Option S :=
  match a, b with
  | .v (.int i), .v (.int j) => some (.v (.int (if j < i then j else i)))
  | _, _ => none
def max2S (a b : S) : Option S :=
  match a, b with
  | .v (.int i), .v (.int j) => some (.v (.int (if j > i then j else i)))
  | _, _ => none
def min1S (s : S) : Option S :=
  match (lstD s).bind ints? with
  | some (i :: l) => some (.v (.int (l.foldl min i)))
  | _ => none
def max1S (s : S) : Option S :=
  match (lstD s).bind ints? with
  | some (i :: l) => some (.v (.int (l.foldl max i)))
  | _ => none
def sortedS : S → Option S
  | .lst l => ((ds? l).bind sortD).map fun l => .lst (l.map S.v)
  | .dic true l => (pairs? (l.map (·.1))).map fun ps => .lst (((sortP ps).map dP).map S.v)
  | _ => none
def tupS : S → Option S
  | .v (.tup k l) => some (.v (.tup k l))
  | s => (lstD s).map fun l => .v (.tup false l)
def bi1 (g : S → Option S) : List S → Option S
  | [s] => g s
  | _ => none
def bi2 (g : S → S → Option S) : List S → Option S
  | [s, t] => g s t
  | _ => none
def bi : Bi → List S → Option S
  | .int => bi1 intS
  | .len => bi1 fun s => (lenS s).map fun n => .v (.int (n : Nat))
  | .abs => bi1 absS
  | .min2 => bi2 min2S
  | .max2 => bi2 max2S
  | .min1 => bi1 min1S
  | .max1 => bi1 max1S
  | .sum => bi1 fun s => ((lstD s).bind ints?).map fun l => .v (.int l.sum)
  | .all => bi1 fun s => ((lstD s).bind bools?).map fun l => b01 (l.all id)
  | .any => bi1 fun s => ((lstD s).bind bools?).map fun l => b01 (l.any id)
  | .sorted => bi1 sortedS
  | .sset => bi1 fun s => ((lstD s).bind pairs?).bind fun l => if decide (l.length < 64) && l.all (fun p => decide (0 ≤ p.1) && decide (p.1 < 1048576) && decide (0 ≤ p.2) && decide (p.2 < 1048576)) then some (.lst (((sortP (undup l)).map dP).map S.v)) else none
  | .tuple => bi1 tupS
  | .list => bi1 fun s => (seqD s).map fun l => .lst (l.map S.v)
  | .set => fun _ => none
  | .bool => bi1 fun s => (truth s).map b01
def findIx (p : D → Bool) : List D → Nat → Option Nat
  | [], _ => none
  | d :: r, n => if p d then some n else findIx p r (n + 1)
/-- what has methods: a tuple made by tuple, a list -/
def mseq : S → Option (List D)
  | .v (.tup k l) => if k then none else some l
  | s => lstD s
def me (m : Me) (a : S) (ss : List D) : Option S :=
  match m, ss with
  | .index, [x] => match mseq a with
    | some l => if x.flat && l.all D.flat then (findIx (fun y => D.feq y x) l 0).map fun (k : Nat) => .v (.int (k : Int)) else none
    | none => none
  | .count, [x] => match lstD a with
    | some l => if x.lay && l.all D.lay then some (.v (.int (l.countP fun y => D.eqb y x))) else none
    | none => none
  | .bitlen, [] => match a with
    | .v (.int i) => some (.v (.int (Builtin.Int.intBits i : Nat)))
    | _ => none
  | _, _ => none
def meOk (m : Me) (a : S) : Bool :=
  match m with
  | .index => (mseq a).isSome
  | .count => (lstD a).isSome
  | .bitlen => match a with
    | .v (.int _) => true
    | _ => false
  | _ => false
def mu (m : Mu) (a : S) (ss : List S) : Option (S × S) :=
  match a with
  | .lst l => match m, ss with
    | .append, [s] => if l.length < lineN then some (.lst (l ++ [s]), .v .non) else none
    | .pop, [] => match l.getLast? with
      | some s => some (.lst l.dropLast, s)
      | none => none
    | .popAt, [.v (.int i)] => if decide (-(2 ^ 63) ≤ i) && decide (i < 2 ^ 63) then match placeIx l.length i with
        | some k => match l[k]? with
          | some s => some (.lst (l.eraseIdx k), s)
          | none => none
        | none => none
      else none
    | .remove, [.v (.int x)] => match (ds? l).bind ints? with
      | some is => match is.findIdx? fun y => y == x with
        | some k => some (.lst (l.eraseIdx k), .v .non)
        | none => none
      | none => none
    | .reverse, [] => some (.lst l.reverse, .v .non)
    | .clear, [] => some (.lst [], .v .non)
    | _, _ => none
  | _ => none
/-- the path stands for a list -/
def muOk : Option S → Bool
  | some (.lst _) => true
  | _ => false
/-- a field -/
def fget : List Nat → List S → Nat → Option S
  | f :: fs, s :: ss, g => if f = g then some s else fget fs ss g
  | _, _, _ => none
def fput : List Nat → List S → Nat → S → List Nat × List S
  | f :: fs, s :: ss, g, t => if f = g then (f :: fs, t :: ss) else ((f :: (fput fs ss g t).1), s :: (fput fs ss g t).2)
  | _, _, g, t => ([g], [t])
def fldGet (a : S) (f : Nat) : Option S :=
  match a with
  | .obj _ fs vs => fget fs vs f
  | _ => none
def fldPut (at' : Nat → Nat → Bool) (a : S) (f : Nat) (s : S) : Option S :=
  match a with
  | .obj c fs vs => if at' c f && decide (fs.length < 900) then some (.obj c (fput fs vs f s).1 (fput fs vs f s).2) else none
  | _ => none
/-- a slot's part by a path of fields -/
def pget : S → List Nat → Option S
  | s, [] => some s
  | s, f :: p => match fldGet s f with
    | some t => pget t p
    | none => none
def pput : S → List Nat → S → Option S
  | _, [], t => some t
  | s, f :: p, t => match s with
    | .obj c fs vs => match fget fs vs f with
      | some u => match pput u p t with
        | some u' => some (.obj c (fput fs vs f u').1 (fput fs vs f u').2)
        | none => none
      | none => none
    | _ => none

inductive Arg where
  | t (s : S)
  | l (i : Nat)
structure Cal where
  cf : Nat → List S → Out
  mt : Nat → List Nat
  ini : Nat → Nat
  exm : Nat → Nat → Option Bool
  at' : Nat → Nat → Bool
  /-- a method's class -/
  mc : Nat → Option Nat
def argS (ρ : Fr) : List Arg → Option (List S)
  | [] => some []
  | a :: r => match (match a with
      | .t s => some s
      | .l i => getS ρ i), argS ρ r with
    | some s, some l => some (s :: l)
    | _, _ => none
def lends : List Arg → List Nat
  | [] => []
  | .t _ :: r => lends r
  | .l i :: r => i :: lends r
def distinct : List Nat → Bool
  | [] => true
  | i :: r => !r.contains i && distinct r
def putBack (as : List Arg) : List Nat → List S → Fr → Fr
  | j :: js, s :: ss, ρ => match as[j]? with
    | some (.l i) => putBack as js ss (ρ.set i (some s))
    | _ => putBack as js ss ρ
  | _, _, ρ => ρ
def doCall (C : Cal) (f : Nat) (as : List Arg) (ρ : Fr) : R S :=
  match argS ρ as with
  | none => .bad
  | some ss => if distinct (lends as) then match C.cf f ss with
      | .bad => .bad
      | .ok r fin => .ok r (putBack as (C.mt f) fin ρ)
      | .ex e fin => .ex e (putBack as (C.mt f) fin ρ)
    else .bad

def isObj (s : Option S) (c : Option Nat) : Bool :=
  match s with
  | some (.obj d _ _) => decide (c = some d)
  | _ => false
/-- the slots of a target, set from an item -/
def setTg : List Nat → D → Fr → Option Fr
  | [i], d, ρ => if i < ρ.length then some (ρ.set i (some (.v d))) else none
  | is, .tup _ ds, ρ => if is.length = ds.length then some ((is.zip ds).foldl (fun ρ p => ρ.set p.1 (some (.v p.2))) ρ) else none
  | _, _, _ => none
def unsetN (t : List Nat) (ρ : Fr) : Fr := t.foldl (fun r i => r.set i none) ρ
def unset (is : List Nat) (ρ ρ' : Fr) : Fr := is.foldl (fun r i => r.set i (ρ[i]?).join) ρ'

def rngD (lo hi : Int) : List D := (List.range (hi - lo).toNat).map fun (k : Nat) => D.int (lo + k)
def tupD : S → Option (List D)
  | .v (.tup _ l) => some l
  | _ => none
def zip2 (a b : List D) : List D := (a.zip b).map fun p => .tup true [p.1, p.2]
/-- two lists, or two tuples -/
def zipS : List S → Option (List D)
  | [s, t] => match lstD s, lstD t with
    | some a, some b => some (zip2 a b)
    | _, _ => match tupD s, tupD t with
      | some a, some b => some (zip2 a b)
      | _, _ => none
  | _ => none
def enuD (l : List D) : List D := ((List.range l.length).zip l).map fun p => .tup true [.int p.1, p.2]

/-- a comprehension's turns: own slots put, tests, the element -/
def lcGo (tg : List Nat) (tst : Fr → R Bool) (el : Fr → R S) : List D → Fr → List D → R (List D)
  | [], ρ, acc => .ok acc.reverse ρ
  | d :: r, ρ, acc => match setTg tg d ρ with
    | none => .bad
    | some ρ1 => match tst ρ1 with
      | .ok false ρ2 => lcGo tg tst el r ρ2 acc
      | .ok true ρ2 => match el ρ2 with
        | .ok (.v x) ρ3 => lcGo tg tst el r ρ3 (x :: acc)
        | _ => .bad
      | _ => .bad
def lcGo2 (tg t2 : List Nat) (tst : Fr → R Bool) (inner : Fr → List D → R (List D)) : List D → Fr → List D → R (List D)
  | [], ρ, acc => .ok acc.reverse ρ
  | d :: r, ρ, acc => match setTg tg d (unsetN t2 ρ) with
    | none => .bad
    | some ρ1 => match tst ρ1 with
      | .ok false ρ2 => lcGo2 tg t2 tst inner r ρ2 acc
      | .ok true ρ2 => match inner ρ2 acc with
        | .ok acc' ρ3 => lcGo2 tg t2 tst inner r ρ3 acc'.reverse
        | _ => .bad
      | _ => .bad
def dcGo (t : Bool) (tg : List Nat) (tst : Fr → R Bool) (ek ev : Fr → R S) : List D → Fr → List (D × D) → R (List (D × D))
  | [], ρ, acc => .ok acc ρ
  | d :: r, ρ, acc => match setTg tg d ρ with
    | none => .bad
    | some ρ1 => match tst ρ1 with
      | .ok false ρ2 => dcGo t tg tst ek ev r ρ2 acc
      | .ok true ρ2 => match ek ρ2 with
        | .ok (.v k) ρ3 => if k.isKey t && decide (acc.length < lineN) then match ev ρ3 with
            | .ok (.v x) ρ4 => dcGo t tg tst ek ev r ρ4 (dput acc k x)
            | _ => .bad
          else .bad
        | _ => .bad
      | _ => .bad

/-- a path read as a value must be plain data -/
def plain (p : Bool) (r : R S) : R S :=
  if p then match r with
    | .ok (.v d) ρ => .ok (.v d) ρ
    | .ok _ _ => .bad
    | r => r
  else r
/-- .. or is lent -/
def toArg (x : X) (r : R S) : R Arg :=
  match r with
  | .ok s ρ => match x with
    | .nm i => match s with
      | .v d => .ok (.t (.v d)) ρ
      | _ => .ok (.l i) ρ
    | x => if x.isPath then match s with
        | .v d => .ok (.t (.v d)) ρ
        | _ => .bad
      else .ok (.t s) ρ
  | .bad => .bad
  | .ex e ρ => .ex e ρ

/-- what an expression means: its value (of a path: what stands there), as a test, as what a loop walks, as a slice's end -/
structure Den where
  pk : Fr → R S
  ts : Fr → R Bool
  it : Fr → R (List D)
  eo : Fr → R (Option Int)
def Den.of (p : Fr → R S) : Den :=
  ⟨p, fun ρ => (p ρ).bind fun s ρ => R.of ρ (truth s), fun ρ => (p ρ).bind fun s ρ => R.of ρ (seqD s), fun ρ => (p ρ).bind fun s ρ => R.of ρ (s.i?.map some)⟩
abbrev XD := X × Den
def XD.ev (x : XD) (ρ : Fr) : R S := plain x.1.isPath (x.2.pk ρ)
/-- values one after another -/
def evsL : List XD → Fr → R (List S)
  | [], ρ => .ok [] ρ
  | x :: xs, ρ => (XD.ev x ρ).bind fun s ρ => (evsL xs ρ).bind fun ss ρ => .ok (s :: ss) ρ
/-- .. frozen -/
def fzR (x : XD) (ρ : Fr) : R D := (XD.ev x ρ).bind fun s ρ => R.of ρ (fzD s)
def fzsL : List XD → Fr → R (List D)
  | [], ρ => .ok [] ρ
  | x :: xs, ρ => (fzR x ρ).bind fun d ρ => (fzsL xs ρ).bind fun ds ρ => .ok (d :: ds) ρ
def pksL : List XD → Fr → R (List S)
  | [], ρ => .ok [] ρ
  | x :: xs, ρ => (x.2.pk ρ).bind fun s ρ => (pksL xs ρ).bind fun ss ρ => .ok (s :: ss) ρ
def argsL : List XD → Fr → R (List Arg)
  | [], ρ => .ok [] ρ
  | x :: xs, ρ => (toArg x.1 (x.2.pk ρ)).bind fun a ρ => (argsL xs ρ).bind fun as ρ => .ok (a :: as) ρ
def tAndL : List XD → Fr → R Bool
  | [], ρ => .ok true ρ
  | x :: xs, ρ => (x.2.ts ρ).bind fun b ρ => if b then tAndL xs ρ else .ok false ρ
def tOrL : List XD → Fr → R Bool
  | [], ρ => .ok false ρ
  | x :: xs, ρ => (x.2.ts ρ).bind fun b ρ => if b then .ok true ρ else tOrL xs ρ
/-- and, or as values, of bools -/
def vAndL : List XD → Fr → R S
  | [], _ => .bad
  | [x], ρ => XD.ev x ρ
  | x :: y :: xs, ρ => (XD.ev x ρ).bind fun s ρ => match s with
    | .v (.bl b) => if b then vAndL (y :: xs) ρ else .ok s ρ
    | _ => .bad
def vOrL : List XD → Fr → R S
  | [], _ => .bad
  | [x], ρ => XD.ev x ρ
  | x :: y :: xs, ρ => (XD.ev x ρ).bind fun s ρ => match s with
    | .v (.bl b) => if b then .ok s ρ else vOrL (y :: xs) ρ
    | _ => .bad
def rngR (ss : List D) (ρ : Fr) : R (List D) :=
  match ss with
  | [.int j] => if decide (-(2 ^ 62) ≤ j) && decide (j ≤ lineN) then .ok (rngD 0 j) ρ else .bad
  | [.int i, .int j] => if decide (-(2 ^ 62) ≤ i) && decide (i < 2 ^ 62) && decide (-(2 ^ 62) ≤ j) && decide (j < 2 ^ 62) && decide (j - i ≤ lineN) then .ok (rngD i j) ρ else .bad
  | _ => .bad
def muR (m : Mu) (i : Nat) (fs : List Nat) (ss : List S) (ρ : Fr) : R S :=
  match getS ρ i with
  | none => .bad
  | some s => match pget s fs with
    | none => .bad
    | some t => match mu m t ss with
      | none => .bad
      | some (t', r) => match pput s fs t' with
        | none => .bad
        | some s' => .ok r (ρ.set i (some s'))
def newR (C : Cal) (c : Nat) (as : List Arg) (ρ : Fr) : R S :=
  match argS ρ as with
  | none => .bad
  | some ss => if distinct (lends as) then match C.cf (C.ini c) (.obj c [] [] :: ss) with
      | .ok (.v .non) (o :: fin) => .ok o (putBack (.t (.obj c [] []) :: as) ((C.mt (C.ini c)).drop 1) fin ρ)
      | .ex e (_ :: fin) => .ex e (putBack (.t (.obj c [] []) :: as) ((C.mt (C.ini c)).drop 1) fin ρ)
      | _ => .bad
    else .bad
def lcR (t : List Nat) (ρ : Fr) (r : R (List D)) : R S :=
  match r with
  | .ok l ρ' => if l.length ≤ lineN then .ok (.lst (l.map S.v)) (unset t ρ ρ') else .bad
  | _ => .bad
mutual
def den (C : Cal) : X → Den
  | .c k => .of fun ρ => .ok (.v k.d) ρ
  | .nm i => .of fun ρ => R.of ρ (getS ρ i)
  | .mv i => .of fun ρ => match getS ρ i with
    | some s => .ok s (ρ.set i none)
    | none => .bad
  | .fz x => { Den.of (fun ρ => (fzR (x, den C x) ρ).bind fun d ρ => .ok (.v d) ρ) with ts := fun _ => .bad }
  | .om => ⟨fun _ => .bad, fun _ => .bad, fun _ => .bad, fun ρ => .ok none ρ⟩
  | .att x f => .of fun ρ => ((den C x).pk ρ).bind fun s ρ => R.of ρ (fldGet s f)
  | .ix x i => .of fun ρ => ((den C x).pk ρ).bind fun s ρ => (XD.ev (i, den C i) ρ).bind fun k ρ => R.of ρ (getIx s k)
  | .slc x lo hi => .of fun ρ => ((den C x).pk ρ).bind fun s ρ => ((den C lo).eo ρ).bind fun l ρ => ((den C hi).eo ρ).bind fun h ρ => R.of ρ (getSl s l h)
  | .bin o a b => .of fun ρ => ((den C a).pk ρ).bind fun x ρ => ((den C b).pk ρ).bind fun y ρ => R.of ρ (op2 o x y)
  | .un o a => .of fun ρ => ((den C a).pk ρ).bind fun x ρ => R.of ρ (op1 o x)
  | .cmp o a b => .of fun ρ => (XD.ev (a, den C a) ρ).bind fun x ρ => ((den C b).pk ρ).bind fun y ρ => R.of ρ ((cmpV o x y).map b01)
  | .cm2 o p a b c => .of fun ρ => (XD.ev (a, den C a) ρ).bind fun x ρ => (XD.ev (b, den C b) ρ).bind fun y ρ => (R.of ρ (cmpV o x y)).bind fun t ρ =>
      if t then (XD.ev (c, den C c) ρ).bind fun z ρ => R.of ρ ((cmpV p y z).map b01) else .ok (b01 false) ρ
  | .not a => { Den.of (fun ρ => ((den C a).pk ρ).bind fun s ρ => (R.of ρ (truth s)).bind fun b ρ => .ok (b01 (!b)) ρ) with ts := fun ρ => ((den C a).ts ρ).bind fun b ρ => .ok (!b) ρ }
  | .and xs => { Den.of (fun ρ => vAndL (dens C xs) ρ) with ts := fun ρ => tAndL (dens C xs) ρ }
  | .or xs => { Den.of (fun ρ => vOrL (dens C xs) ρ) with ts := fun ρ => tOrL (dens C xs) ρ }
  | .ife c a b => { Den.of (fun ρ => ((den C c).ts ρ).bind fun t ρ => if t then XD.ev (a, den C a) ρ else XD.ev (b, den C b) ρ) with ts := fun _ => .bad }
  | .tup xs => .of fun ρ => (fzsL (dens C xs) ρ).bind fun ds ρ => .ok (.v (.tup true ds)) ρ
  | .lst xs => .of fun ρ => (evsL (dens C xs) ρ).bind fun ss ρ => .ok (.lst ss) ρ
  | .dnew t => .of fun ρ => .ok (.dic t []) ρ
  | .bi b xs => .of fun ρ => (pksL (dens C xs) ρ).bind fun ss ρ => R.of ρ (bi b ss)
  | .isi x t => .of fun ρ => ((den C x).pk ρ).bind fun s ρ => R.of ρ ((isTy s t).map b01)
  | .exf i f => .of fun ρ => R.of ρ ((getX ρ i).bind fun x => fget x.2.1 (x.2.2.map S.v) f)
  | .exi i c => .of fun ρ => R.of ρ ((getX ρ i).bind fun x => (C.exm x.1 c).map b01)
  | .me m x xs => .of fun ρ => ((den C x).pk ρ).bind fun s ρ => if meOk m s then (fzsL (dens C xs) ρ).bind fun ds ρ => R.of ρ (me m s ds) else .bad
  | .mu m i fs xs => .of fun ρ => if muOk ((getS ρ i).bind fun s => pget s fs) then (evsL (dens C xs) ρ).bind fun ss ρ => muR m i fs ss ρ else .bad
  | .call f xs => .of fun ρ => (argsL (dens C xs) ρ).bind fun as ρ => doCall C f as ρ
  | .callk f p xs => .of fun ρ => (argsL (dens C xs) ρ).bind fun as ρ => match p.mapM fun k => as[k]? with
      | some as => doCall C f as ρ
      | none => .bad
  | .mcall f i xs => .of fun ρ => if isObj (getS ρ i) (C.mc f) then (argsL (dens C xs) ρ).bind fun as ρ => doCall C f (.l i :: as) ρ else .bad
  | .new c xs => .of fun ρ => (argsL (dens C xs) ρ).bind fun as ρ => newR C c as ρ
  | .lc e t it cs => .of fun ρ => ((den C it).it ρ).bind fun ds ρ => lcR t ρ (lcGo t (tAndL (dens C cs)) (XD.ev (e, den C e)) ds ρ [])
  | .lc2 e t it cs t2 it2 cs2 => .of fun ρ => ((den C it).it ρ).bind fun ds ρ =>
      lcR (t ++ t2) ρ (lcGo2 t t2 (tAndL (dens C cs)) (fun ρ1 acc => match (den C it2).it ρ1 with
        | .ok ds2 ρ2 => lcGo t2 (tAndL (dens C cs2)) (XD.ev (e, den C e)) ds2 ρ2 acc
        | _ => .bad) ds ρ [])
  | .dc dt k v t it cs => .of fun ρ => ((den C it).it ρ).bind fun ds ρ => match dcGo dt t (tAndL (dens C cs)) (XD.ev (k, den C k)) (XD.ev (v, den C v)) ds ρ [] with
      | .ok l ρ' => .ok (.dic dt l) (unset t ρ ρ')
      | _ => .bad
  | .rng xs => ⟨fun _ => .bad, fun _ => .bad, fun ρ => (fzsL (dens C xs) ρ).bind rngR, fun _ => .bad⟩
  | .zip xs => ⟨fun _ => .bad, fun _ => .bad, fun ρ => (pksL (dens C xs) ρ).bind fun ss ρ => R.of ρ (zipS ss), fun _ => .bad⟩
  | .enu x => ⟨fun _ => .bad, fun _ => .bad, fun ρ => ((den C x).pk ρ).bind fun s ρ => R.of ρ ((lstD s).map enuD), fun _ => .bad⟩
  | .rev x => ⟨fun _ => .bad, fun _ => .bad, fun ρ => ((den C x).pk ρ).bind fun s ρ => R.of ρ ((seqD s).map List.reverse), fun _ => .bad⟩
termination_by structural x => x
def dens (C : Cal) : Xs → List XD
  | .nil => []
  | .cons x xs => (x, den C x) :: dens C xs
termination_by structural xs => xs
end
abbrev pk (C : Cal) (x : X) : Fr → R S := (den C x).pk
abbrev tst (C : Cal) (x : X) : Fr → R Bool := (den C x).ts
abbrev iter (C : Cal) (x : X) : Fr → R (List D) := (den C x).it
abbrev evs (C : Cal) (xs : Xs) : Fr → R (List S) := evsL (dens C xs)
def ev (C : Cal) (x : X) (ρ : Fr) : R S := plain x.isPath (pk C x ρ)

/-- where a store goes -/
inductive Lv where
  | nm (i : Nat)
  | tup (is : List Nat)
  | att (i : Nat) (fs : List Nat) (f : Nat)
  | sub (i : Nat) (fs : List Nat) (k : X)
mutual
inductive St where
  | set (l : Lv) (x : X)
  | par (is : List Nat) (xs : Xs)
  | aug (l : Lv) (o : Op2) (x : X)
  | del (i : Nat) (fs : List Nat) (k : X)
  | ex (x : X)
  | ret (x : X)
  | retN
  | ife (c : X) (a b : Sts)
  | loop (t : List Nat) (it : X) (b : Sts)
  | whl (c : X) (b : Sts)
  | brk
  | cnt
  | pass
  | raise (c : Nat) (xs : Xs)
  | tryE (b : Sts) (hs : Hs)
inductive Sts where
  | nil
  | cons (s : St) (ss : Sts)
/-- except clauses: the class, the name's slot, the suite -/
inductive Hs where
  | nil
  | cons (c : Nat) (i : Option Nat) (h : Sts) (hs : Hs)
end
inductive Fl where
  | nx | brk | cnt | ret (s : S)
abbrev RF := R Fl

/-- a value stored -/
def subSet (s k v : S) : Option S :=
  match s with
  | .lst l => match k with
    | .v (.int i) => (placeIx l.length i).map fun j => .lst (l.set j v)
    | _ => none
  | .dic t l => match k, v with
    | .v k, .v d => if k.isKey t && decide (l.length < lineN) then some (.dic t (dput l k d)) else none
    | _, _ => none
  | _ => none
/-- an entry thrown away -/
def subDel (s : S) (k : D) : Option S :=
  match s with
  | .dic t l => if k.isKey t && (dget l k).isSome then some (.dic t (ddel l k)) else none
  | _ => none
def pathUpd (ρ : Fr) (i : Nat) (fs : List Nat) (g : S → Option S) : Option Fr :=
  match getS ρ i with
  | none => none
  | some s => match pget s fs with
    | none => none
    | some t => match g t with
      | none => none
      | some t' => (pput s fs t').map fun s' => ρ.set i (some s')
def hasP (ρ : Fr) (i : Nat) (fs : List Nat) : Bool := ((getS ρ i).bind fun s => pget s fs).isSome
def unpack : S → Option (List D)
  | .v (.tup _ l) => some l
  | _ => none
def setAll : List Nat → List D → Fr → Option Fr
  | [], [], ρ => some ρ
  | i :: is, d :: ds, ρ => if i < ρ.length then setAll is ds (ρ.set i (some (.v d))) else none
  | _, _, _ => none
def setsS : List Nat → List S → Fr → Option Fr
  | [], [], ρ => some ρ
  | i :: is, s :: ss, ρ => if i < ρ.length then setsS is ss (ρ.set i (some s)) else none
  | _, _, _ => none
def doSet (C : Cal) (l : Lv) (x : X) (ρ : Fr) : RF :=
  match l with
  | .nm i => (ev C x ρ).bind fun s ρ => if i < ρ.length then .ok .nx (ρ.set i (some s)) else .bad
  | .tup is => (ev C x ρ).bind fun s ρ => match s with
    | .v d => match setTg is d ρ with
      | some ρ => .ok .nx ρ
      | none => .bad
    | _ => .bad
  | .att i fs f => (ev C x ρ).bind fun s ρ => match pathUpd ρ i fs fun o => fldPut C.at' o f s with
    | some ρ => .ok .nx ρ
    | none => .bad
  | .sub i fs k => (ev C x ρ).bind fun s ρ => if hasP ρ i fs then (ev C k ρ).bind fun k ρ => match pathUpd ρ i fs fun o => subSet o k s with
      | some ρ => .ok .nx ρ
      | none => .bad
    else .bad
/-- an item that is an int, of what can be stored into -/
def getI (a b : S) : Option Int :=
  match a, b with
  | .lst l, .v (.int i) => match atIx l i with
    | some (.v (.int j)) => some j
    | _ => none
  | .dic t l, .v k => if k.isKey t then match dget l k with
      | some (.int j) => some j
      | _ => none
    else none
  | _, _ => none
/-- a op= b, of ints -/
def augV (o : Op2) (a b : S) : Option S :=
  match a, b with
  | .v (.int i), .v (.int j) => (arith o i j).map fun k => .v (.int k)
  | _, _ => none
def doAug (C : Cal) (l : Lv) (o : Op2) (x : X) (ρ : Fr) : RF :=
  match l with
  | .nm i => match getS ρ i with
    | some a => (ev C x ρ).bind fun b ρ => match augV o a b with
      | some s => if i < ρ.length then .ok .nx (ρ.set i (some s)) else .bad
      | none => .bad
    | none => .bad
  | .tup _ => .bad
  | .att i fs f => match (getS ρ i).bind fun s => (pget s fs).bind fun t => fldGet t f with
    | some a => (ev C x ρ).bind fun b ρ => match augV o a b with
      | some s => match pathUpd ρ i fs fun o => fldPut C.at' o f s with
        | some ρ => .ok .nx ρ
        | none => .bad
      | none => .bad
    | none => .bad
  | .sub i fs k => if hasP ρ i fs then (ev C k ρ).bind fun k ρ => match (getS ρ i).bind fun s => (pget s fs).bind fun t => getI t k with
      | some a => (ev C x ρ).bind fun b ρ => match augV o (.v (.int a)) b with
        | some s => match pathUpd ρ i fs fun o => subSet o k s with
          | some ρ => .ok .nx ρ
          | none => .bad
        | none => .bad
      | none => .bad
    else .bad
def loopGo (tg : List Nat) (body : Fr → RF) : List D → Fr → RF
  | [], ρ => .ok .nx ρ
  | d :: r, ρ => match setTg tg d ρ with
    | none => .bad
    | some ρ1 => match body ρ1 with
      | .ok .nx ρ2 => loopGo tg body r ρ2
      | .ok .cnt ρ2 => loopGo tg body r ρ2
      | .ok .brk ρ2 => .ok .nx ρ2
      | q => q
def whileGo (test : Fr → R Bool) (body : Fr → RF) : Nat → Fr → RF
  | 0, _ => .bad
  | n + 1, ρ => match test ρ with
    | .ok false ρ1 => .ok .nx ρ1
    | .ok true ρ1 => match body ρ1 with
      | .ok .nx ρ2 => whileGo test body n ρ2
      | .ok .cnt ρ2 => whileGo test body n ρ2
      | .ok .brk ρ2 => .ok .nx ρ2
      | q => q
    | .bad => .bad
    | .ex e ρ1 => .ex e ρ1
/-- the fields that a class's __init__ stores -/
structure Rules where
  exF : Nat → List Nat
  exm : Nat → Nat → Option Bool
  at' : Nat → Nat → Bool
  wf : Nat
mutual
def exec (C : Cal) (U : Rules) : St → Fr → RF
  | .set l x, ρ => doSet C l x ρ
  | .par is xs, ρ => (evsL (dens C xs) ρ).bind fun ss ρ => match setsS is ss ρ with
    | some ρ => .ok .nx ρ
    | none => .bad
  | .aug l o x, ρ => doAug C l o x ρ
  | .del i fs k, ρ => if hasP ρ i fs then (ev C k ρ).bind fun k ρ => match k with
    | .v k => match pathUpd ρ i fs fun o => subDel o k with
      | some ρ => .ok .nx ρ
      | none => .bad
    | _ => .bad
    else .bad
  | .ex x, ρ => (pk C x ρ).bind fun _ ρ => .ok .nx ρ
  | .ret x, ρ => (ev C x ρ).bind fun s ρ => .ok (.ret s) ρ
  | .retN, ρ => .ok (.ret (.v .non)) ρ
  | .ife c a b, ρ => (tst C c ρ).bind fun t ρ => if t then execs C U a ρ else execs C U b ρ
  | .loop t it b, ρ => (iter C it ρ).bind fun ds ρ => loopGo t (execs C U b) ds ρ
  | .whl c b, ρ => whileGo (tst C c) (execs C U b) U.wf ρ
  | .brk, ρ => .ok .brk ρ
  | .cnt, ρ => .ok .cnt ρ
  | .pass, ρ => .ok .nx ρ
  | .raise c xs, ρ => (fzsL (dens C xs) ρ).bind fun ds ρ => if ds.length = (U.exF c).length then .ex ⟨c, (U.exF c).reverse, ds.reverse⟩ ρ else .bad
  | .tryE b hs, ρ => match execs C U b ρ with
    | .ex e ρ1 => hands C U hs e ρ1
    | q => q
def execs (C : Cal) (U : Rules) : Sts → Fr → RF
  | .nil, ρ => .ok .nx ρ
  | .cons s ss, ρ => match exec C U s ρ with
    | .ok .nx ρ => execs C U ss ρ
    | q => q
def hands (C : Cal) (U : Rules) : Hs → Ex → Fr → RF
  | .nil, e, ρ => .ex e ρ
  | .cons c i h hs, e, ρ => match U.exm e.c c with
    | none => .bad
    | some false => hands C U hs e ρ
    | some true => match i with
      | none => match execs C U h ρ with
        | .ok f ρ2 => .ok f ρ2
        | _ => .bad
      | some i => match execs C U h (ρ.set i (some (.exn e.c e.fs e.vs))) with
        | .ok f ρ2 => .ok f (ρ2.set i none)
        | _ => .bad
end

structure Fn where
  np : Nat
  nn : Nat
  mt : List Nat
  body : Sts
structure Tab where
  fns : List Fn
  ini : List Nat
  mc : List (Option Nat)
  U : Rules
def fin (mt : List Nat) (ρ : Fr) : Option (List S) :=
  match mt with
  | [] => some []
  | j :: r => match getS ρ j, fin r ρ with
    | some s, some l => some (s :: l)
    | _, _ => none
def outOf (mt : List Nat) : RF → Out
  | .bad => .bad
  | .ok f ρ => match fin mt ρ with
    | none => .bad
    | some l => match f with
      | .nx => .ok (.v .non) l
      | .ret s => .ok s l
      | _ => .bad
  | .ex e ρ => match fin mt ρ with
    | none => .bad
    | some l => .ex e l
def Tab.mt (T : Tab) (f : Nat) : List Nat := ((T.fns[f]?).map (·.mt)).getD []
def Tab.in (T : Tab) (c : Nat) : Nat := (T.ini[c]?).getD 1000000
def Tab.cal (T : Tab) (cf : Nat → List S → Out) : Cal := ⟨cf, T.mt, T.in, T.U.exm, T.U.at', fun f => (T.mc[f]?).join⟩
def run (T : Tab) : Nat → Nat → List S → Out
  | 0, _, _ => .bad
  | n + 1, f, ss => match T.fns[f]? with
    | none => .bad
    | some fn => if ss.length = fn.np then outOf fn.mt (execs (T.cal (run T n)) T.U fn.body (ss.map some ++ List.replicate (fn.nn - fn.np) none)) else .bad
end Vm
/-! VmB -/
namespace Vm
open PySem L2

/-- the program's addresses -/
structure Pg where
  K : PySem.W.Frag
  ca : Nat → Addr
  fn : Nat → Str
  ok : Nat → Nat → Prop
  /-- within an except suite: the name's slot, the exception, its fields' dict, its class -/
  cur : Option (Nat × Addr × Addr × Nat)
/-- a class by its number -/
def Pg.cv (G : Pg) (c : Nat) : Value := if c = 1000 then .type "ValueError" else .ref (G.ca c)

def keyD : D → Option Key
  | .int i => some (.inl i)
  | .str x => some (.inr x)
  | _ => none
def keysD : D → Option (List Key)
  | .tup true l => l.mapM keyD
  | _ => none
/-- a tuple: an open one, or one of which all is known -/
def TupAt (H : Hp) : Bool → Addr → List V → Prop
  | true, a, vs => H a = some (.tup vs)
  | false, a, vs => ∃ o, H a = some (.frz o (.tup vs)) ∧ o.dict = none
def DKeys : Bool → List D → List V → HO → Prop
  | false, ks, ws, u => ∃ kvs : List (Key × V), u = .dK kvs ∧ (kvs.map fun q => some q.1) = ks.map keyD ∧ kvs.map (·.2) = ws
  | true, ks, ws, u => ∃ kvs : List (List Key × V), u = .dT kvs ∧ (kvs.map fun q => some q.1) = ks.map keysD ∧ kvs.map (·.2) = ws

mutual
def RepD (K : PySem.W.Frag) (H : Hp) : D → V → Prop
  | .non, v => v = .non
  | .bl b, v => v = .bl b
  | .int i, v => v = .int i
  | .str x, v => v = .str x
  | .tup k l, v => ∃ a vs, v = .ref a ∧ TupAt H k a vs ∧ vs.length ≤ sizeLine ∧ RepDs K H l vs
  | .fls l, v => ∃ a vs o, v = .ref a ∧ H a = some (.frz o (.lst vs)) ∧ vs.length ≤ sizeLine ∧ RepDs K H l vs
  | .fdc t ks vs, v => ∃ a u ws o, v = .ref a ∧ H a = some (.frz o u) ∧ DKeys t ks ws u ∧ ks.length = vs.length ∧ RepDs K H vs ws
termination_by structural d => d
def RepDs (K : PySem.W.Frag) (H : Hp) : List D → List V → Prop
  | [], vs => vs = []
  | d :: ds, vs => ∃ v r, vs = v :: r ∧ RepD K H d v ∧ RepDs K H ds r
termination_by structural l => l
end

abbrev Fp := Addr → Prop
mutual
def RepS (G : Pg) (H : Hp) : S → V → Fp → Prop
  | .v d, v, _ => RepD G.K H d v
  | .lst l, v, f => ∃ a vs, v = .ref a ∧ H a = some (.lst vs) ∧ f a ∧ vs.length ≤ sizeLine ∧ RepSs G H l vs (fun b => f b ∧ b ≠ a)
  | .dic t l, v, f => ∃ a u ws, v = .ref a ∧ H a = some u ∧ f a ∧ DKeys t (l.map (·.1)) ws u ∧ RepDs G.K H (l.map (·.2)) ws
  | .obj c fs ss, v, f => ∃ a dx ws, v = .ref a ∧ H a = some (.ins (G.ca c) dx ((fs.map G.fn).zip ws)) ∧ f a ∧ (fs.length = ws.length ∧ ∀ k, k ∈ fs → G.ok c k) ∧ RepSs G H ss ws (fun b => f b ∧ b ≠ a)
  | .exn _ _ _, _, _ => False
termination_by structural s => s
def RepSs (G : Pg) (H : Hp) : List S → List V → Fp → Prop
  | [], vs, _ => vs = []
  | s :: ss, vs, f => ∃ v r g, vs = v :: r ∧ (∀ b, g b → f b) ∧ RepS G H s v g ∧ RepSs G H ss r (fun b => f b ∧ ¬ g b)
termination_by structural l => l
end

def Pers : HO → Prop
  | .tup _ => True
  | .frz _ _ => True
  | .xd _ => True
  | _ => False
/-- what is not in F stands, and what never changes; nothing is forgotten -/
structure Keep (H H' : Hp) (F : Fp) : Prop where
  at' : ∀ a o, H a = some o → (Pers o ∨ ¬ F a) → H' a = some o
  dom : ∀ a, H' a = none → H a = none
theorem Keep.refl {H : Hp} {F : Fp} : Keep H H F := ⟨fun _ _ h _ => h, fun _ h => h⟩
theorem Keep.trans {H H1 H2 : Hp} {F F1 : Fp} (x : Keep H H1 F) (y : Keep H1 H2 F1) (h : ∀ a, F1 a → F a ∨ H a = none) : Keep H H2 F := by
  refine ⟨fun a o e p => y.at' a o (x.at' a o e p) ?_, fun a e => x.dom a (y.dom a e)⟩
  rcases p with p | p
  · exact .inl p
  · refine .inr fun q => ?_
    rcases h a q with z | z
    · exact p z
    · rw [e] at z; cases z
theorem Keep.mono {H H' : Hp} {F F' : Fp} (x : Keep H H' F) (h : ∀ a, F a → F' a) : Keep H H' F' :=
  ⟨fun a o e p => x.at' a o e (p.imp id fun q z => q (h a z)), x.dom⟩
theorem Keep.new {H : Hp} {F : Fp} {p : Addr} {o : HO} (h : H p = none) : Keep H (upd H p o) F :=
  ⟨fun a u e _ => by rw [upd_ne (ne_of_none e h)]; exact e, fun a e => by
    by_cases q : a = p
    · subst q; exact h
    · rw [upd_ne q] at e; exact e⟩
theorem Keep.set {H : Hp} {F : Fp} {p : Addr} {o u : HO} (h : H p = some u) (hp : ¬ Pers u) (hf : F p) : Keep H (upd H p o) F :=
  ⟨fun a w e q => by
    have : a ≠ p := by
      rintro rfl
      rw [h] at e; cases e
      rcases q with q | q
      · exact hp q
      · exact q hf
    rw [upd_ne this]; exact e, fun a e => by
    by_cases q : a = p
    · subst q; rw [upd_same] at e; cases e
    · rw [upd_ne q] at e; exact e⟩

theorem TupAt.keep {H H' : Hp} {F : Fp} (x : Keep H H' F) {k : Bool} {a : Addr} {vs : List V} (h : TupAt H k a vs) : TupAt H' k a vs := by
  cases k with
  | true => exact x.at' _ _ h (.inl trivial)
  | false => obtain ⟨o, q, d⟩ := h; exact ⟨o, x.at' _ _ q (.inl trivial), d⟩
theorem TupAt.sq {H : Hp} {K : PySem.W.Frag} {k : Bool} {a : Addr} {vs : List V} (h : TupAt H k a vs) : SqT K H a vs := by
  cases k with
  | true => exact SqT.of h
  | false => obtain ⟨o, q, d⟩ := h; exact .inl (.inr ⟨o, q⟩)
theorem sqT_keep {K : PySem.W.Frag} {H H' : Hp} {F : Fp} (k : Keep H H' F) {a : Addr} {xs : List V} (h : SqT K H a xs) : SqT K H' a xs := by
  rcases h with (h | ⟨o, h⟩) | h
  · exact .inl (.inl (k.at' _ _ h (.inl trivial)))
  · exact .inl (.inr ⟨o, k.at' _ _ h (.inl trivial)⟩)
  · exact .inr h

mutual
theorem RepD.keep {K : PySem.W.Frag} {H H' : Hp} {F : Fp} (k : Keep H H' F) : ∀ (d : D) (v : V), RepD K H d v → RepD K H' d v
  | .non, _, h => h
  | .bl _, _, h => h
  | .int _, _, h => h
  | .str _, _, h => h
  | .tup t l, v, h => by
    rw [RepD] at h ⊢
    obtain ⟨a, vs, e, q, z, r⟩ := h
    exact ⟨a, vs, e, q.keep k, z, RepDs.keep k l vs r⟩
  | .fls l, v, h => by
    rw [RepD] at h ⊢
    obtain ⟨a, vs, o, e, q, z, r⟩ := h
    exact ⟨a, vs, o, e, k.at' _ _ q (.inl trivial), z, RepDs.keep k l vs r⟩
  | .fdc t ks vs, v, h => by
    rw [RepD] at h ⊢
    obtain ⟨a, u, ws, o, e, q, x, z, r⟩ := h
    exact ⟨a, u, ws, o, e, k.at' _ _ q (.inl trivial), x, z, RepDs.keep k vs ws r⟩
theorem RepDs.keep {K : PySem.W.Frag} {H H' : Hp} {F : Fp} (k : Keep H H' F) : ∀ (l : List D) (vs : List V), RepDs K H l vs → RepDs K H' l vs
  | [], _, h => h
  | d :: ds, vs, h => by
    rw [RepDs] at h ⊢
    obtain ⟨v, r, e, a, b⟩ := h
    exact ⟨v, r, e, RepD.keep k d v a, RepDs.keep k ds r b⟩
end
theorem RepDs.length {K : PySem.W.Frag} {H : Hp} : ∀ {l : List D} {vs : List V}, RepDs K H l vs → l.length = vs.length
  | [], _, h => by rw [RepDs] at h; rw [h]; rfl
  | d :: ds, vs, h => by
    rw [RepDs] at h
    obtain ⟨v, r, e, a, b⟩ := h
    rw [e, List.length_cons, List.length_cons, RepDs.length b]
theorem RepDs.get {K : PySem.W.Frag} {H : Hp} : ∀ {l : List D} {vs : List V} {i : Nat} {d : D}, RepDs K H l vs → l[i]? = some d → ∃ v, vs[i]? = some v ∧ RepD K H d v
  | [], _, _, _, _, e => by simp at e
  | d :: ds, vs, 0, x, h, e => by
    rw [RepDs] at h
    obtain ⟨v, r, e1, a, b⟩ := h
    simp at e; subst e e1
    exact ⟨v, rfl, a⟩
  | d :: ds, vs, i + 1, x, h, e => by
    rw [RepDs] at h
    obtain ⟨v, r, e1, a, b⟩ := h
    subst e1
    obtain ⟨w, e2, q⟩ := RepDs.get (i := i) (d := x) b (by simpa using e)
    exact ⟨w, by simpa using e2, q⟩
theorem RepDs.append {K : PySem.W.Frag} {H : Hp} : ∀ {l m : List D} {vs ws : List V}, RepDs K H l vs → RepDs K H m ws → RepDs K H (l ++ m) (vs ++ ws)
  | [], m, vs, ws, h, g => by rw [RepDs] at h; subst h; exact g
  | d :: ds, m, vs, ws, h, g => by
    rw [RepDs] at h
    obtain ⟨v, r, e1, a, b⟩ := h
    subst e1
    show RepDs K H (d :: (ds ++ m)) (v :: r ++ ws)
    rw [RepDs]
    exact ⟨v, r ++ ws, rfl, a, RepDs.append b g⟩
theorem RepDs.nil {K : PySem.W.Frag} {H : Hp} : RepDs K H [] [] := by rw [RepDs]
theorem RepDs.cons {K : PySem.W.Frag} {H : Hp} {d : D} {v : V} {l : List D} {vs : List V} (a : RepD K H d v) (b : RepDs K H l vs) : RepDs K H (d :: l) (v :: vs) := by
  rw [RepDs]; exact ⟨v, vs, rfl, a, b⟩
theorem RepDs.single {K : PySem.W.Frag} {H : Hp} {d : D} {v : V} (a : RepD K H d v) : RepDs K H [d] [v] := .cons a .nil
theorem RepDs.take {K : PySem.W.Frag} {H : Hp} : ∀ {l : List D} {vs : List V} (n : Nat), RepDs K H l vs → RepDs K H (l.take n) (vs.take n)
  | l, vs, 0, h => by rw [List.take_zero, List.take_zero]; exact .nil
  | [], vs, n + 1, h => by rw [RepDs] at h; subst h; exact .nil
  | d :: ds, vs, n + 1, h => by
    rw [RepDs] at h
    obtain ⟨v, r, e1, a, b⟩ := h
    subst e1
    exact .cons a (RepDs.take n b)
theorem RepDs.drop {K : PySem.W.Frag} {H : Hp} : ∀ {l : List D} {vs : List V} (n : Nat), RepDs K H l vs → RepDs K H (l.drop n) (vs.drop n)
  | l, vs, 0, h => h
  | [], vs, n + 1, h => by rw [RepDs] at h; subst h; exact .nil
  | d :: ds, vs, n + 1, h => by
    rw [RepDs] at h
    obtain ⟨v, r, e1, a, b⟩ := h
    subst e1
    exact RepDs.drop n b
theorem RepDs.set {K : PySem.W.Frag} {H : Hp} {d : D} {v : V} (q : RepD K H d v) : ∀ {l : List D} {vs : List V} (n : Nat), RepDs K H l vs → RepDs K H (l.set n d) (vs.set n v)
  | [], vs, n, h => by rw [RepDs] at h; subst h; exact .nil
  | d :: ds, vs, 0, h => by
    rw [RepDs] at h
    obtain ⟨v, r, e1, a, b⟩ := h
    subst e1
    exact .cons q b
  | d :: ds, vs, n + 1, h => by
    rw [RepDs] at h
    obtain ⟨v, r, e1, a, b⟩ := h
    subst e1
    exact .cons a (RepDs.set q n b)
theorem RepDs.reverse {K : PySem.W.Frag} {H : Hp} : ∀ {l : List D} {vs : List V}, RepDs K H l vs → RepDs K H l.reverse vs.reverse
  | [], vs, h => by rw [RepDs] at h; subst h; exact .nil
  | d :: ds, vs, h => by
    rw [RepDs] at h
    obtain ⟨v, r, e1, a, b⟩ := h
    subst e1
    rw [List.reverse_cons, List.reverse_cons]
    exact RepDs.append (RepDs.reverse b) (.single a)
theorem RepDs.eraseIdx {K : PySem.W.Frag} {H : Hp} : ∀ {l : List D} {vs : List V} (n : Nat), RepDs K H l vs → RepDs K H (l.eraseIdx n) (vs.eraseIdx n)
  | [], vs, n, h => by rw [RepDs] at h; subst h; exact .nil
  | d :: ds, vs, 0, h => by
    rw [RepDs] at h
    obtain ⟨v, r, e1, a, b⟩ := h
    subst e1
    exact b
  | d :: ds, vs, n + 1, h => by
    rw [RepDs] at h
    obtain ⟨v, r, e1, a, b⟩ := h
    subst e1
    exact .cons a (RepDs.eraseIdx n b)
theorem RepDs.rep {K : PySem.W.Frag} {H : Hp} {l : List D} {vs : List V} (h : RepDs K H l vs) : ∀ k : Nat, RepDs K H (List.replicate k l).flatten (List.replicate k vs).flatten
  | 0 => .nil
  | k + 1 => by
    rw [List.replicate_succ, List.replicate_succ, List.flatten_cons, List.flatten_cons]
    exact RepDs.append h (RepDs.rep h k)

theorem RepD.sameV {K : PySem.W.Frag} {H : Hp} {d : D} {v : V} (h : RepD K H d v) : (d = .non → v = .non) ∧ (∀ b, d = .bl b → v = .bl b) ∧ (∀ i, d = .int i → v = .int i) ∧ (∀ x, d = .str x → v = .str x) := by
  refine ⟨fun e => ?_, fun b e => ?_, fun i e => ?_, fun x e => ?_⟩ <;> (subst e; rw [RepD] at h; exact h)

mutual
theorem RepS.mono {G : Pg} {H : Hp} : ∀ (s : S) (v : V) {f g : Fp}, RepS G H s v f → (∀ b, f b → g b) → RepS G H s v g
  | .v d, v, f, g, h, m => by rw [RepS] at h ⊢; exact h
  | .lst l, v, f, g, h, m => by
    rw [RepS] at h ⊢
    obtain ⟨a, vs, e, q, fa, z, r⟩ := h
    exact ⟨a, vs, e, q, m _ fa, z, RepSs.mono l vs r fun b x => ⟨m b x.1, x.2⟩⟩
  | .dic t l, v, f, g, h, m => by
    rw [RepS] at h ⊢
    obtain ⟨a, u, ws, e, q, fa, r⟩ := h
    exact ⟨a, u, ws, e, q, m _ fa, r⟩
  | .obj c fs ss, v, f, g, h, m => by
    rw [RepS] at h ⊢
    obtain ⟨a, dx, ws, e, q, fa, z, r⟩ := h
    exact ⟨a, dx, ws, e, q, m _ fa, z, RepSs.mono ss ws r fun b x => ⟨m b x.1, x.2⟩⟩
  | .exn c fs ds, v, f, g, h, m => by rw [RepS] at h ⊢; exact h
theorem RepSs.mono {G : Pg} {H : Hp} : ∀ (l : List S) (vs : List V) {f g : Fp}, RepSs G H l vs f → (∀ b, f b → g b) → RepSs G H l vs g
  | [], vs, f, g, h, m => by rw [RepSs] at h ⊢; exact h
  | s :: ss, vs, f, g, h, m => by
    rw [RepSs] at h ⊢
    obtain ⟨v, r, x, e, y, a, b⟩ := h
    exact ⟨v, r, x, e, fun b z => m b (y b z), a, RepSs.mono ss r b fun b z => ⟨m b z.1, z.2⟩⟩
end
mutual
theorem RepS.keep {G : Pg} {H H' : Hp} {F : Fp} (k : Keep H H' F) : ∀ (s : S) (v : V) {f : Fp}, RepS G H s v f → (∀ b, f b → ¬ F b) → RepS G H' s v f
  | .v d, v, f, h, m => by rw [RepS] at h ⊢; exact RepD.keep k d v h
  | .lst l, v, f, h, m => by
    rw [RepS] at h ⊢
    obtain ⟨a, vs, e, q, fa, z, r⟩ := h
    exact ⟨a, vs, e, k.at' _ _ q (.inr (m a fa)), fa, z, RepSs.keep k l vs r fun b x => m b x.1⟩
  | .dic t l, v, f, h, m => by
    rw [RepS] at h ⊢
    obtain ⟨a, u, ws, e, q, fa, x, r⟩ := h
    exact ⟨a, u, ws, e, k.at' _ _ q (.inr (m a fa)), fa, x, RepDs.keep k _ ws r⟩
  | .obj c fs ss, v, f, h, m => by
    rw [RepS] at h ⊢
    obtain ⟨a, dx, ws, e, q, fa, z, r⟩ := h
    exact ⟨a, dx, ws, e, k.at' _ _ q (.inr (m a fa)), fa, z, RepSs.keep k ss ws r fun b x => m b x.1⟩
  | .exn c fs ds, v, f, h, m => by rw [RepS] at h; exact h.elim
theorem RepSs.keep {G : Pg} {H H' : Hp} {F : Fp} (k : Keep H H' F) : ∀ (l : List S) (vs : List V) {f : Fp}, RepSs G H l vs f → (∀ b, f b → ¬ F b) → RepSs G H' l vs f
  | [], vs, f, h, m => by rw [RepSs] at h ⊢; exact h
  | s :: ss, vs, f, h, m => by
    rw [RepSs] at h ⊢
    obtain ⟨v, r, x, e, y, a, b⟩ := h
    exact ⟨v, r, x, e, y, RepS.keep k s v a fun b z => m b (y b z), RepSs.keep k ss r b fun b z => m b z.1⟩
end
theorem RepSs.length {G : Pg} {H : Hp} : ∀ {l : List S} {vs : List V} {f : Fp}, RepSs G H l vs f → l.length = vs.length
  | [], _, _, h => by rw [RepSs] at h; rw [h]; rfl
  | d :: ds, vs, f, h => by
    rw [RepSs] at h
    obtain ⟨v, r, x, e, y, a, b⟩ := h
    rw [e, List.length_cons, List.length_cons, RepSs.length b]
/-- plain items -/
theorem RepSs.ofD {G : Pg} {H : Hp} : ∀ {l : List D} {vs : List V} {f : Fp}, RepDs G.K H l vs → RepSs G H (l.map S.v) vs f
  | [], vs, f, h => by rw [RepDs] at h; subst h; show RepSs G H [] [] f; rw [RepSs]
  | d :: ds, vs, f, h => by
    rw [RepDs] at h
    obtain ⟨v, r, e1, a, b⟩ := h
    subst e1
    show RepSs G H (S.v d :: ds.map S.v) (v :: r) f
    rw [RepSs]
    refine ⟨v, r, fun _ => False, rfl, fun _ z => z.elim, ?_, RepSs.ofD b⟩
    rw [RepS]; exact a
theorem RepSs.toD {G : Pg} {H : Hp} : ∀ {l : List S} {ds : List D} {vs : List V} {f : Fp}, ds? l = some ds → RepSs G H l vs f → RepDs G.K H ds vs
  | [], ds, vs, f, e, h => by cases e; rw [RepSs] at h; subst h; exact .nil
  | s :: ss, ds, vs, f, e, h => by
    rw [RepSs] at h
    obtain ⟨v, r, x, e1, y, a, b⟩ := h
    subst e1
    unfold ds? at e
    cases s with
    | v d =>
      cases q : ds? ss with
      | none => rw [q] at e; cases e
      | some l =>
        rw [q] at e; cases e
        rw [RepS] at a
        exact .cons a (RepSs.toD q b)
    | _ => simp at e
theorem ds?_map : ∀ (l : List D), ds? (l.map S.v) = some l
  | [] => rfl
  | d :: l => by show (match S.v d, ds? (l.map S.v) with | .v d, some l => some (d :: l) | _, _ => none) = _; rw [ds?_map l]
theorem ds?_eq : ∀ {l : List S} {ds : List D}, ds? l = some ds → l = ds.map S.v
  | [], ds, e => by cases e; rfl
  | s :: ss, ds, e => by
    unfold ds? at e
    cases s with
    | v d =>
      cases q : ds? ss with
      | none => rw [q] at e; cases e
      | some l => rw [q] at e; cases e; rw [ds?_eq q]; rfl
    | _ => simp at e
theorem RepSs.get {G : Pg} {H : Hp} : ∀ {l : List S} {vs : List V} {f : Fp} {i : Nat} {s : S}, RepSs G H l vs f → l[i]? = some s → ∃ v, vs[i]? = some v ∧ RepS G H s v f
  | [], _, _, _, _, _, e => by simp at e
  | d :: ds, vs, f, 0, x, h, e => by
    rw [RepSs] at h
    obtain ⟨v, r, g, e1, y, a, b⟩ := h
    simp at e; subst e e1
    exact ⟨v, rfl, RepS.mono _ _ a y⟩
  | d :: ds, vs, f, i + 1, x, h, e => by
    rw [RepSs] at h
    obtain ⟨v, r, g, e1, y, a, b⟩ := h
    subst e1
    obtain ⟨w, e2, q⟩ := RepSs.get (i := i) (s := x) b (by simpa using e)
    exact ⟨w, by simpa using e2, RepS.mono _ _ q fun b z => z.1⟩
end Vm
/-! VmC -/
namespace Vm
open PySem L2

/-- the slot that holds the handled exception -/
def ExnAt (G : Pg) (H : Hp) (i : Nat) (s : S) (v : V) : Prop :=
  ∃ a dd ws c fs ds, G.cur = some (i, a, dd, c) ∧ s = .exn c fs ds ∧ v = .ref a ∧ H dd = some (.xd ((fs.map G.fn).zip ws)) ∧ fs.length = ws.length ∧ RepDs G.K H ds ws
theorem ExnAt.keep {G : Pg} {H H' : Hp} {F : Fp} {i : Nat} {s : S} {v : V} (k : Keep H H' F) (h : ExnAt G H i s v) : ExnAt G H' i s v := by
  obtain ⟨a, dd, ws, c, fs, ds, h1, h2, h3, h4, h5, h6⟩ := h
  exact ⟨a, dd, ws, c, fs, ds, h1, h2, h3, k.at' _ _ h4 (.inl trivial), h5, RepDs.keep k _ _ h6⟩
/-- the frame's slots hold what the trees say; no two share an object that may change -/
structure FR (G : Pg) (H : Hp) (σ : L2.St) (ρ : Fr) (fs : Nat → Fp) : Prop where
  len : ρ.length = σ.length
  rep : ∀ i s, ρ[i]? = some (some s) → ∃ v, σ[i]? = some (some v) ∧ (RepS G H s v (fs i) ∨ ExnAt G H i s v)
  dis : ∀ i j a, fs i a → fs j a → i = j
  trk : ∀ i a, fs i a → H a ≠ none
theorem getS_some {ρ : Fr} {i : Nat} {s : S} (h : getS ρ i = some s) : ρ[i]? = some (some s) ∧ ∀ c fs vs, s ≠ .exn c fs vs := by
  unfold getS at h
  cases e : ρ[i]? with
  | none => rw [e] at h; cases h
  | some o =>
    rw [e] at h
    cases o with
    | none => cases h
    | some t => cases t <;> first
      | (cases h; done)
      | (cases h; exact ⟨rfl, fun _ _ _ z => by cases z⟩)
theorem FR.get {G : Pg} {H : Hp} {σ : L2.St} {ρ : Fr} {fs : Nat → Fp} (F : FR G H σ ρ fs) {i : Nat} {s : S} (h : getS ρ i = some s) : ∃ v, σ[i]? = some (some v) ∧ RepS G H s v (fs i) := by
  obtain ⟨e, n⟩ := getS_some h
  obtain ⟨v, ev, r⟩ := F.rep i s e
  rcases r with r | ⟨a, dd, ws, c, fs', ds, _, q, _⟩
  · exact ⟨v, ev, r⟩
  · exact absurd q (n c fs' ds)
def U (fs : Nat → Fp) (M : List Nat) : Fp := fun a => ∃ i, i ∈ M ∧ fs i a
structure Step (H : Hp) (ρ : Fr) (fs : Nat → Fp) (M : List Nat) (H' : Hp) (ρ' : Fr) (fs' : Nat → Fp) : Prop where
  keep : Keep H H' (U fs M)
  same : ∀ i, i ∉ M → ρ'[i]? = ρ[i]? ∧ fs' i = fs i
  sub : ∀ i a, i ∈ M → fs' i a → U fs M a ∨ H a = none
theorem Step.refl {H : Hp} {ρ : Fr} {fs : Nat → Fp} {M : List Nat} : Step H ρ fs M H ρ fs :=
  ⟨.refl, fun _ _ => ⟨rfl, rfl⟩, fun i a h q => .inl ⟨i, h, q⟩⟩
theorem U.mono {fs : Nat → Fp} {M M' : List Nat} (h : ∀ i, i ∈ M → i ∈ M') {a : Addr} : U fs M a → U fs M' a := fun ⟨i, x, y⟩ => ⟨i, h i x, y⟩
theorem Step.mono {H : Hp} {ρ : Fr} {fs : Nat → Fp} {M M' : List Nat} {H' : Hp} {ρ' : Fr} {fs' : Nat → Fp} (x : Step H ρ fs M H' ρ' fs') (h : ∀ i, i ∈ M → i ∈ M') : Step H ρ fs M' H' ρ' fs' :=
  ⟨x.keep.mono fun a => U.mono h, fun i n => x.same i fun q => n (h i q), fun i a m q => by
    by_cases n : i ∈ M
    · exact (x.sub i a n q).imp (U.mono h) id
    · rw [(x.same i n).2] at q
      exact .inl ⟨i, m, q⟩⟩
theorem Step.trans {H H1 H2 : Hp} {ρ ρ1 ρ2 : Fr} {fs fs1 fs2 : Nat → Fp} {M : List Nat} (x : Step H ρ fs M H1 ρ1 fs1) (y : Step H1 ρ1 fs1 M H2 ρ2 fs2) : Step H ρ fs M H2 ρ2 fs2 := by
  have key : ∀ a, U fs1 M a → U fs M a ∨ H a = none := fun a ⟨i, m, q⟩ => x.sub i a m q
  refine ⟨x.keep.trans y.keep key, fun i n => ?_, fun i a m q => ?_⟩
  · exact ⟨(y.same i n).1.trans (x.same i n).1, (y.same i n).2.trans (x.same i n).2⟩
  · rcases y.sub i a m q with z | z
    · exact key a z
    · exact .inr (x.keep.dom a z)
/-- a value: a part of the slot r, or nobody's -/
def VP (r : Option Nat) (G : Pg) (H0 : Hp) (fs0 : Nat → Fp) (M : List Nat) (H : Hp) (fs : Nat → Fp) (s : S) (v : V) : Prop :=
  ∃ f : Fp, RepS G H s v f ∧ (∀ a, f a → H a ≠ none) ∧ match r with
    | none => (∀ i a, f a → fs i a → False) ∧ ∀ a, f a → U fs0 M a ∨ H0 a = none
    | some i => ∀ a, f a → fs i a
theorem VP.d {r : Option Nat} {G : Pg} {H0 : Hp} {fs0 : Nat → Fp} {M : List Nat} {H : Hp} {fs : Nat → Fp} {d : D} {v : V} (h : RepD G.K H d v) : VP r G H0 fs0 M H fs (.v d) v := by
  refine ⟨fun _ => False, by rw [RepS]; exact h, fun _ z => z.elim, ?_⟩
  cases r with
  | none => exact ⟨fun _ _ z => z.elim, fun _ z => z.elim⟩
  | some i => exact fun _ z => z.elim
theorem VP.toD {r : Option Nat} {G : Pg} {H0 : Hp} {fs0 : Nat → Fp} {M : List Nat} {H : Hp} {fs : Nat → Fp} {d : D} {v : V} (h : VP r G H0 fs0 M H fs (.v d) v) : RepD G.K H d v := by
  obtain ⟨f, h, _⟩ := h
  rw [RepS] at h; exact h
/-- carried over a step that leaves its slot -/
theorem VP.carry {r : Option Nat} {G : Pg} {H0 H H' : Hp} {fs0 fs fs' : Nat → Fp} {M M' : List Nat} {σ : L2.St} {ρ ρ' : Fr} {s : S} {v : V} (h : VP r G H0 fs0 M H fs s v) (F : FR G H σ ρ fs) (st : Step H ρ fs M' H' ρ' fs') (hr : ∀ i, r = some i → i ∉ M') :
    VP r G H0 fs0 M H' fs' s v := by
  obtain ⟨f, h, tr, x⟩ := h
  have nF : ∀ a, f a → ¬ U fs M' a := by
    intro a fa ⟨j, jm, q⟩
    cases r with
    | none => exact x.1 j a fa q
    | some i => exact hr i rfl (F.dis i j a (x a fa) q ▸ jm)
  refine ⟨f, h.keep st.keep s v nF, fun a fa e => tr a fa (st.keep.dom a e), ?_⟩
  cases r with
  | none =>
    refine ⟨fun i a fa q => ?_, x.2⟩
    by_cases n : i ∈ M'
    · rcases st.sub i a n q with z | z
      · exact nF a fa z
      · exact tr a fa z
    · rw [(st.same i n).2] at q
      exact x.1 i a fa q
  | some i =>
    intro a fa
    show fs' i a
    rw [(st.same i (hr i rfl)).2]
    exact x a fa
theorem RepS.keep' {G : Pg} {H H' : Hp} {F : Fp} {s : S} {v : V} {f : Fp} (h : RepS G H s v f) (k : Keep H H' F) (m : ∀ b, f b → ¬ F b) : RepS G H' s v f := RepS.keep k s v h m

/-- the exception that leaves -/
def EP (G : Pg) (e : Ex) (cls : Value) (d : Option Addr) (H : Hp) : Prop :=
  cls = .ref (G.ca e.c) ∧ ∃ dd ws, d = some dd ∧ H dd = some (.xd ((e.fs.map G.fn).zip ws)) ∧ e.fs.length = ws.length ∧ RepDs G.K H e.vs ws

/-- what is wanted of an evaluation that ends so -/
def Run {α : Type} (G : Pg) (W : WX) (σ : L2.St) (H : Hp) (ρ : Fr) (fs : Nat → Fp) (M : List Nat) (K : α → Fr → Hp → (Nat → Fp) → Prop) : R α → Prop
  | .bad => False
  | .ok a ρ' => ∀ H' fs', FR G H' σ ρ' fs' → Step H ρ fs M H' ρ' fs' → K a ρ' H' fs'
  | .ex e ρ' => ∀ cls d H' fs', FR G H' σ ρ' fs' → Step H ρ fs M H' ρ' fs' → EP G e cls d H' → W cls d σ H'
theorem Run.imp {α : Type} {G : Pg} {W : WX} {σ : L2.St} {H : Hp} {ρ : Fr} {fs : Nat → Fp} {M : List Nat} {K K' : α → Fr → Hp → (Nat → Fp) → Prop} {r : R α} (h : Run G W σ H ρ fs M K r)
    (i : ∀ a ρ' H' fs', FR G H' σ ρ' fs' → Step H ρ fs M H' ρ' fs' → K a ρ' H' fs' → K' a ρ' H' fs') : Run G W σ H ρ fs M K' r := by
  cases r with
  | bad => exact h
  | ok a ρ' => exact fun H' fs' F st => i a ρ' H' fs' F st (h H' fs' F st)
  | ex e ρ' => exact h
theorem Run.bind {α β : Type} {G : Pg} {W : WX} {σ : L2.St} {H : Hp} {ρ : Fr} {fs : Nat → Fp} {M M1 M2 : List Nat} {K : β → Fr → Hp → (Nat → Fp) → Prop} {r : R α} {k : α → Fr → R β}
    (h : Run G W σ H ρ fs M K (r.bind k)) (m1 : ∀ i, i ∈ M1 → i ∈ M) (m2 : ∀ i, i ∈ M2 → i ∈ M) :
    Run G W σ H ρ fs M1 (fun a ρ1 H1 fs1 => Run G W σ H1 ρ1 fs1 M2 K (k a ρ1)) r := by
  cases r with
  | bad => exact h
  | ok a ρ1 =>
    intro H1 fs1 F1 st1
    have h : Run G W σ H ρ fs M K (k a ρ1) := h
    show Run G W σ H1 ρ1 fs1 M2 K (k a ρ1)
    cases e : k a ρ1 with
    | bad => rw [e] at h; exact h
    | ok b ρ2 => rw [e] at h; exact fun H2 fs2 F2 st2 => h H2 fs2 F2 ((st1.mono m1).trans (st2.mono m2))
    | ex x ρ2 => rw [e] at h; exact fun cls d H2 fs2 F2 st2 => h cls d H2 fs2 F2 ((st1.mono m1).trans (st2.mono m2))
  | ex e ρ1 =>
    intro cls d H1 fs1 F1 st1
    exact h cls d H1 fs1 F1 (st1.mono m1)
theorem Run.of {α : Type} {G : Pg} {W : WX} {σ : L2.St} {H : Hp} {ρ : Fr} {fs : Nat → Fp} {M : List Nat} {K : α → Fr → Hp → (Nat → Fp) → Prop} {o : Option α} (F : FR G H σ ρ fs) (h : Run G W σ H ρ fs M K (R.of ρ o)) : ∃ a, o = some a ∧ K a ρ H fs := by
  cases o with
  | none => exact h.elim
  | some a => exact ⟨a, rfl, h H fs F .refl⟩

theorem PE.imp {X : Cx} {e : Expr} {t t' : TE} (h : PE X e t) (i : ∀ σ H Q, t' σ H Q → t σ H Q) : PE X e t' := ⟨fun pins s σ H Q I q => h.run pins s σ H Q I (i σ H Q q)⟩
theorem PT.imp {X : Cx} {e : Expr} {t t' : TT} (h : PT X e t) (i : ∀ σ H Q, t' σ H Q → t σ H Q) : PT X e t' := ⟨fun pins s σ H Q I q => h.run pins s σ H Q I (i σ H Q q)⟩
theorem PW.imp {X : Cx} {e : Expr} {t t' : TT} (h : PW X e t) (i : ∀ σ H Q, t' σ H Q → t σ H Q) : PW X e t' := ⟨fun wh pins s σ H Q I q => h.run wh pins s σ H Q I (i σ H Q q)⟩
theorem PA.imp {X : Cx} {es : List Expr} {t t' : TA} (h : PA X es t) (i : ∀ σ H Q, t' σ H Q → t σ H Q) : PA X es t' := ⟨fun pos pins s σ H Q I q => h.run pos pins s σ H Q I (i σ H Q q)⟩
theorem PI.imp {X : Cx} {tg it : Expr} {t t' : TI} (h : PI X tg it t) (i : ∀ σ H Q, t' σ H Q → t σ H Q) : PI X tg it t' := ⟨fun pins s σ H Q I q => h.run pins s σ H Q I (i σ H Q q)⟩

/-- the interpreter's reading of a value -/
def tV (G : Pg) (W : WX) (r : Option Nat) (M : List Nat) (p : Fr → R S) : TE := fun σ H Q => ∃ ρ fs, FR G H σ ρ fs ∧
  Run G W σ H ρ fs M (fun s ρ' H' fs' => ∀ v, VP r G H fs M H' fs' s v → Q v H') (p ρ)
def tT (G : Pg) (W : WX) (M : List Nat) (p : Fr → R Bool) : TT := fun σ H Q => ∃ ρ fs, FR G H σ ρ fs ∧
  Run G W σ H ρ fs M (fun b ρ' H' fs' => Q b H') (p ρ)
/-- values, plain or nobody's, one apart from another -/
def VPs (G : Pg) (H0 : Hp) (fs0 : Nat → Fp) (M : List Nat) (H : Hp) (fs : Nat → Fp) (ss : List S) (vs : List V) : Prop :=
  ∃ f : Fp, RepSs G H ss vs f ∧ (∀ a, f a → H a ≠ none) ∧ (∀ i a, f a → fs i a → False) ∧ ∀ a, f a → U fs0 M a ∨ H0 a = none
def tVs (G : Pg) (W : WX) (M : List Nat) (p : Fr → R (List S)) : TA := fun σ H Q => ∃ ρ fs, FR G H σ ρ fs ∧
  Run G W σ H ρ fs M (fun ss ρ' H' fs' => ∀ vs, VPs G H fs M H' fs' ss vs → Q vs H') (p ρ)
end Vm
/-! VmD -/
namespace Vm
open PySem L2

/-- the program's names -/
structure NT where
  fns : List Str
  cls : List Str
  flds : List Str
  mth : List (Option (Nat × Str))
/-- parameters in order -/
structure Gm where
  nt : NT
  N : List Str
  mt : Nat → List Nat
  ini : Nat → Nat
  ps : Nat → List Str
  /-- within an except suite -/
  hot : Bool
  /-- the defs that are called within except suites -/
  hl : Nat → Bool
  /-- the rows of keywords with which a def is called -/
  kws : Nat → List (List Str)

def root : X → Option Nat
  | .nm i => some i
  | .att x _ => root x
  | .ix x _ => root x
  | _ => none
/-- the slots that arguments lend to parameters that change -/
def lentTo (m : List Nat) : List X → Nat → List Nat
  | [], _ => []
  | x :: r, j => (match x with
    | .nm i => if m.contains j then [i] else []
    | _ => []) ++ lentTo m r (j + 1)
def Xs.l : Xs → List X
  | .nil => []
  | .cons x xs => x :: xs.l
mutual
/-- the slots whose trees an expression may change -/
def mutX (g : Gm) : X → List Nat
  | .mv i => [i]
  | .fz x => mutX g x
  | .att x _ => mutX g x
  | .ix x i => mutX g x ++ mutX g i
  | .slc x lo hi => mutX g x ++ (mutX g lo ++ mutX g hi)
  | .bin _ a b => mutX g a ++ mutX g b
  | .un _ a => mutX g a
  | .cmp _ a b => mutX g a ++ mutX g b
  | .cm2 _ _ a b c => mutX g a ++ (mutX g b ++ mutX g c)
  | .not a => mutX g a
  | .and xs => mutXs g xs
  | .or xs => mutXs g xs
  | .ife c a b => mutX g c ++ (mutX g a ++ mutX g b)
  | .tup xs => mutXs g xs
  | .lst xs => mutXs g xs
  | .bi _ xs => mutXs g xs
  | .isi x _ => mutX g x
  | .exf _ _ => []
  | .exi _ _ => []
  | .me _ x xs => mutX g x ++ mutXs g xs
  | .mu _ i _ xs => i :: mutXs g xs
  | .call f xs => mutXs g xs ++ lentTo (g.mt f) xs.l 0
  | .callk f p xs => mutXs g xs ++ lentTo (g.mt f) (p.filterMap fun k => xs.l[k]?) 0
  | .mcall f i xs => mutXs g xs ++ lentTo (g.mt f) (.nm i :: xs.l) 0
  | .new c xs => mutXs g xs ++ lentTo (g.mt (g.ini c)) (.om :: xs.l) 0
  | .lc e _ it cs => mutX g it ++ (mutXs g cs ++ mutX g e)
  | .lc2 e _ it cs _ it2 cs2 => mutX g it ++ (mutXs g cs ++ (mutX g it2 ++ (mutXs g cs2 ++ mutX g e)))
  | .dc _ k v _ it cs => mutX g it ++ (mutXs g cs ++ (mutX g k ++ mutX g v))
  | .rng xs => mutXs g xs
  | .zip xs => mutXs g xs
  | .enu x => mutX g x
  | .rev x => mutX g x
  | .c _ => []
  | .nm _ => []
  | .om => []
  | .dnew _ => []
termination_by structural x => x
def mutXs (g : Gm) : Xs → List Nat
  | .nil => []
  | .cons x xs => mutX g x ++ mutXs g xs
termination_by structural xs => xs
end
/-- what x yields stands while M is changed -/
def apart (r : Option Nat) (M : List Nat) : Bool :=
  match r with
  | none => true
  | some i => !M.contains i

def visB (sc : Scope) (x : Str) : Bool := match sc.names.lookup x with
  | some .local => true
  | some .cell => true
  | some .free => true
  | _ => false
def locB (sc : Scope) (x : Str) : Bool := match sc.names.lookup x with
  | some .local => true
  | some .cell => true
  | _ => false
def glB (sc : Scope) (x : Str) : Bool := match sc.names.lookup x with
  | some .globalImplicit => true
  | _ => false
def nameB (N : List Str) (sc : Scope) (i : Nat) : Expr → Bool
  | .Name x _ => decide (N[i]? = some x) && visB sc x && decide (x ≠ "__debug__") && decide (x ≠ "__classdict__")
  | _ => false
/-- a global name -/
def glNameB (sc : Scope) (x : Str) : Expr → Bool
  | .Name y _ => decide (y = x) && glB sc x && decide (x ≠ "__debug__")
  | _ => false
def cstB : Cst → Const → Bool
  | .non, .none => true
  | .bl b, .bool c => b == c
  | .int i, .int j => i == j
  | .str x, .str y => decide (x = y)
  | _, _ => false
def opB : Op2 → Operator → Bool
  | .add, .Add => true
  | .sub, .Sub => true
  | .mul, .Mult => true
  | .fdiv, .FloorDiv => true
  | .mod, .Mod => true
  | .pow, .Pow => true
  | .shl, .LShift => true
  | .shr, .RShift => true
  | .band, .BitAnd => true
  | .bor, .BitOr => true
  | .bxor, .BitXor => true
  | _, _ => false
def op1B : Op1 → UnaryOp → Bool
  | .neg, .USub => true
  | .inv, .Invert => true
  | _, _ => false
def cmB : Cm → CmpOp → Bool
  | .lt, .Lt => true
  | .le, .LtE => true
  | .gt, .Gt => true
  | .ge, .GtE => true
  | .eq, .Eq => true
  | .ne, .NotEq => true
  | .is, .Is => true
  | .nis, .IsNot => true
  | .inn, .In => true
  | .nin, .NotIn => true
  | _, _ => false
def biName : Bi → Str
  | .int => "int"
  | .len => "len"
  | .abs => "abs"
  | .min2 => "min"
  | .max2 => "max"
  | .min1 => "min"
  | .max1 => "max"
  | .sum => "sum"
  | .all => "all"
  | .any => "any"
  | .sorted => "sorted"
  | .sset => "sorted"
  | .tuple => "tuple"
  | .list => "list"
  | .set => "set"
  | .bool => "bool"
def biNames : List Str := ["int", "len", "abs", "min", "max", "sum", "all", "any", "sorted", "tuple", "list", "set", "bool", "range", "zip", "enumerate", "reversed", "isinstance", "str", "ValueError"]
def tyName (nt : NT) : Ty → Option Str
  | .int => some "int"
  | .bool => some "bool"
  | .str => some "str"
  | .tuple => some "tuple"
  | .list => some "list"
  | .cls _ => none
def meName : Me → Str
  | .index => "index"
  | .count => "count"
  | .bitlen => "bit_length"
  | .get1 => "get"
  | .get2 => "get"
def muName : Mu → Str
  | .append => "append"
  | .pop => "pop"
  | .popAt => "pop"
  | .remove => "remove"
  | .insert => "insert"
  | .extend => "extend"
  | .reverse => "reverse"
  | .clear => "clear"
/-- those that are ruled here -/
def biOk : Bi → Bool
  | .int => true
  | .len => true
  | .abs => true
  | .min2 => true
  | .max2 => true
  | .sum => true
  | .all => true
  | .any => true
  | .sorted => true
  | .tuple => true
  | .list => true
  | _ => false
/-- those that are ruled within an except suite, too -/
def coolBi : Bi → Bool
  | .int => true
  | .len => true
  | .abs => true
  | .tuple => true
  | .list => true
  | _ => false
/-- the slots of which a loop walks parts -/
def roots : X → List Nat
  | .zip xs => xs.l.flatMap fun x => (root x).toList
  | .enu x => (root x).toList
  | .rev x => (root x).toList
  | x => (root x).toList
def apartL (rs M : List Nat) : Bool := rs.all fun i => !M.contains i
/-- zip, enumerate go to several names -/
def itOkB : X → Expr → Bool
  | .zip _, e => match e with
    | .Tuple _ _ _ => true
    | _ => false
  | .enu _, e => match e with
    | .Tuple _ _ _ => true
    | _ => false
  | _, _ => true
/-- the ruled ones -/
def muOne : Mu → Bool
  | .insert => false
  | .extend => false
  | _ => true
def Xs.len : Xs → Nat
  | .nil => 0
  | .cons _ xs => xs.len + 1
/-- a path's text: a name with fields behind -/
def pathB (nt : NT) (N : List Str) (sc : Scope) (i : Nat) : List Nat → Expr → Bool
  | [], e => nameB N sc i e
  | f :: fs, e => match e with
    | .Attribute v a _ => decide (nt.flds[(f :: fs).getLast (by simp)]? = some a) && pathB nt N sc i ((f :: fs).dropLast) v
    | _ => false
termination_by fs => fs.length
decreasing_by simp
def X.isOm : X → Bool
  | .om => true
  | _ => false
/-- views one after another: none is changed by what follows -/
def apartXs (g : Gm) : Xs → Bool
  | .nil => true
  | .cons x xs => apart (root x) (mutXs g xs) && apartXs g xs
/-- a name that is stored: a local, or a cell of the block's own -/
def stoB (N : List Str) (sc : Scope) (fn : Str → Bool) (i : Nat) : Expr → Bool
  | .Name x _ => decide (N[i]? = some x) && (decide (sc.names.lookup x = some .local) || (decide (sc.names.lookup x = some .cell) && fn x))
  | _ => false
def stosB (N : List Str) (sc : Scope) (fn : Str → Bool) : List Nat → List Expr → Bool
  | [], es => es.isEmpty
  | i :: is, es => match es with
    | e :: es => stoB N sc fn i e && stosB N sc fn is es
    | [] => false
def tgB (N : List Str) (sc : Scope) (fn : Str → Bool) (is : List Nat) : Expr → Bool
  | .Tuple es _ _ => decide (is.length ≠ 1) && stosB N sc fn is es
  | e => match is with
    | [i] => stoB N sc fn i e
    | _ => false
def ownOf (N : List Str) (t : List Nat) : List (Str × Nat) := t.filterMap fun i => N[i]?.map fun x => (x, i)
/-- keywords: the names in order -/
def kwNames : List Keyword → Option (List Str)
  | [] => some []
  | ⟨some n, _, _⟩ :: r => (kwNames r).map (n :: ·)
  | _ => none
def kwExprs : List Keyword → List Expr
  | [] => []
  | ⟨_, v, _⟩ :: r => v :: kwExprs r
/-- the place among positional arguments and keywords of each parameter -/
def permOf (ps : List Str) (n : Nat) (ks : List Str) : List (Option Nat) :=
  (List.range ps.length).map fun j => if j < n then some j else (ks.findIdx? fun k => ps[j]? == some k).map (n + ·)
mutual
/-- is x the text e, in the scope sc -/
def chk (g : Gm) : X → Scope → Expr → Bool
  | .c k, _, e => match e with
    | .Constant c _ _ => cstB k c
    | _ => false
  | .nm i, sc, e => nameB g.N sc i e
  | .mv i, sc, e => nameB g.N sc i e
  | .fz x, sc, e => chk g x sc e && (root x).isNone
  | .om, _, _ => false
  | .att x f, sc, e => match e with
    | .Attribute v a _ => decide (g.nt.flds[f]? = some a) && x.isPath && chk g x sc v
    | _ => false
  | .ix x i, sc, e => match e with
    | .Subscript v s _ => chk g x sc v && chk g i sc s && apart (root x) (mutX g i)
    | _ => false
  | .slc x lo hi, sc, e => match e with
    | .Subscript v (.Slice l h none _) _ => chk g x sc v && (if lo.isOm then l.isNone else match l with | some e => chk g lo sc e | none => false) && (if hi.isOm then h.isNone else match h with | some e => chk g hi sc e | none => false) && apart (root x) (mutX g lo ++ mutX g hi)
    | _ => false
  | .bin o a b, sc, e => match e with
    | .BinOp l op r _ => opB o op && chk g a sc l && chk g b sc r && apart (root a) (mutX g b)
    | _ => false
  | .un o a, sc, e => match e with
    | .UnaryOp op x _ => op1B o op && chk g a sc x
    | _ => false
  | .cmp o a b, sc, e => match e with
    | .Compare l [op] [r] _ => cmB o op && chk g a sc l && chk g b sc r
    | _ => false
  | .cm2 o p a b c, sc, e => match e with
    | .Compare l [op, op'] [r, r'] _ => cmB o op && cmB p op' && chk g a sc l && chk g b sc r && chk g c sc r'
    | _ => false
  | .not a, sc, e => match e with
    | .UnaryOp .Not x _ => chk g a sc x
    | _ => false
  | .and xs, sc, e => match e with
    | .BoolOp .And es _ => chks g xs sc es && decide (xs.len ≠ 0)
    | _ => false
  | .or xs, sc, e => match e with
    | .BoolOp .Or es _ => chks g xs sc es && decide (xs.len ≠ 0)
    | _ => false
  | .ife c a b, sc, e => match e with
    | .IfExp t x y _ => chk g c sc t && chk g a sc x && chk g b sc y
    | _ => false
  | .tup xs, sc, e => match e with
    | .Tuple es _ _ => chks g xs sc es && decide (xs.len ≤ 1000)
    | _ => false
  | .lst xs, sc, e => match e with
    | .List es _ => chks g xs sc es && decide (xs.len ≤ 1000)
    | _ => false
  | .dnew _, _, e => match e with
    | .Dict [] [] _ => true
    | _ => false
  | .bi b xs, sc, e => match e with
    | .Call f as [] _ => glNameB sc (biName b) f && (!g.hot || coolBi b) && apartXs g xs && (match b with
      | .sset => match as with
        | [.Call f2 as2 [] _] => glNameB sc "set" f2 && chks g xs sc as2 && decide (xs.len = 1)
        | _ => false
      | .min2 => chks g xs sc as && decide (xs.len = 2)
      | .max2 => chks g xs sc as && decide (xs.len = 2)
      | _ => biOk b && chks g xs sc as && decide (xs.len = 1))
    | _ => false
  | .isi x t, sc, e => match e with
    | .Call f [a, c] [] _ => glNameB sc "isinstance" f && chk g x sc a && (match tyName g.nt t with
      | some n => glNameB sc n c
      | none => false)
    | _ => false
  | .exf i f, sc, e => match e with
    | .Attribute v a _ => decide (g.nt.flds[f]? = some a) && nameB g.N sc i v && g.hot
    | _ => false
  | .exi i c, sc, e => match e with
    | .Call f [a, b] [] _ => glNameB sc "isinstance" f && nameB g.N sc i a && (if c = 1000 then glNameB sc "ValueError" b else match g.nt.cls[c]? with
      | some n => glNameB sc n b
      | none => false) && g.hot
    | _ => false
  | .me m x xs, sc, e => match e with
    | .Call (.Attribute o a apos) as [] pos => decide (a = meName m) && chk g x sc o && x.isPath && chks g xs sc as && decide (apos.endLine = pos.line) && apart (root x) (mutXs g xs) && decide (xs.len ≤ 2)
    | _ => false
  | .mu m i fs xs, sc, e => match e with
    | .Call (.Attribute o a apos) as [] pos => decide (a = muName m) && muOne m && pathB g.nt g.N sc i fs o && chks g xs sc as && decide (apos.endLine = pos.line) && (fs.isEmpty || !(mutXs g xs).contains i) && decide (xs.len ≤ 2)
    | _ => false
  | .call f xs, sc, e => match e with
    | .Call nm as [] _ => (match g.nt.fns[f]? with
      | some n => glNameB sc n nm
      | none => false) && chks g xs sc as && decide (xs.len = (g.ps f).length) && (!g.hot || g.hl f)
    | _ => false
  | .callk f p xs, sc, e => match e with
    | .Call nm as kws _ => (match g.nt.fns[f]? with
      | some n => glNameB sc n nm
      | none => false) && as.isEmpty && chks g xs sc (kwExprs kws) && (match kwNames kws with
      | some ks => decide (p.map some = permOf (g.ps f) 0 ks) && decide (ks ∈ g.kws f) && decide p.Nodup && !g.hot && decide (ks.length = (g.ps f).length)
      | none => false) && decide (xs.len = (g.ps f).length)
    | _ => false
  | .mcall f i xs, sc, e => match e with
    | .Call (.Attribute o a apos) as [] pos => nameB g.N sc i o && (match (g.nt.mth[f]?).join with
      | some (_, n) => decide (a = n)
      | none => false) && chks g xs sc as && decide (xs.len + 1 = (g.ps f).length) && !g.hot && decide (apos.endLine = pos.line) && decide (xs.len < 20)
    | _ => false
  | .new c xs, sc, e => match e with
    | .Call nm as [] _ => (match g.nt.cls[c]? with
      | some n => glNameB sc n nm
      | none => false) && chks g xs sc as && decide (xs.len + 1 = (g.ps (g.ini c)).length) && !g.hot && (match g.mt (g.ini c) with
      | 0 :: r => !r.contains 0
      | _ => false)
    | _ => false
  | .lc x t it cs, sc, e => match e with
    | .ListComp elt [⟨tg, iter, ifs, 0⟩] scope _ => !g.hot && itOkB it tg && chk g it sc iter && blkC g.N sc scope (ownOf g.N t) && tgB g.N (relS scope sc) (fun x => scope.names.lookup x == some .cell) t tg && chks g cs (relS scope sc) ifs && chk g x (relS scope sc) elt
        && decide (cs.len ≤ 1) && apartL t (mutXs g cs ++ mutX g x) && apartL (roots it) (mutXs g cs ++ mutX g x)
    | _ => false
  | .lc2 x t it cs t2 it2 cs2, sc, e => match e with
    | .ListComp elt [⟨tg, iter, ifs, 0⟩, ⟨tg2, iter2, ifs2, 0⟩] scope _ => !g.hot && itOkB it tg && itOkB it2 tg2 && chk g it sc iter && blkC g.N sc scope (ownOf g.N (t ++ t2)) && tgB g.N (relS scope sc) (fun x => scope.names.lookup x == some .cell) t tg && tgB g.N (relS scope sc) (fun x => scope.names.lookup x == some .cell) t2 tg2
        && chks g cs (relS scope sc) ifs && chk g it2 (relS scope sc) iter2 && chks g cs2 (relS scope sc) ifs2 && chk g x (relS scope sc) elt && decide (cs.len = 0) && decide (cs2.len ≤ 1) && apartL (t ++ t2) (mutXs g cs ++ (mutX g it2 ++ (mutXs g cs2 ++ mutX g x))) && apartL (roots it) (mutXs g cs ++ (mutX g it2 ++ (mutXs g cs2 ++ mutX g x)))
        && apartL (roots it2) (mutXs g cs2 ++ mutX g x) && apartL (roots it2) t2
    | _ => false
  | .dc dt k v t it cs, sc, e => match e with
    | .DictComp ke ve [⟨tg, iter, ifs, 0⟩] scope _ => !dt && !g.hot && itOkB it tg && chk g it sc iter && blkC g.N sc scope (ownOf g.N t) && tgB g.N (relS scope sc) (fun x => scope.names.lookup x == some .cell) t tg && chks g cs (relS scope sc) ifs && chk g k (relS scope sc) ke && chk g v (relS scope sc) ve
        && decide (cs.len ≤ 1) && apartL t (mutXs g cs ++ (mutX g k ++ mutX g v)) && apartL (roots it) (mutXs g cs ++ (mutX g k ++ mutX g v))
    | _ => false
  | .rng xs, sc, e => match e with
    | .Call f as [] _ => glNameB sc "range" f && chks g xs sc as && (decide (xs.len = 1) || decide (xs.len = 2))
    | _ => false
  | .zip xs, sc, e => match e with
    | .Call f as [] _ => glNameB sc "zip" f && apartXs g xs && chks g xs sc as && decide (xs.len = 2)
    | _ => false
  | .enu x, sc, e => match e with
    | .Call f [a] [] _ => glNameB sc "enumerate" f && chk g x sc a
    | _ => false
  | .rev x, sc, e => match e with
    | .Call f [a] [] _ => glNameB sc "reversed" f && chk g x sc a
    | _ => false
termination_by structural x => x
def chks (g : Gm) : Xs → Scope → List Expr → Bool
  | .nil, _, es => es.isEmpty
  | .cons x xs, sc, es => match es with
    | e :: es => chk g x sc e && chks g xs sc es
    | [] => false
termination_by structural xs => xs
end

structure Plain (e : Expr) : Prop where
  star : ∀ es env, starEach (e :: es) env = (false, eval e env) :: starEach es env
  fold : ∀ env x, foldedSetIterable e env x = pure x
  nosl : ∀ o i, subscripted e false o i = operate [o, i] (getItem o i)
  mark : ∀ op, behindInMarks op e = false
def plainB : Expr → Bool
  | .Starred _ _ => false
  | .Set _ _ _ => false
  | .SetComp _ _ _ _ => false
  | .Slice _ _ _ _ => false
  | _ => true
theorem plain_of {e : Expr} (h : plainB e = true) : Plain e := by
  cases e <;> first
    | exact ⟨fun _ _ => rfl, fun _ _ => rfl, fun _ _ => rfl, fun _ => rfl⟩
    | cases h
end Vm
/-! VmE -/
namespace Vm
open PySem L2

theorem ff {p : Prop} (h : false = true) : p := Bool.noConfusion h
def outR (ss : List S) (mt : List Nat) : Out → R S
  | .bad => .bad
  | .ok r fin => .ok r ((mt.zip fin).foldl (fun ρ p => ρ.set p.1 (some p.2)) (ss.map some))
  | .ex e fin => .ex e ((mt.zip fin).foldl (fun ρ p => ρ.set p.1 (some p.2)) (ss.map some))
/-- without a handled exception -/
def Pg.z (G : Pg) : Pg := { G with cur := none }
mutual
theorem RepS.z {G : Pg} {H : Hp} : ∀ (s : S) (v : V) {f : Fp}, RepS G H s v f ↔ RepS G.z H s v f
  | .v d, v, f => by rw [RepS, RepS]; rfl
  | .lst l, v, f => by
    rw [RepS, RepS]
    exact ⟨fun ⟨a, vs, e, q, fa, z, r⟩ => ⟨a, vs, e, q, fa, z, (RepSs.z l vs).mp r⟩, fun ⟨a, vs, e, q, fa, z, r⟩ => ⟨a, vs, e, q, fa, z, (RepSs.z l vs).mpr r⟩⟩
  | .dic t l, v, f => by rw [RepS, RepS]; rfl
  | .obj c fs ss, v, f => by
    rw [RepS, RepS]
    exact ⟨fun ⟨a, dx, ws, e, q, fa, z, r⟩ => ⟨a, dx, ws, e, q, fa, z, (RepSs.z ss ws).mp r⟩, fun ⟨a, dx, ws, e, q, fa, z, r⟩ => ⟨a, dx, ws, e, q, fa, z, (RepSs.z ss ws).mpr r⟩⟩
  | .exn c fs ds, v, f => by rw [RepS, RepS]
theorem RepSs.z {G : Pg} {H : Hp} : ∀ (l : List S) (vs : List V) {f : Fp}, RepSs G H l vs f ↔ RepSs G.z H l vs f
  | [], vs, f => by rw [RepSs, RepSs]
  | s :: ss, vs, f => by
    rw [RepSs, RepSs]
    exact ⟨fun ⟨v, r, g, e, y, a, b⟩ => ⟨v, r, g, e, y, (RepS.z s v).mp a, (RepSs.z ss r).mp b⟩, fun ⟨v, r, g, e, y, a, b⟩ => ⟨v, r, g, e, y, (RepS.z s v).mpr a, (RepSs.z ss r).mpr b⟩⟩
end
/-- a def's promise: what the interpreter says of it -/
def spF (G : Pg) (mt : List Nat) (cf : List S → Out) : Sp := fun vs H Q E => ∃ ss fs, FR G.z H (vs.map some) (ss.map some) fs ∧
  Run G.z (fun cls d _ H => E cls d H) (vs.map some) H (ss.map some) fs mt (fun s ρ' H' fs' => ∀ v, VP none G.z H fs mt H' fs' s v → Q v H') (outR ss mt (cf ss))

/-- how keywords bind -/
def KwB (K : PySem.W.Frag) (fd : FuncData) (ps : List Str) (kws : List (List Str)) : Prop := ∀ ks, ks ∈ kws → ∀ (p : List Nat) (s : Shared) (ws zs : List Value), p.map some = permOf ps 0 ks → ws.length = ks.length → zs.map some = p.map (fun k => ws[k]?) → K.In s.heap →
  BindsTo s fd ⟨[], ks.zip ws⟩ (ps.zip zs)
structure CallOk (G : Pg) (g : Gm) (C : Cal) (X : Cx) (f : Nat) (a : Addr) : Prop where
  kp : PySem.W.keepIn X.K (.ref a) = true
  cool : g.hot = false → ∃ fd k, Room k X.A ∧ Binds X.K fd (g.ps f) [] ∧ KwB X.K fd (g.ps f) (g.kws f) ∧ FnOk X.prog X.w X.K X.mg X.base (L2N.CX X.prog X.w) k a fd (g.ps f) (spF G (C.mt f) (C.cf f))
  warm : g.hot = true → g.hl f = true → ∃ fd k, L2H.RoomH k X.A ∧ L2H.HotC X ∧ Binds X.K fd (g.ps f) [] ∧ L2H.FnH X.prog X.w X.K X.mg X.base (L2N.CX X.prog X.w) k a fd (g.ps f) (spF G (C.mt f) (C.cf f))
/-- a class, made -/
structure MakeOk (G : Pg) (g : Gm) (C : Cal) (X : Cx) (c : Nat) : Prop where
  kp : PySem.W.keepIn X.K (.ref (G.ca c)) = true
  cool : g.hot = false → ∃ fd k f0, Mk X.K (G.ca c) f0 ∧ Room (k + 1) X.A ∧ Binds X.K fd (g.ps (g.ini c)) [] ∧ FnOk X.prog X.w X.K X.mg X.base (L2N.CX X.prog X.w) k f0 fd (g.ps (g.ini c)) (spF G (C.mt (C.ini c)) (C.cf (C.ini c)))
section
variable {G : Pg} {g : Gm} {C : Cal} {X : Cx} {W : WX} {f c : Nat} {a : Addr} {pins : List (Addr × Obj)} {σ : L2.St} {H : Hp} {s : Shared} {Q : VK} {us ws : List Value} {vs zs : List V}
theorem CallOk.run (ok : CallOk G g C X f a) (hl : g.hot = true → g.hl f = true) (tk : L2N.Takes X W) (I : Inv X pins σ H s) (r : Vals vs us) (h : spF G (C.mt f) (C.cf f) vs H Q (WE W σ)) : wpAny (model X.prog X.w) X.A (call (.ref a) us) (L2.EP X pins σ Q) X.xe s := by
  cases hh : g.hot with
  | false =>
    obtain ⟨fd, k, h1, h2, h3, h4⟩ := ok.cool hh
    exact run_fnS (E := WE W) h4 h1 h2 (L2N.passAt tk σ) I r h
  | true =>
    obtain ⟨fd, k, h1, h2, h3, h4⟩ := ok.warm hh (hl hh)
    exact L2H.run_fnH (E := WE W) h4 h1 h2 h3 (L2N.passAt tk σ) I r h
theorem vals_get {vs : List V} {us : List Value} (r : Vals vs us) : ∀ (k : Nat) (u : Value), us[k]? = some u → ∃ v, vs[k]? = some v ∧ RelV v u := by
  induction r with
  | nil => intro k u h; simp at h
  | cons rr _ ih =>
    intro k u h
    cases k with
    | zero => simp at h; subst h; exact ⟨_, rfl, rr⟩
    | succ k => simpa using ih k u (by simpa using h)
theorem vals_perm {vs : List V} {us : List Value} (r : Vals vs us) : ∀ {p : List Nat} {zs : List V}, zs.map some = p.map (fun k => vs[k]?) → ∃ ys : List Value, ys.map some = p.map (fun k => us[k]?) ∧ Vals zs ys
  | [], zs, h => by
    have : zs = [] := by simpa using h
    subst this
    exact ⟨[], rfl, .nil⟩
  | k :: p, [], h => by cases h
  | k :: p, z :: zs, h => by
    simp only [List.map_cons, List.cons.injEq] at h
    obtain ⟨ys, e, rr⟩ := vals_perm r h.2
    have hk : vs[k]? = some z := h.1.symm
    obtain ⟨u, hu, ru⟩ := r.get hk
    exact ⟨u :: ys, by rw [List.map_cons, List.map_cons, e, hu], .cons ru rr⟩
theorem CallOk.runK {ks : List Str} {p : List Nat} (ok : CallOk G g C X f a) (tk : L2N.Takes X W) (hh : g.hot = false) (hk : ks ∈ g.kws f) (hp : p.map some = permOf (g.ps f) 0 ks) (hw : ws.length = ks.length) (I : Inv X pins σ H s) (r : Vals vs ws) (hz : zs.map some = p.map (fun k => vs[k]?))
    (h : spF G (C.mt f) (C.cf f) zs H Q (WE W σ)) : wpAny (model X.prog X.w) X.A (call (.ref a) [] (ks.zip ws)) (L2.EP X pins σ Q) X.xe s := by
  obtain ⟨fd, k, h1, h2, h3, F⟩ := ok.cool hh
  obtain ⟨ys, e, ry⟩ := vals_perm r hz
  refine wpAny_call (codeAny_mono (F.run X.A X.stack s H ⟨[], ks.zip ws⟩ ys zs Q (WE W σ) h1 I.env0 (h3 ks hk p s ws ys hp hw e I.kIn) ry h) fun r s' hq => ?_)
  cases r with
  | error e => exact L2N.passAt tk σ pins H s e s' I hq
  | ok fl =>
    cases fl with
    | ret u => exact I.after hq
    | next => exact False.elim hq
    | brk => exact False.elim hq
    | cont => exact False.elim hq
theorem MakeOk.run (ok : MakeOk G g C X c) (tk : L2N.Takes X W) (hh : g.hot = false) (I : Inv X pins σ H s) (r : Vals vs us)
    (h : ∀ x dx, H x = none → H dx = none → dx ≠ x → spF G (C.mt (C.ini c)) (C.cf (C.ini c)) (.ref x :: vs) (upd (upd H dx (.own x)) x (.ins (G.ca c) dx [])) (fun v H2 => v = .non ∧ Q (.ref x) H2) (WE W σ)) :
    wpAny (model X.prog X.w) X.A (call (.ref (G.ca c)) us) (L2.EP X pins σ Q) X.xe s := by
  obtain ⟨fd, k, f0, M, hr, hb, F⟩ := ok.cool hh
  have hq := h (s.heap.objs.size + 1) s.heap.objs.size (I.hok.fresh (Nat.le_succ _)) (I.hok.fresh (Nat.le_refl _)) (Nat.ne_of_lt (Nat.lt_succ_self _))
  have I2 := Inv.made (C := G.ca c) I
  have r2 : Vals (V.ref (s.heap.objs.size + 1) :: vs) (Value.ref (s.heap.objs.size + 1) :: us) := .cons rfl r
  have hl : (Value.ref (s.heap.objs.size + 1) :: us).length = (g.ps (g.ini c)).length := by
    have e := r2.length
    rw [F.len _ _ _ _ hq] at e
    exact e.symm
  have b := hb _ (Value.ref (s.heap.objs.size + 1) :: us) I2.kIn (by rw [List.append_nil]; exact hl)
  rw [List.append_nil] at b
  refine wpAny_call (make_map (f := f0) I.kIn M.makes M.init (beq_iff_eq.mp M.fn) (codeAny_mono (F.run _ X.stack _ _ ⟨Value.ref (s.heap.objs.size + 1) :: us, []⟩ (Value.ref (s.heap.objs.size + 1) :: us) _ _ (WE W σ) (hr.make (G.ca c) us [])
    (I2.env0.make (G.ca c) us []) b r2 hq) fun r s' hq' => ?_))
  cases r with
  | error e => exact L2N.passAt tk σ pins _ _ e s' I2 hq'
  | ok fl =>
    cases fl with
    | ret u =>
      obtain ⟨v, H', I3, rv, ev, q3⟩ := I2.after hq'
      subst ev
      exact ⟨rv, ⟨V.ref (s.heap.objs.size + 1), H', I3, rfl, q3⟩⟩
    | next => exact False.elim hq'
    | brk => exact False.elim hq'
    | cont => exact False.elim hq'
end
structure Cok (g : Gm) (G : Pg) (C : Cal) (X : Cx) (sc : Scope) (W : WX) : Prop where
  K : X.K = G.K
  N : X.N = g.N
  nd : g.N.Nodup
  sc : X.env.scope = sc
  calm : g.hot = false → X.calm = true
  tk : L2N.Takes X W
  un : X.A.units + 64 < cLine
  un65 : X.A.units + 65 < cLine
  blt : ∀ b, b ∈ biNames → X.mg b = none
  mt : C.mt = g.mt
  ini : C.ini = g.ini
  fns : ∀ f nm, g.nt.fns[f]? = some nm → ∃ a, X.mg nm = some (.ref a) ∧ CallOk G g C X f a
  fld : ∀ c f, G.ok c f → Cls X.K (G.ca c) ∧ NoAttr X.K (G.ca c) (G.fn f)
  inj : ∀ c j k, G.ok c j → G.ok c k → G.fn j = G.fn k → j = k
  nam : ∀ f n, g.nt.flds[f]? = some n → G.fn f = n
  att : ∀ c f, C.at' c f = true → G.ok c f
  mth : ∀ f c n, (g.nt.mth[f]?).join = some (c, n) → C.mc f = some c ∧ Cls X.K (G.ca c) ∧ (∀ k, G.ok c k → G.fn k ≠ n) ∧ ∃ a, Meth X.K (G.ca c) n a ∧ CallOk G g C X f a
  new : ∀ c nm, g.nt.cls[c]? = some nm → (g.ps (g.ini c)).length ≠ 0 → X.mg nm = some (.ref (G.ca c)) ∧ MakeOk G g C X c
  fnI : ∀ j k, G.fn j = G.fn k → j = k
  cls : ∀ c nm, g.nt.cls[c]? = some nm → X.mg nm = some (.ref (G.ca c))
  curn : g.hot = false → G.cur = none
  hotc : g.hot = true → L2H.HotC X
  exn : g.hot = true → ∀ i a dd c, G.cur = some (i, a, dd, c) → ∃ (X0 : Cx) (oe : Obj) (pn : List (Addr × Obj)), X = X0.suite a ((a, oe) :: pn) ∧ Zc (.ref (G.ca c)) (some dd) oe ∧ (∃ vs, oe.data = .fields vs) ∧ XfC X.K (G.ca c) ∧ ExcC X.K (G.ca c) ∧
    (∀ (f : Nat) (n : Str), g.nt.flds[f]? = some n → PySem.W.findIn X.K (.ref (G.ca c)) n = some none) ∧ ∀ (k : Nat) (b : Bool), C.exm c k = some b → PySem.W.kitOne X.K (.ref (G.ca c)) (G.cv k) = some b

structure Gx where
  g : Gm
  G : Pg
  C : Cal
def Gx.M (Γ : Gx) (x : X) : List Nat := mutX Γ.g x
/-- an expression is what the interpreter says -/
structure XOk (Γ : Gx) (x : X) : Prop where
  pe : ∀ {X sc W e}, Cok Γ.g Γ.G Γ.C X sc W → chk Γ.g x sc e = true → PE X e (tV Γ.G W (root x) (mutX Γ.g x) (den Γ.C x).pk)
  pt : ∀ {X sc W e}, Cok Γ.g Γ.G Γ.C X sc W → chk Γ.g x sc e = true → PT X e (tT Γ.G W (mutX Γ.g x) (den Γ.C x).ts)
  pl : ∀ {sc e}, chk Γ.g x sc e = true → plainB e = true

variable {Γ : Gx} {X : Cx} {sc : Scope} {W : WX} {e : Expr}
theorem vis_of {sc : Scope} {x : Str} (h : visB sc x = true) : Vis sc x := by
  unfold visB at h
  split at h
  · exact .inl (by assumption)
  · exact .inr (.inl (by assumption))
  · exact .inr (.inr (by assumption))
  · cases h
theorem loc_of {sc : Scope} {x : Str} (h : locB sc x = true) : Loc sc x := by
  unfold locB at h
  split at h
  · exact .inl (by assumption)
  · exact .inr (by assumption)
  · cases h
theorem gl_of {sc : Scope} {x : Str} (h : glB sc x = true) : sc.names.lookup x = some .globalImplicit := by
  unfold glB at h
  split at h
  · assumption
  · cases h
theorem nameB_of {N : List Str} {sc : Scope} {i : Nat} {e : Expr} (h : nameB N sc i e = true) : ∃ x p, e = .Name x p ∧ N[i]? = some x ∧ visB sc x = true ∧ x ≠ "__debug__" ∧ x ≠ "__classdict__" := by
  unfold nameB at h
  cases e with
  | Name x p =>
    simp only [Bool.and_eq_true, decide_eq_true_eq] at h
    exact ⟨x, p, rfl, h.1.1.1, h.1.1.2, h.1.2, h.2⟩
  | _ => cases h
theorem Cok.pv (c : Cok Γ.g Γ.G Γ.C X sc W) {i : Nat} (h : nameB Γ.g.N sc i e = true) : PE X e (tVar i) := by
  obtain ⟨x, p, rfl, h1, h2, h3, h4⟩ := nameB_of h
  exact pe_var (by rw [c.N]; exact h1) (by rw [c.sc]; exact vis_of h2) (beq_eq_false_iff_ne.mpr h3) (beq_eq_false_iff_ne.mpr h4)
theorem glName_of {x : Str} (h : glNameB sc x e = true) : ∃ p, e = .Name x p ∧ sc.names.lookup x = some .globalImplicit ∧ x ≠ "__debug__" := by
  unfold glNameB at h
  cases e with
  | Name y p =>
    simp only [Bool.and_eq_true, decide_eq_true_eq] at h
    obtain ⟨⟨rfl, h2⟩, h3⟩ := h
    exact ⟨p, rfl, gl_of h2, h3⟩
  | _ => cases h
theorem Cok.gl (c : Cok Γ.g Γ.G Γ.C X sc W) {x : Str} (h : sc.names.lookup x = some .globalImplicit) : Gl X x := by
  show X.env.scope.names.lookup x = _
  rw [c.sc]; exact h
theorem glName_plain {x : Str} (h : glNameB sc x e = true) : plainB e = true := by
  obtain ⟨p, rfl, _⟩ := glName_of h; rfl

theorem skvs_empty {t : Bool} {ks : List D} {ws : List V} {u : HO} (h : DKeys t ks ws u) : (∃ kvs, u = .dK kvs ∧ kvs.isEmpty = ks.isEmpty) ∨ (∃ kvs, u = .dT kvs ∧ kvs.isEmpty = ks.isEmpty) := by
  cases t with
  | false =>
    obtain ⟨kvs, e, h1, h2⟩ := h
    refine .inl ⟨kvs, e, ?_⟩
    cases kvs <;> cases ks <;> first | rfl | simp at h1
  | true =>
    obtain ⟨kvs, e, h1, h2⟩ := h
    refine .inr ⟨kvs, e, ?_⟩
    cases kvs <;> cases ks <;> first | rfl | simp at h1
theorem isEmpty_len {α β : Type} {l : List α} {m : List β} (h : l.length = m.length) : l.isEmpty = m.isEmpty := by
  cases l <;> cases m <;> first | rfl | simp at h
theorem truth_of {G : Pg} {H : Hp} {s : S} {v : V} {f : Fp} {b : Bool} (h : RepS G H s v f) (e : truth s = some b) : TruV G.K v H b := by
  unfold truth at e
  split at e <;> first | cases e | skip
  all_goals rw [RepS] at h
  · rw [RepD] at h; subst h; rfl
  · rw [RepD] at h; subst h; rfl
  · rw [RepD] at h; subst h; rfl
  · rw [RepD] at h
    obtain ⟨a, vs, rfl, q, z, r⟩ := h
    exact .inr (.inl ⟨vs, q.sq, by rw [isEmpty_len r.length]⟩)
  · rw [RepD] at h
    obtain ⟨a, vs, o, rfl, q, z, r⟩ := h
    exact .inl ⟨vs, .inl (.inr ⟨o, q⟩), by rw [isEmpty_len r.length]⟩
  · obtain ⟨a, vs, rfl, q, fa, z, r⟩ := h
    exact .inl ⟨vs, SqL.of q, by rw [isEmpty_len r.length]⟩
  · rename_i l
    obtain ⟨a, u, ws, rfl, q, fa, ⟨kvs, e1, e2, e3⟩, r⟩ := h
    subst e1
    refine .inr (.inr ⟨kvs, q, ?_⟩)
    cases l <;> cases kvs <;> first | rfl | simp at e2

def testPlainB : Expr → Bool
  | .UnaryOp .Not _ _ => false
  | .BoolOp _ _ _ => false
  | .IfExp _ _ _ _ => false
  | .Compare _ _ _ _ => false
  | _ => true
theorem isTrue_of {e : Expr} (h : testPlainB e = true) (env : Env) : ∀ whole, isTrue e env whole = (do let v ← whole; standAt e.pos; holding [v] (truthy v)) := by
  intro whole
  cases e with
  | UnaryOp op x p => cases op <;> first | rfl | exact ff h
  | _ => first | rfl | exact ff h

theorem pt_den {p : Fr → R S} {r : Option Nat} {M : List Nat} (c : Cok Γ.g Γ.G Γ.C X sc W) (h : PE X e (tV Γ.G W r M p)) (he : testPlainB e = true) : PT X e (tT Γ.G W M (Den.of p).ts) := by
  refine PT.imp (pt_truth h (isTrue_of he X.env)) fun σ H Q ⟨ρ, fs, F, q⟩ => ⟨ρ, fs, F, ?_⟩
  have q2 : Run Γ.G W σ H ρ fs M (fun s ρ1 H1 fs1 => Run Γ.G W σ H1 ρ1 fs1 M (fun b ρ' H' fs' => Q b H') (R.of ρ1 (truth s))) (p ρ) := Run.bind q (fun _ m => m) (fun _ m => m)
  refine q2.imp fun s ρ' H' fs' F' st k v vp => ?_
  obtain ⟨b, eb, kb⟩ := Run.of F' k
  obtain ⟨f, hr, _⟩ := vp
  refine ⟨b, ?_, kb⟩
  rw [c.K]
  exact truth_of hr eb

def cstV : Cst → V
  | .non => .non
  | .bl b => .bl b
  | .int i => .int i
  | .str x => .str x
theorem cst_rep {K : PySem.W.Frag} {H : Hp} (k : Cst) : RepD K H k.d (cstV k) := by
  cases k <;> (show RepD K H _ _; unfold Cst.d; rw [RepD]; rfl)
theorem cst_pe {X : Cx} {k : Cst} {c : Const} {n : Nat} {p : Pos} (h : cstB k c = true) : PE X (.Constant c n p) (tC (cstV k)) := by
  cases k with
  | non => cases c <;> first | exact ff h | exact pe_non
  | bl b =>
    cases c <;> first | exact ff h | skip
    have e := (show b = _ by simpa [cstB] using h)
    subst e; exact pe_bl
  | int b =>
    cases c <;> first | exact ff h | skip
    have e := (show b = _ by simpa [cstB] using h)
    subst e; exact pe_int
  | str b =>
    cases c <;> first | exact ff h | skip
    have e := (show b = _ by simpa [cstB] using h)
    subst e; exact pe_str
theorem xok_c (k : Cst) : XOk Γ (.c k) := by
  have pe : ∀ {X sc W e}, Cok Γ.g Γ.G Γ.C X sc W → chk Γ.g (.c k) sc e = true → PE X e (tV Γ.G W (root (.c k)) (mutX Γ.g (.c k)) (den Γ.C (.c k)).pk) := by
    intro X sc W e c h
    cases e with
    | Constant x n p =>
      refine PE.imp (cst_pe (k := k) h) fun σ H Q ⟨ρ, fs, F, q⟩ => ?_
      exact q H fs F .refl _ (VP.d (cst_rep k))
    | _ => exact ff h
  refine ⟨pe, fun c h => ?_, fun {sc e} h => ?_⟩
  · refine pt_den (Γ := Γ) c (pe c h) ?_
    rename_i e
    cases e <;> first | rfl | exact ff h
  · cases e <;> first | rfl | exact ff h

theorem xok_nm (i : Nat) : XOk Γ (.nm i) := by
  have pe : ∀ {X sc W e}, Cok Γ.g Γ.G Γ.C X sc W → chk Γ.g (.nm i) sc e = true → PE X e (tV Γ.G W (root (.nm i)) (mutX Γ.g (.nm i)) (den Γ.C (.nm i)).pk) := by
    intro X sc W e c h
    refine PE.imp (c.pv (Γ := Γ) h) fun σ H Q ⟨ρ, fs, F, q⟩ => ?_
    obtain ⟨s, es, k⟩ := Run.of F (show Run Γ.G W σ H ρ fs _ _ (R.of ρ (getS ρ i)) from q)
    obtain ⟨v, ev, r⟩ := F.get es
    exact ⟨v, ev, k v ⟨fs i, r, F.trk i, fun _ z => z⟩⟩
  have pl : ∀ {sc e}, chk Γ.g (.nm i) sc e = true → ∃ x p, e = .Name x p := fun {sc e} h => by
    obtain ⟨x, p, rfl, _⟩ := nameB_of h
    exact ⟨x, p, rfl⟩
  refine ⟨pe, fun c h => ?_, fun h => ?_⟩
  · obtain ⟨x, p, rfl⟩ := pl h
    exact pt_den (Γ := Γ) c (pe c h) rfl
  · obtain ⟨x, p, rfl⟩ := pl h; rfl
end Vm
/-! VmF -/
namespace Vm
open PySem L2

def none' : Fp := fun _ => False
/-- a new value: its objects are new, all else stands -/
def NV (G : Pg) (H H' : Hp) (s : S) (v : V) : Prop := Keep H H' none' ∧ ∃ f : Fp, RepS G H' s v f ∧ ∀ a, f a → H a = none ∧ H' a ≠ none
theorem NV.d {G : Pg} {H : Hp} {d : D} {v : V} (h : RepD G.K H d v) : NV G H H (.v d) v := ⟨.refl, none', by rw [RepS]; exact h, fun _ z => z.elim⟩
theorem FR.keep {G : Pg} {H H' : Hp} {σ : L2.St} {ρ : Fr} {fs : Nat → Fp} {F : Fp} (x : FR G H σ ρ fs) (k : Keep H H' F) (n : ∀ i a, fs i a → ¬ F a) : FR G H' σ ρ fs := by
  refine ⟨x.len, fun i s e => ?_, x.dis, fun i a q z => x.trk i a q (k.dom a z)⟩
  obtain ⟨v, ev, r⟩ := x.rep i s e
  exact ⟨v, ev, r.imp (fun r => RepS.keep k s v r (n i)) (ExnAt.keep k)⟩
theorem FR.nv {G : Pg} {H H' : Hp} {σ : L2.St} {ρ : Fr} {fs : Nat → Fp} {H0 : Hp} {fs0 : Nat → Fp} {M : List Nat} {s : S} {v : V} (F : FR G H σ ρ fs) (n : NV G H H' s v) (hd : ∀ a, H a = none → H0 a = none) :
    FR G H' σ ρ fs ∧ (∀ M', Step H ρ fs M' H' ρ fs) ∧ VP none G H0 fs0 M H' fs s v := by
  obtain ⟨k, f, r, hf⟩ := n
  refine ⟨F.keep k fun _ _ _ z => z, fun M' => ⟨k.mono fun _ z => z.elim, fun _ _ => ⟨rfl, rfl⟩, fun i a m q => .inl ⟨i, m, q⟩⟩, f, r, fun a q => (hf a q).2, fun i a q z => F.trk i a z (hf a q).1, fun a q => .inr (hd a (hf a q).1)⟩
/-- the end of an evaluation whose last step makes a value anew -/
theorem Run.nv {G : Pg} {W : WX} {σ : L2.St} {H H0 : Hp} {ρ : Fr} {fs fs0 : Nat → Fp} {M M' : List Nat} {Q : VK} {o : Option S} (F : FR G H σ ρ fs) (hd : ∀ a, H a = none → H0 a = none)
    (h : Run G W σ H ρ fs M (fun s ρ' H' fs' => ∀ v, VP none G H0 fs0 M' H' fs' s v → Q v H') (R.of ρ o)) : ∃ s, o = some s ∧ ∀ v H', NV G H H' s v → Q v H' := by
  cases o with
  | none => exact h.elim
  | some s =>
    refine ⟨s, rfl, fun v H' n => ?_⟩
    obtain ⟨F', st, vp⟩ := F.nv (M := M') (fs0 := fs0) n hd
    exact h H' fs F' (st M) v vp

def rB (G : Pg) (g : S → S → Option S) : R2 := fun x y H Q => ∃ s1 s2 f1 f2 s, RepS G H s1 x f1 ∧ RepS G H s2 y f2 ∧ g s1 s2 = some s ∧ ∀ v H', NV G H H' s v → Q v H'
def rU1 (G : Pg) (g : S → Option S) : V → Hp → VK → Prop := fun x H Q => ∃ s1 f1 s, RepS G H s1 x f1 ∧ g s1 = some s ∧ ∀ v H', NV G H H' s v → Q v H'
theorem OpR.imp {X : Cx} {f : Value → Value → Sem Value} {r r' : R2} (h : OpR X f r) (i : ∀ x y H Q, r' x y H Q → r x y H Q) : OpR X f r' :=
  fun pins s σ H x y v u Q I rx ry q => h pins s σ H x y v u Q I rx ry (i x y H Q q)
theorem UnR.imp {X : Cx} {f : Value → Sem Value} {r r' : V → Hp → VK → Prop} (h : UnR X f r) (i : ∀ x H Q, r' x H Q → r x H Q) : UnR X f r' :=
  fun pins s σ H x v Q I rx q => h pins s σ H x v Q I rx (i x H Q q)
theorem CallR.imp {X : Cx} {f : Value} {r r' : List V → Hp → VK → Prop} (h : CallR X f r) (i : ∀ x H Q, r' x H Q → r x H Q) : CallR X f r' :=
  fun pins s σ H x v Q I rx q => h pins s σ H x v Q I rx (i x H Q q)
theorem repS_int {G : Pg} {H : Hp} {i : Int} {v : V} {f : Fp} (h : RepS G H (.v (.int i)) v f) : v = .int i := by rw [RepS, RepD] at h; exact h
theorem rep_int {K : PySem.W.Frag} {H : Hp} {i : Int} : RepD K H (.int i) (.int i) := by rw [RepD]
theorem rep_bl {K : PySem.W.Frag} {H : Hp} {i : Bool} : RepD K H (.bl i) (.bl i) := by rw [RepD]
theorem rep_non {K : PySem.W.Frag} {H : Hp} : RepD K H .non .non := by rw [RepD]
theorem rep_str {K : PySem.W.Frag} {H : Hp} {x : Str} : RepD K H (.str x) (.str x) := by rw [RepD]
theorem nv_new {G : Pg} {H : Hp} {p : Addr} {s : S} {o : HO} (hp : H p = none) (h : RepS G (upd H p o) s (.ref p) (fun b => b = p)) : NV G H (upd H p o) s (.ref p) := by
  refine ⟨.new hp, _, h, fun a e => ?_⟩
  subst e
  exact ⟨hp, by rw [upd_same]; exact fun z => by cases z⟩
theorem nv_lst {G : Pg} {H : Hp} {p : Addr} {ds : List D} {vs : List V} (hp : H p = none) (z : vs.length ≤ sizeLine) (h : RepDs G.K H ds vs) : NV G H (upd H p (.lst vs)) (.lst (ds.map S.v)) (.ref p) := by
  refine nv_new hp ?_
  rw [RepS]
  exact ⟨p, vs, rfl, upd_same, rfl, z, RepSs.ofD (RepDs.keep (Keep.new (F := none') hp) _ _ h)⟩
theorem nv_tup {G : Pg} {H : Hp} {p : Addr} {ds : List D} {vs : List V} (hp : H p = none) (z : vs.length ≤ sizeLine) (h : RepDs G.K H ds vs) : NV G H (upd H p (.tup vs)) (.v (.tup true ds)) (.ref p) := by
  refine nv_new hp ?_
  rw [RepS, RepD]
  exact ⟨p, vs, rfl, upd_same, z, RepDs.keep (Keep.new (F := none') hp) _ _ h⟩
theorem lineN_eq : lineN = sizeLine := by rw [sizeLine_eq]; rfl
theorem repDs_nil_iff {K : PySem.W.Frag} {H : Hp} {l : List D} {vs : List V} (h : RepDs K H l vs) : vs = [] ↔ l = [] := by
  have e := h.length
  constructor
  · rintro rfl; exact List.length_eq_zero_iff.mp (by simpa using e)
  · rintro rfl; exact List.length_eq_zero_iff.mp (by simpa using e.symm)
def pyOp : Op2 → Operator
  | .add => .Add
  | .sub => .Sub
  | .mul => .Mult
  | .fdiv => .FloorDiv
  | .mod => .Mod
  | .pow => .Pow
  | .shl => .LShift
  | .shr => .RShift
  | .band => .BitAnd
  | .bor => .BitOr
  | .bxor => .BitXor
theorem opB_eq {o : Op2} {op : Operator} (h : opB o op = true) : op = pyOp o := by
  cases o <;> cases op <;> first | rfl | exact ff h
variable {G : Pg} {X : Cx}
/-- ints alone -/
def rBI (G : Pg) (o : Op2) : R2 := fun x y H Q => ∃ i j k, x = .int i ∧ y = .int j ∧ arith o i j = some k ∧ Q (.int k) H
theorem b64_of {i j : Int} (h : (B64 i || B64 j) = true) : CMul i j := by
  simp only [Bool.or_eq_true, Bool.and_eq_true, decide_eq_true_eq] at h
  exact h
theorem op_arith (o : Op2) : OpR X (binaryOp (pyOp o)) (rBI G o) := by
  cases o with
  | add => exact OpR.imp op_add fun x y H Q ⟨i, j, k, e1, e2, e3, q⟩ => ⟨i, j, e1, e2, by cases e3; exact q⟩
  | sub => exact OpR.imp op_sub fun x y H Q ⟨i, j, k, e1, e2, e3, q⟩ => ⟨i, j, e1, e2, by cases e3; exact q⟩
  | mul =>
    refine OpR.imp op_mul fun x y H Q ⟨i, j, k, e1, e2, e3, q⟩ => ?_
    simp only [arith] at e3
    split at e3
    · rename_i h; cases e3; exact ⟨i, j, e1, e2, b64_of h, q⟩
    · cases e3
  | fdiv =>
    refine OpR.imp op_fdiv fun x y H Q ⟨i, j, k, e1, e2, e3, q⟩ => ?_
    simp only [arith] at e3
    split at e3
    · rename_i h; cases e3; simp only [Bool.and_eq_true, decide_eq_true_eq] at h; exact ⟨i, j, e1, e2, h, q⟩
    · cases e3
  | mod =>
    refine OpR.imp op_mod fun x y H Q ⟨i, j, k, e1, e2, e3, q⟩ => ?_
    simp only [arith] at e3
    split at e3
    · rename_i h; cases e3; exact ⟨i, j, e1, e2, of_decide_eq_true h, q⟩
    · cases e3
  | pow =>
    refine OpR.imp op_pow fun x y H Q ⟨i, j, k, e1, e2, e3, q⟩ => ?_
    simp only [arith] at e3
    split at e3
    · rename_i h; cases e3; simp only [Bool.and_eq_true, decide_eq_true_eq] at h; exact ⟨i, j, e1, e2, ⟨h.1.1, h.1.2, by omega⟩, q⟩
    · cases e3
  | shl =>
    refine OpR.imp op_shl fun x y H Q ⟨i, j, k, e1, e2, e3, q⟩ => ?_
    simp only [arith] at e3
    split at e3
    · rename_i h; cases e3; simp only [Bool.and_eq_true, decide_eq_true_eq] at h; exact ⟨i, j, e1, e2, ⟨h.1.1, h.1.2, by omega⟩, q⟩
    · cases e3
  | shr =>
    refine OpR.imp op_shr fun x y H Q ⟨i, j, k, e1, e2, e3, q⟩ => ?_
    simp only [arith] at e3
    split at e3
    · rename_i h; cases e3; exact ⟨i, j, e1, e2, of_decide_eq_true h, q⟩
    · cases e3
  | band => exact OpR.imp op_and fun x y H Q ⟨i, j, k, e1, e2, e3, q⟩ => ⟨i, j, e1, e2, by cases e3; exact q⟩
  | bor => exact OpR.imp op_or fun x y H Q ⟨i, j, k, e1, e2, e3, q⟩ => ⟨i, j, e1, e2, by cases e3; exact q⟩
  | bxor => exact OpR.imp op_xor fun x y H Q ⟨i, j, k, e1, e2, e3, q⟩ => ⟨i, j, e1, e2, by cases e3; exact q⟩
theorem no_op {f : Value → Value → Sem Value} : OpR X f (fun _ _ _ _ => False) := fun _ _ _ _ _ _ _ _ _ _ _ _ h => h.elim
/-- tuples, lists -/
def rBT (G : Pg) (o : Op2) : R2 := fun x y H Q => o = .add ∧ rCatA G.K x y H Q
def rBL (G : Pg) (o : Op2) : R2 := fun x y H Q => o = .add ∧ rCat x y H Q
def rBR (G : Pg) (o : Op2) : R2 := fun x y H Q => o = .mul ∧ rRep x y H Q
theorem op_rule (hK : X.K = G.K) (o : Op2) : OpR X (binaryOp (pyOp o)) (rB G (op2 o)) := by
  have hT : OpR X (binaryOp (pyOp o)) (rBT G o) := fun pins s σ H x y v u Q I rx ry ⟨e, q⟩ => by subst e; exact op_catA pins s σ H x y v u Q I rx ry (by rw [hK]; exact q)
  have hL : OpR X (binaryOp (pyOp o)) (rBL G o) := fun pins s σ H x y v u Q I rx ry ⟨e, q⟩ => by subst e; exact op_cat pins s σ H x y v u Q I rx ry q
  have hR : OpR X (binaryOp (pyOp o)) (rBR G o) := fun pins s σ H x y v u Q I rx ry ⟨e, q⟩ => by subst e; exact op_rep pins s σ H x y v u Q I rx ry q
  refine OpR.imp ((op_arith (G := G) o).or (hT.or (hL.or hR))) fun x y H Q ⟨s1, s2, f1, f2, s, r1, r2, e, q⟩ => ?_
  unfold op2 at e
  split at e
  · rename_i i j
    obtain ⟨k, ek, es⟩ := Option.map_eq_some_iff.mp e
    subst es
    exact .inl ⟨i, j, k, repS_int r1, repS_int r2, ek, q _ _ (NV.d rep_int)⟩
  · rename_i kl l km m
    split at e
    · rename_i h
      cases e
      simp only [Bool.and_eq_true, decide_eq_true_eq] at h
      obtain ⟨h1, h3⟩ := h
      rw [RepS, RepD] at r1 r2
      obtain ⟨a, vs, rfl, qa, z1, d1⟩ := r1
      obtain ⟨b, ws, rfl, qb, z2, d2⟩ := r2
      have hl : vs.length + ws.length ≤ sizeLine := by rw [← d1.length, ← d2.length, ← lineN_eq]; exact h3
      refine .inr (.inl ⟨h1, a, b, vs, ws, rfl, rfl, qa.sq, qb.sq, hl, fun z => q _ _ (NV.d ?_), fun nz z => q _ _ (NV.d ?_), fun nz nz2 p hp => q _ _ ?_⟩)
      · have em := (repDs_nil_iff d1).mp z
        subst em
        rw [show ([] : List D).isEmpty = true from rfl, if_pos rfl, RepD]
        exact ⟨b, ws, rfl, qb, z2, d2⟩
      · have em := (repDs_nil_iff d2).mp z
        subst em
        have ne : l.isEmpty = false := by
          cases l with
          | nil => exact absurd ((repDs_nil_iff d1).mpr rfl) nz
          | cons _ _ => rfl
        rw [ne, if_neg (by decide), show ([] : List D).isEmpty = true from rfl, if_pos rfl, RepD]
        exact ⟨a, vs, rfl, qa, z1, d1⟩
      · have ne : l.isEmpty = false := by
          cases l with
          | nil => exact absurd ((repDs_nil_iff d1).mpr rfl) nz
          | cons _ _ => rfl
        have ne2 : m.isEmpty = false := by
          cases m with
          | nil => exact absurd ((repDs_nil_iff d2).mpr rfl) nz2
          | cons _ _ => rfl
        rw [ne, if_neg (by decide), ne2, if_neg (by decide)]
        exact nv_tup hp (by rw [List.length_append]; exact hl) (d1.append d2)
    · cases e
  · rename_i l m
    split at e
    · rename_i h
      split at e
      · rename_i dl dm el em
        cases e
        simp only [Bool.and_eq_true, decide_eq_true_eq] at h
        rw [RepS] at r1 r2
        obtain ⟨a, vs, rfl, qa, fa, z1, d1⟩ := r1
        obtain ⟨b, ws, rfl, qb, fb, z2, d2⟩ := r2
        have d1' := RepSs.toD el d1
        have d2' := RepSs.toD em d2
        have hl : vs.length + ws.length ≤ sizeLine := by rw [← d1.length, ← d2.length, ← lineN_eq]; exact h.2
        exact .inr (.inr (.inl ⟨h.1, a, b, vs, ws, rfl, rfl, qa, qb, hl, fun p hp => q _ _ (nv_lst hp (by rw [List.length_append]; exact hl) (d1'.append d2'))⟩))
      · cases e
    · cases e
  · rename_i l k
    split at e
    · rename_i h
      split at e
      · rename_i dl el
        cases e
        simp only [Bool.and_eq_true, decide_eq_true_eq] at h
        obtain ⟨⟨⟨h1, h2⟩, h3⟩, h4⟩ := h
        rw [RepS] at r1
        obtain ⟨a, vs, rfl, qa, fa, z1, d1⟩ := r1
        have d1' := RepSs.toD el d1
        have hl : vs.length * k.toNat ≤ sizeLine := by rw [← d1.length, ← lineN_eq]; exact h4
        refine .inr (.inr (.inr ⟨h1, a, k, vs, rfl, repS_int r2, qa, h2, h3, hl, fun p hp => q _ _ (nv_lst hp ?_ (d1'.rep k.toNat))⟩))
        rw [List.length_flatten, List.map_replicate, List.sum_replicate_nat, Nat.mul_comm]; exact hl
      · cases e
    · cases e
  · cases e
def pyOp1 : Op1 → UnaryOp
  | .neg => .USub
  | .inv => .Invert
theorem op1B_eq {o : Op1} {op : UnaryOp} (h : op1B o op = true) : op = pyOp1 o := by
  cases o <;> cases op <;> first | rfl | exact ff h
theorem op1_rule (o : Op1) : UnR X (unaryOp (pyOp1 o)) (rU1 G (op1 o)) := by
  cases o with
  | neg =>
    refine UnR.imp un_neg fun x H Q ⟨s1, f1, s, r1, e, q⟩ => ?_
    unfold op1 at e
    split at e
    · rename_i i; cases e; exact ⟨i, repS_int r1, q _ _ (NV.d rep_int)⟩
    · cases e
  | inv =>
    refine UnR.imp un_inv fun x H Q ⟨s1, f1, s, r1, e, q⟩ => ?_
    unfold op1 at e
    split at e
    · rename_i i; cases e; exact ⟨i, repS_int r1, q _ _ (NV.d rep_int)⟩
    · cases e
end Vm
/-! VmG -/
namespace Vm
open PySem L2

variable {G : Pg} {X : Cx} {H : Hp}
mutual
theorem dp_of {K : PySem.W.Frag} : ∀ (d : D) (v : V), RepD K H d v → d.py ≠ .dict [] → PyData.canLay0 d.py = true → Dp K H v d.py
  | .non, v, h, _, _ => by rw [RepD] at h; subst h; exact .non
  | .bl b, v, h, _, _ => by rw [RepD] at h; subst h; exact .bl b
  | .int i, v, h, _, _ => by rw [RepD] at h; subst h; exact .int i
  | .str x, v, h, _, _ => by rw [RepD] at h; subst h; exact .str x
  | .tup _ l, v, h, _, c => by
    rw [RepD] at h
    obtain ⟨a, vs, rfl, q, z, r⟩ := h
    exact .tup q.sq (dps_of l vs r (by simpa only [D.py, PyData.canLay0] using c))
  | .fls l, v, h, _, c => by
    rw [RepD] at h
    obtain ⟨a, vs, o, rfl, q, z, r⟩ := h
    exact .lst (.inl (.inr ⟨o, q⟩)) (dps_of l vs r (by simpa only [D.py, PyData.canLay0] using c))
  | .fdc _ _ _, v, h, n, _ => absurd rfl n
theorem dps_of {K : PySem.W.Frag} : ∀ (l : List D) (vs : List V), RepDs K H l vs → PyData.canLayAll0 (D.pys l) = true → DpAll K H vs (D.pys l)
  | [], vs, h, _ => by rw [RepDs] at h; subst h; exact .nil
  | d :: l, vs, h, c => by
    rw [RepDs] at h
    obtain ⟨v, r, rfl, a, b⟩ := h
    have c' : PyData.canLay0 d.py = true ∧ PyData.canLayAll0 (D.pys l) = true := by simpa only [D.pys, PyData.canLayAll0, Bool.and_eq_true] using c
    refine .cons (dp_of d v a (fun e => ?_) c'.1) (dps_of l r b c'.2)
    rw [e] at c'
    exact ff c'.1
end
theorem canLay_of {d : D} (h : d.lay = true) : PyData.canLay0 d.py = true := SeqAt.canLay_of_shaped h
theorem dp_lay {K : PySem.W.Frag} {d : D} {v : V} (r : RepD K H d v) (h : d.lay = true) : Dp K H v d.py :=
  dp_of d v r (fun e => by have := canLay_of h; rw [e] at this; exact ff this) (canLay_of h)
/-- flat values -/
theorem flat_rep {K : PySem.W.Frag} {d : D} {v : V} (r : RepD K H d v) (h : d.flat = true) : flatV v = true ∧ ∀ e u, RepD K H e u → e.flat = true → eqV v u = D.feq d e := by
  cases d <;> first | exact ff h | skip
  all_goals (rw [RepD] at r; subst r)
  all_goals refine ⟨rfl, fun e u r2 h2 => ?_⟩
  all_goals (cases e <;> first | exact ff h2 | skip)
  all_goals (rw [RepD] at r2; subst r2; rfl)
theorem flats_rep {K : PySem.W.Frag} : ∀ {l : List D} {vs : List V}, RepDs K H l vs → l.all D.flat = true → vs.all flatV = true ∧ ∀ x v, RepD K H x v → x.flat = true → inV v vs = l.any fun y => D.feq y x
  | [], vs, r, h => by rw [RepDs] at r; subst r; exact ⟨rfl, fun _ _ _ _ => rfl⟩
  | d :: l, vs, r, h => by
    rw [RepDs] at r
    obtain ⟨v, ws, rfl, a, b⟩ := r
    rw [List.all_cons, Bool.and_eq_true] at h
    obtain ⟨h1, h2⟩ := flat_rep a h.1
    obtain ⟨h3, h4⟩ := flats_rep b h.2
    refine ⟨by rw [List.all_cons, h1, h3]; rfl, fun x u rx hx => ?_⟩
    show (eqV v u || ws.any fun y => eqV y u) = _
    rw [h2 x u rx hx, List.any_cons]
    exact congrArg _ (h4 x u rx hx)

def rEq2 (G : Pg) : R2 := fun x y H Q => ∃ a b c, RepD G.K H a x ∧ RepD G.K H b y ∧ eqD a b = some c ∧ Q (.bl c) H
def rNe2 (G : Pg) : R2 := fun x y H Q => ∃ a b c, RepD G.K H a x ∧ RepD G.K H b y ∧ eqD a b = some c ∧ Q (.bl (!c)) H
theorem eq_core {K : PySem.W.Frag} {a b : D} {x y : V} {c : Bool} (r1 : RepD K H a x) (r2 : RepD K H b y) (e : eqD a b = some c) :
    (scal x y = true ∧ decide (x = y) = c) ∨ ∃ d e, Dp K H x d ∧ Dp K H y e ∧ SeqAt.shaped d = true ∧ SeqAt.shaped e = true ∧ PyData.eqv d e = c := by
  unfold eqD at e
  split at e
  · rename_i h
    rw [Bool.and_eq_true] at h
    cases e
    cases a <;> first | exact ff h.1 | skip
    all_goals (cases b <;> first | exact ff h.2 | skip)
    all_goals (rw [RepD] at r1; rw [RepD] at r2; subst r1; subst r2)
    all_goals first
      | exact .inl ⟨rfl, dec_int⟩
      | exact .inl ⟨rfl, dec_bl⟩
      | exact .inl ⟨rfl, dec_str⟩
      | exact .inl ⟨rfl, decide_eq_true rfl⟩
      | exact .inl ⟨rfl, decide_eq_false (fun z => nomatch z)⟩
      | exact .inr ⟨_, _, .bl _, .int _, rfl, rfl, rfl⟩
      | exact .inr ⟨_, _, .int _, .bl _, rfl, rfl, rfl⟩
  · split at e
    · rename_i h
      rw [Bool.and_eq_true] at h
      cases e
      exact .inr ⟨_, _, dp_lay r1 h.1, dp_lay r2 h.2, h.1, h.2, rfl⟩
    · cases e
theorem eq_rule (hK : X.K = G.K) (hu : X.A.units + 64 < cLine) : OpR X (compareOp .Eq) (rEq2 G) := by
  refine OpR.imp (op_eq.or (op_eqD hu)) fun x y H Q ⟨a, b, c, r1, r2, e, q⟩ => ?_
  rcases eq_core r1 r2 e with ⟨h1, h2⟩ | ⟨d, e', h1, h2, h3, h4, h5⟩
  · exact .inl ⟨h1, by rw [h2]; exact q⟩
  · exact .inr ⟨d, e', by rw [hK]; exact h1, by rw [hK]; exact h2, h3, h4, by rw [h5]; exact q⟩
theorem ne_rule (hK : X.K = G.K) (hu : X.A.units + 64 < cLine) : OpR X (compareOp .NotEq) (rNe2 G) := by
  refine OpR.imp (op_ne.or (op_neD hu)) fun x y H Q ⟨a, b, c, r1, r2, e, q⟩ => ?_
  rcases eq_core r1 r2 e with ⟨h1, h2⟩ | ⟨d, e', h1, h2, h3, h4, h5⟩
  · exact .inl ⟨h1, by rw [h2]; exact q⟩
  · exact .inr ⟨d, e', by rw [hK]; exact h1, by rw [hK]; exact h2, h3, h4, by rw [h5]; exact q⟩

def rIs2 (G : Pg) (neg : Bool) : R2 := fun x y H Q => ∃ a c, RepD G.K H a x ∧ ((y = .non ∧ c = a.isNon) ∨ ∃ b, y = .bl b ∧ c = (a.isBl b)) ∧ Q (.bl (if neg then !c else c)) H
theorem is_core {K : PySem.W.Frag} {a : D} {x : V} {v : Value} (r : RepD K H a x) (rv : RelV x v) : (∀ u, (u = Value.none ∨ ∃ b, u = Value.bool b) → plainIs v u = true) ∧ (v == Value.none) = a.isNon ∧ ∀ b, (v == Value.bool b) = (a.isBl b) := by
  cases a
  · rw [RepD] at r; subst r; cases rv
    exact ⟨fun u h => by rcases h with rfl | ⟨b, rfl⟩ <;> rfl, rfl, fun b => rfl⟩
  · rw [RepD] at r; subst r; cases rv
    exact ⟨fun u h => by rcases h with rfl | ⟨b, rfl⟩ <;> rfl, rfl, fun b => by show _ = (_ == b); rw [Bool.eq_iff_iff]; simp⟩
  · rw [RepD] at r; subst r; obtain ⟨t, rfl⟩ := rv
    exact ⟨fun u h => by rcases h with rfl | ⟨b, rfl⟩ <;> rfl, rfl, fun b => rfl⟩
  · rw [RepD] at r; subst r; obtain ⟨t, rfl⟩ := rv
    exact ⟨fun u h => by rcases h with rfl | ⟨b, rfl⟩ <;> rfl, rfl, fun b => rfl⟩
  · rw [RepD] at r; obtain ⟨a, vs, rfl, _⟩ := r; cases rv
    exact ⟨fun u h => by rcases h with rfl | ⟨b, rfl⟩ <;> rfl, rfl, fun b => rfl⟩
  · rw [RepD] at r; obtain ⟨a, vs, o, rfl, _⟩ := r; cases rv
    exact ⟨fun u h => by rcases h with rfl | ⟨b, rfl⟩ <;> rfl, rfl, fun b => rfl⟩
  · rw [RepD] at r; obtain ⟨a, u, ws, o, rfl, _⟩ := r; cases rv
    exact ⟨fun u h => by rcases h with rfl | ⟨b, rfl⟩ <;> rfl, rfl, fun b => rfl⟩
theorem is_rule : OpR X (compareOp .Is) (rIs2 G false) := by
  intro pins s σ H x y v u Q I rx ry ⟨a, c, r, h, q⟩
  obtain ⟨h1, h2, h3⟩ := is_core r rx
  rcases h with ⟨rfl, e⟩ | ⟨b, rfl, e⟩
  · cases ry
    exact wpAny_is_plain (h1 _ (.inl rfl)) ⟨.bl c, H, I, by rw [h2, ← e]; rfl, q⟩
  · cases ry
    exact wpAny_is_plain (h1 _ (.inr ⟨b, rfl⟩)) ⟨.bl c, H, I, by rw [h3, ← e]; rfl, q⟩
theorem nis_rule : OpR X (compareOp .IsNot) (rIs2 G true) := by
  intro pins s σ H x y v u Q I rx ry ⟨a, c, r, h, q⟩
  obtain ⟨h1, h2, h3⟩ := is_core r rx
  rcases h with ⟨rfl, e⟩ | ⟨b, rfl, e⟩
  · cases ry
    exact wpAny_isNot_plain (h1 _ (.inl rfl)) ⟨.bl (!c), H, I, by rw [h2, ← e]; rfl, q⟩
  · cases ry
    exact wpAny_isNot_plain (h1 _ (.inr ⟨b, rfl⟩)) ⟨.bl (!c), H, I, by rw [h3, ← e]; rfl, q⟩

theorem keyD_V {K : PySem.W.Frag} {d : D} {v : V} {k : Key} (r : RepD K H d v) (e : keyD d = some k) : v = kV k := by
  cases d <;> first | (cases e; done) | skip
  all_goals (cases e; rw [RepD] at r; exact r)
theorem mapM_key {K : PySem.W.Frag} : ∀ {l : List D} {ks : List Key} {vs : List V}, l.mapM keyD = some ks → RepDs K H l vs → vs = ks.map kV
  | [], ks, vs, e, r => by
    rw [RepDs] at r; subst r
    simp at e; subst e; rfl
  | d :: l, ks, vs, e, r => by
    rw [RepDs] at r
    obtain ⟨v, ws, rfl, a, b⟩ := r
    rw [List.mapM_cons] at e
    cases e1 : keyD d with
    | none => rw [e1] at e; cases e
    | some k =>
      rw [e1] at e
      cases e2 : l.mapM keyD with
      | none => rw [e2] at e; cases e
      | some js =>
        rw [e2] at e; cases e
        rw [keyD_V a e1, mapM_key e2 b]; rfl
theorem keysD_V {K : PySem.W.Frag} {d : D} {v : V} {k : List Key} (r : RepD K H d v) (e : keysD d = some k) : ∃ b, v = .ref b ∧ H b = some (.tup (k.map kV)) := by
  cases d <;> first | (cases e; done) | skip
  rename_i t l
  cases t with
  | false => cases e
  | true =>
    rw [RepD] at r
    obtain ⟨a, vs, rfl, q, z, r⟩ := r
    have q : H a = some (.tup vs) := q
    exact ⟨a, rfl, by rw [q, mapM_key e r]⟩
theorem isKey_ft {k : D} (h : k.isKey false = true) : ∃ κ, keyD k = some κ := by
  cases k <;> first | exact ff h | exact ⟨_, rfl⟩
theorem keys_all : ∀ {l : List D}, (l.all fun d => match d with | .int _ => true | .str _ => true | _ => false) = true → ∃ ks, l.mapM keyD = some ks
  | [], _ => ⟨[], rfl⟩
  | d :: l, h => by
    rw [List.all_cons, Bool.and_eq_true] at h
    obtain ⟨ks, e⟩ := keys_all h.2
    cases d <;> first | exact ff h.1 | skip
    all_goals exact ⟨_ :: ks, by rw [List.mapM_cons, e]; rfl⟩
theorem isKey_tt {k : D} (h : k.isKey true = true) : ∃ κ, keysD k = some κ := by
  cases k <;> first | exact ff h | skip
  rename_i t l
  cases t with
  | false => exact ff h
  | true => exact keys_all h
theorem same_key {a b : D} {x y : Key} (ha : keyD a = some x) (hb : keyD b = some y) : D.same a b = decide (x = y) := by
  cases a <;> first | (cases ha; done) | skip
  all_goals (cases b <;> first | (cases hb; done) | skip)
  all_goals (cases ha; cases hb; simp only [D.same])
  · rw [key_ll]
  · rw [key_lr]
  · rw [key_rl]
  · rw [key_rr]; rename_i p q; by_cases h : p = q <;> simp [h]
theorem same_keys : ∀ {l m : List D} {x y : List Key}, l.mapM keyD = some x → m.mapM keyD = some y → D.sames l m = decide (x = y)
  | [], m, x, y, ha, hb => by
    simp at ha; subst ha
    cases m with
    | nil => simp at hb; subst hb; rfl
    | cons d m =>
      rw [List.mapM_cons] at hb
      cases e1 : keyD d with
      | none => rw [e1] at hb; cases hb
      | some k =>
        rw [e1] at hb
        cases e2 : m.mapM keyD with
        | none => rw [e2] at hb; cases hb
        | some js => rw [e2] at hb; cases hb; rfl
  | d :: l, m, x, y, ha, hb => by
    rw [List.mapM_cons] at ha
    cases e1 : keyD d with
    | none => rw [e1] at ha; cases ha
    | some k =>
      rw [e1] at ha
      cases e2 : l.mapM keyD with
      | none => rw [e2] at ha; cases ha
      | some ks =>
        rw [e2] at ha; cases ha
        cases m with
        | nil => simp at hb; subst hb; rfl
        | cons f m =>
          rw [List.mapM_cons] at hb
          cases e3 : keyD f with
          | none => rw [e3] at hb; cases hb
          | some j =>
            rw [e3] at hb
            cases e4 : m.mapM keyD with
            | none => rw [e4] at hb; cases hb
            | some js =>
              rw [e4] at hb; cases hb
              show (D.same d f && D.sames l m) = decide ((k :: ks : List Key) = j :: js)
              rw [same_key e1 e3, same_keys e2 e4]
              by_cases h1 : k = j <;> by_cases h2 : ks = js <;> simp [h1, h2]
theorem same_tup {a b : D} {x y : List Key} (ha : keysD a = some x) (hb : keysD b = some y) : D.same a b = decide (x = y) := by
  cases a <;> first | (cases ha; done) | skip
  cases b <;> first | (cases hb; done) | skip
  rename_i t l u m
  cases t with
  | false => cases ha
  | true =>
    cases u with
    | false => cases hb
    | true => exact same_keys ha hb
theorem dget_val {κ : Type} [DecidableEq κ] {K : PySem.W.Frag} {kd : D → Option κ} {k : D} {q : κ} (hs : ∀ d κ', kd d = some κ' → D.same d k = decide (κ' = q)) : ∀ {l : List (D × D)} {kvs : List (κ × V)},
    (kvs.map fun p => some p.1) = (l.map (·.1)).map kd → RepDs K H (l.map (·.2)) (kvs.map (·.2)) → (dget l k = none ∧ valV kvs q = none) ∨ ∃ d v, dget l k = some d ∧ valV kvs q = some v ∧ RepD K H d v
  | [], kvs, h1, h2 => by
    cases kvs with
    | nil => exact .inl ⟨rfl, rfl⟩
    | cons p r => simp at h1
  | (a, b) :: l, kvs, h1, h2 => by
    cases kvs with
    | nil => simp at h1
    | cons p r =>
      obtain ⟨p1, p2⟩ := p
      simp only [List.map_cons, List.cons.injEq] at h1
      rw [List.map_cons, List.map_cons, RepDs] at h2
      obtain ⟨v, ws, ev, ra, rb⟩ := h2
      simp only [List.cons.injEq] at ev
      obtain ⟨rfl, rfl⟩ := ev
      have sm := hs a p1 h1.1.symm
      by_cases hq : p1 = q
      · refine .inr ⟨b, p2, ?_, valV_pos hq, ra⟩
        unfold dget
        rw [List.find?_cons, sm, decide_eq_true hq]; rfl
      · have e1 : dget ((a, b) :: l) k = dget l k := by
          unfold dget
          rw [List.find?_cons, sm, decide_eq_false hq]
        rw [e1, valV_neg hq]
        exact dget_val hs h1.2 rb
/-- a dict's look-up -/
theorem dget_rep {K : PySem.W.Frag} {t : Bool} {l : List (D × D)} {ws : List V} {u : HO} {a : Addr} {k : D} {vk : V} (hk : DKeys t (l.map (·.1)) ws u) (hv : RepDs K H (l.map (·.2)) ws) (ha : Rd H a u) (ik : k.isKey t = true) (rk : RepD K H k vk) :
    (dget l k = none ∧ DGet H a vk none) ∨ ∃ d v, dget l k = some d ∧ DGet H a vk (some v) ∧ RepD K H d v := by
  cases t with
  | false =>
    obtain ⟨kvs, rfl, h1, rfl⟩ := hk
    obtain ⟨κ, e⟩ := isKey_ft ik
    have ev := keyD_V rk e
    rcases dget_val (kd := keyD) (k := k) (q := κ) (fun d κ' hd => same_key hd e) h1 hv with ⟨g1, g2⟩ | ⟨d, v, g1, g2, g3⟩
    · exact .inl ⟨g1, .inl ⟨kvs, κ, ha, ev, g2.symm⟩⟩
    · exact .inr ⟨d, v, g1, .inl ⟨kvs, κ, ha, ev, g2.symm⟩, g3⟩
  | true =>
    obtain ⟨kvs, rfl, h1, rfl⟩ := hk
    obtain ⟨κ, e⟩ := isKey_tt ik
    obtain ⟨b, ev, hb⟩ := keysD_V rk e
    rcases dget_val (kd := keysD) (k := k) (q := κ) (fun d κ' hd => same_tup hd e) h1 hv with ⟨g1, g2⟩ | ⟨d, v, g1, g2, g3⟩
    · exact .inl ⟨g1, .inr ⟨kvs, κ, b, ha, ev, hb, g2.symm⟩⟩
    · exact .inr ⟨d, v, g1, .inr ⟨kvs, κ, b, ha, ev, hb, g2.symm⟩, g3⟩
theorem fst_zip {α β : Type} : ∀ {l : List α} {m : List β}, l.length = m.length → (l.zip m).map (·.1) = l
  | [], m, _ => by cases m <;> rfl
  | a :: l, m, h => by
    cases m with
    | nil => simp at h
    | cons b m => simp only [List.zip_cons_cons, List.map_cons]; rw [fst_zip (by simpa using h)]
theorem snd_zip {α β : Type} : ∀ {l : List α} {m : List β}, l.length = m.length → (l.zip m).map (·.2) = m
  | [], m, h => by cases m with | nil => rfl | cons b m => simp at h
  | a :: l, m, h => by
    cases m with
    | nil => simp at h
    | cons b m => simp only [List.zip_cons_cons, List.map_cons]; rw [snd_zip (by simpa using h)]
/-- what dictD tells, in the heap -/
theorem dictD_rep {s : S} {v : V} {f : Fp} {t : Bool} {l : List (D × D)} (r : RepS G H s v f) (e : dictD s = some (t, l)) : ∃ a u ws, v = .ref a ∧ Rd H a u ∧ DKeys t (l.map (·.1)) ws u ∧ RepDs G.K H (l.map (·.2)) ws := by
  unfold dictD at e
  split at e
  · cases e
    rw [RepS] at r
    obtain ⟨a, u, ws, e, q, fa, x, r⟩ := r
    exact ⟨a, u, ws, e, .inl q, x, r⟩
  · cases e
    rw [RepS, RepD] at r
    obtain ⟨a, u, ws, o, e, q, x, z, r⟩ := r
    exact ⟨a, u, ws, e, .inr ⟨o, q⟩, by rw [fst_zip z]; exact x, by rw [snd_zip z]; exact r⟩
  · cases e
theorem seqD_rep {s : S} {v : V} {f : Fp} {l : List D} (r : RepS G H s v f) (e : seqD s = some l) : ∃ a vs, v = .ref a ∧ (SqL G.K H a vs ∨ SqT G.K H a vs) ∧ vs.length ≤ sizeLine ∧ RepDs G.K H l vs := by
  unfold seqD at e
  split at e
  · cases e
    rw [RepS, RepD] at r
    obtain ⟨a, vs, e, q, z, r⟩ := r
    exact ⟨a, vs, e, .inr q.sq, z, r⟩
  · cases e
    rw [RepS, RepD] at r
    obtain ⟨a, vs, o, e, q, z, r⟩ := r
    exact ⟨a, vs, e, .inl (.inl (.inr ⟨o, q⟩)), z, r⟩
  · rw [RepS] at r
    obtain ⟨a, vs, e1, q, fa, z, r⟩ := r
    exact ⟨a, vs, e1, .inl (SqL.of q), z, RepSs.toD e r⟩
  · cases e

def rInD (G : Pg) (neg : Bool) : R2 := fun x y H Q => ∃ a s f c, RepD G.K H a x ∧ RepS G H s y f ∧ inD a s = some c ∧ Q (.bl (if neg then !c else c)) H
def rDIn (neg : Bool) : R2 := fun x y H Q => ∃ a o, y = .ref a ∧ DGet H a x o ∧ Q (.bl (if neg then !o.isSome else o.isSome)) H
theorem op_din (hu : X.A.units + 64 < cLine) : OpR X (compareOp .In) (rDIn false) := by
  intro pins s σ H x y v u Q I rx ry ⟨a, o, e, g, q⟩
  subst e
  cases (show u = Value.ref a from ry)
  exact d_in (by omega) I g rx fun s' I' => ⟨.bl _, H, I', rfl, q⟩
theorem op_dnin (hu : X.A.units + 64 < cLine) : OpR X (compareOp .NotIn) (rDIn true) := by
  intro pins s σ H x y v u Q I rx ry ⟨a, o, e, g, q⟩
  subst e
  cases (show u = Value.ref a from ry)
  exact d_notIn (by omega) I g rx fun s' I' => ⟨.bl _, H, I', rfl, q⟩
theorem in_core {a : D} {s : S} {x y : V} {f : Fp} {c : Bool} (r1 : RepD G.K H a x) (r2 : RepS G H s y f) (e : inD a s = some c) :
    (∃ p xs, y = .ref p ∧ (SqL G.K H p xs ∨ SqT G.K H p xs) ∧ flatV x = true ∧ xs.all flatV = true ∧ inV x xs = c) ∨ ∃ p o, y = .ref p ∧ DGet H p x o ∧ o.isSome = c := by
  unfold inD at e
  split at e
  · rename_i l el
    split at e
    · rename_i h
      rw [Bool.and_eq_true] at h
      cases e
      obtain ⟨p, vs, ep, q, z, r⟩ := seqD_rep r2 el
      obtain ⟨h1, h2⟩ := flats_rep r h.2
      exact .inl ⟨p, vs, ep, q, (flat_rep r1 h.1).1, h1, h2 a x r1 h.1⟩
    · cases e
  · split at e
    · rename_i t l el
      split at e
      · rename_i h
        cases e
        obtain ⟨p, u, ws, ep, q, h1, h2⟩ := dictD_rep r2 el
        rcases dget_rep h1 h2 q h r1 with ⟨g1, g2⟩ | ⟨d, v, g1, g2, g3⟩
        · exact .inr ⟨p, none, ep, g2, by rw [g1]; rfl⟩
        · exact .inr ⟨p, some v, ep, g2, by rw [g1]; rfl⟩
      · cases e
    · cases e
theorem in_rule (hK : X.K = G.K) (hu : X.A.units + 64 < cLine) : OpR X (compareOp .In) (rInD G false) := by
  refine OpR.imp (op_in_seq.or (op_din hu)) fun x y H Q ⟨a, s, f, c, r1, r2, e, q⟩ => ?_
  rcases in_core r1 r2 e with ⟨p, xs, h1, h2, h3, h4, h5⟩ | ⟨p, o, h1, h2, h3⟩
  · exact .inl ⟨p, xs, h1, by rw [hK]; exact h2, h3, h4, by rw [h5]; exact q⟩
  · exact .inr ⟨p, o, h1, h2, by rw [h3]; exact q⟩
theorem nin_rule (hK : X.K = G.K) (hu : X.A.units + 64 < cLine) : OpR X (compareOp .NotIn) (rInD G true) := by
  refine OpR.imp (op_notIn_seq.or (op_dnin hu)) fun x y H Q ⟨a, s, f, c, r1, r2, e, q⟩ => ?_
  rcases in_core r1 r2 e with ⟨p, xs, h1, h2, h3, h4, h5⟩ | ⟨p, o, h1, h2, h3⟩
  · exact .inl ⟨p, xs, h1, by rw [hK]; exact h2, h3, h4, by rw [h5]; exact q⟩
  · exact .inr ⟨p, o, h1, h2, by rw [h3]; exact q⟩

def pyCm : Cm → CmpOp
  | .lt => .Lt
  | .le => .LtE
  | .gt => .Gt
  | .ge => .GtE
  | .eq => .Eq
  | .ne => .NotEq
  | .is => .Is
  | .nis => .IsNot
  | .inn => .In
  | .nin => .NotIn
theorem cmB_eq {o : Cm} {op : CmpOp} (h : cmB o op = true) : op = pyCm o := by
  cases o <;> cases op <;> first | rfl | exact ff h
/-- the answer is a bool; no heap is touched -/
def rCm (G : Pg) (o : Cm) : R2 := fun x y H Q => ∃ s1 s2 f1 f2 c, RepS G H s1 x f1 ∧ RepS G H s2 y f2 ∧ cmpV o s1 s2 = some c ∧ Q (.bl c) H
theorem ints_cmp {o : Cm} {x y : V} {s1 s2 : S} {f1 f2 : Fp} {c : Bool} (r1 : RepS G H s1 x f1) (r2 : RepS G H s2 y f2) (e : cmpInts o s1 s2 = some c) : ∃ i j, x = .int i ∧ y = .int j ∧ cmpI o i j = some c := by
  unfold cmpInts at e
  split at e
  · exact ⟨_, _, repS_int r1, repS_int r2, e⟩
  · cases e
theorem cm_rule (hK : X.K = G.K) (hu : X.A.units + 64 < cLine) (o : Cm) : OpR X (compareOp (pyCm o)) (rCm G o) := by
  cases o with
  | lt =>
    refine OpR.imp op_lt fun x y H Q ⟨s1, s2, f1, f2, c, r1, r2, e, q⟩ => ?_
    obtain ⟨i, j, e1, e2, e3⟩ := ints_cmp r1 r2 e
    exact ⟨i, j, e1, e2, by cases e3; exact q⟩
  | le =>
    refine OpR.imp op_le fun x y H Q ⟨s1, s2, f1, f2, c, r1, r2, e, q⟩ => ?_
    obtain ⟨i, j, e1, e2, e3⟩ := ints_cmp r1 r2 e
    exact ⟨i, j, e1, e2, by cases e3; exact q⟩
  | gt =>
    refine OpR.imp op_gt fun x y H Q ⟨s1, s2, f1, f2, c, r1, r2, e, q⟩ => ?_
    obtain ⟨i, j, e1, e2, e3⟩ := ints_cmp r1 r2 e
    exact ⟨i, j, e1, e2, by cases e3; exact q⟩
  | ge =>
    refine OpR.imp op_ge fun x y H Q ⟨s1, s2, f1, f2, c, r1, r2, e, q⟩ => ?_
    obtain ⟨i, j, e1, e2, e3⟩ := ints_cmp r1 r2 e
    exact ⟨i, j, e1, e2, by cases e3; exact q⟩
  | eq =>
    refine OpR.imp (eq_rule hK hu) fun x y H Q ⟨s1, s2, f1, f2, c, r1, r2, e, q⟩ => ?_
    simp only [cmpV] at e
    split at e
    · rename_i a b; rw [RepS] at r1 r2; exact ⟨a, b, c, r1, r2, e, q⟩
    · cases e
  | ne =>
    refine OpR.imp (ne_rule hK hu) fun x y H Q ⟨s1, s2, f1, f2, c, r1, r2, e, q⟩ => ?_
    simp only [cmpV] at e
    split at e
    · rename_i a b
      rw [RepS] at r1 r2
      obtain ⟨c', e1, e2⟩ := Option.map_eq_some_iff.mp e
      exact ⟨a, b, c', r1, r2, e1, by rw [show (!c') = c from e2]; exact q⟩
    · cases e
  | is =>
    refine OpR.imp (is_rule (G := G)) fun x y H Q ⟨s1, s2, f1, f2, c, r1, r2, e, q⟩ => ?_
    simp only [cmpV] at e
    split at e
    · rename_i a
      cases e
      rw [RepS] at r1 r2; rw [RepD] at r2
      exact ⟨a, _, r1, .inl ⟨r2, rfl⟩, q⟩
    · rename_i a b
      cases e
      rw [RepS] at r1 r2; rw [RepD] at r2
      exact ⟨a, _, r1, .inr ⟨b, r2, rfl⟩, q⟩
    · cases e
  | nis =>
    refine OpR.imp (nis_rule (G := G)) fun x y H Q ⟨s1, s2, f1, f2, c, r1, r2, e, q⟩ => ?_
    simp only [cmpV] at e
    split at e
    · rename_i a
      cases e
      rw [RepS] at r1 r2; rw [RepD] at r2
      exact ⟨a, _, r1, .inl ⟨r2, rfl⟩, q⟩
    · cases e
  | inn =>
    refine OpR.imp (in_rule hK hu) fun x y H Q ⟨s1, s2, f1, f2, c, r1, r2, e, q⟩ => ?_
    simp only [cmpV] at e
    split at e
    · rename_i a; rw [RepS] at r1; exact ⟨a, s2, f2, c, r1, r2, e, q⟩
    · cases e
  | nin =>
    refine OpR.imp (nin_rule hK hu) fun x y H Q ⟨s1, s2, f1, f2, c, r1, r2, e, q⟩ => ?_
    simp only [cmpV] at e
    split at e
    · rename_i a
      rw [RepS] at r1
      obtain ⟨c', e1, e2⟩ := Option.map_eq_some_iff.mp e
      exact ⟨a, s2, f2, c', r1, r2, e1, by rw [show (if true = true then !c' else c') = c from e2]; exact q⟩
    · cases e
end Vm
/-! Vo0 -/
set_option maxHeartbeats 1000000
namespace Vm
open PySem PySem.Spec PyProof.Rows L2

/-- the keys' pairs -/
def rSortKT : List V → Hp → VK → Prop := fun xs H Q => ∃ (d : Addr) (kvs : List (List Key × V)) (k : V → Int × Int), xs = [V.ref d] ∧ Rd H d (.dT kvs) ∧ (∀ bs, IsKeys H kvs bs → ∀ b ∈ bs, H b = some (.tup [.int (k (.ref b)).1, .int (k (.ref b)).2])) ∧
  ∀ (zs : List V) (bs : List Addr) (p : Addr), IsKeys H kvs bs → SrtO.Srtd (ltP k) zs → SrtO.Stb (ltP k) zs (bs.map V.ref) → zs.length ≤ sizeLine → H p = none → Q (.ref p) (upd H p (.lst zs))
theorem collected {P : Program} {w : World} {es : Array DictEntry} {ks : List (List Key × Addr × Value)} {acc : Array Value} (he : es.toList = ks.map (entryOfKey (tupleKind (mixKind P w)))) (it : ItemsOf (fun i v => ∃ en : DictEntry, es[i]? = some en ∧ v = en.key) acc es.size) : acc.toList = (ks.map fun x => x.2.1).map Value.ref := by
  have n1 : acc.toList.length = ks.length := by rw [Array.length_toList, it.1, size_of_entries he]
  refine List.ext_getElem (by rw [n1, List.length_map, List.length_map]) fun j h1 h2 => ?_
  have hj : j < ks.length := by omega
  obtain ⟨en, e1, e2⟩ := it.2 j acc.toList[j] (by rw [← Array.getElem?_toList]; exact List.getElem?_eq_getElem h1)
  rw [entry_at he j, List.getElem?_eq_getElem hj] at e1
  simp only [Option.map_some, Option.some.injEq] at e1
  rw [e2, ← e1, List.getElem_map, List.getElem_map]
  rfl
theorem call_sortKT {X : Cx} (calm : X.calm = true) : CallR X (.builtin "sorted") rSortKT := by
  rintro pins s σ H _ us Q I r ⟨d, kvs, k, rfl, rd, hk, q⟩
  obtain ⟨_, rfl, ru⟩ := vals1 r
  cases ru
  obtain ⟨few, lo, ks, pr, o, es, ep, ho, ex, hdt, he, nd⟩ := (show ObjOk X.prog X.w H s.heap d (.dT kvs) from rd.ok I.hok)
  have n1 : es.size = ks.length := size_of_entries he
  have n2 : kvs.length = ks.length := Paired.length pr
  -- the keys, collected
  apply Calls.call_function_entry kind_sorted plain_sorted entry_sorted (args_sorted1 _)
  unfold Builtin.«sorted»
  apply wpAny_bind
  show wpAny _ _ (pure _) _ _ _
  apply wpAny_pure
  apply wpAny_bind
  refine PySem.W.kdu_collect (A := X.A.in1) (kdl_raw lo ex hdt) (I.ok.hd calm) ho (by omega) fun h1 tk acc keep items => ?_
  have all := collected he items
  have keys := isKeys_of pr
  obtain ⟨bs, hbs⟩ : ∃ bs : List Addr, bs = ks.map fun x => x.2.1 := ⟨_, rfl⟩
  rw [← hbs] at all keys
  have len : acc.toList.length ≤ sizeLine := by rw [all, hbs, List.length_map, List.length_map]; omega
  have I1 : Inv X pins σ H { s with heap := h1, toks := tk } := I.kept keep
  -- the list made, sorted in its place
  apply wpAny_bind
  refine wpAny_newList ?_ len
  obtain ⟨L, hL⟩ : ∃ L, L = h1.objs.size := ⟨_, rfl⟩
  have at1 : (h1.push (seqObj "list" acc.toList.toArray 0)).get? L = some (seqObj "list" acc.toList.toArray 0) := by rw [hL]; exact Heap.get?_push_size _ rfl
  have pair : ∀ v ∈ acc.toList, Srt.IsPair (h1.push (seqObj "list" acc.toList.toArray 0)) v (k (backV v)).1 (k (backV v)).2 := fun v hv => by
    rw [all] at hv
    obtain ⟨b, hb, rfl⟩ := List.mem_map.mp hv
    obtain ⟨_, its2, r2, ob, e1, e2, n, e3⟩ := I1.hok _ _ (hk bs keys b hb)
    obtain ⟨u1, u2, rfl, ri, rj⟩ := vals2 r2
    obtain ⟨t1, rfl⟩ := ri
    obtain ⟨t2, rfl⟩ := rj
    exact ⟨b, ob, t1, t2, n, rfl, Heap.get?_push_of_some _ e1, e2, e3⟩
  apply wpAny_bind
  apply wpAny_holding
  subst hL
  show wpAny _ _ _ _ _ { s with heap := h1.push (seqObj "list" acc.toList.toArray 0), toks := tk }
  refine wpAny_call_entry slot_list_sort ⟨_, at1, rfl⟩ entry_list_sort (SrtO.list_sort_ord (SrtO.swo_lex fun u => k (backV u)) at1 len (fun h2 => SrtO.pairs_sortableO (by omega) pair fun ob e => ?_) fun out g1 g2 => ⟨_, rfl, ?_⟩) (args_list_sort _)
  · have : ob = seqObj "list" acc.toList.toArray 0 := Option.some.inj (e.symm.trans at1)
    rw [this]
    intro c
    exact absurd (Value.type.inj c) (by decide)
  · have r3 : ∀ u ∈ out, ∃ a, u = Value.ref a := fun u hu => by
      have := g2.perm.mem_iff.mp hu
      rw [all] at this
      obtain ⟨b, _, rfl⟩ := List.mem_map.mp this
      exact ⟨b, rfl⟩
    obtain ⟨n, e4⟩ := sortedHeap_at (vs := acc.toList) (out := out.toArray) at1
    have back : acc.toList.map backV = bs.map V.ref := by rw [all, List.map_map]; rfl
    have stb : SrtO.Stb (ltP k) (out.map backV) (bs.map V.ref) := by rw [← back]; exact SrtO.Stb.map (ltP_swo k) backV g2
    have lenO : (out.map backV).length ≤ sizeLine := by rw [List.length_map, g2.perm.length_eq]; exact len
    have fr : H h1.objs.size = none := I1.hok.fresh (Nat.le_refl _)
    refine wpAny_pure ⟨_, rfl, .ref h1.objs.size, upd H h1.objs.size (.lst (out.map backV)), I1.laid (t' := tk) (fun b u e => ?_) (Nat.le_refl _) ⟨lenO, out, n, vals_back r3, e4⟩, rfl, q _ bs _ keys (SrtO.srtd_map g1) stb lenO fr⟩
    have lt : b < h1.objs.size := Heap.lt_size e
    rw [sortedHeap_old (Nat.ne_of_lt lt) (Nat.lt_of_lt_of_le lt (by rw [Heap.size_push]; exact Nat.le_succ _))]
    exact Heap.get?_push_of_some _ e
end Vm
/-! VmH -/
namespace Vm
open PySem L2

variable {G : Pg} {X : Cx} {H : Hp}
def rGet (G : Pg) : R2 := fun x y H Q => ∃ s1 k f s, RepS G H s1 x f ∧ RepD G.K H k y ∧ getIx s1 (.v k) = some s ∧ ∀ v g, (∀ a, g a → f a) → RepS G H s v g → Q v H
def rDG : R2 := fun x y H Q => ∃ a v, x = .ref a ∧ DGet H a y (some v) ∧ Q v H
theorem ix_dict (hu : X.A.units + 64 < cLine) : IxR X rDG := by
  intro value slice pins s σ H x y v u Q I rx ry ⟨a, w, e, g, q⟩ hs
  subst e
  cases (show v = Value.ref a from rx)
  exact PyProof.Rows.tail_any (dict_typeIs I g) PySem.F.slot_dict_getitem.lookup (d_getItem (by omega) I g ry fun w' s3 I3 rw' => ⟨w, H, I3, rw', q⟩) hs
theorem IxR.imp {r r' : R2} (h : IxR X r) (i : ∀ x y H Q, r' x y H Q → r x y H Q) : IxR X r' :=
  fun value slice pins s σ H x y v u Q I rx ry q => h value slice pins s σ H x y v u Q I rx ry (i x y H Q q)
theorem atI_rep {K : PySem.W.Frag} {l : List D} {vs : List V} {i : Int} {d : D} (r : RepDs K H l vs) (e : atI l i = some d) : ∃ v, atI vs i = some v ∧ RepD K H d v := by
  unfold atI at e ⊢
  rw [← r.length]
  cases z : ixN l.length i with
  | none => rw [z] at e; cases e
  | some j => rw [z] at e; exact r.get e
theorem atI_repS {l : List S} {vs : List V} {f : Fp} {i : Int} {s : S} (r : RepSs G H l vs f) (e : atI l i = some s) : ∃ v, atI vs i = some v ∧ RepS G H s v f := by
  unfold atI at e ⊢
  rw [← r.length]
  cases z : ixN l.length i with
  | none => rw [z] at e; cases e
  | some j => rw [z] at e; exact r.get e
theorem ix_rule (hK : X.K = G.K) (hu : X.A.units + 64 < cLine) : IxR X (rGet G) := by
  refine IxR.imp (ix_seq.or (ix_dict hu)) fun x y H Q ⟨s1, k, f, s, r1, r2, e, q⟩ => ?_
  unfold getIx at e
  split at e
  · rename_i l i heq
    cases heq
    obtain ⟨d, e1, e2⟩ := Option.map_eq_some_iff.mp e
    subst e2
    rw [RepS, RepD] at r1; rw [RepD] at r2
    obtain ⟨a, vs, rfl, qa, z, rs⟩ := r1
    obtain ⟨v, ev, rv⟩ := atI_rep rs e1
    exact .inl (.inr (.inl ⟨a, vs, i, v, rfl, r2, qa.sq, ev, q v none' (fun _ z => z.elim) (by rw [RepS]; exact rv)⟩))
  · rename_i l i heq
    cases heq
    obtain ⟨d, e1, e2⟩ := Option.map_eq_some_iff.mp e
    subst e2
    rw [RepS, RepD] at r1; rw [RepD] at r2
    obtain ⟨a, vs, o, rfl, qa, z, rs⟩ := r1
    obtain ⟨v, ev, rv⟩ := atI_rep rs e1
    exact .inl (.inl ⟨a, vs, i, v, rfl, r2, .inl (.inr ⟨o, qa⟩), ev, q v none' (fun _ z => z.elim) (by rw [RepS]; exact rv)⟩)
  · rename_i l i heq
    cases heq
    rw [RepS] at r1; rw [RepD] at r2
    obtain ⟨a, vs, rfl, qa, fa, z, rs⟩ := r1
    obtain ⟨v, ev, rv⟩ := atI_repS rs e
    exact .inl (.inl ⟨a, vs, i, v, rfl, r2, SqL.of qa, ev, q v _ (fun _ z => z.1) rv⟩)
  · rename_i t l k' heq
    cases heq
    split at e
    · rename_i ik
      obtain ⟨d, e1, e2⟩ := Option.map_eq_some_iff.mp e
      subst e2
      obtain ⟨a, u, ws, rfl, qa, h1, h2⟩ := dictD_rep (t := t) (l := l) r1 rfl
      rcases dget_rep h1 h2 qa ik r2 with ⟨g1, g2⟩ | ⟨d', v, g1, g2, g3⟩
      · rw [g1] at e1; cases e1
      · rw [g1] at e1; cases e1
        exact .inr ⟨a, v, rfl, g2, q v none' (fun _ z => z.elim) (by rw [RepS]; exact g3)⟩
    · cases e
  · rename_i t ks vs k' heq
    cases heq
    split at e
    · rename_i ik
      obtain ⟨d, e1, e2⟩ := Option.map_eq_some_iff.mp e
      subst e2
      obtain ⟨a, u, ws, rfl, qa, h1, h2⟩ := dictD_rep (t := t) (l := ks.zip vs) r1 rfl
      rcases dget_rep h1 h2 qa ik r2 with ⟨g1, g2⟩ | ⟨d', v, g1, g2, g3⟩
      · rw [g1] at e1; cases e1
      · rw [g1] at e1; cases e1
        exact .inr ⟨a, v, rfl, g2, q v none' (fun _ z => z.elim) (by rw [RepS]; exact g3)⟩
    · cases e
  · cases e

def rSl2 (G : Pg) : V → Option Int → Option Int → Hp → VK → Prop := fun x lo hi H Q => ∃ s1 f s, RepS G H s1 x f ∧ getSl s1 lo hi = some s ∧ ∀ v H', NV G H H' s v → Q v H'
theorem SlR.imp {r r' : V → Option Int → Option Int → Hp → VK → Prop} (h : SlR X r) (i : ∀ x lo hi H Q, r' x lo hi H Q → r x lo hi H Q) : SlR X r' :=
  fun pins s σ H x v vl vu lo hi sl Q I rx hs pl pu q => h pins s σ H x v vl vu lo hi sl Q I rx hs pl pu (i x lo hi H Q q)
theorem cut_rep {K : PySem.W.Frag} {l : List D} {vs : List V} {lo hi : Option Int} (r : RepDs K H l vs) : RepDs K H (cut l lo hi) (cutV vs lo hi) := by
  unfold cut cutV
  rw [← r.length]
  exact (r.drop _).take _
theorem cut_whole {α : Type} {l : List α} {lo hi : Option Int} (h : HT.sIx l.length 0 lo = 0 ∧ HT.sIx l.length l.length hi = l.length) : cut l lo hi = l := by
  unfold cut
  rw [h.1, h.2]
  simp
theorem sl_rule (hK : X.K = G.K) : SlR X (rSl2 G) := by
  refine SlR.imp (sl_tupA.or sl_list) fun x lo hi H Q ⟨s1, f, s, r1, e, q⟩ => ?_
  unfold getSl at e
  split at e
  · rename_i l
    cases e
    rw [RepS, RepD] at r1
    obtain ⟨a, vs, rfl, qa, z, rs⟩ := r1
    refine .inl ⟨a, vs, rfl, qa.sq, fun w => ?_, fun w p hp => ?_⟩
    · rw [← rs.length] at w
      refine q _ _ (NV.d ?_)
      rw [cut_whole w, decide_eq_true w.1, decide_eq_true w.2, show (true && true) = true from rfl, if_pos rfl, RepD]
      exact ⟨a, vs, rfl, qa, z, rs⟩
    · rw [← rs.length] at w
      have hn : (decide (HT.sIx l.length 0 lo = 0) && decide (HT.sIx l.length l.length hi = l.length)) = false := by
        rw [Bool.eq_false_iff]
        intro h
        rw [Bool.and_eq_true, decide_eq_true_eq, decide_eq_true_eq] at h
        exact w h
      rw [hn, if_neg (by decide)] at q
      exact q _ _ (nv_tup hp (Nat.le_trans (cutV_length vs lo hi) z) (cut_rep rs))
  · rename_i l
    obtain ⟨dl, e1, e2⟩ := Option.map_eq_some_iff.mp e
    subst e2
    rw [RepS] at r1
    obtain ⟨a, vs, rfl, qa, fa, z, rs⟩ := r1
    refine .inr ⟨a, vs, rfl, SqL.of qa, fun p hp => ?_⟩
    exact q _ _ (nv_lst hp (Nat.le_trans (cutV_length vs lo hi) z) (cut_rep (RepSs.toD e1 rs)))
  · cases e

/-- views one beside another -/
def Views (G : Pg) (H : Hp) : List S → List V → Prop
  | [], vs => vs = []
  | s :: ss, vs => ∃ v r f, vs = v :: r ∧ RepS G H s v f ∧ Views G H ss r
def rBi (G : Pg) (g : List S → Option S) : List V → Hp → VK → Prop := fun vs H Q => ∃ ss s, Views G H ss vs ∧ g ss = some s ∧ ∀ v H', NV G H H' s v → Q v H'
theorem views1 {s : S} {vs : List V} (h : Views G H [s] vs) : ∃ v f, vs = [v] ∧ RepS G H s v f := by
  obtain ⟨v, r, f, e, q, z⟩ := h
  have z' : r = [] := z
  subst z'
  exact ⟨v, f, e, q⟩
theorem views2 {s t : S} {vs : List V} (h : Views G H [s, t] vs) : ∃ v u f g, vs = [v, u] ∧ RepS G H s v f ∧ RepS G H t u g := by
  obtain ⟨v, r, f, e, q, z⟩ := h
  obtain ⟨u, g, e2, q2⟩ := views1 z
  subst e2
  exact ⟨v, u, f, g, e, q, q2⟩
theorem len_of {s : S} {v : V} {f : Fp} {n : Nat} (r : RepS G H s v f) (e : lenS s = some n) : (LenV G.K v H n) ∨ ∃ a kvs, v = .ref a ∧ H a = some (.dK kvs) ∧ kvs.length = n := by
  unfold lenS at e
  split at e
  · cases e
    rw [RepS, RepD] at r
    obtain ⟨a, vs, rfl, qa, z, rs⟩ := r
    exact .inl (.inr ⟨vs, qa.sq, rs.length⟩)
  · cases e
    rw [RepS, RepD] at r
    obtain ⟨a, vs, o, rfl, qa, z, rs⟩ := r
    exact .inl (.inl ⟨vs, .inl (.inr ⟨o, qa⟩), rs.length⟩)
  · cases e
    rw [RepS] at r
    obtain ⟨a, vs, rfl, qa, fa, z, rs⟩ := r
    exact .inl (.inl ⟨vs, SqL.of qa, rs.length⟩)
  · cases e
    rw [RepS] at r
    obtain ⟨a, u, ws, rfl, qa, fa, ⟨kvs, rfl, h1, h2⟩, rs⟩ := r
    refine .inr ⟨a, kvs, rfl, qa, ?_⟩
    have := congrArg List.length h1
    simpa using this
  · rename_i x
    split at e
    · rename_i h
      cases e
      rw [RepS, RepD] at r; subst r
      exact .inl ⟨by rw [← lineN_eq]; exact h, rfl⟩
    · cases e
  · cases e
theorem ints_rep {K : PySem.W.Frag} : ∀ {l : List D} {vs : List V} {is : List Int}, RepDs K H l vs → ints? l = some is → vs = is.map V.int
  | [], vs, is, r, e => by cases e; rw [RepDs] at r; exact r
  | d :: l, vs, is, r, e => by
    rw [RepDs] at r
    obtain ⟨v, ws, rfl, a, b⟩ := r
    unfold ints? at e
    cases d <;> first | (cases e; done) | skip
    cases z : ints? l with
    | none => rw [z] at e; cases e
    | some js =>
      rw [z] at e; cases e
      rw [RepD] at a
      rw [a, ints_rep b z]; rfl
theorem bools_rep {K : PySem.W.Frag} : ∀ {l : List D} {vs : List V} {is : List Bool}, RepDs K H l vs → bools? l = some is → vs = is.map V.bl
  | [], vs, is, r, e => by cases e; rw [RepDs] at r; exact r
  | d :: l, vs, is, r, e => by
    rw [RepDs] at r
    obtain ⟨v, ws, rfl, a, b⟩ := r
    unfold bools? at e
    cases d <;> first | (cases e; done) | skip
    cases z : bools? l with
    | none => rw [z] at e; cases e
    | some js =>
      rw [z] at e; cases e
      rw [RepD] at a
      rw [a, bools_rep b z]; rfl
theorem repDs_ints {K : PySem.W.Frag} : ∀ (is : List Int), RepDs K H (is.map D.int) (is.map V.int)
  | [] => .nil
  | i :: is => .cons rep_int (repDs_ints is)
/-- sorting -/
theorem insI_perm (x : Int) : ∀ l : List Int, (insI x l).Perm (x :: l)
  | [] => .refl _
  | y :: r => by
    unfold insI
    split
    · exact .refl _
    · exact ((insI_perm x r).cons y).trans (.swap x y r)
theorem sortI_perm : ∀ l : List Int, (sortI l).Perm l
  | [] => .refl _
  | x :: r => (insI_perm x _).trans ((sortI_perm r).cons x)
theorem insI_sorted (x : Int) : ∀ {l : List Int}, l.Pairwise (· ≤ ·) → (insI x l).Pairwise (· ≤ ·)
  | [], _ => List.pairwise_singleton _ _
  | y :: r, h => by
    unfold insI
    rw [List.pairwise_cons] at h
    split
    · rename_i le
      refine List.pairwise_cons.mpr ⟨fun z hz => ?_, List.pairwise_cons.mpr h⟩
      rcases List.mem_cons.mp hz with rfl | hz
      · exact le
      · exact Int.le_trans le (h.1 z hz)
    · rename_i nle
      refine List.pairwise_cons.mpr ⟨fun z hz => ?_, insI_sorted x h.2⟩
      rcases List.mem_cons.mp ((insI_perm x r).mem_iff.mp hz) with rfl | hz
      · omega
      · exact h.1 z hz
theorem sortI_sorted : ∀ l : List Int, (sortI l).Pairwise (· ≤ ·)
  | [] => .nil
  | x :: r => insI_sorted x (sortI_sorted r)
theorem sorted_uniq : ∀ {l m : List Int}, l.Perm m → l.Pairwise (· ≤ ·) → m.Pairwise (· ≤ ·) → l = m
  | [], m, p, _, _ => p.nil_eq
  | x :: l, m, p, h1, h2 => by
    cases m with
    | nil => exact absurd p.symm.nil_eq (by simp)
    | cons y m =>
      rw [List.pairwise_cons] at h1 h2
      have e : x = y := by
        have a : y ∈ x :: l := p.mem_iff.mpr List.mem_cons_self
        have b : x ∈ y :: m := p.mem_iff.mp List.mem_cons_self
        rcases List.mem_cons.mp a with e | a
        · exact e.symm
        · rcases List.mem_cons.mp b with e | b
          · exact e
          · exact Int.le_antisymm (h1.1 y a) (h2.1 x b)
      subst e
      rw [sorted_uniq (List.Perm.cons_inv p) h1.2 h2.2]

def rLenD : List V → Hp → VK → Prop := fun xs H Q => ∃ a kvs, xs = [.ref a] ∧ H a = some (.dK kvs) ∧ Q (.int kvs.length) H
theorem call_lenD' : CallR X (.builtin "len") rLenD := by
  intro pins s σ H xs us Q I r ⟨a, kvs, e, ha, q⟩
  subst e
  obtain ⟨u, rfl, rx⟩ := vals1 r
  cases (show u = Value.ref a from rx)
  exact d_len I (.inl ha) fun t s' I' => ⟨.int kvs.length, H, I', ⟨t, rfl⟩, q⟩
theorem lstD_rep {s : S} {v : V} {f : Fp} {l : List D} (r : RepS G H s v f) (e : lstD s = some l) : ∃ a vs, v = .ref a ∧ SqL G.K H a vs ∧ vs.length ≤ sizeLine ∧ RepDs G.K H l vs := by
  unfold lstD at e
  split at e
  · cases e
    rw [RepS, RepD] at r
    obtain ⟨a, vs, o, e, q, z, r⟩ := r
    exact ⟨a, vs, e, .inl (.inr ⟨o, q⟩), z, r⟩
  · rw [RepS] at r
    obtain ⟨a, vs, e1, q, fa, z, r⟩ := r
    exact ⟨a, vs, e1, SqL.of q, z, RepSs.toD e r⟩
  · cases e
theorem lstInts {s : S} {v : V} {f : Fp} {is : List Int} (r : RepS G H s v f) (e : (lstD s).bind ints? = some is) : ∃ a, v = .ref a ∧ SqL G.K H a (is.map V.int) := by
  obtain ⟨l, e1, e2⟩ := Option.bind_eq_some_iff.mp e
  obtain ⟨a, vs, e3, q, z, rs⟩ := lstD_rep r e1
  exact ⟨a, e3, by rw [← ints_rep rs e2]; exact q⟩
theorem lstBools {s : S} {v : V} {f : Fp} {is : List Bool} (r : RepS G H s v f) (e : (lstD s).bind bools? = some is) : ∃ a, v = .ref a ∧ SqL G.K H a (is.map V.bl) := by
  obtain ⟨l, e1, e2⟩ := Option.bind_eq_some_iff.mp e
  obtain ⟨a, vs, e3, q, z, rs⟩ := lstD_rep r e1
  exact ⟨a, e3, by rw [← bools_rep rs e2]; exact q⟩
theorem pairs_rep {K : PySem.W.Frag} : ∀ {l : List D} {vs : List V} {ps : List (Int × Int)}, RepDs K H l vs → pairs? l = some ps → l = ps.map dP
  | [], vs, ps, r, e => by cases e; rfl
  | d :: l, vs, ps, r, e => by
    rw [RepDs] at r
    obtain ⟨v, ws, rfl, a, b⟩ := r
    unfold pairs? at e
    split at e
    · rename_i i j l' z
      cases e
      rw [pairs_rep b z]; rfl
    · cases e
def pairV (H : Hp) (v : V) : Int × Int := match v with
  | .ref t => match H t with
    | some (.tup [.int i, .int j]) => (i, j)
    | _ => (0, 0)
  | _ => (0, 0)
theorem dP_rep {K : PySem.W.Frag} {p : Int × Int} {v : V} (r : RepD K H (dP p) v) : ∃ t, v = .ref t ∧ H t = some (.tup [.int p.1, .int p.2]) ∧ pairV H v = p := by
  unfold dP at r
  rw [RepD] at r
  obtain ⟨t, vs, rfl, q, z, r⟩ := r
  rw [RepDs] at r
  obtain ⟨v1, r1, rfl, a, b⟩ := r
  rw [RepDs] at b
  obtain ⟨v2, r2, rfl, c, d⟩ := b
  rw [RepDs] at d; subst d
  rw [RepD] at a; rw [RepD] at c; subst a; subst c
  have q : H t = some (.tup [.int p.1, .int p.2]) := q
  exact ⟨t, rfl, q, by unfold pairV; simp only [q]⟩
theorem rep_dP {K : PySem.W.Frag} {v : V} {t : Addr} {i j : Int} (h : H t = some (.tup [.int i, .int j])) : RepD K H (dP (i, j)) (.ref t) := by
  unfold dP
  rw [RepD]
  exact ⟨t, _, rfl, h, (by rw [sizeLine_eq]; show 2 ≤ 16777216; decide), .cons rep_int (.single rep_int)⟩
theorem dPs_rep {K : PySem.W.Frag} : ∀ {ps : List (Int × Int)} {vs : List V}, RepDs K H (ps.map dP) vs → vs.map (pairV H) = ps ∧ ∀ v, v ∈ vs → ∃ t, v = .ref t ∧ H t = some (.tup [.int (pairV H v).1, .int (pairV H v).2])
  | [], vs, r => by
    have r : RepDs K H [] vs := r
    rw [RepDs] at r; subst r; exact ⟨rfl, fun v h => by cases h⟩
  | p :: ps, vs, r => by
    have r : RepDs K H (dP p :: ps.map dP) vs := r
    rw [RepDs] at r
    obtain ⟨v, ws, rfl, a, b⟩ := r
    obtain ⟨t, e1, e2, e3⟩ := dP_rep a
    obtain ⟨h1, h2⟩ := dPs_rep b
    refine ⟨by rw [List.map_cons, e3, h1], fun u hu => ?_⟩
    rcases List.mem_cons.mp hu with rfl | hu
    · exact ⟨t, e1, by rw [e3]; exact e2⟩
    · exact h2 u hu
theorem rep_dPs {K : PySem.W.Frag} : ∀ {vs : List V}, (∀ v, v ∈ vs → ∃ t, v = .ref t ∧ H t = some (.tup [.int (pairV H v).1, .int (pairV H v).2])) → RepDs K H ((vs.map (pairV H)).map dP) vs
  | [], _ => .nil
  | v :: vs, h => by
    obtain ⟨t, e1, e2⟩ := h v List.mem_cons_self
    refine .cons ?_ (rep_dPs fun u hu => h u (List.mem_cons_of_mem _ hu))
    have := rep_dP (K := K) (v := v) e2
    rw [e1]
    rw [e1] at this
    exact this
theorem leP_total (a b : Int × Int) : leP a b = true ∨ leP b a = true := by
  unfold leP
  simp only [Bool.or_eq_true, Bool.and_eq_true, decide_eq_true_eq]
  omega
theorem leP_trans {a b c : Int × Int} (h : leP a b = true) (g : leP b c = true) : leP a c = true := by
  unfold leP at *
  simp only [Bool.or_eq_true, Bool.and_eq_true, decide_eq_true_eq] at *
  omega
theorem leP_anti {a b : Int × Int} (h : leP a b = true) (g : leP b a = true) : a = b := by
  unfold leP at *
  simp only [Bool.or_eq_true, Bool.and_eq_true, decide_eq_true_eq] at *
  exact Prod.ext (by omega) (by omega)
theorem insP_perm (x : Int × Int) : ∀ l, (insP x l).Perm (x :: l)
  | [] => .refl _
  | y :: r => by
    unfold insP
    split
    · exact .refl _
    · exact ((insP_perm x r).cons y).trans (.swap x y r)
theorem sortP_perm : ∀ l, (sortP l).Perm l
  | [] => .refl _
  | x :: r => (insP_perm x _).trans ((sortP_perm r).cons x)
theorem insP_sorted (x : Int × Int) : ∀ {l : List (Int × Int)}, l.Pairwise (fun a b => leP a b = true) → (insP x l).Pairwise (fun a b => leP a b = true)
  | [], _ => List.pairwise_singleton _ _
  | y :: r, h => by
    unfold insP
    rw [List.pairwise_cons] at h
    split
    · rename_i le
      refine List.pairwise_cons.mpr ⟨fun z hz => ?_, List.pairwise_cons.mpr h⟩
      rcases List.mem_cons.mp hz with rfl | hz
      · exact le
      · exact leP_trans le (h.1 z hz)
    · rename_i nle
      refine List.pairwise_cons.mpr ⟨fun z hz => ?_, insP_sorted x h.2⟩
      rcases List.mem_cons.mp ((insP_perm x r).mem_iff.mp hz) with rfl | hz
      · exact (leP_total _ _).resolve_left nle
      · exact h.1 z hz
theorem sortP_sorted : ∀ l, (sortP l).Pairwise (fun a b => leP a b = true)
  | [] => .nil
  | x :: r => insP_sorted x (sortP_sorted r)
theorem sortedP_uniq : ∀ {l m : List (Int × Int)}, l.Perm m → l.Pairwise (fun a b => leP a b = true) → m.Pairwise (fun a b => leP a b = true) → l = m
  | [], m, p, _, _ => p.nil_eq
  | x :: l, m, p, h1, h2 => by
    cases m with
    | nil => exact absurd p.symm.nil_eq (by simp)
    | cons y m =>
      rw [List.pairwise_cons] at h1 h2
      have e : x = y := by
        have a : y ∈ x :: l := p.mem_iff.mpr List.mem_cons_self
        have b : x ∈ y :: m := p.mem_iff.mp List.mem_cons_self
        rcases List.mem_cons.mp a with e | a
        · exact e.symm
        · rcases List.mem_cons.mp b with e | b
          · exact e
          · exact leP_anti (h1.1 y a) (h2.1 x b)
      subst e
      rw [sortedP_uniq (List.Perm.cons_inv p) h1.2 h2.2]
theorem lexB_leP {a b : Int × Int} (h : SrtO.lexB b a = false) : leP a b = true := by
  have := SrtO.lexB_no.mp h
  unfold leP
  simp only [Bool.or_eq_true, Bool.and_eq_true, decide_eq_true_eq]
  omega
theorem sortedP_of {vs ws : List V} (h1 : SrtO.Srtd (ltP (pairV H)) ws) (h2 : ws.Perm vs) : ws.map (pairV H) = sortP (vs.map (pairV H)) := by
  refine sortedP_uniq ((h2.map _).trans (sortP_perm _).symm) ?_ (sortP_sorted _)
  exact List.pairwise_map.mpr (h1.imp fun h => lexB_leP h)
/-- tuple(l): a tuple of which all is known -/
theorem call_tupleF : CallR X (.type "tuple") (fun xs H Q => ∃ p ys, xs = [.ref p] ∧ ((SqL X.K H p ys ∧ ∀ l o, H l = none → o.dict = none → Q (.ref l) (upd H l (.frz o (.tup ys)))) ∨ (SqT X.K H p ys ∧ Q (.ref p) H))) := by
  intro pins s σ H xs us Q I r h
  obtain ⟨p, ys, rfl, h⟩ := h
  obtain ⟨u, rfl, rx⟩ := vals1 r
  cases rx
  rcases h with ⟨hq, q⟩ | ⟨hq, q⟩
  · obtain ⟨its, r', pl, hz⟩ := I.list hq
    have hlen := r'.length
    refine PySem.call_tuple_list pl.isList (fun h' kp => ?_) (by simp only [List.size_toArray] <;> omega)
    have I1 : Inv X pins σ H { s with heap := h' } := I.kept (t' := s.toks) kp
    have I2 : Inv X pins σ (upd H h'.objs.size (.frz { cls := .type "tuple", data := .seq its.toArray } (.tup ys))) { s with heap := h'.push { cls := .type "tuple", data := .seq its.toArray } } :=
      I1.laid (t' := s.toks) (fun b o e => Heap.get?_push_of_some _ e) (Nat.le_refl _) ⟨Heap.get?_push_size _ rfl, (show ObjOk X.prog X.w _ _ _ (.tup ys) from ⟨hz, its, r', PyProof.Rows.IsTup.new _ _⟩)⟩
    exact ⟨.ref h'.objs.size, _, I2, rfl, q _ _ (I1.hok.fresh (Nat.le_refl _)) rfl⟩
  · obtain ⟨its, r', pl, hz⟩ := I.tuple hq
    exact PySem.call_tuple_same pl ⟨.ref p, H, I, rfl, q⟩
theorem nv_tupF {p : Addr} {o : Obj} {ds : List D} {vs : List V} (hp : H p = none) (ho : o.dict = none) (z : vs.length ≤ sizeLine) (h : RepDs G.K H ds vs) : NV G H (upd H p (.frz o (.tup vs))) (.v (.tup false ds)) (.ref p) := by
  refine nv_new hp ?_
  rw [RepS, RepD]
  exact ⟨p, vs, rfl, ⟨o, upd_same, ho⟩, z, RepDs.keep (Keep.new (F := none') hp) _ _ h⟩
/-- the value that a built-in's name holds -/
def biVal : Bi → Value
  | .int => .type "int"
  | .len => .builtin "len"
  | .abs => .builtin "abs"
  | .min2 => .builtin "min"
  | .max2 => .builtin "max"
  | .min1 => .builtin "min"
  | .max1 => .builtin "max"
  | .sum => .builtin "sum"
  | .all => .builtin "all"
  | .any => .builtin "any"
  | .sorted => .builtin "sorted"
  | .sset => .builtin "sorted"
  | .tuple => .type "tuple"
  | .list => .type "list"
  | .set => .type "set"
  | .bool => .type "bool"
theorem bi1_of {g : S → Option S} {vs : List V} {Q : VK} {K' : Prop} (h : rBi G (bi1 g) vs H Q) (k : ∀ s0 v f s, vs = [v] → RepS G H s0 v f → g s0 = some s → (∀ v H', NV G H H' s v → Q v H') → K') : K' := by
  obtain ⟨ss, s, hv, e, q⟩ := h
  unfold bi1 at e
  split at e
  · obtain ⟨v, f, e1, r⟩ := views1 hv
    exact k _ v f s e1 r e q
  · cases e
theorem bi2_of {g : S → S → Option S} {vs : List V} {Q : VK} {K' : Prop} (h : rBi G (bi2 g) vs H Q) (k : ∀ s0 s1 v u f f' s, vs = [v, u] → RepS G H s0 v f → RepS G H s1 u f' → g s0 s1 = some s → (∀ v H', NV G H H' s v → Q v H') → K') : K' := by
  obtain ⟨ss, s, hv, e, q⟩ := h
  unfold bi2 at e
  split at e
  · obtain ⟨v, u, f, f', e1, r, r2⟩ := views2 hv
    exact k _ _ v u f f' s e1 r r2 e q
  · cases e
theorem pairs_of : ∀ {l : List D} {ps : List (Int × Int)}, pairs? l = some ps → l = ps.map dP
  | [], ps, e => by cases e; rfl
  | d :: l, ps, e => by
    unfold pairs? at e
    split at e
    · rename_i i j qs e2
      cases e
      rw [pairs_of e2]; rfl
    · cases e
theorem keys_pairs {H : Hp} : ∀ {ps : List (Int × Int)} {kvs : List (List Key × V)} {bs : List Addr}, (kvs.map fun q => some q.1) = (ps.map dP).map keysD → IsKeys H kvs bs → (∀ b ∈ bs, H b = some (.tup [.int (pairV H (.ref b)).1, .int (pairV H (.ref b)).2])) ∧ (bs.map V.ref).map (pairV H) = ps
  | [], kvs, bs, e, h => by
    cases h with
    | nil => exact ⟨(fun b m => by cases m), rfl⟩
    | cons _ _ => simp at e
  | p :: ps, kvs, bs, e, h => by
    cases h with
    | nil => simp at e
    | @cons q b kvs bs h t =>
      simp only [List.map_cons, List.cons.injEq] at e
      obtain ⟨i1, i2⟩ := keys_pairs e.2 t
      have ek : q.1 = [Sum.inl p.1, Sum.inl p.2] := by
        have := e.1
        unfold dP keysD at this
        simp [List.mapM_cons, keyD] at this
        exact this
      rw [ek] at h
      have hb : H b = some (.tup [.int p.1, .int p.2]) := h
      have pv : pairV H (.ref b) = p := by unfold pairV; simp only [hb]
      refine ⟨fun c m => ?_, by simp only [List.map_cons, pv, i2]⟩
      rcases List.mem_cons.mp m with rfl | m
      · rw [pv]; exact hb
      · exact i1 c m
theorem bi_rule (hK : X.K = G.K) {b : Bi} (hc : coolBi b = true ∨ X.calm = true) (hb : biOk b = true) : CallR X (biVal b) (rBi G (bi b)) := by
  have hc : coolBi b = false → X.calm = true := fun z => hc.resolve_left (by rw [z]; decide)
  cases b <;> first | exact ff hb | skip
  · -- int
    refine CallR.imp call_int1 fun vs H Q h => bi1_of h fun s0 v f s ev r e q => ?_
    unfold intS at e
    split at e
    · cases e
      exact .inl ⟨_, by rw [ev, repS_int r], q _ _ (NV.d rep_int)⟩
    · cases e
      rw [RepS, RepD] at r; subst r
      exact .inr ⟨_, ev, q _ _ (NV.d rep_int)⟩
    · cases e
  · -- len
    refine CallR.imp (call_len.or call_lenD') fun vs H Q h => bi1_of h fun s0 v f s ev r e q => ?_
    obtain ⟨n, e1, e2⟩ := Option.map_eq_some_iff.mp e
    subst e2
    rcases len_of r e1 with z | ⟨a, kvs, z1, z2, z3⟩
    · exact .inl ⟨v, n, ev, by rw [hK]; exact z, q _ _ (NV.d rep_int)⟩
    · exact .inr ⟨a, kvs, by rw [ev, z1], z2, by rw [z3]; exact q _ _ (NV.d rep_int)⟩
  · -- abs
    refine CallR.imp call_abs fun vs H Q h => bi1_of h fun s0 v f s ev r e q => ?_
    unfold absS at e
    split at e
    · cases e
      exact ⟨_, by rw [ev, repS_int r], q _ _ (NV.d rep_int)⟩
    · cases e
  · -- min
    refine CallR.imp (call_min2 (hc rfl)) fun vs H Q h => bi2_of h fun s0 s1 v u f f' s ev r r2 e q => ?_
    unfold min2S at e
    split at e
    · cases e
      exact ⟨_, _, by rw [ev, repS_int r, repS_int r2], q _ _ (NV.d rep_int)⟩
    · cases e
  · -- max
    refine CallR.imp (call_max2 (hc rfl)) fun vs H Q h => bi2_of h fun s0 s1 v u f f' s ev r r2 e q => ?_
    unfold max2S at e
    split at e
    · cases e
      exact ⟨_, _, by rw [ev, repS_int r, repS_int r2], q _ _ (NV.d rep_int)⟩
    · cases e
  · -- sum
    refine CallR.imp (cr_sum (hc rfl)) fun vs H Q h => bi1_of h fun s0 v f s ev r e q => ?_
    obtain ⟨l, e1, e2⟩ := Option.map_eq_some_iff.mp e
    subst e2
    obtain ⟨a, rfl, hq⟩ := lstInts r e1
    exact ⟨a, l, ev, by rw [hK]; exact hq, q _ _ (NV.d rep_int)⟩
  · -- all
    refine CallR.imp (cr_all (hc rfl)) fun vs H Q h => bi1_of h fun s0 v f s ev r e q => ?_
    obtain ⟨l, e1, e2⟩ := Option.map_eq_some_iff.mp e
    subst e2
    obtain ⟨a, rfl, hq⟩ := lstBools r e1
    exact ⟨a, l, ev, by rw [hK]; exact hq, q _ _ (NV.d rep_bl)⟩
  · -- any
    refine CallR.imp (cr_any (hc rfl)) fun vs H Q h => bi1_of h fun s0 v f s ev r e q => ?_
    obtain ⟨l, e1, e2⟩ := Option.map_eq_some_iff.mp e
    subst e2
    obtain ⟨a, rfl, hq⟩ := lstBools r e1
    exact ⟨a, l, ev, by rw [hK]; exact hq, q _ _ (NV.d rep_bl)⟩
  · -- sorted
    refine CallR.imp ((cr_sortedI.or cr_sortedPO).or (call_sortKT (hc rfl))) fun vs H Q h => bi1_of h fun s0 v f s ev r e q => ?_
    unfold sortedS at e
    split at e
    · rename_i l
      obtain ⟨l2, e1, e2⟩ := Option.map_eq_some_iff.mp e
      subst e2
      obtain ⟨dl, e3, e4⟩ := Option.bind_eq_some_iff.mp e1
      rw [RepS] at r
      obtain ⟨a, ws, rfl, hq, fa, z, rs⟩ := r
      have rs := RepSs.toD e3 rs
      unfold sortD at e4
      split at e4
      · rename_i is hi
        cases e4
        have ei := ints_rep rs hi
        subst ei
        refine .inl (.inl ⟨a, is, ev, by rw [hK]; exact SqL.of hq, fun ns' p h1 h2 hp => ?_⟩)
        have e5 : ns' = sortI is := sorted_uniq (h1.trans (sortI_perm is).symm) h2 (sortI_sorted is)
        subst e5
        refine q _ _ (nv_lst hp ?_ (repDs_ints _))
        rw [List.length_map, (sortI_perm is).length_eq]
        simpa using z
      · split at e4
        · rename_i ps hp'
          cases e4
          have el := pairs_rep rs hp'
          subst el
          obtain ⟨h1, h2⟩ := dPs_rep rs
          refine .inl (.inr ⟨a, ws, pairV H, ev, by rw [hK]; exact SqL.of hq, h2, fun ys p hs hb hp => ?_⟩)
          have e5 := sortedP_of hs hb.perm
          rw [h1] at e5
          rw [← e5] at q
          refine q _ _ (nv_lst hp (by rw [hb.perm.length_eq]; exact z) (rep_dPs fun v hv => h2 v (hb.perm.mem_iff.mp hv)))
        · cases e4
    · obtain ⟨ps, e1, e2⟩ := Option.map_eq_some_iff.mp e
      subst e2
      rw [RepS] at r
      obtain ⟨a, u, ws, rfl, hq, fa, ⟨kvs, rfl, d1, d2⟩, rs⟩ := r
      have el := pairs_of e1
      rw [el] at d1
      refine .inr ⟨a, kvs, pairV H, ev, .inl hq, fun bs kb => (keys_pairs d1 kb).1, fun zs bs p kb hs hb hz hp => ?_⟩
      obtain ⟨k1, k2⟩ := keys_pairs d1 kb
      have e5 := sortedP_of hs hb.perm
      rw [k2] at e5
      rw [← e5] at q
      refine q _ _ (nv_lst hp ?_ (rep_dPs fun v hv => ?_))
      · exact hz
      · have := hb.perm.mem_iff.mp hv
        obtain ⟨b, m, rfl⟩ := List.mem_map.mp this
        exact ⟨b, rfl, k1 b m⟩
    · cases e
  · -- tuple
    refine CallR.imp call_tupleF fun vs H Q h => bi1_of h fun s0 v f s ev r e q => ?_
    unfold tupS at e
    split at e
    · cases e
      have r' := r
      rw [RepS, RepD] at r
      obtain ⟨a, ws, rfl, hq, z, rs⟩ := r
      rw [RepS] at r'
      exact ⟨a, ws, ev, .inr ⟨hq.sq, q _ _ (NV.d r')⟩⟩
    · obtain ⟨l, e1, e2⟩ := Option.map_eq_some_iff.mp e
      subst e2
      obtain ⟨a, ws, rfl, hq, z, rs⟩ := lstD_rep r e1
      exact ⟨a, ws, ev, .inl ⟨by rw [hK]; exact hq, fun p o hp ho => q _ _ (nv_tupF hp ho z rs)⟩⟩
  · -- list
    refine CallR.imp call_list_of fun vs H Q h => bi1_of h fun s0 v f s ev r e q => ?_
    obtain ⟨l, e1, e2⟩ := Option.map_eq_some_iff.mp e
    subst e2
    obtain ⟨a, ws, rfl, hq, z, rs⟩ := seqD_rep r e1
    exact ⟨a, ws, ev, by rw [hK]; exact hq, fun p hp => q _ _ (nv_lst hp z rs)⟩
end Vm
/-! VmI -/
namespace Vm
open PySem L2

variable {Γ : Gx} {Y : Cx} {sc : Scope} {W : WX} {e : Expr}
theorem VP.part {r : Option Nat} {G : Pg} {H0 : Hp} {fs0 : Nat → Fp} {M : List Nat} {H : Hp} {fs : Nat → Fp} {s t : S} {v w : V} (h : VP r G H0 fs0 M H fs s v) (k : ∀ f, RepS G H s v f → ∃ g : Fp, (∀ a, g a → f a) ∧ RepS G H t w g) : VP r G H0 fs0 M H fs t w := by
  obtain ⟨f, hr, tr, x⟩ := h
  obtain ⟨g, hg, hr'⟩ := k f hr
  refine ⟨g, hr', fun a q => tr a (hg a q), ?_⟩
  cases r with
  | none => exact ⟨fun i a q => x.1 i a (hg a q), fun a q => x.2 a (hg a q)⟩
  | some i => exact fun a q => x a (hg a q)
theorem VP.rep {r : Option Nat} {G : Pg} {H0 : Hp} {fs0 : Nat → Fp} {M : List Nat} {H : Hp} {fs : Nat → Fp} {s : S} {v : V} (h : VP r G H0 fs0 M H fs s v) : ∃ f, RepS G H s v f := let ⟨f, q, _⟩ := h; ⟨f, q⟩
theorem root_np {x : X} (h : x.isPath = false) : root x = none := by
  cases x <;> first | rfl | exact ff h.symm
theorem not_apart {r : Option Nat} {M : List Nat} (h : apart r M = true) : ∀ i, r = some i → i ∉ M := by
  rintro i rfl m
  simp [apart, List.contains_iff_mem, m] at h
theorem VP.grow {r : Option Nat} {G : Pg} {H00 H0 : Hp} {fs00 fs0 : Nat → Fp} {M0 M M' : List Nat} {H : Hp} {fs : Nat → Fp} {ρ0 ρ : Fr} {s : S} {v : V} (h : VP r G H0 fs0 M H fs s v) (st : Step H00 ρ0 fs00 M0 H0 ρ fs0) (h1 : ∀ i, i ∈ M0 → i ∈ M') (h2 : ∀ i, i ∈ M → i ∈ M') : VP r G H00 fs00 M' H fs s v := by
  obtain ⟨f, hr, tr, x⟩ := h
  refine ⟨f, hr, tr, ?_⟩
  cases r with
  | some i => exact x
  | none =>
    refine ⟨x.1, fun a q => ?_⟩
    rcases x.2 a q with ⟨i, m, z⟩ | z
    · by_cases n : i ∈ M0
      · rcases st.sub i a n z with y | y
        · exact .inl (y.mono h1)
        · exact .inr y
      · rw [(st.same i n).2] at z
        exact .inl ⟨i, h2 i m, z⟩
    · exact .inr (st.keep.dom a z)

theorem Run.bindO {α β : Type} {G : Pg} {W : WX} {σ : L2.St} {H : Hp} {ρ : Fr} {fs : Nat → Fp} {M M1 : List Nat} {K : β → Fr → Hp → (Nat → Fp) → Prop} {r : R α} {k : α → Fr → R β}
    (h : Run G W σ H ρ fs M K (r.bind k)) (m1 : ∀ i, i ∈ M1 → i ∈ M) : Run G W σ H ρ fs M1 (fun a ρ1 _ _ => Run G W σ H ρ fs M K (k a ρ1)) r := by
  cases r with
  | bad => exact h
  | ok a ρ1 => exact fun _ _ _ _ => h
  | ex e ρ1 => exact fun cls d H1 fs1 F1 st1 => h cls d H1 fs1 F1 (st1.mono m1)
theorem two {G : Pg} {W : WX} {σ : L2.St} {H : Hp} {ρ : Fr} {fs : Nat → Fp} {M1 M2 : List Nat} {r1 r2 : Option Nat} {β : Type} {K : β → Fr → Hp → (Nat → Fp) → Prop} {p1 p2 : Fr → R S} {k : S → S → Fr → R β}
    (h : Run G W σ H ρ fs (M1 ++ M2) K ((p1 ρ).bind fun x ρ => (p2 ρ).bind fun y ρ => k x y ρ)) (ap : ∀ i, r1 = some i → i ∉ M2) :
    Run G W σ H ρ fs M1 (fun x ρ1 H1 fs1 => ∀ v, VP r1 G H fs M1 H1 fs1 x v → tV G W r2 M2 p2 σ H1 fun u H2 => ∃ y ρ2 fs2, FR G H2 σ ρ2 fs2 ∧ (∀ a, H2 a = none → H a = none) ∧ VP r1 G H fs M1 H2 fs2 x v ∧ VP r2 G H1 fs1 M2 H2 fs2 y u ∧ Step H ρ fs (M1 ++ M2) H2 ρ2 fs2 ∧ Run G W σ H2 ρ2 fs2 [] K (k x y ρ2)) (p1 ρ) := by
  refine (Run.bind (M1 := M1) (M2 := M2) h (fun i m => List.mem_append_left _ m) (fun i m => List.mem_append_right _ m)).imp fun x ρ1 H1 fs1 F1 st1 q v vp => ⟨ρ1, fs1, F1, ?_⟩
  refine (Run.bind (M1 := M2) (M2 := []) q (fun i m => m) (fun i m => by cases m)).imp fun y ρ2 H2 fs2 F2 st2 q2 u vp2 => ?_
  exact ⟨y, ρ2, fs2, F2, fun a z => st1.keep.dom a (st2.keep.dom a z), vp.carry F1 st2 ap, vp2, (st1.mono fun i m => List.mem_append_left _ m).trans (st2.mono fun i m => List.mem_append_right _ m), q2⟩
/-- .. and a rule that makes a value anew -/
theorem two_nv {G : Pg} {W : WX} {M1 M2 : List Nat} {r1 r2 : Option Nat} {p1 p2 : Fr → R S} {g : S → S → Option S} (ap : ∀ i, r1 = some i → i ∉ M2) {σ : L2.St} {H : Hp} {Q : VK}
    (h : tV G W none (M1 ++ M2) (fun ρ => (p1 ρ).bind fun x ρ => (p2 ρ).bind fun y ρ => R.of ρ (g x y)) σ H Q) : tOp (rB G g) (tV G W r1 M1 p1) (tV G W r2 M2 p2) σ H Q := by
  obtain ⟨ρ, fs, F, q⟩ := h
  refine ⟨ρ, fs, F, (two (r2 := r2) q ap).imp fun x ρ1 H1 fs1 F1 st1 q1 v vp => ?_⟩
  obtain ⟨ρ', fs', F', q2⟩ := q1 v vp
  refine ⟨ρ', fs', F', q2.imp fun y ρ2 H2 fs2 F2 st2 q3 u vp2 => ?_⟩
  obtain ⟨y', ρ3, fs3, F3, dm, w1, w2, st3, q4⟩ := q3 u vp2
  obtain ⟨f1, z1⟩ := w1.rep
  obtain ⟨f2, z2⟩ := w2.rep
  obtain ⟨s, es, q5⟩ := Run.nv F3 dm q4
  exact ⟨x, y', f1, f2, s, z1, z2, es, q5⟩

theorem xd_ev {x : X} (h : XOk Γ x) (c : Cok Γ.g Γ.G Γ.C Y sc W) (hc : chk Γ.g x sc e = true) : PE Y e (tV Γ.G W none (mutX Γ.g x) (XD.ev (x, den Γ.C x))) := by
  refine PE.imp (h.pe c hc) fun σ H Q ⟨ρ, fs, F, q⟩ => ⟨ρ, fs, F, ?_⟩
  have q : Run Γ.G W σ H ρ fs (mutX Γ.g x) (fun s ρ' H' fs' => ∀ v, VP none Γ.G H fs (mutX Γ.g x) H' fs' s v → Q v H') (plain x.isPath ((den Γ.C x).pk ρ)) := q
  cases hp : x.isPath with
  | false =>
    rw [hp] at q
    rw [root_np hp]
    exact q
  | true =>
    rw [hp] at q
    cases e1 : (den Γ.C x).pk ρ with
    | bad => rw [e1] at q; exact q.elim
    | ex e ρ' => rw [e1] at q; exact q
    | ok s ρ' =>
      rw [e1] at q
      cases s with
      | v d => exact fun H' fs' F' st v vp => q H' fs' F' st v (VP.d vp.toD)
      | _ => exact q.elim

def Lk (P : Hp → Prop) (H : Hp) : Prop := P H ∨ ∃ a u, H a = some u ∧ Mut (some u) ∧ ∀ o, P (upd H a (.frz o u))
theorem pe_lock {t : TE} (h : PE Y e t) : PE Y e (fun σ H Q => t σ H fun v H1 => Lk (Q v) H1) := ⟨fun pins s σ H Q I q =>
  thn (h.run pins s σ H _ I q) fun v s1 ⟨x, H1, I1, rx, q1⟩ => by
    rcases q1 with q1 | ⟨a, u, ha, mu, q1⟩
    · exact ⟨x, H1, I1, rx, q1⟩
    · obtain ⟨od, I2⟩ := I1.lock ha mu
      exact ⟨x, _, I2, rx, q1 od⟩⟩
theorem freeze {G : Pg} {σ : L2.St} {H H1 : Hp} {ρ ρ1 : Fr} {fs fs1 : Nat → Fp} {M : List Nat} {a : Addr} {u : HO} {o : Obj} (F1 : FR G H1 σ ρ1 fs1) (st : Step H ρ fs M H1 ρ1 fs1) (nf : ∀ i, ¬ fs1 i a) (uf : U fs M a ∨ H a = none) (ha : H1 a = some u) (np : ¬ Pers u) :
    FR G (upd H1 a (.frz o u)) σ ρ1 fs1 ∧ Step H ρ fs M (upd H1 a (.frz o u)) ρ1 fs1 ∧ Keep H1 (upd H1 a (.frz o u)) (fun b => b = a) := by
  have k : Keep H1 (upd H1 a (.frz o u)) (fun b => b = a) := Keep.set ha np rfl
  refine ⟨F1.keep k fun i b q z => nf i (z ▸ q), ⟨⟨fun b w e p => ?_, fun b e => st.keep.dom b (k.dom b e)⟩, st.same, st.sub⟩, k⟩
  have e1 := st.keep.at' b w e p
  refine k.at' b w e1 ?_
  by_cases hb : b = a
  · subst hb
    rw [ha] at e1; cases e1
    rcases p with p | p
    · exact .inl p
    · rcases uf with z | z
      · exact absurd z p
      · rw [e] at z; cases z
  · exact .inr hb
theorem dkeys_mut {t : Bool} {ks : List D} {ws : List V} {u : HO} (h : DKeys t ks ws u) : Mut (some u) ∧ ¬ Pers u := by
  cases t with
  | false => obtain ⟨kvs, rfl, _⟩ := h; exact ⟨trivial, fun z => z⟩
  | true => obtain ⟨kvs, rfl, _⟩ := h; exact ⟨trivial, fun z => z⟩
theorem fz_step {G : Pg} {σ : L2.St} {H H1 : Hp} {ρ ρ1 : Fr} {fs fs1 : Nat → Fp} {M : List Nat} {s : S} {v : V} {d : D} {P : Hp → Prop} (F1 : FR G H1 σ ρ1 fs1) (st : Step H ρ fs M H1 ρ1 fs1) (vp : VP none G H fs M H1 fs1 s v) (e : fzD s = some d)
    (h : ∀ H2, FR G H2 σ ρ1 fs1 → Step H ρ fs M H2 ρ1 fs1 → RepD G.K H2 d v → P H2) : Lk P H1 := by
  unfold fzD at e
  split at e
  · cases e
    exact .inl (h H1 F1 st vp.toD)
  · obtain ⟨dl, e1, e2⟩ := Option.map_eq_some_iff.mp e
    subst e2
    obtain ⟨f, hr, tr, x1, x2⟩ := vp
    rw [RepS] at hr
    obtain ⟨a, vs, rfl, qa, fa, z, rs⟩ := hr
    refine .inr ⟨a, _, qa, trivial, fun o => ?_⟩
    obtain ⟨F2, st2, k⟩ := freeze (o := o) F1 st (fun i q => x1 i a fa q) (x2 a fa) qa (fun z => z)
    refine h _ F2 st2 ?_
    rw [RepD]
    exact ⟨a, vs, o, rfl, upd_same, z, RepDs.keep k _ _ (RepSs.toD e1 rs)⟩
  · rename_i t l
    cases e
    obtain ⟨f, hr, tr, x1, x2⟩ := vp
    rw [RepS] at hr
    obtain ⟨a, u, ws, rfl, qa, fa, dk, rs⟩ := hr
    refine .inr ⟨a, _, qa, (dkeys_mut dk).1, fun o => ?_⟩
    obtain ⟨F2, st2, k⟩ := freeze (o := o) F1 st (fun i q => x1 i a fa q) (x2 a fa) qa (dkeys_mut dk).2
    refine h _ F2 st2 ?_
    rw [RepD]
    exact ⟨a, u, ws, o, rfl, upd_same, dk, by rw [List.length_map, List.length_map], RepDs.keep k _ _ rs⟩
  · cases e
/-- a value, frozen -/
def tD (G : Pg) (W : WX) (M : List Nat) (p : Fr → R D) : TE := fun σ H Q => ∃ ρ fs, FR G H σ ρ fs ∧
  Run G W σ H ρ fs M (fun d ρ' H' fs' => ∀ v, RepD G.K H' d v → Q v H') (p ρ)
theorem xd_fz {x : X} (h : XOk Γ x) (c : Cok Γ.g Γ.G Γ.C Y sc W) (hc : chk Γ.g x sc e = true) : PE Y e (tD Γ.G W (mutX Γ.g x) (fzR (x, den Γ.C x))) := by
  refine PE.imp (pe_lock (xd_ev h c hc)) fun σ H Q ⟨ρ, fs, F, q⟩ => ⟨ρ, fs, F, ?_⟩
  have q : Run Γ.G W σ H ρ fs (mutX Γ.g x) (fun d ρ' H' fs' => ∀ v, RepD Γ.G.K H' d v → Q v H') ((XD.ev (x, den Γ.C x) ρ).bind fun s ρ => R.of ρ (fzD s)) := q
  cases e1 : XD.ev (x, den Γ.C x) ρ with
  | bad => rw [e1] at q; exact q.elim
  | ex e ρ' => rw [e1] at q; exact q
  | ok s ρ' =>
    rw [e1] at q
    intro H1 fs1 F1 st1 v vp
    cases e2 : fzD s with
    | none => rw [R.bind_ok, e2] at q; exact q.elim
    | some d =>
      rw [R.bind_ok, e2] at q
      exact fz_step F1 st1 vp e2 fun H2 F2 st2 r => q H2 fs1 F2 st2 v r
/-- values one after another, frozen -/
def tDs (G : Pg) (W : WX) (M : List Nat) (p : Fr → R (List D)) : TA := fun σ H Q => ∃ ρ fs, FR G H σ ρ fs ∧
  Run G W σ H ρ fs M (fun ds ρ' H' fs' => ∀ vs, RepDs G.K H' ds vs → Q vs H') (p ρ)
theorem chks_cons {x : X} {xs : Xs} {es : List Expr} (h : chks Γ.g (.cons x xs) sc es = true) : ∃ e es', es = e :: es' ∧ chk Γ.g x sc e = true ∧ chks Γ.g xs sc es' = true := by
  cases es with
  | nil => exact ff h
  | cons e es =>
    have h : (chk Γ.g x sc e && chks Γ.g xs sc es) = true := h
    rw [Bool.and_eq_true] at h
    exact ⟨e, es, rfl, h.1, h.2⟩
theorem chks_nil {es : List Expr} (h : chks Γ.g .nil sc es = true) : es = [] := by
  cases es with
  | nil => rfl
  | cons e es => exact ff h
def XsOk (Γ : Gx) (xs : Xs) : Prop := ∀ x, x ∈ xs.l → XOk Γ x
theorem XsOk.hd {x : X} {xs : Xs} (h : XsOk Γ (.cons x xs)) : XOk Γ x := h x (by simp [Xs.l])
theorem XsOk.tl {x : X} {xs : Xs} (h : XsOk Γ (.cons x xs)) : XsOk Γ xs := fun y m => h y (by simp only [Xs.l]; exact List.mem_cons_of_mem _ m)
theorem pa_fz (c : Cok Γ.g Γ.G Γ.C Y sc W) : ∀ {xs : Xs} {es : List Expr}, XsOk Γ xs → chks Γ.g xs sc es = true → PA Y es (tDs Γ.G W (mutXs Γ.g xs) (fzsL (dens Γ.C xs)))
  | .nil, es, h, hc => by
    rw [chks_nil hc]
    refine PA.imp pa_nil fun σ H Q ⟨ρ, fs, F, q⟩ => ?_
    exact q H fs F .refl [] .nil
  | .cons x xs, es, h, hc => by
    obtain ⟨e, es, rfl, h1, h2⟩ := chks_cons hc
    refine PA.imp (pa_cons (xd_fz h.hd c h1) (pa_fz c h.tl h2) ((plain_of (h.hd.pl h1)).star _ _)) fun σ H Q ⟨ρ, fs, F, q⟩ => ⟨ρ, fs, F, ?_⟩
    have q : Run Γ.G W σ H ρ fs (mutX Γ.g x ++ mutXs Γ.g xs) (fun ds ρ' H' fs' => ∀ vs, RepDs Γ.G.K H' ds vs → Q vs H') ((fzR (x, den Γ.C x) ρ).bind fun d ρ => (fzsL (dens Γ.C xs) ρ).bind fun ds ρ => .ok (d :: ds) ρ) := q
    refine (Run.bind (M1 := mutX Γ.g x) (M2 := mutXs Γ.g xs) q (fun i m => List.mem_append_left _ m) (fun i m => List.mem_append_right _ m)).imp fun d ρ1 H1 fs1 F1 st1 q1 v r => ⟨ρ1, fs1, F1, ?_⟩
    refine (Run.bind (M1 := mutXs Γ.g xs) (M2 := []) q1 (fun i m => m) (fun i m => by cases m)).imp fun ds ρ2 H2 fs2 F2 st2 q2 vs rs => ?_
    exact q2 H2 fs2 F2 .refl _ (.cons (RepD.keep st2.keep _ _ r) rs)
theorem chks_plain {xs : Xs} (h : XsOk Γ xs) {es : List Expr} (hc : chks Γ.g xs sc es = true) : ∀ e, e ∈ es → plainB e = true := by
  induction xs using Xs.rec (motive_1 := fun _ => True) generalizing es with
  | nil => rw [chks_nil hc]; exact fun e m => by cases m
  | cons x xs _ ih =>
    obtain ⟨e, es, rfl, h1, h2⟩ := chks_cons hc
    intro e' m
    rcases List.mem_cons.mp m with rfl | m
    · exact h.hd.pl h1
    · exact ih h.tl h2 e' m
  | _ => trivial
theorem plain_any {es : List Expr} (h : ∀ e, e ∈ es → plainB e = true) (env : Env) (pos : Pos) : (backTo pos (starEach es env)).any (·.1) = false := by
  induction es with
  | nil => rfl
  | cons e es ih =>
    rw [(plain_of (h e List.mem_cons_self)).star]
    show (false || (backTo pos (starEach es env)).any (·.1)) = false
    rw [ih fun e m => h e (List.mem_cons_of_mem _ m)]; rfl
theorem chks_len {xs : Xs} {es : List Expr} (hc : chks Γ.g xs sc es = true) : es.length = xs.len := by
  induction xs using Xs.rec (motive_1 := fun _ => True) generalizing es with
  | nil => rw [chks_nil hc]; rfl
  | cons x xs _ ih =>
    obtain ⟨e, es, rfl, h1, h2⟩ := chks_cons hc
    rw [List.length_cons, ih h2]; rfl
  | _ => trivial
end Vm
/-! VmJ -/
namespace Vm
open PySem L2

variable {Γ : Gx} {Y : Cx} {sc : Scope} {W : WX} {e : Expr}
/-- an expression whose test is its value's -/
theorem XOk.of {x : X} {p : Fr → R S} (hd : den Γ.C x = Den.of p)
    (pe : ∀ {Y sc W e}, Cok Γ.g Γ.G Γ.C Y sc W → chk Γ.g x sc e = true → PE Y e (tV Γ.G W (root x) (mutX Γ.g x) p))
    (pl : ∀ {sc e}, chk Γ.g x sc e = true → plainB e = true ∧ testPlainB e = true) : XOk Γ x :=
  ⟨fun c h => by rw [hd]; exact pe c h, fun c h => by rw [hd]; exact pt_den (Γ := Γ) c (pe c h) (pl h).2, fun h => (pl h).1⟩

theorem path_expr {x : X} (hp : x.isPath = true) (h : chk Γ.g x sc e = true) (f : Str) (env : Env) (whole : Sem Value) : attributeBase e f env whole = whole := by
  cases x with
  | nm i => obtain ⟨y, p, rfl, _⟩ := nameB_of h; rfl
  | att x g => cases e <;> first | exact ff h | rfl
  | ix x i => cases e <;> first | exact ff h | rfl
  | _ => exact ff hp
theorem fget_rep {G : Pg} {H : Hp} {f : Nat} (inj : ∀ j, G.ok c j → G.fn j = G.fn f → j = f) : ∀ {fs : List Nat} {ss : List S} {ws : List V} {s : S} {F : Fp}, (∀ k, k ∈ fs → G.ok c k) → fs.length = ws.length → RepSs G H ss ws F → fget fs ss f = some s → ∃ v, ((fs.map G.fn).zip ws).lookup (G.fn f) = some v ∧ RepS G H s v F
  | [], ss, ws, s, F, hk, hl, r, e => by cases e
  | k :: fs, [], ws, s, F, hk, hl, r, e => by cases e
  | k :: fs, t :: ss, ws, s, F, hk, hl, r, e => by
    rw [RepSs] at r
    obtain ⟨v, r', g, rfl, y, a, b⟩ := r
    simp only [fget] at e
    simp only [List.map_cons, List.zip_cons_cons, List.lookup_cons]
    by_cases h : k = f
    · subst h
      rw [if_pos rfl] at e
      cases e
      refine ⟨v, ?_, RepS.mono _ _ a y⟩
      simp
    · rw [if_neg h] at e
      obtain ⟨w, e1, r1⟩ := fget_rep inj (fun j m => hk j (List.mem_cons_of_mem _ m)) (by simpa using hl) b e
      have hne : (G.fn f == G.fn k) = false := by
        rw [beq_eq_false_iff_ne]
        exact fun z => h (inj k (hk k List.mem_cons_self) z.symm)
      rw [hne]
      exact ⟨w, e1, RepS.mono _ _ r1 fun b z => z.1⟩
theorem fget_mem : ∀ {fs : List Nat} {ss : List S} {f : Nat} {s : S}, fget fs ss f = some s → f ∈ fs
  | [], ss, f, s, e => by cases e
  | k :: fs, [], f, s, e => by cases e
  | k :: fs, t :: ss, f, s, e => by
    simp only [fget] at e
    by_cases h : k = f
    · subst h; exact List.mem_cons_self
    · rw [if_neg h] at e; exact List.mem_cons_of_mem _ (fget_mem e)
/-- what a field's tree is, in the heap -/
theorem fld_rep (c : Cok Γ.g Γ.G Γ.C Y sc W) {H : Hp} {s t : S} {v : V} {F : Fp} {f : Nat} (r : RepS Γ.G H s v F) (e : fldGet s f = some t) :
    ∃ cl a dx fs w, v = .ref a ∧ H a = some (.ins (Γ.G.ca cl) dx fs) ∧ Γ.G.ok cl f ∧ fs.lookup (Γ.G.fn f) = some w ∧ RepS Γ.G H t w (fun b => F b ∧ b ≠ a) := by
  unfold fldGet at e
  split at e
  · rename_i cl fs vs
    rw [RepS] at r
    obtain ⟨a, dx, ws, rfl, q, fa, ⟨z1, z2⟩, r⟩ := r
    have ok := z2 f (fget_mem e)
    obtain ⟨w, e1, r1⟩ := fget_rep (c := cl) (fun j hj => c.inj cl j f hj ok) z2 z1 r e
    exact ⟨cl, a, dx, _, w, rfl, q, ok, e1, r1⟩
  · cases e
theorem xok_att {x : X} {f : Nat} (hx : XOk Γ x) : XOk Γ (.att x f) := by
  have sh : ∀ {sc e}, chk Γ.g (.att x f) sc e = true → ∃ v a p, e = .Attribute v a p ∧ Γ.g.nt.flds[f]? = some a ∧ x.isPath = true ∧ chk Γ.g x sc v = true := fun {sc e} h => by
    cases e <;> first | exact ff h | skip
    rename_i v a p
    have h : (decide (Γ.g.nt.flds[f]? = some a) && x.isPath && chk Γ.g x sc v) = true := h
    simp only [Bool.and_eq_true, decide_eq_true_eq] at h
    exact ⟨v, a, p, rfl, h.1.1, h.1.2, h.2⟩
  refine XOk.of (p := fun ρ => ((den Γ.C x).pk ρ).bind fun s ρ => R.of ρ (fldGet s f)) rfl (fun {Y sc W e} c h => ?_) fun h => by obtain ⟨v, a, p, rfl, _⟩ := sh h; exact ⟨rfl, rfl⟩
  obtain ⟨v, a, p, rfl, h1, h2, h3⟩ := sh h
  have ea : Γ.G.fn f = a := c.nam f a h1
  refine PE.imp (pe_fld (hx.pe c h3) (path_expr h2 h3 _ _ _)) fun σ H Q ⟨ρ, fs, F, q⟩ => ⟨ρ, fs, F, ?_⟩
  refine (Run.bind (M1 := mutX Γ.g x) (M2 := []) q (fun i m => m) (fun i m => by cases m)).imp fun s ρ1 H1 fs1 F1 st1 q1 v vp => ?_
  obtain ⟨t, e1, k⟩ := Run.of F1 q1
  obtain ⟨g, hr⟩ := vp.rep
  obtain ⟨cl, a', dx, fl, w, e2, e3, e4, e5, e6⟩ := fld_rep c hr e1
  have kk := c.fld cl f e4
  rw [ea] at kk e5
  refine ⟨a', _, dx, fl, w, e2, e3, kk.1, kk.2, e5, k w ?_⟩
  refine VP.part vp fun f' hf' => ?_
  obtain ⟨cl', a2, dx', fl', w', z2, z3, z4, z5, z6⟩ := fld_rep c hf' e1
  rw [e2] at z2; cases z2
  rw [e3] at z3
  have hz : fl = fl' := by injection z3 with z3; injection z3
  subst hz
  rw [ea, e5] at z5; cases z5
  exact ⟨_, fun b z => z.1, z6⟩

theorem xok_ix {x i : X} (hx : XOk Γ x) (hi : XOk Γ i) : XOk Γ (.ix x i) := by
  have sh : ∀ {sc e}, chk Γ.g (.ix x i) sc e = true → ∃ v s p, e = .Subscript v s p ∧ chk Γ.g x sc v = true ∧ chk Γ.g i sc s = true ∧ apart (root x) (mutX Γ.g i) = true := fun {sc e} h => by
    cases e <;> first | exact ff h | skip
    rename_i v a p
    have h : (chk Γ.g x sc v && chk Γ.g i sc a && apart (root x) (mutX Γ.g i)) = true := h
    simp only [Bool.and_eq_true] at h
    exact ⟨v, a, p, rfl, h.1.1, h.1.2, h.2⟩
  refine XOk.of (p := fun ρ => ((den Γ.C x).pk ρ).bind fun s ρ => (XD.ev (i, den Γ.C i) ρ).bind fun k ρ => R.of ρ (getIx s k)) rfl (fun {Y sc W e} c h => ?_) fun h => by obtain ⟨v, a, p, rfl, _⟩ := sh h; exact ⟨rfl, rfl⟩
  obtain ⟨v, s, p, rfl, h1, h2, h3⟩ := sh h
  refine PE.imp (pe_ix (ix_rule c.K c.un) (hx.pe c h1) (xd_ev hi c h2) fun o i => (plain_of (hi.pl h2)).nosl o i) fun σ H Q ⟨ρ, fs, F, q⟩ => ⟨ρ, fs, F, ?_⟩
  refine (two (r2 := none) q (not_apart h3)).imp fun s ρ1 H1 fs1 F1 st1 q1 v vp => ?_
  obtain ⟨ρ', fs', F', q2⟩ := q1 v vp
  refine ⟨ρ', fs', F', q2.imp fun y ρ2 H2 fs2 F2 st2 q3 u vp2 => ?_⟩
  obtain ⟨y', ρ3, fs3, F3, dm, w1, w2, st3, q4⟩ := q3 u vp2
  obtain ⟨t, e1, k⟩ := Run.of F3 q4
  cases y' with
  | v kd =>
    obtain ⟨f, hf, tr, rest⟩ := w1
    refine ⟨s, kd, f, t, hf, w2.toD, e1, fun z g hg hz => k z ?_⟩
    have w1' : VP (root x) Γ.G H fs (mutX Γ.g x) H2 fs3 t z := by
      refine ⟨g, hz, fun a q => tr a (hg a q), ?_⟩
      cases hr : root x with
      | none => rw [hr] at rest; exact ⟨fun i a q => rest.1 i a (hg a q), fun a q => rest.2 a (hg a q)⟩
      | some i => rw [hr] at rest; exact fun a q => rest a (hg a q)
    obtain ⟨g', hz', tr', rest'⟩ := w1'
    refine ⟨g', hz', tr', ?_⟩
    show match root x with | none => _ | some i => _
    cases hr : root x with
    | none => rw [hr] at rest'; exact ⟨rest'.1, fun a q => (rest'.2 a q).imp (U.mono fun i m => List.mem_append_left _ m) id⟩
    | some i => rw [hr] at rest'; exact rest'
  | _ => unfold getIx at e1; split at e1 <;> first | (cases e1; done) | (rename_i hh; cases hh; done) | skip

theorem xok_bin {o : Op2} {a b : X} (ha : XOk Γ a) (hb : XOk Γ b) : XOk Γ (.bin o a b) := by
  have sh : ∀ {sc e}, chk Γ.g (.bin o a b) sc e = true → ∃ l op r p, e = .BinOp l op r p ∧ opB o op = true ∧ chk Γ.g a sc l = true ∧ chk Γ.g b sc r = true ∧ apart (root a) (mutX Γ.g b) = true := fun {sc e} h => by
    cases e <;> first | exact ff h | skip
    rename_i l op r p
    have h : (opB o op && chk Γ.g a sc l && chk Γ.g b sc r && apart (root a) (mutX Γ.g b)) = true := h
    simp only [Bool.and_eq_true] at h
    exact ⟨l, op, r, p, rfl, h.1.1.1, h.1.1.2, h.1.2, h.2⟩
  refine XOk.of (p := fun ρ => ((den Γ.C a).pk ρ).bind fun x ρ => ((den Γ.C b).pk ρ).bind fun y ρ => R.of ρ (op2 o x y)) rfl (fun {Y sc W e} c h => ?_) fun h => by obtain ⟨l, op, r, p, rfl, _⟩ := sh h; exact ⟨rfl, rfl⟩
  obtain ⟨l, op, r, p, rfl, h1, h2, h3, h4⟩ := sh h
  rw [opB_eq h1]
  exact PE.imp (pe_op (op_rule c.K o) (ha.pe c h2) (hb.pe c h3)) fun σ H Q q => two_nv (not_apart h4) q
theorem xok_un {o : Op1} {a : X} (ha : XOk Γ a) : XOk Γ (.un o a) := by
  have sh : ∀ {sc e}, chk Γ.g (.un o a) sc e = true → ∃ op x p, e = .UnaryOp op x p ∧ op1B o op = true ∧ chk Γ.g a sc x = true := fun {sc e} h => by
    cases e <;> first | exact ff h | skip
    rename_i op x p
    have h : (op1B o op && chk Γ.g a sc x) = true := h
    simp only [Bool.and_eq_true] at h
    exact ⟨op, x, p, rfl, h.1, h.2⟩
  refine XOk.of (p := fun ρ => ((den Γ.C a).pk ρ).bind fun x ρ => R.of ρ (op1 o x)) rfl (fun {Y sc W e} c h => ?_) fun h => by obtain ⟨op, x, p, rfl, h1, _⟩ := sh h; rw [op1B_eq h1]; cases o <;> exact ⟨rfl, rfl⟩
  obtain ⟨op, x, p, rfl, h1, h2⟩ := sh h
  rw [op1B_eq h1]
  refine PE.imp (pe_un (op1_rule (G := Γ.G) o) (ha.pe c h2)) fun σ H Q ⟨ρ, fs, F, q⟩ => ⟨ρ, fs, F, ?_⟩
  refine (Run.bind (M1 := mutX Γ.g a) (M2 := []) q (fun i m => m) (fun i m => by cases m)).imp fun s ρ1 H1 fs1 F1 st1 q1 v vp => ?_
  obtain ⟨f, hr⟩ := vp.rep
  obtain ⟨t, e1, k⟩ := Run.nv F1 (fun a z => st1.keep.dom a z) q1
  exact ⟨s, f, t, hr, e1, k⟩

theorem cm_two {M1 M2 : List Nat} {r1 r2 : Option Nat} {p1 p2 : Fr → R S} {o : Cm} {G : Pg} (ap : ∀ i, r1 = some i → i ∉ M2) {σ : L2.St} {H : Hp} {Q : VK}
    (h : tV G W none (M1 ++ M2) (fun ρ => (p1 ρ).bind fun x ρ => (p2 ρ).bind fun y ρ => R.of ρ ((cmpV o x y).map b01)) σ H Q) : tOp (rCm G o) (tV G W r1 M1 p1) (tV G W r2 M2 p2) σ H Q := by
  obtain ⟨ρ, fs, F, q⟩ := h
  refine ⟨ρ, fs, F, (two (r2 := r2) q ap).imp fun x ρ1 H1 fs1 F1 st1 q1 v vp => ?_⟩
  obtain ⟨ρ', fs', F', q2⟩ := q1 v vp
  refine ⟨ρ', fs', F', q2.imp fun y ρ2 H2 fs2 F2 st2 q3 u vp2 => ?_⟩
  obtain ⟨y', ρ3, fs3, F3, dm, w1, w2, st3, q4⟩ := q3 u vp2
  obtain ⟨t, e1, k⟩ := Run.of F3 q4
  obtain ⟨cb, e2, e3⟩ := Option.map_eq_some_iff.mp e1
  subst e3
  obtain ⟨f1, z1⟩ := w1.rep
  obtain ⟨f2, z2⟩ := w2.rep
  exact ⟨x, y', f1, f2, cb, z1, z2, e2, k _ (VP.d rep_bl)⟩
theorem tT_of {G : Pg} {W : WX} {M : List Nat} {p : Fr → R S} {σ : L2.St} {H : Hp} {Q : Bool → Hp → Prop} (hb : ∀ s ρ ρ', p ρ = .ok s ρ' → ∃ b, s = .v (.bl b)) (h : tT G W M (Den.of p).ts σ H Q) : tV G W none M p σ H fun x H' => ∃ k, x = .bl k ∧ Q k H' := by
  obtain ⟨ρ, fs, F, q⟩ := h
  refine ⟨ρ, fs, F, ?_⟩
  have q : Run G W σ H ρ fs M (fun b ρ' H' fs' => Q b H') ((p ρ).bind fun s ρ => R.of ρ (truth s)) := q
  cases e : p ρ with
  | bad => rw [e] at q; exact q.elim
  | ex x ρ' => rw [e] at q; exact q
  | ok s ρ' =>
    rw [e] at q
    obtain ⟨b, rfl⟩ := hb s ρ ρ' e
    intro H' fs' F' st v vp
    have vr := vp.toD
    rw [RepD] at vr
    exact ⟨b, vr, q H' fs' F' st⟩
theorem rof_bl {α : Type} {ρ ρ' : Fr} {o : Option Bool} {s : S} (h : R.of ρ (o.map b01) = .ok s ρ') : ∃ b, s = .v (.bl b) := by
  cases o with
  | none => cases h
  | some b => cases h; exact ⟨b, rfl⟩
theorem xok_cmp {o : Cm} {a b : X} (ha : XOk Γ a) (hb : XOk Γ b) : XOk Γ (.cmp o a b) := by
  have sh : ∀ {sc e}, chk Γ.g (.cmp o a b) sc e = true → ∃ l op r p, e = .Compare l [op] [r] p ∧ cmB o op = true ∧ chk Γ.g a sc l = true ∧ chk Γ.g b sc r = true := fun {sc e} h => by
    cases e with
    | Compare l ops rs p =>
      cases ops with
      | nil => exact ff h
      | cons op ops =>
        cases ops with
        | cons _ _ => exact ff h
        | nil =>
          cases rs with
          | nil => exact ff h
          | cons r rs =>
            cases rs with
            | cons _ _ => exact ff h
            | nil =>
              have h : (cmB o op && chk Γ.g a sc l && chk Γ.g b sc r) = true := h
              simp only [Bool.and_eq_true] at h
              exact ⟨l, op, r, p, rfl, h.1.1, h.1.2, h.2⟩
    | _ => exact ff h
  refine ⟨fun {Y sc W e} c h => ?_, fun {Y sc W e} c h => ?_, fun h => by obtain ⟨l, op, r, p, rfl, _⟩ := sh h; rfl⟩
  · obtain ⟨l, op, r, p, rfl, h1, h2, h3⟩ := sh h
    rw [cmB_eq h1]
    exact PE.imp (pe_cmpR (cm_rule c.K c.un o) (xd_ev ha c h2) (hb.pe c h3) ((plain_of (hb.pl h3)).mark _)) fun σ H Q q => cm_two (fun i z => by cases z) q
  · obtain ⟨l, op, r, p, rfl, h1, h2, h3⟩ := sh h
    rw [cmB_eq h1]
    refine PT.imp (pt_cmpR (cm_rule c.K c.un o) (xd_ev ha c h2) (hb.pe c h3) ((plain_of (hb.pl h3)).mark _)) fun σ H Q q => cm_two (fun i z => by cases z) (tT_of (fun s ρ ρ' e => ?_) q)
    obtain ⟨x, ρ1, e1, e2⟩ := R.bind_eq_ok e
    obtain ⟨y, ρ2, e3, e4⟩ := R.bind_eq_ok e2
    exact rof_bl (α := Unit) e4
end Vm
/-! VmK -/
namespace Vm
open PySem L2

variable {Γ : Gx} {Y : Cx} {sc : Scope} {W : WX} {e : Expr}
theorem ch_two {M1 M2 M3 : List Nat} {p1 p2 p3 : Fr → R S} {o o' : Cm} {G : Pg} {W : WX} {σ : L2.St} {H : Hp} {Q : VK}
    (h : tV G W none (M1 ++ (M2 ++ M3)) (fun ρ => (p1 ρ).bind fun x ρ => (p2 ρ).bind fun y ρ => (R.of ρ (cmpV o x y)).bind fun t ρ => if t then (p3 ρ).bind fun z ρ => R.of ρ ((cmpV o' y z).map b01) else .ok (b01 false) ρ) σ H Q) :
    tChain (rCm G o) (rCm G o') (tV G W none M1 p1) (tV G W none M2 p2) (tV G W none M3 p3) σ H Q := by
  obtain ⟨ρ, fs, F, q⟩ := h
  refine ⟨ρ, fs, F, (Run.bind (M1 := M1) (M2 := M2 ++ M3) q (fun i m => List.mem_append_left _ m) (fun i m => List.mem_append_right _ m)).imp fun x ρ1 H1 fs1 F1 st1 q1 v vp => ⟨ρ1, fs1, F1, ?_⟩⟩
  refine (Run.bind (M1 := M2) (M2 := M3) q1 (fun i m => List.mem_append_left _ m) (fun i m => List.mem_append_right _ m)).imp fun y ρ2 H2 fs2 F2 st2 q2 u vp2 => ?_
  have vp1 := vp.carry F1 st2 (fun i z => by cases z)
  obtain ⟨f1, z1⟩ := vp1.rep
  obtain ⟨f2, z2⟩ := vp2.rep
  cases e1 : cmpV o x y with
  | none => rw [e1] at q2; exact q2.elim
  | some t =>
    rw [e1] at q2
    refine ⟨x, y, f1, f2, t, z1, z2, e1, t, rfl, ?_⟩
    cases t with
    | false => exact q2 H2 fs2 F2 .refl _ (VP.d rep_bl)
    | true =>
      refine ⟨ρ2, fs2, F2, (Run.bind (M1 := M3) (M2 := []) (k := fun z ρ => R.of ρ ((cmpV o' y z).map b01)) q2 (fun i m => m) (fun i m => by cases m)).imp fun z ρ3 H3 fs3 F3 st3 q3 w vp3 => ?_⟩
      have vp2' := vp2.carry F2 st3 (fun i z => by cases z)
      obtain ⟨f3, z3⟩ := vp2'.rep
      obtain ⟨f4, z4⟩ := vp3.rep
      obtain ⟨b, eb, k⟩ := Run.of F3 q3
      obtain ⟨c, ec, e4⟩ := Option.map_eq_some_iff.mp eb
      subst e4
      exact ⟨y, z, f3, f4, c, z3, z4, ec, k _ (VP.d rep_bl)⟩
theorem xok_cm2 {o o' : Cm} {a b d : X} (ha : XOk Γ a) (hb : XOk Γ b) (hd : XOk Γ d) : XOk Γ (.cm2 o o' a b d) := by
  have sh : ∀ {sc e}, chk Γ.g (.cm2 o o' a b d) sc e = true → ∃ l op op' r r' p, e = .Compare l [op, op'] [r, r'] p ∧ cmB o op = true ∧ cmB o' op' = true ∧ chk Γ.g a sc l = true ∧ chk Γ.g b sc r = true ∧ chk Γ.g d sc r' = true := fun {sc e} h => by
    unfold chk at h
    split at h
    · simp only [Bool.and_eq_true] at h
      exact ⟨_, _, _, _, _, _, rfl, h.1.1.1.1, h.1.1.1.2, h.1.1.2, h.1.2, h.2⟩
    · exact ff h
  have hm : ∀ {sc op op' r r'}, chk Γ.g d sc r' = true → lastMarks [op, op'] [r, r'] = false := fun {sc op op' r r'} h => (plain_of (hd.pl h)).mark _
  refine ⟨fun {Y sc W e} c h => ?_, fun {Y sc W e} c h => ?_, fun h => by obtain ⟨_, _, _, _, _, _, rfl, _⟩ := sh h; rfl⟩
  · obtain ⟨l, op, op', r, r', p, rfl, h1, h2, h3, h4, h5⟩ := sh h
    rw [cmB_eq h1, cmB_eq h2]
    exact PE.imp (pe_chain (cm_rule c.K c.un o) (cm_rule c.K c.un o') (xd_ev ha c h3) (xd_ev hb c h4) (xd_ev hd c h5) (hm h5)) fun σ H Q q => ch_two q
  · obtain ⟨l, op, op', r, r', p, rfl, h1, h2, h3, h4, h5⟩ := sh h
    rw [cmB_eq h1, cmB_eq h2]
    refine PT.imp (pt_chain (cm_rule c.K c.un o) (cm_rule c.K c.un o') (xd_ev ha c h3) (xd_ev hb c h4) (xd_ev hd c h5) (hm h5)) fun σ H Q q => ch_two (tT_of (fun s ρ ρ' e => ?_) q)
    obtain ⟨x, ρ1, e1, e2⟩ := R.bind_eq_ok e
    obtain ⟨y, ρ2, e3, e4⟩ := R.bind_eq_ok e2
    obtain ⟨t, ρ3, e5, e6⟩ := R.bind_eq_ok e4
    cases t with
    | false => cases e6; exact ⟨false, rfl⟩
    | true =>
      obtain ⟨z, ρ4, e7, e8⟩ := R.bind_eq_ok (k := fun z ρ => R.of ρ ((cmpV o' y z).map b01)) e6
      exact rof_bl (α := Unit) e8

theorem pe_notT {a : Expr} {ta : TE} {pos : Pos} (ha : PE Y a ta) : PE Y (.UnaryOp .Not a pos) (fun σ H Q => ta σ H fun x H1 => ∃ k, TruV Y.K x H1 k ∧ Q (.bl (!k)) H1) := by
  refine ⟨fun pins s σ H Q I h => ?_⟩
  refine PyProof.Rows.UnaryOp_ (thn (ha.run pins s σ H _ I h) fun v s1 ⟨x, H1, I1, r1, q1⟩ => ?_)
  exact PyProof.Rows.not_of (thn (tru_ok pins s1 σ H1 x v (fun k H' => Q (.bl (!k)) H') I1 r1 q1) fun k s2 ⟨H2, I2, q2⟩ => ⟨.bl (!k), H2, I2, rfl, q2⟩)
theorem xok_not {a : X} (ha : XOk Γ a) : XOk Γ (.not a) := by
  have sh : ∀ {sc e}, chk Γ.g (.not a) sc e = true → ∃ x p, e = .UnaryOp .Not x p ∧ chk Γ.g a sc x = true := fun {sc e} h => by
    unfold chk at h
    split at h
    · exact ⟨_, _, rfl, h⟩
    · exact ff h
  refine ⟨fun {Y sc W e} c h => ?_, fun {Y sc W e} c h => ?_, fun h => by obtain ⟨_, _, rfl, _⟩ := sh h; rfl⟩
  · obtain ⟨x, p, rfl, h1⟩ := sh h
    refine PE.imp (pe_notT (ha.pe c h1)) fun σ H Q ⟨ρ, fs, F, q⟩ => ⟨ρ, fs, F, ?_⟩
    refine (Run.bind (M1 := mutX Γ.g a) (M2 := []) q (fun i m => m) (fun i m => by cases m)).imp fun t ρ1 H1 fs1 F1 st1 q1 v vp => ?_
    cases e1 : truth t with
    | none => rw [e1] at q1; exact q1.elim
    | some b =>
      rw [e1] at q1
      obtain ⟨f, hr⟩ := vp.rep
      exact ⟨b, by rw [c.K]; exact truth_of hr e1, q1 H1 fs1 F1 .refl _ (VP.d rep_bl)⟩
  · obtain ⟨x, p, rfl, h1⟩ := sh h
    refine PT.imp (pt_not (ha.pt c h1)) fun σ H Q ⟨ρ, fs, F, q⟩ => ⟨ρ, fs, F, ?_⟩
    refine (Run.bind (M1 := mutX Γ.g a) (M2 := []) q (fun i m => m) (fun i m => by cases m)).imp fun t ρ1 H1 fs1 F1 st1 q1 => ?_
    exact q1 H1 fs1 F1 .refl
theorem pw_and_all {p : Pos} (c : Cok Γ.g Γ.G Γ.C Y sc W) : ∀ {xs : Xs} {es : List Expr}, XsOk Γ xs → chks Γ.g xs sc es = true → xs.len ≠ 0 → PW Y (.BoolOp .And es p) (tT Γ.G W (mutXs Γ.g xs) (tAndL (dens Γ.C xs)))
  | .nil, es, h, hc, hn => absurd rfl hn
  | .cons x .nil, es, h, hc, _ => by
    obtain ⟨e, es, rfl, h1, h2⟩ := chks_cons hc
    rw [chks_nil h2]
    refine PW.imp (pw_and1 (h.hd.pt c h1)) fun σ H Q ⟨ρ, fs, F, q⟩ => ⟨ρ, fs, F, ?_⟩
    have q : Run Γ.G W σ H ρ fs (mutX Γ.g x ++ []) (fun b ρ' H' fs' => Q b H') (((den Γ.C x).ts ρ).bind fun b ρ => if b then .ok true ρ else .ok false ρ) := q
    refine (Run.bind (M1 := mutX Γ.g x) (M2 := []) q (fun i m => List.mem_append_left _ m) (fun i m => by cases m)).imp fun t ρ1 H1 fs1 F1 st1 q1 => ?_
    cases t <;> exact q1 H1 fs1 F1 .refl
  | .cons x (.cons y xs), es, h, hc, _ => by
    obtain ⟨e, es, rfl, h1, h2⟩ := chks_cons hc
    have ih := fun q => pw_and_all (p := p) c (xs := .cons y xs) (es := es) h.tl h2 q
    obtain ⟨e2, es2, rfl, h3, h4⟩ := chks_cons h2
    refine PW.imp (pw_and (h.hd.pt c h1) (ih (by simp [Xs.len]))) fun σ H Q ⟨ρ, fs, F, q⟩ => ⟨ρ, fs, F, ?_⟩
    have q : Run Γ.G W σ H ρ fs (mutX Γ.g x ++ mutXs Γ.g (.cons y xs)) (fun b ρ' H' fs' => Q b H') (((den Γ.C x).ts ρ).bind fun b ρ => if b then tAndL (dens Γ.C (.cons y xs)) ρ else .ok false ρ) := q
    refine (Run.bind (M1 := mutX Γ.g x) (M2 := mutXs Γ.g (.cons y xs)) q (fun i m => List.mem_append_left _ m) (fun i m => List.mem_append_right _ m)).imp fun t ρ1 H1 fs1 F1 st1 q1 => ?_
    cases t with
    | false => exact q1 H1 fs1 F1 .refl
    | true => exact ⟨ρ1, fs1, F1, q1⟩
theorem pw_or_all {p : Pos} (c : Cok Γ.g Γ.G Γ.C Y sc W) : ∀ {xs : Xs} {es : List Expr}, XsOk Γ xs → chks Γ.g xs sc es = true → xs.len ≠ 0 → PW Y (.BoolOp .Or es p) (tT Γ.G W (mutXs Γ.g xs) (tOrL (dens Γ.C xs)))
  | .nil, es, h, hc, hn => absurd rfl hn
  | .cons x .nil, es, h, hc, _ => by
    obtain ⟨e, es, rfl, h1, h2⟩ := chks_cons hc
    rw [chks_nil h2]
    refine PW.imp (pw_or1 (h.hd.pt c h1)) fun σ H Q ⟨ρ, fs, F, q⟩ => ⟨ρ, fs, F, ?_⟩
    have q : Run Γ.G W σ H ρ fs (mutX Γ.g x ++ []) (fun b ρ' H' fs' => Q b H') (((den Γ.C x).ts ρ).bind fun b ρ => if b then .ok true ρ else .ok false ρ) := q
    refine (Run.bind (M1 := mutX Γ.g x) (M2 := []) q (fun i m => List.mem_append_left _ m) (fun i m => by cases m)).imp fun t ρ1 H1 fs1 F1 st1 q1 => ?_
    cases t <;> exact q1 H1 fs1 F1 .refl
  | .cons x (.cons y xs), es, h, hc, _ => by
    obtain ⟨e, es, rfl, h1, h2⟩ := chks_cons hc
    have ih := fun q => pw_or_all (p := p) c (xs := .cons y xs) (es := es) h.tl h2 q
    obtain ⟨e2, es2, rfl, h3, h4⟩ := chks_cons h2
    refine PW.imp (pw_or (h.hd.pt c h1) (ih (by simp [Xs.len]))) fun σ H Q ⟨ρ, fs, F, q⟩ => ⟨ρ, fs, F, ?_⟩
    have q : Run Γ.G W σ H ρ fs (mutX Γ.g x ++ mutXs Γ.g (.cons y xs)) (fun b ρ' H' fs' => Q b H') (((den Γ.C x).ts ρ).bind fun b ρ => if b then .ok true ρ else tOrL (dens Γ.C (.cons y xs)) ρ) := q
    refine (Run.bind (M1 := mutX Γ.g x) (M2 := mutXs Γ.g (.cons y xs)) q (fun i m => List.mem_append_left _ m) (fun i m => List.mem_append_right _ m)).imp fun t ρ1 H1 fs1 F1 st1 q1 => ?_
    cases t with
    | true => exact q1 H1 fs1 F1 .refl
    | false => exact ⟨ρ1, fs1, F1, q1⟩
theorem pe_and_all {p : Pos} (c : Cok Γ.g Γ.G Γ.C Y sc W) : ∀ {xs : Xs} {es : List Expr}, XsOk Γ xs → chks Γ.g xs sc es = true → xs.len ≠ 0 → PE Y (.BoolOp .And es p) (tV Γ.G W none (mutXs Γ.g xs) (vAndL (dens Γ.C xs)))
  | .nil, es, h, hc, hn => absurd rfl hn
  | .cons x .nil, es, h, hc, _ => by
    obtain ⟨e, es, rfl, h1, h2⟩ := chks_cons hc
    rw [chks_nil h2]
    refine PE.imp (pe_one (xd_ev h.hd c h1)) fun σ H Q ⟨ρ, fs, F, q⟩ => ⟨ρ, fs, F, ?_⟩
    have e : mutXs Γ.g (.cons x .nil) = mutX Γ.g x := List.append_nil _
    rw [e] at q; exact q
  | .cons x (.cons y xs), es, h, hc, _ => by
    obtain ⟨e, es, rfl, h1, h2⟩ := chks_cons hc
    have ih := fun q => pe_and_all (p := p) c (xs := .cons y xs) (es := es) h.tl h2 q
    obtain ⟨e2, es2, rfl, h3, h4⟩ := chks_cons h2
    refine PE.imp (pe_and (xd_ev h.hd c h1) (ih (by simp [Xs.len]))) fun σ H Q ⟨ρ, fs, F, q⟩ => ⟨ρ, fs, F, ?_⟩
    have q : Run Γ.G W σ H ρ fs (mutX Γ.g x ++ mutXs Γ.g (.cons y xs)) (fun s ρ' H' fs' => ∀ v, VP none Γ.G H fs (mutX Γ.g x ++ mutXs Γ.g (.cons y xs)) H' fs' s v → Q v H') ((XD.ev (x, den Γ.C x) ρ).bind fun s ρ => match s with
      | .v (.bl b) => if b then vAndL (dens Γ.C (.cons y xs)) ρ else .ok s ρ
      | _ => .bad) := q
    refine (Run.bind (M1 := mutX Γ.g x) (M2 := mutXs Γ.g (.cons y xs)) q (fun i m => List.mem_append_left _ m) (fun i m => List.mem_append_right _ m)).imp fun t ρ1 H1 fs1 F1 st1 q1 v vp => ?_
    split at q1
    · rename_i b
      have vr := vp.toD
      rw [RepD] at vr
      refine ⟨b, vr, ?_⟩
      cases b with
      | false => exact q1 H1 fs1 F1 .refl _ (VP.d rep_bl)
      | true => exact ⟨ρ1, fs1, F1, q1.imp fun s ρ2 H2 fs2 F2 st2 q2 u vp2 => q2 u (vp2.grow st1 (fun i m => List.mem_append_left _ m) (fun i m => List.mem_append_right _ m))⟩
    · exact q1.elim
theorem pe_or_all {p : Pos} (c : Cok Γ.g Γ.G Γ.C Y sc W) : ∀ {xs : Xs} {es : List Expr}, XsOk Γ xs → chks Γ.g xs sc es = true → xs.len ≠ 0 → PE Y (.BoolOp .Or es p) (tV Γ.G W none (mutXs Γ.g xs) (vOrL (dens Γ.C xs)))
  | .nil, es, h, hc, hn => absurd rfl hn
  | .cons x .nil, es, h, hc, _ => by
    obtain ⟨e, es, rfl, h1, h2⟩ := chks_cons hc
    rw [chks_nil h2]
    refine PE.imp (pe_one (xd_ev h.hd c h1)) fun σ H Q ⟨ρ, fs, F, q⟩ => ⟨ρ, fs, F, ?_⟩
    have e : mutXs Γ.g (.cons x .nil) = mutX Γ.g x := List.append_nil _
    rw [e] at q; exact q
  | .cons x (.cons y xs), es, h, hc, _ => by
    obtain ⟨e, es, rfl, h1, h2⟩ := chks_cons hc
    have ih := fun q => pe_or_all (p := p) c (xs := .cons y xs) (es := es) h.tl h2 q
    obtain ⟨e2, es2, rfl, h3, h4⟩ := chks_cons h2
    refine PE.imp (pe_or (xd_ev h.hd c h1) (ih (by simp [Xs.len]))) fun σ H Q ⟨ρ, fs, F, q⟩ => ⟨ρ, fs, F, ?_⟩
    have q : Run Γ.G W σ H ρ fs (mutX Γ.g x ++ mutXs Γ.g (.cons y xs)) (fun s ρ' H' fs' => ∀ v, VP none Γ.G H fs (mutX Γ.g x ++ mutXs Γ.g (.cons y xs)) H' fs' s v → Q v H') ((XD.ev (x, den Γ.C x) ρ).bind fun s ρ => match s with
      | .v (.bl b) => if b then .ok s ρ else vOrL (dens Γ.C (.cons y xs)) ρ
      | _ => .bad) := q
    refine (Run.bind (M1 := mutX Γ.g x) (M2 := mutXs Γ.g (.cons y xs)) q (fun i m => List.mem_append_left _ m) (fun i m => List.mem_append_right _ m)).imp fun t ρ1 H1 fs1 F1 st1 q1 v vp => ?_
    split at q1
    · rename_i b
      have vr := vp.toD
      rw [RepD] at vr
      refine ⟨b, vr, ?_⟩
      cases b with
      | true => exact q1 H1 fs1 F1 .refl _ (VP.d rep_bl)
      | false => exact ⟨ρ1, fs1, F1, q1.imp fun s ρ2 H2 fs2 F2 st2 q2 u vp2 => q2 u (vp2.grow st1 (fun i m => List.mem_append_left _ m) (fun i m => List.mem_append_right _ m))⟩
    · exact q1.elim
theorem xok_and {xs : Xs} (h : XsOk Γ xs) : XOk Γ (.and xs) := by
  have sh : ∀ {sc e}, chk Γ.g (.and xs) sc e = true → ∃ es p, e = .BoolOp .And es p ∧ chks Γ.g xs sc es = true ∧ xs.len ≠ 0 := fun {sc e} h => by
    unfold chk at h
    split at h
    · simp only [Bool.and_eq_true, decide_eq_true_eq] at h
      exact ⟨_, _, rfl, h.1, h.2⟩
    · exact ff h
  refine ⟨fun {Y sc W e} c hc => ?_, fun {Y sc W e} c hc => ?_, fun hc => by obtain ⟨_, _, rfl, _⟩ := sh hc; rfl⟩
  · obtain ⟨es, p, rfl, h1, h2⟩ := sh hc
    exact pe_and_all c h h1 h2
  · obtain ⟨es, p, rfl, h1, h2⟩ := sh hc
    have w := pw_and_all (p := p) c h h1 h2
    refine ⟨fun pins s σ H Q I q => ?_⟩
    exact w.run _ pins s σ H Q I q
theorem xok_or {xs : Xs} (h : XsOk Γ xs) : XOk Γ (.or xs) := by
  have sh : ∀ {sc e}, chk Γ.g (.or xs) sc e = true → ∃ es p, e = .BoolOp .Or es p ∧ chks Γ.g xs sc es = true ∧ xs.len ≠ 0 := fun {sc e} h => by
    unfold chk at h
    split at h
    · simp only [Bool.and_eq_true, decide_eq_true_eq] at h
      exact ⟨_, _, rfl, h.1, h.2⟩
    · exact ff h
  refine ⟨fun {Y sc W e} c hc => ?_, fun {Y sc W e} c hc => ?_, fun hc => by obtain ⟨_, _, rfl, _⟩ := sh hc; rfl⟩
  · obtain ⟨es, p, rfl, h1, h2⟩ := sh hc
    exact pe_or_all c h h1 h2
  · obtain ⟨es, p, rfl, h1, h2⟩ := sh hc
    have w := pw_or_all (p := p) c h h1 h2
    refine ⟨fun pins s σ H Q I q => ?_⟩
    exact w.run _ pins s σ H Q I q
end Vm
/-! VmL -/
namespace Vm
open PySem L2

variable {Γ : Gx} {Y : Cx} {sc : Scope} {W : WX} {e : Expr}
theorem xok_ife {a b d : X} (ha : XOk Γ a) (hb : XOk Γ b) (hd : XOk Γ d) : XOk Γ (.ife a b d) := by
  have sh : ∀ {sc e}, chk Γ.g (.ife a b d) sc e = true → ∃ t x y p, e = .IfExp t x y p ∧ chk Γ.g a sc t = true ∧ chk Γ.g b sc x = true ∧ chk Γ.g d sc y = true := fun {sc e} h => by
    unfold chk at h
    split at h
    · simp only [Bool.and_eq_true] at h
      exact ⟨_, _, _, _, rfl, h.1.1, h.1.2, h.2⟩
    · exact ff h
  refine ⟨fun {Y sc W e} c h => ?_, fun {Y sc W e} c h => ⟨fun pins s σ H Q I ⟨ρ, fs, F, q⟩ => False.elim q⟩, fun h => by obtain ⟨_, _, _, _, rfl, _⟩ := sh h; rfl⟩
  obtain ⟨t, x, y, p, rfl, h1, h2, h3⟩ := sh h
  refine PE.imp (pe_ifExp (ha.pt c h1) (xd_ev hb c h2) (xd_ev hd c h3)) fun σ H Q ⟨ρ, fs, F, q⟩ => ⟨ρ, fs, F, ?_⟩
  refine (Run.bind (M1 := mutX Γ.g a) (M2 := mutX Γ.g b ++ mutX Γ.g d) q (fun i m => List.mem_append_left _ m) (fun i m => List.mem_append_right _ m)).imp fun t ρ1 H1 fs1 F1 st1 q1 => ?_
  cases t with
  | true =>
    have q1 : Run Γ.G W σ H1 ρ1 fs1 (mutX Γ.g b ++ mutX Γ.g d) (fun s ρ' H' fs' => ∀ v, VP none Γ.G H fs (mutX Γ.g a ++ (mutX Γ.g b ++ mutX Γ.g d)) H' fs' s v → Q v H') ((XD.ev (b, den Γ.C b) ρ1).bind fun s ρ => .ok s ρ) := by
      cases z : XD.ev (b, den Γ.C b) ρ1 <;> (rw [if_pos rfl, z] at q1; exact q1)
    refine ⟨ρ1, fs1, F1, (Run.bind (M1 := mutX Γ.g b) (M2 := []) q1 (fun i m => List.mem_append_left _ m) (fun i m => by cases m)).imp fun s ρ2 H2 fs2 F2 st2 q2 u vp => ?_⟩
    exact q2 H2 fs2 F2 .refl u (vp.grow st1 (fun i m => List.mem_append_left _ m) (fun i m => List.mem_append_right _ (List.mem_append_left _ m)))
  | false =>
    have q1 : Run Γ.G W σ H1 ρ1 fs1 (mutX Γ.g b ++ mutX Γ.g d) (fun s ρ' H' fs' => ∀ v, VP none Γ.G H fs (mutX Γ.g a ++ (mutX Γ.g b ++ mutX Γ.g d)) H' fs' s v → Q v H') ((XD.ev (d, den Γ.C d) ρ1).bind fun s ρ => .ok s ρ) := by
      cases z : XD.ev (d, den Γ.C d) ρ1 <;> (rw [if_neg (by decide), z] at q1; exact q1)
    refine ⟨ρ1, fs1, F1, (Run.bind (M1 := mutX Γ.g d) (M2 := []) q1 (fun i m => List.mem_append_right _ m) (fun i m => by cases m)).imp fun s ρ2 H2 fs2 F2 st2 q2 u vp => ?_⟩
    exact q2 H2 fs2 F2 .refl u (vp.grow st1 (fun i m => List.mem_append_left _ m) (fun i m => List.mem_append_right _ (List.mem_append_right _ m)))

theorem dens_len {C : Cal} : ∀ xs : Xs, (dens C xs).length = xs.len
  | .nil => rfl
  | .cons x xs => by show (dens C xs).length + 1 = xs.len + 1; rw [dens_len xs]
theorem fzsL_len : ∀ {l : List XD} {ρ ρ' : Fr} {ds : List D}, fzsL l ρ = .ok ds ρ' → ds.length = l.length
  | [], ρ, ρ', ds, e => by cases e; rfl
  | x :: xs, ρ, ρ', ds, e => by
    obtain ⟨d, ρ1, e1, e2⟩ := R.bind_eq_ok e
    obtain ⟨ds', ρ2, e3, e4⟩ := R.bind_eq_ok e2
    cases e4
    rw [List.length_cons, List.length_cons, fzsL_len e3]
/-- the end of an evaluation whose last step lays an object -/
theorem Run.nvok {G : Pg} {W : WX} {σ : L2.St} {H H0 : Hp} {ρ : Fr} {fs fs0 : Nat → Fp} {M M' : List Nat} {Q : VK} {s : S} (F : FR G H σ ρ fs) (hd : ∀ a, H a = none → H0 a = none)
    (h : Run G W σ H ρ fs M (fun s ρ' H' fs' => ∀ v, VP none G H0 fs0 M' H' fs' s v → Q v H') (.ok s ρ)) : ∀ v H', NV G H H' s v → Q v H' := by
  obtain ⟨t, e, k⟩ := Run.nv (o := some s) F hd h
  cases e
  exact k
theorem small_line {n : Nat} (h : n ≤ 1000) : n ≤ sizeLine := by rw [sizeLine_eq]; omega
theorem Run.imp' {α : Type} {G : Pg} {W : WX} {σ : L2.St} {H : Hp} {ρ : Fr} {fs : Nat → Fp} {M : List Nat} {K K' : α → Fr → Hp → (Nat → Fp) → Prop} {r : R α} (h : Run G W σ H ρ fs M K r)
    (i : ∀ a ρ' H' fs', r = .ok a ρ' → FR G H' σ ρ' fs' → Step H ρ fs M H' ρ' fs' → K a ρ' H' fs' → K' a ρ' H' fs') : Run G W σ H ρ fs M K' r := by
  cases r with
  | bad => exact h
  | ok a ρ' => exact fun H' fs' F st => i a ρ' H' fs' rfl F st (h H' fs' F st)
  | ex e ρ' => exact h
theorem xok_tup {xs : Xs} (h : XsOk Γ xs) : XOk Γ (.tup xs) := by
  have sh : ∀ {sc e}, chk Γ.g (.tup xs) sc e = true → ∃ es x p, e = .Tuple es x p ∧ chks Γ.g xs sc es = true ∧ xs.len ≤ 1000 := fun {sc e} h => by
    unfold chk at h
    split at h
    · simp only [Bool.and_eq_true, decide_eq_true_eq] at h
      exact ⟨_, _, _, rfl, h.1, h.2⟩
    · exact ff h
  refine XOk.of (p := fun ρ => (fzsL (dens Γ.C xs) ρ).bind fun ds ρ => .ok (.v (.tup true ds)) ρ) rfl (fun {Y sc W e} c hc => ?_) fun hc => by obtain ⟨_, _, _, rfl, _⟩ := sh hc; exact ⟨rfl, rfl⟩
  obtain ⟨es, x, p, rfl, h1, h2⟩ := sh hc
  refine PE.imp (pe_tup (pa_fz c h h1)) fun σ H Q ⟨ρ, fs, F, q⟩ => ⟨ρ, fs, F, ?_⟩
  refine (Run.bind (M1 := mutXs Γ.g xs) (M2 := []) q (fun i m => m) (fun i m => by cases m)).imp' fun ds ρ1 H1 fs1 e1 F1 st1 q1 vs rs => ?_
  have hl : vs.length ≤ sizeLine := by rw [← rs.length, fzsL_len e1, dens_len]; exact small_line h2
  exact ⟨hl, fun p hp => Run.nvok F1 (fun a z => st1.keep.dom a z) q1 _ _ (nv_tup hp hl rs)⟩
theorem xok_fz {x : X} (h : XOk Γ x) : XOk Γ (.fz x) := by
  have sh : ∀ {sc e}, chk Γ.g (.fz x) sc e = true → chk Γ.g x sc e = true := fun {sc e} hc => by
    have hc : (chk Γ.g x sc e && (root x).isNone) = true := hc
    rw [Bool.and_eq_true] at hc
    exact hc.1
  have pe : ∀ {Y sc W e}, Cok Γ.g Γ.G Γ.C Y sc W → chk Γ.g (.fz x) sc e = true → PE Y e (tV Γ.G W none (mutX Γ.g x) (fun ρ => (fzR (x, den Γ.C x) ρ).bind fun d ρ => .ok (.v d) ρ)) := fun {Y sc W e} c hc => by
    refine PE.imp (xd_fz h c (sh hc)) fun σ H Q ⟨ρ, fs, F, q⟩ => ⟨ρ, fs, F, ?_⟩
    refine (Run.bind (M1 := mutX Γ.g x) (M2 := []) q (fun i m => m) (fun i m => by cases m)).imp fun d ρ1 H1 fs1 F1 st1 q1 v r => ?_
    exact q1 H1 fs1 F1 .refl v (VP.d r)
  exact ⟨pe, fun {Y sc W e} c hc => ⟨fun pins s σ H Q I ⟨ρ, fs, F, q⟩ => False.elim q⟩, fun hc => h.pl (sh hc)⟩
theorem xok_mv (i : Nat) : XOk Γ (.mv i) := by
  refine XOk.of (p := fun ρ => match getS ρ i with
    | some s => .ok s (ρ.set i none)
    | none => .bad) rfl (fun {Y sc W e} c hc => ?_) fun hc => by obtain ⟨x, p, rfl, _⟩ := nameB_of hc; exact ⟨rfl, rfl⟩
  refine PE.imp (c.pv (Γ := Γ) hc) fun σ H Q ⟨ρ, fs, F, q⟩ => ?_
  have q : Run Γ.G W σ H ρ fs [i] (fun s ρ' H' fs' => ∀ v, VP none Γ.G H fs [i] H' fs' s v → Q v H') (match getS ρ i with
    | some s => .ok s (ρ.set i none)
    | none => .bad) := q
  cases es : getS ρ i with
  | none => rw [es] at q; exact q.elim
  | some s =>
    rw [es] at q
    obtain ⟨v, ev, r⟩ := F.get es
    refine ⟨v, ev, q H (fun j => if j = i then none' else fs j) ⟨by rw [List.length_set]; exact F.len, fun j t e => ?_, fun j k a h1 h2 => ?_, fun j a h1 => ?_⟩ ⟨.refl, fun j n => ⟨?_, ?_⟩, fun j a m h1 => ?_⟩ v ⟨fs i, r, F.trk i, ?_, ?_⟩⟩
    · have hj : j ≠ i := by
        rintro rfl
        rw [List.getElem?_set] at e
        split at e
        · split at e <;> cases e
        · rename_i hh; exact hh rfl
      rw [List.getElem?_set_ne (Ne.symm hj)] at e
      obtain ⟨w, ew, rw'⟩ := F.rep j t e
      exact ⟨w, ew, by rw [if_neg hj]; exact rw'⟩
    · by_cases hj : j = i
      · rw [if_pos hj] at h1; exact h1.elim
      · rw [if_neg hj] at h1
        by_cases hk : k = i
        · rw [if_pos hk] at h2; exact h2.elim
        · rw [if_neg hk] at h2; exact F.dis j k a h1 h2
    · by_cases hj : j = i
      · rw [if_pos hj] at h1; exact h1.elim
      · rw [if_neg hj] at h1; exact F.trk j a h1
    · have hj : j ≠ i := fun z => n (by rw [z]; exact List.mem_singleton_self i)
      exact List.getElem?_set_ne (Ne.symm hj)
    · have hj : j ≠ i := fun z => n (by rw [z]; exact List.mem_singleton_self i)
      exact if_neg hj
    · have hj : j = i := List.mem_singleton.mp m
      rw [if_pos hj] at h1; exact h1.elim
    · intro j a h1 h2
      by_cases hj : j = i
      · rw [if_pos hj] at h2; exact h2.elim
      · rw [if_neg hj] at h2; exact hj (F.dis j i a h2 h1)
    · exact fun a h1 => .inl ⟨i, List.mem_singleton_self i, h1⟩
theorem xok_dnew (t : Bool) : XOk Γ (.dnew t) := by
  have sh : ∀ {sc e}, chk Γ.g (.dnew t) sc e = true → ∃ p, e = .Dict [] [] p := fun {sc e} h => by
    unfold chk at h
    split at h
    · exact ⟨_, rfl⟩
    · exact ff h
  refine XOk.of (p := fun ρ => .ok (.dic t []) ρ) rfl (fun {Y sc W e} c hc => ?_) fun hc => by obtain ⟨_, rfl⟩ := sh hc; exact ⟨rfl, rfl⟩
  obtain ⟨p, rfl⟩ := sh hc
  cases t with
  | false =>
    refine PE.imp pe_dnewK fun σ H Q ⟨ρ, fs, F, q⟩ p hp => Run.nvok F (fun a z => z) q _ _ (nv_new hp ?_)
    rw [RepS]
    exact ⟨p, _, [], rfl, upd_same, rfl, ⟨[], rfl, rfl, rfl⟩, .nil⟩
  | true =>
    refine PE.imp pe_dnewT fun σ H Q ⟨ρ, fs, F, q⟩ p hp => Run.nvok F (fun a z => z) q _ _ (nv_new hp ?_)
    rw [RepS]
    exact ⟨p, _, [], rfl, upd_same, rfl, ⟨[], rfl, rfl, rfl⟩, .nil⟩

theorem pa_ev (c : Cok Γ.g Γ.G Γ.C Y sc W) : ∀ {xs : Xs} {es : List Expr}, XsOk Γ xs → chks Γ.g xs sc es = true → PA Y es (tVs Γ.G W (mutXs Γ.g xs) (evsL (dens Γ.C xs)))
  | .nil, es, h, hc => by
    rw [chks_nil hc]
    refine PA.imp pa_nil fun σ H Q ⟨ρ, fs, F, q⟩ => ?_
    exact q H fs F .refl [] ⟨none', by rw [RepSs], fun _ z => z.elim, fun _ _ z => z.elim, fun _ z => z.elim⟩
  | .cons x xs, es, h, hc => by
    obtain ⟨e, es, rfl, h1, h2⟩ := chks_cons hc
    refine PA.imp (pa_cons (xd_ev h.hd c h1) (pa_ev c h.tl h2) ((plain_of (h.hd.pl h1)).star _ _)) fun σ H Q ⟨ρ, fs, F, q⟩ => ⟨ρ, fs, F, ?_⟩
    have q : Run Γ.G W σ H ρ fs (mutX Γ.g x ++ mutXs Γ.g xs) (fun ss ρ' H' fs' => ∀ vs, VPs Γ.G H fs (mutX Γ.g x ++ mutXs Γ.g xs) H' fs' ss vs → Q vs H') ((XD.ev (x, den Γ.C x) ρ).bind fun d ρ => (evsL (dens Γ.C xs) ρ).bind fun ds ρ => .ok (d :: ds) ρ) := q
    refine (Run.bind (M1 := mutX Γ.g x) (M2 := mutXs Γ.g xs) q (fun i m => List.mem_append_left _ m) (fun i m => List.mem_append_right _ m)).imp fun s ρ1 H1 fs1 F1 st1 q1 v vp => ⟨ρ1, fs1, F1, ?_⟩
    refine (Run.bind (M1 := mutXs Γ.g xs) (M2 := []) q1 (fun i m => m) (fun i m => by cases m)).imp fun ss ρ2 H2 fs2 F2 st2 q2 vs rs => ?_
    refine q2 H2 fs2 F2 .refl _ ?_
    obtain ⟨f1, hr, tr, x1, x2⟩ := vp
    obtain ⟨f2, hr2, tr2, y1, y2⟩ := rs
    have nf : ∀ a, f1 a → ¬ f2 a := fun a h1 h2 => by
      rcases y2 a h2 with ⟨i, m, z⟩ | z
      · exact x1 i a h1 z
      · exact tr a h1 z
    have nU : ∀ a, f1 a → ¬ U fs1 (mutXs Γ.g xs) a := fun a h1 ⟨i, m, z⟩ => x1 i a h1 z
    refine ⟨fun a => f1 a ∨ f2 a, ?_, fun a h => ?_, fun i a h z => ?_, fun a h => ?_⟩
    · rw [RepSs]
      refine ⟨v, vs, f1, rfl, fun b z => .inl z, RepS.keep st2.keep _ _ hr nU, RepSs.mono _ _ hr2 fun b z => ⟨.inr z, fun w => nf b w z⟩⟩
    · rcases h with h | h
      · exact fun z => tr a h (st2.keep.dom a z)
      · exact tr2 a h
    · rcases h with h | h
      · by_cases n : i ∈ mutXs Γ.g xs
        · rcases st2.sub i a n z with w | w
          · exact nU a h w
          · exact tr a h w
        · rw [(st2.same i n).2] at z; exact x1 i a h z
      · exact y1 i a h z
    · rcases h with h | h
      · exact (x2 a h).imp (U.mono fun i m => List.mem_append_left _ m) id
      · rcases y2 a h with ⟨i, m, z⟩ | z
        · by_cases n : i ∈ mutX Γ.g x
          · exact (st1.sub i a n z).imp (U.mono fun i m => List.mem_append_left _ m) id
          · rw [(st1.same i n).2] at z
            exact .inl ⟨i, List.mem_append_right _ m, z⟩
        · exact .inr (st1.keep.dom a z)
theorem evsL_len : ∀ {l : List XD} {ρ ρ' : Fr} {ds : List S}, evsL l ρ = .ok ds ρ' → ds.length = l.length
  | [], ρ, ρ', ds, e => by cases e; rfl
  | x :: xs, ρ, ρ', ds, e => by
    obtain ⟨d, ρ1, e1, e2⟩ := R.bind_eq_ok e
    obtain ⟨ds', ρ2, e3, e4⟩ := R.bind_eq_ok e2
    cases e4
    rw [List.length_cons, List.length_cons, evsL_len e3]
theorem xok_lst {xs : Xs} (h : XsOk Γ xs) : XOk Γ (.lst xs) := by
  have sh : ∀ {sc e}, chk Γ.g (.lst xs) sc e = true → ∃ es p, e = .List es p ∧ chks Γ.g xs sc es = true ∧ xs.len ≤ 1000 := fun {sc e} h => by
    unfold chk at h
    split at h
    · simp only [Bool.and_eq_true, decide_eq_true_eq] at h
      exact ⟨_, _, rfl, h.1, h.2⟩
    · exact ff h
  refine XOk.of (p := fun ρ => (evsL (dens Γ.C xs) ρ).bind fun ss ρ => .ok (.lst ss) ρ) rfl (fun {Y sc W e} c hc => ?_) fun hc => by obtain ⟨_, _, rfl, _⟩ := sh hc; exact ⟨rfl, rfl⟩
  obtain ⟨es, p, rfl, h1, h2⟩ := sh hc
  refine PE.imp (pe_lst (pa_ev c h h1)) fun σ H Q ⟨ρ, fs, F, q⟩ => ⟨ρ, fs, F, ?_⟩
  refine (Run.bind (M1 := mutXs Γ.g xs) (M2 := []) q (fun i m => m) (fun i m => by cases m)).imp' fun ss ρ1 H1 fs1 e1 F1 st1 q1 vs rs => ?_
  obtain ⟨f, hr, tr, x1, x2⟩ := rs
  have hl : vs.length ≤ sizeLine := by rw [← hr.length, evsL_len e1, dens_len]; exact small_line h2
  refine ⟨hl, fun p hp => ?_⟩
  have k : Keep H1 (upd H1 p (.lst vs)) none' := Keep.new hp
  have np : ∀ a, f a → a ≠ p := fun a q z => tr a q (z ▸ hp)
  refine q1 _ fs1 (F1.keep k fun _ _ _ z => z) ⟨k.mono fun _ z => z.elim, fun _ _ => ⟨rfl, rfl⟩, fun i a m q => .inl ⟨i, m, q⟩⟩ _ ⟨fun a => a = p ∨ f a, ?_, fun a h z => ?_, fun i a h z => ?_, fun a h => ?_⟩
  · rw [RepS]
    exact ⟨p, vs, rfl, upd_same, .inl rfl, hl, RepSs.mono _ _ (RepSs.keep k _ _ hr fun _ _ z => z) fun b z => ⟨.inr z, np b z⟩⟩
  · rcases h with h | h
    · rw [h, upd_same] at z; cases z
    · exact tr a h (k.dom a z)
  · rcases h with h | h
    · exact F1.trk i a z (h ▸ hp)
    · exact x1 i a h z
  · rcases h with h | h
    · exact .inr (st1.keep.dom a (h ▸ hp))
    · exact x2 a h

def tO (G : Pg) (W : WX) (M : List Nat) (p : Fr → R (Option Int)) : TO := fun σ H Q => ∃ ρ fs, FR G H σ ρ fs ∧
  Run G W σ H ρ fs M (fun o ρ' H' fs' => Q o H') (p ρ)
theorem PO.imp {o : Option Expr} {t t' : TO} (h : PO Y o t) (i : ∀ σ H Q, t' σ H Q → t σ H Q) : PO Y o t' := ⟨fun pins s σ H Q I q => h.run pins s σ H Q I (i σ H Q q)⟩
theorem eo_of (C : Cal) (x : X) (h : x.isOm = false) : (den C x).eo = (Den.of (den C x).pk).eo ∨ (den C x).eo = fun _ => .bad := by
  cases x <;> first | exact .inl rfl | exact .inr rfl | cases h
theorem po_of {x : X} (hx : XOk Γ x) (c : Cok Γ.g Γ.G Γ.C Y sc W) {o : Option Expr} (hc : (if x.isOm then o.isNone else match o with | some e => chk Γ.g x sc e | none => false) = true) : PO Y o (tO Γ.G W (mutX Γ.g x) (den Γ.C x).eo) := by
  cases hm : x.isOm with
  | true =>
    rw [hm, if_pos rfl] at hc
    have : o = none := by cases o <;> first | rfl | cases hc
    subst this
    cases x <;> first | exact ff hm | skip
    refine PO.imp po_none fun σ H Q ⟨ρ, fs, F, q⟩ => ?_
    exact q H fs F .refl
  | false =>
    rw [hm, if_neg (by decide)] at hc
    cases o with
    | none => exact ff hc
    | some e =>
      rcases eo_of Γ.C x hm with z | z
      · rw [z]
        refine PO.imp (po_some (hx.pe c hc)) fun σ H Q ⟨ρ, fs, F, q⟩ => ⟨ρ, fs, F, ?_⟩
        refine (Run.bind (M1 := mutX Γ.g x) (M2 := []) (k := fun s ρ => R.of ρ (s.i?.map some)) q (fun i m => m) (fun i m => by cases m)).imp fun s ρ1 H1 fs1 F1 st1 q1 v vp => ?_
        obtain ⟨t, e1, k⟩ := Run.of F1 q1
        obtain ⟨f, hr⟩ := vp.rep
        unfold S.i? at e1
        split at e1
        · rename_i i
          cases e1
          exact ⟨i, repS_int hr, k⟩
        · cases e1
      · rw [z]
        exact ⟨fun pins s σ H Q I ⟨ρ, fs, F, q⟩ => False.elim q⟩
theorem xok_slc {x lo hi : X} (hx : XOk Γ x) (hl : XOk Γ lo) (hh : XOk Γ hi) : XOk Γ (.slc x lo hi) := by
  have sh : ∀ {sc e}, chk Γ.g (.slc x lo hi) sc e = true → ∃ v l h p2 p, e = .Subscript v (.Slice l h none p2) p ∧ chk Γ.g x sc v = true ∧ (if lo.isOm then l.isNone else match l with | some e => chk Γ.g lo sc e | none => false) = true ∧ (if hi.isOm then h.isNone else match h with | some e => chk Γ.g hi sc e | none => false) = true ∧ apart (root x) (mutX Γ.g lo ++ mutX Γ.g hi) = true := fun {sc e} h => by
    unfold chk at h
    split at h
    · simp only [Bool.and_eq_true] at h
      exact ⟨_, _, _, _, _, rfl, h.1.1.1, h.1.1.2, h.1.2, h.2⟩
    · exact ff h
  refine XOk.of (p := fun ρ => ((den Γ.C x).pk ρ).bind fun s ρ => ((den Γ.C lo).eo ρ).bind fun l ρ => ((den Γ.C hi).eo ρ).bind fun h ρ => R.of ρ (getSl s l h)) rfl (fun {Y sc W e} c hc => ?_) fun hc => by obtain ⟨_, _, _, _, _, rfl, _⟩ := sh hc; exact ⟨rfl, rfl⟩
  obtain ⟨v, l, h, p2, p, rfl, h1, h2, h3, h4⟩ := sh hc
  refine PE.imp (pe_slice (sl_rule c.K) (hx.pe c h1) (po_of hl c h2) (po_of hh c h3)) fun σ H Q ⟨ρ, fs, F, q⟩ => ⟨ρ, fs, F, ?_⟩
  refine (Run.bind (M1 := mutX Γ.g x) (M2 := mutX Γ.g lo ++ mutX Γ.g hi) q (fun i m => List.mem_append_left _ m) (fun i m => List.mem_append_right _ m)).imp fun s ρ1 H1 fs1 F1 st1 q1 v vp => ⟨ρ1, fs1, F1, ?_⟩
  refine (Run.bind (M1 := mutX Γ.g lo) (M2 := mutX Γ.g hi) q1 (fun i m => List.mem_append_left _ m) (fun i m => List.mem_append_right _ m)).imp fun l ρ2 H2 fs2 F2 st2 q2 => ⟨ρ2, fs2, F2, ?_⟩
  refine (Run.bind (M1 := mutX Γ.g hi) (M2 := []) q2 (fun i m => m) (fun i m => by cases m)).imp fun h ρ3 H3 fs3 F3 st3 q3 => ?_
  have ap := not_apart h4
  have vp2 := (vp.carry F1 st2 fun i z m => ap i z (List.mem_append_left _ m)).carry F2 st3 fun i z m => ap i z (List.mem_append_right _ m)
  obtain ⟨f, hr⟩ := vp2.rep
  obtain ⟨t, e1, k⟩ := Run.nv F3 (fun a z => st1.keep.dom a (st2.keep.dom a (st3.keep.dom a z))) q3
  exact ⟨s, f, t, hr, e1, k⟩
end Vm
/-! VmM -/
namespace Vm
open PySem L2

variable {Γ : Gx} {Y : Cx} {sc : Scope} {W : WX} {e : Expr}
def tPk (G : Pg) (W : WX) (M : List Nat) (p : Fr → R (List S)) : TA := fun σ H Q => ∃ ρ fs, FR G H σ ρ fs ∧
  Run G W σ H ρ fs M (fun ss ρ' H' fs' => ∀ vs, Views G H' ss vs → Q vs H') (p ρ)
theorem pa_pk (c : Cok Γ.g Γ.G Γ.C Y sc W) : ∀ {xs : Xs} {es : List Expr}, XsOk Γ xs → chks Γ.g xs sc es = true → apartXs Γ.g xs = true → PA Y es (tPk Γ.G W (mutXs Γ.g xs) (pksL (dens Γ.C xs)))
  | .nil, es, h, hc, _ => by
    rw [chks_nil hc]
    refine PA.imp pa_nil fun σ H Q ⟨ρ, fs, F, q⟩ => ?_
    exact q H fs F .refl [] rfl
  | .cons x xs, es, h, hc, ha => by
    obtain ⟨e, es, rfl, h1, h2⟩ := chks_cons hc
    have ha : (apart (root x) (mutXs Γ.g xs) && apartXs Γ.g xs) = true := ha
    rw [Bool.and_eq_true] at ha
    refine PA.imp (pa_cons (h.hd.pe c h1) (pa_pk c h.tl h2 ha.2) ((plain_of (h.hd.pl h1)).star _ _)) fun σ H Q ⟨ρ, fs, F, q⟩ => ⟨ρ, fs, F, ?_⟩
    have q : Run Γ.G W σ H ρ fs (mutX Γ.g x ++ mutXs Γ.g xs) (fun ss ρ' H' fs' => ∀ vs, Views Γ.G H' ss vs → Q vs H') (((den Γ.C x).pk ρ).bind fun d ρ => (pksL (dens Γ.C xs) ρ).bind fun ds ρ => .ok (d :: ds) ρ) := q
    refine (Run.bind (M1 := mutX Γ.g x) (M2 := mutXs Γ.g xs) q (fun i m => List.mem_append_left _ m) (fun i m => List.mem_append_right _ m)).imp fun s ρ1 H1 fs1 F1 st1 q1 v vp => ⟨ρ1, fs1, F1, ?_⟩
    refine (Run.bind (M1 := mutXs Γ.g xs) (M2 := []) q1 (fun i m => m) (fun i m => by cases m)).imp fun ss ρ2 H2 fs2 F2 st2 q2 vs rs => ?_
    obtain ⟨f, hr⟩ := (vp.carry F1 st2 (not_apart ha.1)).rep
    exact q2 H2 fs2 F2 .refl _ ⟨v, vs, f, rfl, hr, rs⟩
/-- a call of a built-in with values -/
theorem bi_run {xs : Xs} {g : List S → Option S} {σ : L2.St} {H : Hp} {Q : VK} (h : tV Γ.G W none (mutXs Γ.g xs) (fun ρ => (pksL (dens Γ.C xs) ρ).bind fun ss ρ => R.of ρ (g ss)) σ H Q) : tCB (rBi Γ.G g) (tPk Γ.G W (mutXs Γ.g xs) (pksL (dens Γ.C xs))) σ H Q := by
  obtain ⟨ρ, fs, F, q⟩ := h
  refine ⟨ρ, fs, F, (Run.bind (M1 := mutXs Γ.g xs) (M2 := []) q (fun i m => m) (fun i m => by cases m)).imp fun ss ρ1 H1 fs1 F1 st1 q1 vs rs => ?_⟩
  obtain ⟨s, e1, k⟩ := Run.nv F1 (fun a z => st1.keep.dom a z) q1
  exact ⟨ss, s, rs, e1, k⟩
theorem bi_boot (b : Bi) : bootBuiltins (biName b) = some (biVal b) := by cases b <;> decide +kernel
theorem bi_in (b : Bi) : biName b ∈ biNames := by cases b <;> decide +kernel
theorem bi_ne (b : Bi) : biName b ≠ "__name__" ∧ (biName b == ("__debug__" : Str)) = false := by cases b <;> decide +kernel
theorem bi_shape {b : Bi} {xs : Xs} (hb : b ≠ .sset) (h : chk Γ.g (.bi b xs) sc e = true) : ∃ p0 e0 es p, e = .Call (.Name (biName b) p0) (e0 :: es) [] p ∧ sc.names.lookup (biName b) = some .globalImplicit ∧ apartXs Γ.g xs = true ∧ biOk b = true ∧ (Γ.g.hot = false ∨ coolBi b = true) ∧ chks Γ.g xs sc (e0 :: es) = true := by
  unfold chk at h
  split at h
  · rename_i f as p
    simp only [Bool.and_eq_true, Bool.or_eq_true, Bool.not_eq_true'] at h
    obtain ⟨⟨⟨h1, hh⟩, h2⟩, h3⟩ := h
    obtain ⟨p0, rfl, h4, h5⟩ := glName_of h1
    have key : biOk b = true ∧ chks Γ.g xs sc as = true ∧ xs.len ≠ 0 := by
      cases b <;> first
        | (exfalso; exact hb rfl)
        | (simp only [Bool.and_eq_true, decide_eq_true_eq] at h3; first
            | exact ⟨rfl, h3.1, by omega⟩
            | exact ⟨h3.1.1, h3.1.2, by omega⟩)
    obtain ⟨k1, k2, k3⟩ := key
    have := chks_len k2
    cases as with
    | nil => exact absurd this.symm k3
    | cons e0 es => exact ⟨p0, e0, es, p, rfl, h4, h2, k1, hh, k2⟩
  · exact ff h
theorem xok_bi0 {b : Bi} {xs : Xs} (hx : XsOk Γ xs) (hb : b ≠ .sset) : XOk Γ (.bi b xs) := by
  refine XOk.of (p := fun ρ => (pksL (dens Γ.C xs) ρ).bind fun ss ρ => R.of ρ (bi b ss)) rfl (fun {Y sc W e} c hc => ?_) fun hc => by obtain ⟨_, _, _, _, rfl, _⟩ := bi_shape hb hc; exact ⟨rfl, rfl⟩
  obtain ⟨p0, e0, es, p, rfl, h1, h2, h3, hh, h4⟩ := bi_shape hb hc
  have hs := (plain_of (chks_plain hx h4 e0 List.mem_cons_self)).star es Y.env
  have hp := plain_any (fun e m => chks_plain hx h4 e (List.mem_cons_of_mem _ m)) Y.env p
  have hm := c.blt (biName b) (bi_in b)
  have hr := bi_rule c.K (hh.symm.imp id c.calm) h3
  have hv := bi_boot b
  have hn := bi_ne b
  have pa := pa_pk c hx h4 h2
  have goal : PE Y (.Call (.Name (biName b) p0) (e0 :: es) [] p) (tCB (rBi Γ.G (bi b)) (tPk Γ.G W (mutXs Γ.g xs) (pksL (dens Γ.C xs)))) := by
    cases b <;> first
      | exact pe_callB hr (c.gl h1) hm hv pa hn.1 hn.2 hs hp
      | exact pe_callTy hr (c.gl h1) hm hv pa hn.1 hn.2 hs hp
  exact PE.imp goal fun σ H Q q => bi_run q

def tyStr : Ty → String
  | .int => "int"
  | .bool => "bool"
  | .str => "str"
  | .tuple => "tuple"
  | .list => "list"
  | .cls _ => ""
theorem pe_tyName {x : Str} {n : String} {pos : Pos} (hg : Gl Y x) (hm : Y.mg x = none) (hv : bootBuiltins x = some (.type n)) (hn : x ≠ "__name__") (hd : (x == ("__debug__" : Str)) = false) : PE Y (.Name x pos) (tC (.ty n)) :=
  ⟨fun pins s σ H Q I h => ld_blt I hg hm hv ⟨.ty n, H, I, rfl, h⟩ hn hd⟩
theorem kitB_all : ∀ t : Ty, (∀ c, t ≠ .cls c) → kitB "NoneType" (tyStr t) = some false ∧ kitB "bool" (tyStr t) = some (decide (t = .int) || decide (t = .bool)) ∧ kitB "int" (tyStr t) = some (decide (t = .int)) ∧ kitB "str" (tyStr t) = some (decide (t = .str)) ∧
    kitB "tuple" (tyStr t) = some (decide (t = .tuple)) ∧ kitB "list" (tyStr t) = some (decide (t = .list)) := by
  intro t h
  cases t with
  | cls c => exact absurd rfl (h c)
  | _ => decide +kernel
theorem tupAt_ty {K : PySem.W.Frag} {H : Hp} {k : Bool} {a : Addr} {vs : List V} (h : TupAt H k a vs) : TyX K H (.ref a) (.type "tuple") := by
  cases k with
  | true => exact .base (.tup h)
  | false => obtain ⟨o, q, _⟩ := h; exact .fTuple q
theorem isTy_rep {G : Pg} {H : Hp} {s : S} {v : V} {f : Fp} {t : Ty} {b : Bool} (r : RepS G H s v f) (e : isTy s t = some b) : ∃ tv, TyX G.K H v (.type tv) ∧ kitB tv (tyStr t) = some b := by
  have hk : ∀ c, t ≠ .cls c := fun c z => by subst z; cases e
  obtain ⟨k1, k2, k3, k4, k5, k6⟩ := kitB_all t hk
  have e : isTy0 s t = some b := by
    rw [← e]
    cases t with
    | cls c => exact absurd rfl (hk c)
    | _ => rfl
  unfold isTy0 at e
  split at e
  · cases e; rw [RepS, RepD] at r; subst r; exact ⟨"int", .base (.int _), k3⟩
  · cases e; rw [RepS, RepD] at r; subst r; exact ⟨"bool", .base (.bl _), k2⟩
  · cases e; rw [RepS, RepD] at r; subst r; exact ⟨"NoneType", .base .non, k1⟩
  · cases e; rw [RepS, RepD] at r; subst r; exact ⟨"str", .base (.str _), k4⟩
  · cases e
    rw [RepS, RepD] at r
    obtain ⟨a, vs, rfl, q, _⟩ := r
    exact ⟨"tuple", tupAt_ty q, k5⟩
  · cases e
    rw [RepS, RepD] at r
    obtain ⟨a, vs, o, rfl, q, _⟩ := r
    exact ⟨"list", .base (.frz q), k6⟩
  · cases e
    rw [RepS] at r
    obtain ⟨a, vs, rfl, q, _⟩ := r
    exact ⟨"list", .base (.lst q), k6⟩
  · cases e
theorem ty_boot {t : Ty} {nt : NT} {n : Str} (h : tyName nt t = some n) (hk : ∀ c, t ≠ .cls c) : n ∈ biNames ∧ bootBuiltins n = some (.type (tyStr t)) ∧ n ≠ "__name__" ∧ (n == ("__debug__" : Str)) = false := by
  cases t with
  | cls c => exact absurd rfl (hk c)
  | _ => cases h; decide +kernel
theorem xok_isi {x : X} {t : Ty} (hx : XOk Γ x) : XOk Γ (.isi x t) := by
  have sh : ∀ {sc e}, chk Γ.g (.isi x t) sc e = true → ∃ p0 a n p1 p, e = .Call (.Name "isinstance" p0) [a, .Name n p1] [] p ∧ sc.names.lookup ("isinstance" : Str) = some .globalImplicit ∧ chk Γ.g x sc a = true ∧ tyName Γ.g.nt t = some n ∧ sc.names.lookup n = some .globalImplicit := fun {sc e} h => by
    unfold chk at h
    split at h
    · simp only [Bool.and_eq_true] at h
      obtain ⟨⟨h1, h2⟩, h3⟩ := h
      obtain ⟨p0, rfl, h4, _⟩ := glName_of h1
      split at h3
      · rename_i n hn
        obtain ⟨p1, rfl, h5, _⟩ := glName_of h3
        exact ⟨p0, _, n, p1, _, rfl, h4, h2, hn, h5⟩
      · exact ff h3
    · exact ff h
  refine XOk.of (p := fun ρ => ((den Γ.C x).pk ρ).bind fun s ρ => R.of ρ ((isTy s t).map b01)) rfl (fun {Y sc W e} c hc => ?_) fun hc => by obtain ⟨_, _, _, _, _, rfl, _⟩ := sh hc; exact ⟨rfl, rfl⟩
  obtain ⟨p0, a, n, p1, p, rfl, h1, h2, h3, h4⟩ := sh hc
  have hs := (plain_of (hx.pl h2)).star [.Name n p1] Y.env
  by_cases hk : ∃ cl, t = .cls cl
  · obtain ⟨cl, rfl⟩ := hk
    cases h3
  · have hk : ∀ cl, t ≠ .cls cl := fun cl z => hk ⟨cl, z⟩
    obtain ⟨b1, b2, b3, b4⟩ := ty_boot h3 hk
    have pa := pa_cons (hx.pe c h2) (pa_cons (pe_tyName (pos := p1) (c.gl h4) (c.blt n b1) b2 b3 b4) pa_nil) hs
    refine PE.imp (pe_callB (p := p0) (pos := p) call_isi (c.gl h1) (c.blt "isinstance" (by decide +kernel)) (by decide +kernel) pa (by decide +kernel) (by decide +kernel) hs (plain_any (fun e m => by cases List.mem_singleton.mp m; rfl) Y.env p)) fun σ H Q ⟨ρ, fs, F, q⟩ => ⟨ρ, fs, F, ?_⟩
    refine (Run.bind (M1 := mutX Γ.g x) (M2 := []) q (fun i m => m) (fun i m => by cases m)).imp fun s ρ1 H1 fs1 F1 st1 q1 v vp => ?_
    obtain ⟨f, hr⟩ := vp.rep
    obtain ⟨t', e1, k⟩ := Run.of F1 q1
    obtain ⟨b, e2, e3⟩ := Option.map_eq_some_iff.mp e1
    subst e3
    obtain ⟨tv, ty, kb⟩ := isTy_rep hr e2
    exact ⟨v, .ty (tyStr t), .type tv, .type (tyStr t), b, rfl, .ty _, by rw [c.K]; exact ty, kit_ty kb, k _ (VP.d rep_bl)⟩
end Vm
/-! VmN -/
namespace Vm
open PySem L2

variable {Γ : Gx} {Y : Cx} {sc : Scope} {W : WX} {e : Expr}
structure MF (Y : Cx) (name : Str) (T id : String) (r : V → List V → Hp → VK → Prop) : Prop where
  pa : PlainAttrs T
  slot : Slot T name id
  hty : typeOf (.builtin id) = pure (.type "method_descriptor")
  hm : MtR Y id r
/-- .. of a tuple of which all is known, too -/
def tyD (K : PySem.W.Frag) (T : String) (x : V) (H : Hp) : Prop := tyV K T x H ∨ (T = "tuple" ∧ ∃ a vs, x = .ref a ∧ TupAt H false a vs)
theorem tyD_is {pins : List (Addr × Obj)} {σ : L2.St} {H : Hp} {s : Shared} {T : String} {x : V} {v : Value} (I : Inv Y pins σ H s) (r : RelV x v) (ty : tyD Y.K T x H) :
    s.TypeIs v T ∧ ∀ a, v = .ref a → ∃ ob, s.heap.get? a = some ob ∧ ob.dict = none := by
  rcases ty with ty | ⟨rfl, a, vs, rfl, o, q, d⟩
  · exact tyV_is I r ty
  · cases r
    obtain ⟨h1, h2⟩ := (show ObjOk Y.prog Y.w H s.heap a (.frz o (.tup vs)) from I.hok a _ q)
    obtain ⟨_, its, _, o', h3, h4, _⟩ := h2
    rw [h1] at h3; cases h3
    exact ⟨⟨o, h1, h4⟩, fun b e => by cases e; exact ⟨o, h1, d⟩⟩
def tMX (Y : Cx) (name : Str) (to : TE) (t : TA) : TE := fun σ H Q => to σ H fun x H1 => ∃ T id r, MF Y name T id r ∧ tyD Y.K T x H1 ∧ t σ H1 fun xs H2 => r x xs H2 Q
theorem pe_mX {o e : Expr} {es : List Expr} {to : TE} {t : TA} {name : Str} {apos cpos : Pos} (ho : PE Y o to) (ha : PA Y (e :: es) t) (hbase : attributeBase o name Y.env (eval o Y.env) = eval o Y.env)
    (hp : ∀ e', e' ∈ e :: es → plainB e' = true) (hl : (e :: es).length < 30) (hline : (apos.endLine == cpos.line) = true) : PE Y (.Call (.Attribute o name apos) (e :: es) [] cpos) (tMX Y name to t) := by
  have hany := plain_any hp Y.env cpos
  have hs := (plain_of (hp e List.mem_cons_self)).star es Y.env
  have hfew : ((backTo cpos (starEach (e :: es) Y.env)).all (fun x => !x.1) && (backToKw cpos (keywordEach [] Y.env)).all (fun x => x.1.isSome)
      && decide ((e :: es).length + ([] : List Keyword).length + (if ([] : List Keyword).isEmpty then 0 else 1) < 30)) = true := by
    have h1 : (backTo cpos (starEach (e :: es) Y.env)).all (fun x => !x.1) = true := by
      rw [List.all_eq_true]
      intro x hx
      have := List.any_eq_false.mp hany x hx
      simpa using this
    rw [h1]
    show (true && true && decide ((e :: es).length + 0 + 0 < 30)) = true
    rw [decide_eq_true (by omega)]; rfl
  refine ⟨fun pins s σ H Q I h => ?_⟩
  refine wpAny_Call_method_late hbase hfew hline rfl (thn (ho.run pins s σ H _ I h) fun v s1 ⟨x, H1, I1, r1, T, id, r, m, ty, q1⟩ => ?_)
  obtain ⟨h1, h2⟩ := tyD_is I1 r1 ty
  refine ⟨T, id, m.pa, m.slot, m.hty, h1, h2, ?_⟩
  have hA := ha.run cpos pins s1 σ H1 _ I1 q1
  rw [hs] at hA hany ⊢
  refine Calls.callWith_builtin hany (Calls.evalArgs_plain ?_)
  exact thn hA fun us s2 ⟨vs, H2, I2, r2, q2⟩ => m.hm pins s2 σ H2 x vs v us Q I2 r1 r2 q2
theorem pe_mX0 {o : Expr} {to : TE} {name : Str} {apos cpos : Pos} (ho : PE Y o to) (hbase : attributeBase o name Y.env (eval o Y.env) = eval o Y.env) (hline : (apos.endLine == cpos.line) = true) :
    PE Y (.Call (.Attribute o name apos) [] [] cpos) (tMX Y name to tNil) := by
  refine ⟨fun pins s σ H Q I h => ?_⟩
  refine wpAny_Call_method0_late hbase hline (thn (ho.run pins s σ H _ I h) fun v s1 ⟨x, H1, I1, r1, T, id, r, m, ty, q1⟩ => ?_)
  obtain ⟨h1, h2⟩ := tyD_is I1 r1 ty
  exact ⟨T, id, m.pa, m.slot, m.hty, h1, h2, Calls.callWith_builtin rfl (PySem.evalArgs_none (m.hm pins s1 σ H1 x [] v [] Q I1 r1 .nil q1))⟩

theorem MtR.imp {id : String} {r r' : V → List V → Hp → VK → Prop} (h : MtR Y id r) (i : ∀ x xs H Q, r' x xs H Q → r x xs H Q) : MtR Y id r' :=
  fun pins s σ H x xs v us Q I rx rs q => h pins s σ H x xs v us Q I rx rs (i x xs H Q q)
def rIndexT (K : PySem.W.Frag) : V → List V → Hp → VK → Prop := fun x xs H Q => ∃ (a : Addr) (ys : List V) (y : V) (j : Nat) (z : V), x = V.ref a ∧ xs = [y] ∧ SqT K H a ys ∧ flatV y = true ∧ ys.all flatV = true ∧ ys[j]? = some z ∧ eqV z y = true ∧
  (∀ (m : Nat) (z' : V), m < j → ys[m]? = some z' → eqV z' y = false) ∧ Q (.int (j : Nat)) H
theorem mt_indexT : MtR Y "tuple.index" (rIndexT Y.K) := by
  intro pins s σ H x xs v us Q I rx rxs h
  obtain ⟨a, ys, y, j, z, rfl, rfl, hs, fy, fys, hz, hzj, hno, q⟩ := h
  cases rx
  cases rxs with
  | cons ry rt =>
    rename_i uy ut
    cases rt
    obtain ⟨its, rv, ⟨⟨cls, dd, data, sl⟩, ho, hc, n, hd⟩, hlen⟩ := I.tuple hs
    simp only at hc hd
    subst hc hd
    obtain ⟨u, hu, ru⟩ := rv.get hz
    obtain ⟨hjl, hje⟩ := List.getElem?_eq_some_iff.mp hu
    have hvl := rv.length
    have hj : j < its.toArray.size := by simpa using hjl
    refine call_meets PySem.F.slot_tuple_index ⟨_, ho, rfl⟩ PySem.F.entry_tuple_index (PySem.F.args_tuple_index_2 _ _)
      (TI.tuple_indexAt a its.toArray n dd sl uy (eqU y) j hj ?_ ?_) ⟨ho, fun u' hu' => mem_eqAt ry fy rv fys u' (by simpa using hu'), ?_⟩
    · have e1 : its.toArray[j] = u := by simpa using hje
      rw [e1, eqU_of ru (flat_at fys hz)]
      exact hzj
    · intro m hm hmj
      have hml : m < its.length := by simpa using hm
      have hmy : m < ys.length := by omega
      have hy' : ys[m]? = some ys[m] := List.getElem?_eq_getElem hmy
      obtain ⟨u2, hu2, ru2⟩ := rv.get hy'
      obtain ⟨_, hme⟩ := List.getElem?_eq_some_iff.mp hu2
      have e1 : its.toArray[m] = u2 := by simpa using hme
      rw [e1, eqU_of ru2 (flat_at fys hy')]
      exact hno m _ hmj hy'
    · exact ⟨.int (j : Nat), H, I.tok _, ⟨_, rfl⟩, q⟩
theorem findIx_spec {p : D → Bool} : ∀ {l : List D} {n k : Nat}, findIx p l n = some k → ∃ j d, k = n + j ∧ l[j]? = some d ∧ p d = true ∧ ∀ m d', m < j → l[m]? = some d' → p d' = false
  | [], n, k, e => by cases e
  | d :: l, n, k, e => by
    unfold findIx at e
    split at e
    · rename_i h
      cases e
      exact ⟨0, d, rfl, rfl, h, fun m d' hm => absurd hm (Nat.not_lt_zero _)⟩
    · rename_i h
      obtain ⟨j, d1, e1, e2, e3, e4⟩ := findIx_spec e
      refine ⟨j + 1, d1, by omega, by simpa using e2, e3, fun m d' hm hd => ?_⟩
      cases m with
      | zero =>
        have : d = d' := by simpa using hd
        rw [← this]; simpa using h
      | succ m => exact e4 m d' (by omega) (by simpa using hd)
/-- index, in the heap -/
theorem index_rep {G : Pg} {H : Hp} {l : List D} {vs : List V} {x : D} {y : V} {k : Nat} (rs : RepDs G.K H l vs) (rx : RepD G.K H x y) (hf : x.flat = true) (hl : l.all D.flat = true) (e : findIx (fun d => D.feq d x) l 0 = some k) :
    flatV y = true ∧ vs.all flatV = true ∧ ∃ z, vs[k]? = some z ∧ eqV z y = true ∧ ∀ m z', m < k → vs[m]? = some z' → eqV z' y = false := by
  obtain ⟨j, d, e1, e2, e3, e4⟩ := findIx_spec e
  have e1 : k = j := by omega
  subst e1
  obtain ⟨z, ez, rz⟩ := rs.get e2
  have hd : ∀ d, d ∈ l → d.flat = true := fun d m => List.all_eq_true.mp hl d m
  refine ⟨(flat_rep rx hf).1, (flats_rep rs hl).1, z, ez, ?_, fun m z' hm hz => ?_⟩
  · rw [(flat_rep rz (hd d (List.mem_of_getElem? e2))).2 x y rx hf]; exact e3
  · have hml : m < l.length := by
      have := (List.getElem?_eq_some_iff.mp hz).1
      rw [rs.length]; exact this
    obtain ⟨w, ew, rw'⟩ := rs.get (List.getElem?_eq_getElem hml)
    rw [hz] at ew; cases ew
    rw [(flat_rep rw' (hd _ (List.getElem_mem hml))).2 x y rx hf]
    exact e4 m _ hm (List.getElem?_eq_getElem hml)
/-- count, of any data -/
def rCountD (K : PySem.W.Frag) : V → List V → Hp → VK → Prop := fun x xs H Q => ∃ (a : Addr) (ys : List V) (y : V) (d : PyData) (ds : List PyData), x = V.ref a ∧ xs = [y] ∧ SqL K H a ys ∧ DpAll K H ys ds ∧ Dp K H y d ∧
  SeqAt.shaped d = true ∧ PyData.canLayAll0 ds = true ∧ Q (.int (ds.countP fun z => PyData.eqv z d : Nat)) H
theorem mt_countD (hu : Y.A.units + 65 < cLine) : MtR Y "list.count" (rCountD Y.K) := by
  intro pins s σ H x xs v us Q I rx rxs h
  obtain ⟨a, ys, y, d, ds, rfl, rfl, hs, hl, hy, sd, hxs, q⟩ := h
  cases rx
  cases rxs with
  | cons ry rt =>
    rename_i uy ut
    cases rt
    obtain ⟨bs, r1⟩ := Dp.reads I d y uy hy ry
    have hroom : Y.A.units + 1 + min (PyData.depthAll ds) d.depth < cLine := by
      exact PyProof.Rows.room_in_shaped sd hu
    obtain ⟨its, rv, ⟨⟨cls, dd, data, sls⟩, n, ho, hc, hdn, hdt⟩, hlen⟩ := I.list hs
    simp only at hc hdt
    subst hc hdt
    obtain ⟨as, h4⟩ := Dp.readsAll I ds _ its hl rv
    have hmap : its.map (SeqAt.readOf s.heap) = ds := SeqAt.readsAll_map ds its as hxs h4
    refine call_meets PySem.F.slot_list_count ⟨_, ho, rfl⟩ PySem.F.entry_list_count (PySem.F.args_list_count_2 _ _)
      (SeqAt.list_countAt a its.toArray n dd sls uy (fun u => PyData.eqv (SeqAt.readOf s.heap u) d)) ⟨ho, SeqAt.items_eqAt (vs := its.toArray) (show ReadsAll s.heap its.toArray.toList ds as from h4) r1 hxs (SeqAt.canLay_of_shaped sd) hroom, ?_⟩
    refine ⟨.int (ds.countP fun z => PyData.eqv z d : Nat), H, I.tok _, ⟨s.toks, ?_⟩, q⟩
    have e : its.toArray.toList.countP (fun u => PyData.eqv (SeqAt.readOf s.heap u) d) = ds.countP fun z => PyData.eqv z d := by
      rw [← hmap, List.countP_map]; rfl
    show Value.int ((its.toArray.toList.countP (fun u => PyData.eqv (SeqAt.readOf s.heap u) d) : Nat) : Int) s.toks = _
    rw [e]
/-- int.bit_length -/
theorem mt_bits : MtR Y "int.bit_length" (fun x xs H Q => ∃ i, x = .int i ∧ xs = [] ∧ Q (.int (Builtin.Int.intBits i : Nat)) H) := by
  intro pins s σ H x xs v us Q I rx rxs h
  obtain ⟨i, rfl, rfl, q⟩ := h
  have e := rxs.zero
  subst e
  obtain ⟨t, rfl⟩ := rx
  exact PyProof.Rows.call_int_bit_length ⟨.int _, H, I.tok _, ⟨_, rfl⟩, q⟩
theorem mstr_base {x : X} (hp : x.isPath = true) (h : chk Γ.g x sc e = true) (f : Str) (env : Env) : attributeBase e f env (eval e env) = eval e env := path_expr hp h f env _
theorem dps_lay {K : PySem.W.Frag} {H : Hp} : ∀ {l : List D} {vs : List V}, RepDs K H l vs → l.all D.lay = true → DpAll K H vs (D.pys l) ∧ PyData.canLayAll0 (D.pys l) = true
  | [], vs, r, _ => by rw [RepDs] at r; subst r; exact ⟨.nil, rfl⟩
  | d :: l, vs, r, h => by
    rw [RepDs] at r
    obtain ⟨v, ws, rfl, a, b⟩ := r
    rw [List.all_cons, Bool.and_eq_true] at h
    obtain ⟨h1, h2⟩ := dps_lay b h.2
    refine ⟨.cons (dp_lay a h.1) h1, ?_⟩
    show (PyData.canLay0 d.py && PyData.canLayAll0 (D.pys l)) = true
    rw [canLay_of h.1, h2]; rfl
theorem pys_count {x : D} : ∀ l : List D, (D.pys l).countP (fun z => PyData.eqv z x.py) = l.countP fun y => D.eqb y x
  | [] => rfl
  | d :: l => by
    show (D.py d :: D.pys l).countP _ = _
    rw [List.countP_cons, List.countP_cons, pys_count l]; rfl
theorem me_rule {G : Pg} {m : Me} {s : S} {v : V} {f : Fp} {H : Hp} (hK : Y.K = G.K) (hu : Y.A.units + 65 < cLine) (r : RepS G H s v f) (ok : meOk m s = true) :
    ∃ T id rr, MF Y (meName m) T id rr ∧ tyD Y.K T v H ∧ ∀ H' f' ds vs t Q, RepS G H' s v f' → RepDs G.K H' ds vs → me m s ds = some t → (∀ v H'', NV G H' H'' t v → Q v H'') → rr v vs H' Q := by
  cases m with
  | index =>
    obtain ⟨l, el⟩ := Option.isSome_iff_exists.mp ok
    have key : ∀ {ds : List D} {t : S}, me .index s ds = some t → ∃ x k, ds = [x] ∧ x.flat = true ∧ l.all D.flat = true ∧ findIx (fun y => D.feq y x) l 0 = some k ∧ t = .v (.int (k : Nat)) := by
      intro ds t e
      cases ds with
      | nil => cases e
      | cons x ds =>
        cases ds with
        | cons _ _ => cases e
        | nil =>
          simp only [me, el] at e
          split at e
          · rename_i h
            rw [Bool.and_eq_true] at h
            obtain ⟨k, e1, e2⟩ := Option.map_eq_some_iff.mp e
            exact ⟨x, k, rfl, h.1, h.2, e1, e2.symm⟩
          · cases e
    have el0 := el
    unfold mseq at el
    split at el
    · rename_i kk ll
      cases kk with
      | true => cases el
      | false =>
        cases el
        rw [RepS, RepD] at r
        obtain ⟨a, ws, rfl, qa, z, rw'⟩ := r
        refine ⟨"tuple", "tuple.index", _, ⟨PySem.F.plainAttrs_tuple, PySem.F.slot_tuple_index, PySem.F.type_tuple_index, mt_indexT⟩, .inr ⟨rfl, a, ws, rfl, qa⟩, fun H' f' ds vs t Q r' rs e q => ?_⟩
        obtain ⟨x, k, rfl, h1, h2, e1, rfl⟩ := key e
        rw [RepDs] at rs
        obtain ⟨y, r1, rfl, rx, rn⟩ := rs
        rw [RepDs] at rn; subst rn
        rw [RepS, RepD] at r'
        obtain ⟨a', ws', ea, qa', z', rw''⟩ := r'
        obtain ⟨i1, i2, z', i3, i4, i5⟩ := index_rep rw'' rx h1 h2 e1
        exact ⟨a', ws', y, k, z', ea, rfl, qa'.sq, i1, i2, i3, i4, i5, q _ _ (NV.d rep_int)⟩
    · obtain ⟨a, ws, rfl, qa, z, rw'⟩ := lstD_rep r el
      rw [← hK] at qa
      refine ⟨"list", "list.index", _, ⟨PySem.F.plainAttrs_list, PySem.F.slot_list_index, PySem.F.type_list_index, mt_index⟩, .inl (.inl ⟨rfl, ws, qa⟩), fun H' f' ds vs t Q r' rs e q => ?_⟩
      obtain ⟨x, k, rfl, h1, h2, e1, rfl⟩ := key e
      rw [RepDs] at rs
      obtain ⟨y, r1, rfl, rx, rn⟩ := rs
      rw [RepDs] at rn; subst rn
      obtain ⟨a', ws', ea, qa', z', rw''⟩ := lstD_rep r' el
      obtain ⟨i1, i2, z', i3, i4, i5⟩ := index_rep rw'' rx h1 h2 e1
      rw [← hK] at qa'
      exact ⟨a', ws', y, k, z', ea, rfl, qa', i1, i2, i3, i4, i5, q _ _ (NV.d rep_int)⟩
  | count =>
    obtain ⟨l, el⟩ := Option.isSome_iff_exists.mp ok
    obtain ⟨a, ws, rfl, qa, z, rw'⟩ := lstD_rep r el
    rw [← hK] at qa
    refine ⟨"list", "list.count", _, ⟨PySem.F.plainAttrs_list, PySem.F.slot_list_count, PySem.F.type_list_count, mt_countD hu⟩, .inl (.inl ⟨rfl, ws, qa⟩), fun H' f' ds vs t Q r' rs e q => ?_⟩
    cases ds with
    | nil => cases e
    | cons x ds =>
      cases ds with
      | cons _ _ => cases e
      | nil =>
        simp only [me, el] at e
        split at e
        · rename_i h
          rw [Bool.and_eq_true] at h
          cases e
          rw [RepDs] at rs
          obtain ⟨y, r1, rfl, rx, rn⟩ := rs
          rw [RepDs] at rn; subst rn
          obtain ⟨a', ws', ea, qa', z', rw''⟩ := lstD_rep r' el
          obtain ⟨d1, d2⟩ := dps_lay rw'' h.2
          rw [← hK] at qa' d1
          refine ⟨a', ws', y, x.py, D.pys l, ea, rfl, qa', d1, by rw [hK]; exact dp_lay rx h.1, h.1, d2, ?_⟩
          rw [pys_count]
          exact q _ _ (NV.d rep_int)
        · cases e
  | bitlen =>
    simp only [meOk] at ok
    split at ok
    · rename_i i
      rw [RepS, RepD] at r; subst r
      refine ⟨"int", "int.bit_length", _, ⟨PySem.F.plainAttrs_int, PyProof.Rows.slot_int_bit_length, PyProof.Rows.type_int_bit_length, mt_bits⟩, .inl rfl, fun H' f' ds vs t Q r' rs e q => ?_⟩
      cases ds with
      | cons _ _ => cases e
      | nil =>
        cases e
        rw [RepDs] at rs; subst rs
        exact ⟨i, rfl, rfl, q _ _ (NV.d rep_int)⟩
    · exact ff ok
  | get1 => exact ff ok
  | get2 => exact ff ok
theorem xok_me {m : Me} {x : X} {xs : Xs} (hx : XOk Γ x) (hxs : XsOk Γ xs) : XOk Γ (.me m x xs) := by
  have sh : ∀ {sc e}, chk Γ.g (.me m x xs) sc e = true → ∃ o apos as pos, e = .Call (.Attribute o (meName m) apos) as [] pos ∧ chk Γ.g x sc o = true ∧ x.isPath = true ∧ chks Γ.g xs sc as = true ∧ apos.endLine = pos.line ∧ apart (root x) (mutXs Γ.g xs) = true ∧ xs.len ≤ 2 := fun {sc e} h => by
    unfold chk at h
    split at h
    · simp only [Bool.and_eq_true, decide_eq_true_eq] at h
      obtain ⟨⟨⟨⟨⟨⟨h1, h2⟩, h3⟩, h4⟩, h5⟩, h6⟩, h7⟩ := h
      subst h1
      exact ⟨_, _, _, _, rfl, h2, h3, h4, h5, h6, h7⟩
    · exact ff h
  refine XOk.of (p := fun ρ => ((den Γ.C x).pk ρ).bind fun s ρ => if meOk m s then (fzsL (dens Γ.C xs) ρ).bind fun ds ρ => R.of ρ (me m s ds) else .bad) rfl (fun {Y sc W e} c hc => ?_) fun hc => by obtain ⟨_, _, _, _, rfl, _⟩ := sh hc; exact ⟨rfl, rfl⟩
  obtain ⟨o, apos, as, pos, rfl, h1, h2, h3, h4, h5, h6⟩ := sh hc
  have hl : (apos.endLine == pos.line) = true := by rw [h4]; exact beq_self_eq_true _
  have hb := path_expr h2 h1 (meName m) Y.env (eval o Y.env)
  have hu := c.un65
  have main : ∀ σ H Q, tV Γ.G W none (mutX Γ.g x ++ mutXs Γ.g xs) (fun ρ => ((den Γ.C x).pk ρ).bind fun s ρ => if meOk m s then (fzsL (dens Γ.C xs) ρ).bind fun ds ρ => R.of ρ (me m s ds) else .bad) σ H Q →
      tMX Y (meName m) (tV Γ.G W (root x) (mutX Γ.g x) (den Γ.C x).pk) (tDs Γ.G W (mutXs Γ.g xs) (fzsL (dens Γ.C xs))) σ H Q := by
    intro σ H Q ⟨ρ, fs, F, q⟩
    refine ⟨ρ, fs, F, (Run.bind (M1 := mutX Γ.g x) (M2 := mutXs Γ.g xs) q (fun i m => List.mem_append_left _ m) (fun i m => List.mem_append_right _ m)).imp fun s ρ1 H1 fs1 F1 st1 q1 v vp => ?_⟩
    cases ok : meOk m s with
    | false => rw [ok] at q1; exact q1.elim
    | true =>
      rw [ok, if_pos rfl] at q1
      obtain ⟨f, hr⟩ := vp.rep
      obtain ⟨T, id, rr, mf, ty, k⟩ := me_rule c.K hu hr ok
      refine ⟨T, id, rr, mf, ty, ρ1, fs1, F1, ?_⟩
      refine (Run.bind (M1 := mutXs Γ.g xs) (M2 := []) q1 (fun i m => m) (fun i m => by cases m)).imp fun ds ρ2 H2 fs2 F2 st2 q2 vs rs => ?_
      obtain ⟨f', hr'⟩ := (vp.carry F1 st2 (not_apart h5)).rep
      obtain ⟨t, e1, k2⟩ := Run.nv F2 (fun a z => st1.keep.dom a (st2.keep.dom a z)) q2
      exact k H2 f' ds vs t Q hr' rs e1 k2
  cases as with
  | cons a as =>
    exact PE.imp (pe_mX (hx.pe c h1) (pa_fz c hxs h3) hb (chks_plain hxs h3) (by have := chks_len h3; omega) hl) main
  | nil =>
    refine PE.imp (pe_mX0 (hx.pe c h1) hb hl) fun σ H Q q => ?_
    obtain ⟨ρ, fs, F, q⟩ := main σ H Q q
    have hx0 : xs = .nil := by
      cases xs with
      | nil => rfl
      | cons x xs => exact ff h3
    subst hx0
    refine ⟨ρ, fs, F, q.imp fun s ρ1 H1 fs1 F1 st1 q1 v vp => ?_⟩
    obtain ⟨T, id, rr, mf, ty, ρ2, fs2, F2, q2⟩ := q1 v vp
    exact ⟨T, id, rr, mf, ty, q2 H1 fs2 F2 .refl [] .nil⟩
end Vm
/-! VmO -/
namespace Vm
open PySem L2

variable {Γ : Gx} {Y : Cx} {sc : Scope} {W : WX} {e : Expr}
/-- the field's place among the sub-trees, and its change -/
theorem fput_rep {G : Pg} {H : Hp} {c f : Nat} (inj : ∀ j, G.ok c j → G.fn j = G.fn f → j = f) : ∀ {fs : List Nat} {ss : List S} {ws : List V} {s : S} {F : Fp}, (∀ k, k ∈ fs → G.ok c k) → fs.length = ws.length → RepSs G H ss ws F → fget fs ss f = some s →
    ∃ w g, ((fs.map G.fn).zip ws).lookup (G.fn f) = some w ∧ RepS G H s w g ∧ (∀ b, g b → F b) ∧ ∀ H' K u g', Keep H H' K → (∀ b, K b → g b) → RepS G H' u w g' → (∀ b, g' b → g b ∨ ¬ F b) → (fput fs ss f u).1 = fs ∧ RepSs G H' (fput fs ss f u).2 ws (fun b => (F b ∧ ¬ g b) ∨ g' b)
  | [], ss, ws, s, F, hk, hl, r, e => by cases e
  | k :: fs, [], ws, s, F, hk, hl, r, e => by cases e
  | k :: fs, t :: ss, ws, s, F, hk, hl, r, e => by
    rw [RepSs] at r
    obtain ⟨v, r', g, rfl, y, a, b⟩ := r
    simp only [fget] at e
    simp only [List.map_cons, List.zip_cons_cons, List.lookup_cons]
    by_cases h : k = f
    · subst h
      rw [if_pos rfl] at e
      cases e
      refine ⟨v, g, by simp, a, y, fun H' K u g' kp hK ru hg' => ?_⟩
      have e1 : fput (k :: fs) (t :: ss) k u = (k :: fs, u :: ss) := by simp [fput]
      rw [e1]
      refine ⟨rfl, ?_⟩
      rw [RepSs]
      refine ⟨v, r', g', rfl, fun b h => .inr h, ru, RepSs.mono _ _ (RepSs.keep kp _ _ b fun b z h => z.2 (hK b h)) fun b z => ⟨.inl ⟨z.1, z.2⟩, fun h => ?_⟩⟩
      rcases hg' b h with h | h
      · exact z.2 h
      · exact h z.1
    · rw [if_neg h] at e
      obtain ⟨w, g1, e1, r1, y1, k1⟩ := fput_rep inj (fun j m => hk j (List.mem_cons_of_mem _ m)) (by simpa using hl) b e
      have hne : (G.fn f == G.fn k) = false := by
        rw [beq_eq_false_iff_ne]
        exact fun z => h (inj k (hk k List.mem_cons_self) z.symm)
      rw [hne]
      refine ⟨w, g1, e1, r1, fun b z => (y1 b z).1, fun H' K u g' kp hK ru hg' => ?_⟩
      obtain ⟨e2, r2⟩ := k1 H' K u g' kp hK ru (fun b z => (hg' b z).imp id fun h z => h z.1)
      have e3 : fput (k :: fs) (t :: ss) f u = (k :: (fput fs ss f u).1, t :: (fput fs ss f u).2) := by simp [fput, h]
      rw [e3]
      refine ⟨by rw [e2], ?_⟩
      rw [RepSs]
      refine ⟨v, r', g, rfl, fun b z => .inl ⟨y b z, fun h => (y1 b h).2 z⟩, RepS.keep kp _ _ a fun b z h => (y1 b (hK b h)).2 z, RepSs.mono _ _ r2 fun b z => ?_⟩
      rcases z with ⟨z1, z2⟩ | z
      · exact ⟨.inl ⟨z1.1, z2⟩, z1.2⟩
      · refine ⟨.inr z, fun h => ?_⟩
        rcases hg' b z with h2 | h2
        · exact (y1 b h2).2 h
        · exact h2 (y b h)
/-- a path's value in the heap -/
def PathV (G : Pg) (K : PySem.W.Frag) (H : Hp) : V → List Nat → V → Prop
  | v, [], w => w = v
  | v, f :: fs, w => ∃ a C dx fl u, v = .ref a ∧ H a = some (.ins C dx fl) ∧ Cls K C ∧ NoAttr K C (G.fn f) ∧ fl.lookup (G.fn f) = some u ∧ PathV G K H u fs w
theorem path_upd (c : Cok Γ.g Γ.G Γ.C Y sc W) {H : Hp} : ∀ {fs : List Nat} {s t : S} {v : V} {F : Fp}, RepS Γ.G H s v F → pget s fs = some t →
    ∃ w g, PathV Γ.G Y.K H v fs w ∧ RepS Γ.G H t w g ∧ (∀ b, g b → F b) ∧ ∀ H' K t' g' s', Keep H H' K → (∀ b, K b → g b) → RepS Γ.G H' t' w g' → (∀ b, g' b → g b ∨ ¬ F b) → pput s fs t' = some s' → RepS Γ.G H' s' v (fun b => (F b ∧ ¬ g b) ∨ g' b)
  | [], s, t, v, F, r, e => by
    cases e
    refine ⟨v, F, rfl, r, fun b z => z, fun H' K t' g' s' kp hK rt hg e => ?_⟩
    cases e
    exact RepS.mono _ _ rt fun b z => .inr z
  | f :: fs, s, t, v, F, r, e => by
    unfold pget at e
    split at e
    · rename_i u eu
      unfold fldGet at eu
      split at eu
      · rename_i cl fl vs
        rw [RepS] at r
        obtain ⟨a, dx, ws, rfl, q, fa, ⟨z1, z2⟩, r⟩ := r
        have ok := z2 f (fget_mem eu)
        obtain ⟨w1, g1, e1, r1, y1, k1⟩ := fput_rep (c := cl) (fun j hj => c.inj cl j f hj ok) z2 z1 r eu
        obtain ⟨w, g, p2, r2, y2, k2⟩ := path_upd c r1 e
        have kk := c.fld cl f ok
        refine ⟨w, g, ⟨a, _, dx, _, w1, rfl, q, kk.1, kk.2, e1, p2⟩, r2, fun b z => (y1 b (y2 b z)).1, fun H' K t' g' s' kp hK rt hg e => ?_⟩
        simp only [pput, eu] at e
        cases e3 : pput u fs t' with
        | none => rw [e3] at e; cases e
        | some u' =>
          rw [e3] at e; cases e
          have r3 := k2 H' K t' g' u' kp hK rt (fun b z => (hg b z).imp id fun h h2 => h (y1 b h2).1) e3
          obtain ⟨e4, r4⟩ := k1 H' K u' _ kp (fun b z => y2 b (hK b z)) r3 (fun b z => by
            rcases z with z | z
            · exact .inl z.1
            · rcases hg b z with h | h
              · exact .inl (y2 b h)
              · exact .inr fun h2 => h h2.1)
          rw [RepS, e4]
          have na : ¬ g a := fun z => (y1 a (y2 a z)).2 rfl
          refine ⟨a, dx, ws, rfl, kp.at' _ _ q (.inr fun z => na (hK a z)), .inl ⟨fa, na⟩, ⟨z1, z2⟩, RepSs.mono _ _ r4 fun b z => ?_⟩
          rcases z with z | z | z
          · exact ⟨.inl ⟨z.1.1, fun h => z.2 (y2 b h)⟩, z.1.2⟩
          · exact ⟨.inl ⟨(y1 b z.1).1, z.2⟩, (y1 b z.1).2⟩
          · refine ⟨.inr z, fun h => ?_⟩
            rcases hg b z with h2 | h2
            · exact (y1 b (y2 b h2)).2 h
            · exact h2 (h ▸ fa)
      · cases eu
    · cases e
theorem pathV_snoc {G : Pg} {K : PySem.W.Frag} {H : Hp} {f : Nat} {w u : V} {a C dx : Addr} {fl : List (Str × V)} : ∀ {fs : List Nat} {v : V}, PathV G K H v (fs ++ [f]) u → ∃ w, PathV G K H v fs w ∧ PathV G K H w [f] u
  | [], v, h => ⟨v, rfl, h⟩
  | g :: fs, v, ⟨a, C, dx, fl, x, h1, h2, h3, h4, h5, h6⟩ => by
    obtain ⟨w, h7, h8⟩ := pathV_snoc (a := a) (C := C) (dx := dx) (fl := fl) (w := v) h6
    exact ⟨w, ⟨a, C, dx, fl, x, h1, h2, h3, h4, h5, h7⟩, h8⟩
/-- a path's text -/
def tPath (G : Pg) (K : PySem.W.Frag) (i : Nat) (fs : List Nat) : TE := fun σ H Q => ∃ v w, σ[i]? = some (some v) ∧ PathV G K H v fs w ∧ Q w H
theorem pathB_cons {i f : Nat} {fs : List Nat} {N : List Str} {nt : NT} (h : pathB nt N sc i (f :: fs) e = true) : ∃ v a p, e = .Attribute v a p ∧ nt.flds[(f :: fs).getLast (by simp)]? = some a ∧ pathB nt N sc i ((f :: fs).dropLast) v = true := by
  unfold pathB at h
  cases e <;> first | exact ff h | skip
  rename_i v a p
  have h : (decide (nt.flds[(f :: fs).getLast (by simp)]? = some a) && pathB nt N sc i ((f :: fs).dropLast) v) = true := h
  rw [Bool.and_eq_true, decide_eq_true_eq] at h
  exact ⟨v, a, p, rfl, h.1, h.2⟩
theorem path_form {i : Nat} {N : List Str} {nt : NT} : ∀ {fs : List Nat} {e : Expr}, pathB nt N sc i fs e = true → (∃ y p, e = .Name y p) ∨ ∃ v a p, e = .Attribute v a p
  | [], e, h => by
    unfold pathB at h
    obtain ⟨y, p, rfl, _⟩ := nameB_of h
    exact .inl ⟨y, p, rfl⟩
  | f :: fs, e, h => by
    obtain ⟨v, a, p, rfl, _⟩ := pathB_cons h
    exact .inr ⟨v, a, p, rfl⟩
theorem path_base {i : Nat} {N : List Str} {nt : NT} {fs : List Nat} (h : pathB nt N sc i fs e = true) (f : Str) (env : Env) (w : Sem Value) : attributeBase e f env w = w := by
  rcases path_form h with ⟨y, p, rfl⟩ | ⟨v, a, p, rfl⟩ <;> rfl
theorem pe_path (c : Cok Γ.g Γ.G Γ.C Y sc W) {i : Nat} : ∀ (n : Nat) {fs : List Nat} {e : Expr}, fs.length = n → pathB Γ.g.nt Γ.g.N sc i fs e = true → PE Y e (tPath Γ.G Y.K i fs)
  | 0, fs, e, hn, h => by
    have : fs = [] := List.length_eq_zero_iff.mp hn
    subst this
    unfold pathB at h
    exact PE.imp (c.pv (Γ := Γ) h) fun σ H Q ⟨v, w, ev, ew, q⟩ => ⟨v, ev, by rw [show w = v from ew] at q; exact q⟩
  | n + 1, [], e, hn, h => by cases hn
  | n + 1, f :: fs, e, hn, h => by
    obtain ⟨v, a, p, rfl, h1, h2⟩ := pathB_cons h
    have hs : (f :: fs) = (f :: fs).dropLast ++ [(f :: fs).getLast (by simp)] := (List.dropLast_concat_getLast (by simp)).symm
    have ih := pe_path c n (fs := (f :: fs).dropLast) (e := v) (by rw [List.length_dropLast]; simpa using hn) h2
    have ea := c.nam _ _ h1
    refine PE.imp (pe_fld ih (path_base h2 _ _ _)) fun σ H Q ⟨x, w, ev, ew, q⟩ => ?_
    rw [hs] at ew
    obtain ⟨y, h3, h4⟩ := pathV_snoc (w := x) (a := 0) (C := 0) (dx := 0) (fl := []) ew
    obtain ⟨a', C, dx, fl, u, e1, e2, e3, e4, e5, e6⟩ := h4
    rw [ea] at e4 e5
    exact ⟨x, y, ev, h3, a', C, dx, fl, u, e1, e2, e3, e4, e5, by rw [show w = u from e6] at q; exact q⟩
theorem pathV_uniq {G : Pg} {K : PySem.W.Frag} {H : Hp} : ∀ {fs : List Nat} {v w u : V}, PathV G K H v fs w → PathV G K H v fs u → w = u
  | [], v, w, u, h1, h2 => by rw [show w = v from h1, show u = v from h2]
  | f :: fs, v, w, u, ⟨a, C, dx, fl, x, h1, h2, h3, h4, h5, h6⟩, ⟨a', C', dx', fl', x', g1, g2, g3, g4, g5, g6⟩ => by
    rw [h1] at g1
    injection g1 with g1
    subst g1
    rw [h2] at g2
    injection g2 with g2
    injection g2 with _ _ g2
    subst g2
    rw [h5] at g5
    injection g5 with g5
    subst g5
    exact pathV_uniq h6 g6
/-- a slot's tree is changed -/
theorem FR.upd {G : Pg} {H H' : Hp} {σ : L2.St} {ρ : Fr} {fs : Nat → Fp} {K g' : Fp} {i : Nat} {s s' : S} {v : V} (F : FR G H σ ρ fs) (hi : ρ[i]? = some (some s)) (ev : σ[i]? = some (some v)) (r : RepS G H' s' v g') (kp : Keep H H' K) (hK : ∀ b, K b → fs i b) (hg : ∀ b, g' b → fs i b ∨ ∀ j, ¬ fs j b)
    (ht : ∀ b, g' b → H' b ≠ none) : FR G H' σ (ρ.set i (some s')) (fun j => if j = i then g' else fs j) := by
  have hlt : i < ρ.length := (List.getElem?_eq_some_iff.mp hi).1
  refine ⟨by rw [List.length_set]; exact F.len, fun j t e => ?_, fun j k a h1 h2 => ?_, fun j a h1 => ?_⟩
  · by_cases hj : j = i
    · subst hj
      rw [List.getElem?_set_self hlt] at e
      cases e
      exact ⟨v, ev, .inl (by rw [if_pos rfl]; exact r)⟩
    · rw [List.getElem?_set_ne (Ne.symm hj)] at e
      obtain ⟨w, ew, rw'⟩ := F.rep j t e
      refine ⟨w, ew, ?_⟩
      rw [if_neg hj]
      exact rw'.imp (fun r => RepS.keep kp _ _ r fun b z h => hj (F.dis j i b z (hK b h))) (ExnAt.keep kp)
  · by_cases hj : j = i
    · by_cases hk : k = i
      · rw [hj, hk]
      · rw [if_pos hj] at h1; rw [if_neg hk] at h2
        rcases hg a h1 with z | z
        · exact absurd (F.dis k i a h2 z) hk
        · exact absurd h2 (z k)
    · by_cases hk : k = i
      · rw [if_neg hj] at h1; rw [if_pos hk] at h2
        rcases hg a h2 with z | z
        · exact absurd (F.dis j i a h1 z) hj
        · exact absurd h1 (z j)
      · rw [if_neg hj] at h1; rw [if_neg hk] at h2
        exact F.dis j k a h1 h2
  · by_cases hj : j = i
    · rw [if_pos hj] at h1; exact ht a h1
    · rw [if_neg hj] at h1; exact fun z => F.trk j a h1 (kp.dom a z)
theorem Step.upd {H H1 H2 : Hp} {ρ ρ1 : Fr} {fs fs1 : Nat → Fp} {M M' : List Nat} {K g' : Fp} {i : Nat} {t : Option S} (st : Step H ρ fs M H1 ρ1 fs1) (hM : ∀ j, j ∈ M → j ∈ M') (hi : i ∈ M') (kp : Keep H1 H2 K) (hK : ∀ b, K b → fs1 i b) (hg : ∀ b, g' b → fs1 i b ∨ U fs M' b ∨ H b = none) :
    Step H ρ fs M' H2 (ρ1.set i t) (fun j => if j = i then g' else fs1 j) := by
  have up : ∀ b, fs1 i b → U fs M' b ∨ H b = none := fun b z => by
    by_cases n : i ∈ M
    · exact (st.sub i b n z).imp (U.mono hM) id
    · rw [(st.same i n).2] at z; exact .inl ⟨i, hi, z⟩
  refine ⟨⟨fun b w e p => ?_, fun b e => st.keep.dom b (kp.dom b e)⟩, fun j n => ?_, fun j b m z => ?_⟩
  · have e1 := st.keep.at' b w e (p.imp id fun h z => h (z.mono hM))
    refine kp.at' b w e1 (p.imp id fun h z => ?_)
    rcases up b (hK b z) with y | y
    · exact h y
    · rw [e] at y; cases y
  · have hj : j ≠ i := fun z => n (z ▸ hi)
    have n1 : j ∉ M := fun z => n (hM j z)
    exact ⟨by rw [List.getElem?_set_ne (Ne.symm hj)]; exact (st.same j n1).1, by rw [if_neg hj]; exact (st.same j n1).2⟩
  · by_cases hj : j = i
    · rw [if_pos hj] at z
      rcases hg b z with y | y
      · exact up b y
      · exact y
    · rw [if_neg hj] at z
      by_cases n : j ∈ M
      · exact (st.sub j b n z).imp (U.mono hM) id
      · rw [(st.same j n).2] at z; exact .inl ⟨j, m, z⟩
end Vm
/-! VmP -/
namespace Vm
open PySem L2

variable {Γ : Gx} {Y : Cx} {sc : Scope} {W : WX} {e : Expr}
theorem RepSs.append {G : Pg} {H : Hp} : ∀ {l m : List S} {vs ws : List V} {f h : Fp}, RepSs G H l vs f → RepSs G H m ws h → (∀ b, f b → ¬ h b) → RepSs G H (l ++ m) (vs ++ ws) (fun b => f b ∨ h b)
  | [], m, vs, ws, f, h, r, q, d => by
    rw [RepSs] at r; subst r
    exact RepSs.mono _ _ q fun b z => .inr z
  | s :: l, m, vs, ws, f, h, r, q, d => by
    rw [RepSs] at r
    obtain ⟨v, r', g, rfl, y, a, b⟩ := r
    show RepSs G H (s :: (l ++ m)) (v :: (r' ++ ws)) _
    rw [RepSs]
    refine ⟨v, _, g, rfl, fun b z => .inl (y b z), a, RepSs.mono _ _ (RepSs.append b q fun b z => d b z.1) fun b z => ?_⟩
    rcases z with z | z
    · exact ⟨.inl z.1, z.2⟩
    · exact ⟨.inr z, fun h => d b (y b h) z⟩
theorem RepSs.one {G : Pg} {H : Hp} {s : S} {v : V} {f : Fp} (r : RepS G H s v f) : RepSs G H [s] [v] f := by
  rw [RepSs]
  exact ⟨v, [], f, rfl, fun _ z => z, r, by rw [RepSs]⟩
theorem RepSs.one_of {G : Pg} {H : Hp} {s : S} {vs : List V} {f : Fp} (r : RepSs G H [s] vs f) : ∃ v, vs = [v] ∧ RepS G H s v f := by
  rw [RepSs] at r
  obtain ⟨v, r', g, rfl, y, a, b⟩ := r
  rw [RepSs] at b; subst b
  exact ⟨v, rfl, RepS.mono _ _ a y⟩
theorem RepSs.erase {G : Pg} {H : Hp} : ∀ {l : List S} {vs : List V} {f : Fp} {k : Nat} {s : S}, RepSs G H l vs f → l[k]? = some s → ∃ v g, vs[k]? = some v ∧ RepS G H s v g ∧ (∀ b, g b → f b) ∧ RepSs G H (l.eraseIdx k) (vs.eraseIdx k) (fun b => f b ∧ ¬ g b)
  | [], vs, f, k, s, r, e => by simp at e
  | t :: l, vs, f, 0, s, r, e => by
    rw [RepSs] at r
    obtain ⟨v, r', g, rfl, y, a, b⟩ := r
    simp at e; subst e
    exact ⟨v, g, rfl, a, y, b⟩
  | t :: l, vs, f, k + 1, s, r, e => by
    rw [RepSs] at r
    obtain ⟨v, r', g, rfl, y, a, b⟩ := r
    obtain ⟨w, h, e1, r1, y1, r2⟩ := RepSs.erase (k := k) (s := s) b (by simpa using e)
    refine ⟨w, h, by simpa using e1, r1, fun b z => (y1 b z).1, ?_⟩
    show RepSs G H (t :: l.eraseIdx k) (v :: r'.eraseIdx k) _
    rw [RepSs]
    exact ⟨v, _, g, rfl, fun b z => ⟨y b z, fun h' => (y1 b h').2 z⟩, a, RepSs.mono _ _ r2 fun b z => ⟨⟨z.1.1, z.2⟩, z.1.2⟩⟩
theorem RepSs.rev {G : Pg} {H : Hp} : ∀ {l : List S} {vs : List V} {f : Fp}, RepSs G H l vs f → RepSs G H l.reverse vs.reverse f
  | [], vs, f, r => by rw [RepSs] at r; subst r; show RepSs G H [] [] f; rw [RepSs]
  | s :: l, vs, f, r => by
    rw [RepSs] at r
    obtain ⟨v, r', g, rfl, y, a, b⟩ := r
    rw [List.reverse_cons, List.reverse_cons]
    refine RepSs.mono _ _ (RepSs.append (RepSs.rev b) (RepSs.one a) fun b z h => z.2 h) fun b z => ?_
    rcases z with z | z
    · exact z.1
    · exact y b z
def muId : Mu → String
  | .append => "list.append"
  | .pop => "list.pop"
  | .popAt => "list.pop"
  | .remove => "list.remove"
  | .insert => "list.insert"
  | .extend => "list.extend"
  | .reverse => "list.reverse"
  | .clear => "list.clear"
def muRd : Mu → V → List V → Hp → VK → Prop
  | .append => rAppend
  | .pop => rPop
  | .popAt => rPopAt
  | .remove => rRemI
  | .insert => fun _ _ _ _ => False
  | .extend => fun _ _ _ _ => False
  | .reverse => rReverse
  | .clear => rClear
theorem mf_mu {m : Mu} (h : muOne m = true) : MF Y (muName m) "list" (muId m) (muRd m) := by
  cases m <;> first | exact ff h | skip
  · exact ⟨PySem.F.plainAttrs_list, PySem.F.slot_list_append, PySem.F.type_list_append, mt_append⟩
  · exact ⟨PySem.F.plainAttrs_list, PySem.F.slot_list_pop, PySem.F.type_list_pop, mt_pop⟩
  · exact ⟨PySem.F.plainAttrs_list, PySem.F.slot_list_pop, PySem.F.type_list_pop, mt_popAt⟩
  · exact ⟨PySem.F.plainAttrs_list, PySem.F.slot_list_remove, PySem.F.type_list_remove, mt_remove⟩
  · exact ⟨PySem.F.plainAttrs_list, PySem.F.slot_list_reverse, PySem.F.type_list_reverse, mt_reverse⟩
  · exact ⟨PySem.F.plainAttrs_list, PySem.F.slot_list_clear, PySem.F.type_list_clear, mt_clear⟩
/-- what a method leaves -/
def MuEnd (G : Pg) (H2 : Hp) (w : V) (g f2 : Fp) (t' r : S) (Q : VK) : Prop :=
  ∀ H3 K rv g' fr, Keep H2 H3 K → (∀ b, K b → g b) → RepS G H3 t' w g' → RepS G H3 r rv fr → (∀ b, g' b → g b ∨ f2 b) → (∀ b, fr b → g b ∨ f2 b) → (∀ b, g' b → ¬ fr b) → (∀ b, g' b → H3 b ≠ none) → (∀ b, fr b → H3 b ≠ none) → Q rv H3
theorem mu_rule {G : Pg} {H : Hp} {m : Mu} {t t' r : S} {w : V} {g f2 : Fp} {ss : List S} {ys : List V} {Q : VK} (hr : RepS G H t w g) (ha : RepSs G H ss ys f2) (dj : ∀ b, f2 b → ¬ g b) (tg : ∀ b, g b → H b ≠ none) (tf : ∀ b, f2 b → H b ≠ none)
    (e : mu m t ss = some (t', r)) (q : MuEnd G H w g f2 t' r Q) : muRd m w ys H Q := by
  unfold mu at e
  split at e
  · rename_i l
    rw [RepS] at hr
    obtain ⟨a, vs, rfl, qa, fa, z, rs⟩ := hr
    have key : ∀ {us : List V}, Keep H (upd H a (.lst us)) (fun b => b = a) := Keep.set qa (fun z => z) rfl
    have kg : ∀ b, b = a → g b := fun b h => h ▸ fa
    have tr : ∀ {us : List V} b, H b ≠ none → upd H a (.lst us) b ≠ none := fun b h z => h (key.dom b z)
    have non : ∀ {H' : Hp}, RepS G H' (.v .non) .non none' := by intro H'; rw [RepS, RepD]
    split at e
    · -- append
      rename_i s
      split at e
      · rename_i hl
        cases e
        obtain ⟨y, rfl, ry⟩ := ha.one_of
        have na : ∀ b, f2 b → b ≠ a := fun b h e => dj b h (e ▸ fa)
        refine ⟨a, vs, y, rfl, rfl, qa, by rw [← rs.length, ← lineN_eq]; exact hl, ?_⟩
        refine q _ _ .non (fun b => g b ∨ f2 b) none' key kg ?_ non (fun b h => h) (fun b h => h.elim) (fun b h z => z) (fun b h => ?_) (fun b h => h.elim)
        · rw [RepS]
          refine ⟨a, _, rfl, upd_same, .inl fa, ?_, RepSs.mono _ _ (RepSs.append (RepSs.keep key _ _ rs fun b h => h.2) (RepSs.one (RepS.keep key _ _ ry na)) fun b h h2 => dj b h2 h.1) fun b h => ?_⟩
          · rw [List.length_append, List.length_singleton, ← rs.length, ← lineN_eq]; omega
          · rcases h with h | h
            · exact ⟨.inl h.1, h.2⟩
            · exact ⟨.inr h, na b h⟩
        · rcases h with h | h
          · exact tr b (tg b h)
          · exact tr b (tf b h)
      · cases e
    · -- pop
      split at e
      · rename_i s hs
        cases e
        rw [RepSs] at ha; subst ha
        rw [List.getLast?_eq_getElem?] at hs
        obtain ⟨v, gk, e1, r1, y1, r2⟩ := rs.erase hs
        have hlen : l.length - 1 + 1 = l.length := by
          have := (List.getElem?_eq_some_iff.mp hs).1
          omega
        have hl2 := rs.length
        refine ⟨a, vs, v, rfl, rfl, qa, by rw [← hl2]; exact e1, ?_⟩
        refine q _ _ v (fun b => g b ∧ ¬ gk b) gk key kg ?_ (RepS.keep key _ _ r1 fun b h => (y1 b h).2) (fun b h => .inl h.1) (fun b h => .inl (y1 b h).1) (fun b h z => h.2 z) (fun b h => tr b (tg b h.1)) (fun b h => tr b (tg b (y1 b h).1))
        have d1 : l.dropLast = l.eraseIdx (l.length - 1) := (PyProof.Rows.Copied.eraseIdx_last l).symm
        have d2 : vs.dropLast = vs.eraseIdx (l.length - 1) := by rw [hl2]; exact (PyProof.Rows.Copied.eraseIdx_last vs).symm
        rw [RepS, d1, d2]
        refine ⟨a, _, rfl, upd_same, ⟨fa, fun h => (y1 a h).2 rfl⟩, Nat.le_trans (len_erase _ _) z, RepSs.mono _ _ (RepSs.keep key _ _ r2 fun b h => h.1.2) fun b h => ⟨⟨h.1.1, h.2⟩, h.1.2⟩⟩
      · cases e
    · -- pop(i)
      rename_i i
      split at e
      · rename_i hi
        rw [Bool.and_eq_true, decide_eq_true_eq, decide_eq_true_eq] at hi
        split at e
        · rename_i k hk
          split at e
          · rename_i s hs
            cases e
            obtain ⟨y, rfl, ry⟩ := ha.one_of
            rw [RepS, RepD] at ry; subst ry
            obtain ⟨v, gk, e1, r1, y1, r2⟩ := rs.erase hs
            refine ⟨a, vs, i, k, v, rfl, rfl, qa, hi.1, hi.2, by rw [← rs.length]; exact (ixN_seq hk).1, e1, ?_⟩
            refine q _ _ v (fun b => g b ∧ ¬ gk b) gk key kg ?_ (RepS.keep key _ _ r1 fun b h => (y1 b h).2) (fun b h => .inl h.1) (fun b h => .inl (y1 b h).1) (fun b h z => h.2 z) (fun b h => tr b (tg b h.1)) (fun b h => tr b (tg b (y1 b h).1))
            rw [RepS]
            exact ⟨a, _, rfl, upd_same, ⟨fa, fun h => (y1 a h).2 rfl⟩, Nat.le_trans (len_erase _ _) z, RepSs.mono _ _ (RepSs.keep key _ _ r2 fun b h => h.1.2) fun b h => ⟨⟨h.1.1, h.2⟩, h.1.2⟩⟩
          · cases e
        · cases e
      · cases e
    · -- remove
      rename_i x
      split at e
      · rename_i is his
        split at e
        · rename_i k hk
          cases e
          obtain ⟨y, rfl, ry⟩ := ha.one_of
          rw [RepS, RepD] at ry; subst ry
          obtain ⟨ds, h1, h2⟩ := Option.bind_eq_some_iff.mp his
          have el := ds?_eq h1
          have rd := RepSs.toD h1 rs
          have ev := ints_rep rd h2
          obtain ⟨hk1, hk2, hk3⟩ := List.findIdx?_eq_some_iff_getElem.mp hk
          have hx : is[k]? = some x := by
            rw [List.getElem?_eq_getElem hk1]
            have : is[k] = x := by simpa using hk2
            rw [this]
          subst ev
          refine ⟨a, is, x, k, rfl, rfl, qa, hx, fun m hm h => ?_, ?_⟩
          · obtain ⟨hm1, hm2⟩ := List.getElem?_eq_some_iff.mp h
            have := hk3 m hm
            simp [hm2] at this
          · refine q _ _ .non g none' key kg ?_ non (fun b h => .inl h) (fun b h => h.elim) (fun b h z => z) (fun b h => tr b (tg b h)) (fun b h => h.elim)
            rw [RepS]
            rw [← erase_mapI]
            have hlk : k < l.length := by rw [rs.length, List.length_map]; exact hk1
            obtain ⟨v, gk, e1, r1, y1, r2⟩ := rs.erase (List.getElem?_eq_getElem hlk)
            exact ⟨a, _, rfl, upd_same, fa, Nat.le_trans (len_erase _ _) z, RepSs.mono _ _ (RepSs.keep key _ _ r2 fun b h => h.1.2) fun b h => h.1⟩
        · cases e
      · cases e
    · -- reverse
      cases e
      rw [RepSs] at ha; subst ha
      refine ⟨a, vs, rfl, rfl, qa, ?_⟩
      refine q _ _ .non g none' key kg ?_ non (fun b h => .inl h) (fun b h => h.elim) (fun b h z => z) (fun b h => tr b (tg b h)) (fun b h => h.elim)
      rw [RepS]
      exact ⟨a, _, rfl, upd_same, fa, by rw [List.length_reverse]; exact z, RepSs.keep key _ _ rs.rev fun b h => h.2⟩
    · -- clear
      cases e
      rw [RepSs] at ha; subst ha
      refine ⟨a, vs, rfl, rfl, qa, ?_⟩
      refine q _ _ .non g none' key kg ?_ non (fun b h => .inl h) (fun b h => h.elim) (fun b h z => z) (fun b h => tr b (tg b h)) (fun b h => h.elim)
      rw [RepS]
      exact ⟨a, _, rfl, upd_same, fa, Nat.zero_le _, by rw [RepSs]⟩
    · cases e
  · cases e

theorem path_keep (c : Cok Γ.g Γ.G Γ.C Y sc W) {H H' : Hp} {K : Fp} (kp : Keep H H' K) : ∀ {fs : List Nat} {s t : S} {v w : V} {F : Fp}, RepS Γ.G H s v F → pget s fs = some t → (∀ b, F b → ¬ K b) → PathV Γ.G Y.K H v fs w → PathV Γ.G Y.K H' v fs w
  | [], s, t, v, w, F, r, e, n, p => p
  | f :: fs, s, t, v, w, F, r, e, n, ⟨a, C, dx, fl, u, h1, h2, h3, h4, h5, h6⟩ => by
    unfold pget at e
    split at e
    · rename_i s' es
      obtain ⟨cl, a', dx', fl', w', e1, e2, e3, e4, e5⟩ := fld_rep c r es
      have ra := r
      unfold fldGet at es
      split at es
      · rw [RepS] at ra
        obtain ⟨a2, dx2, ws2, z1, z2, z3, _⟩ := ra
        have ea : a2 = a := by rw [h1] at z1; injection z1 with z; exact z.symm
        subst ea
        rw [h1] at e1
        injection e1 with e1
        subst e1
        rw [h2] at e2
        injection e2 with e2
        injection e2 with _ _ e2
        subst e2
        rw [h5] at e4
        injection e4 with e4
        subst e4
        exact ⟨a2, C, dx, fl, u, h1, kp.at' _ _ h2 (.inr (n a2 z3)), h3, h4, h5, path_keep c kp e5 e (fun b z => n b z.1) h6⟩
      · cases es
    · cases e
theorem getS_ne {ρ : Fr} {i : Nat} {s : S} (h : getS ρ i = some s) : ρ[i]? = some (some s) := (getS_some h).1
theorem xok_mu {m : Mu} {i : Nat} {fs : List Nat} {xs : Xs} (hxs : XsOk Γ xs) : XOk Γ (.mu m i fs xs) := by
  have sh : ∀ {sc e}, chk Γ.g (.mu m i fs xs) sc e = true → ∃ o apos as pos, e = .Call (.Attribute o (muName m) apos) as [] pos ∧ muOne m = true ∧ pathB Γ.g.nt Γ.g.N sc i fs o = true ∧ chks Γ.g xs sc as = true ∧ apos.endLine = pos.line ∧ (fs = [] ∨ i ∉ mutXs Γ.g xs) ∧ xs.len ≤ 2 := fun {sc e} h => by
    unfold chk at h
    split at h
    · simp only [Bool.and_eq_true, decide_eq_true_eq, Bool.or_eq_true] at h
      obtain ⟨⟨⟨⟨⟨⟨h1, h2⟩, h3⟩, h4⟩, h5⟩, h6⟩, h7⟩ := h
      subst h1
      refine ⟨_, _, _, _, rfl, h2, h3, h4, h5, ?_, h7⟩
      rcases h6 with h6 | h6
      · exact .inl (List.isEmpty_iff.mp h6)
      · exact .inr fun z => by simp [List.contains_iff_mem, z] at h6
    · exact ff h
  refine XOk.of (p := fun ρ => if muOk ((getS ρ i).bind fun s => pget s fs) then (evsL (dens Γ.C xs) ρ).bind fun ss ρ => muR m i fs ss ρ else .bad) rfl (fun {Y sc W e} c hc => ?_) fun hc => by obtain ⟨_, _, _, _, rfl, _⟩ := sh hc; exact ⟨rfl, rfl⟩
  obtain ⟨o, apos, as, pos, rfl, h1, h2, h3, h4, h5, h6⟩ := sh hc
  have hl : (apos.endLine == pos.line) = true := by rw [h4]; exact beq_self_eq_true _
  have hb := path_base h2 (muName m) Y.env (eval o Y.env)
  have main : ∀ σ H Q, tV Γ.G W none (i :: mutXs Γ.g xs) (fun ρ => if muOk ((getS ρ i).bind fun s => pget s fs) then (evsL (dens Γ.C xs) ρ).bind fun ss ρ => muR m i fs ss ρ else .bad) σ H Q →
      tMX Y (muName m) (tPath Γ.G Y.K i fs) (tVs Γ.G W (mutXs Γ.g xs) (evsL (dens Γ.C xs))) σ H Q := by
    intro σ H Q ⟨ρ, fs0, F, q⟩
    have q : Run Γ.G W σ H ρ fs0 (i :: mutXs Γ.g xs) (fun s ρ' H' fs' => ∀ v, VP none Γ.G H fs0 (i :: mutXs Γ.g xs) H' fs' s v → Q v H') (if muOk ((getS ρ i).bind fun s => pget s fs) then (evsL (dens Γ.C xs) ρ).bind fun ss ρ => muR m i fs ss ρ else .bad) := q
    cases ok : muOk ((getS ρ i).bind fun s => pget s fs) with
    | false => rw [ok] at q; exact q.elim
    | true =>
      rw [ok, if_pos rfl] at q
      cases es : getS ρ i with
      | none => rw [es] at ok; exact ff ok
      | some s =>
        rw [es] at ok
        have ok : muOk (pget s fs) = true := ok
        cases et : pget s fs with
        | none => rw [et] at ok; exact ff ok
        | some t =>
          rw [et] at ok
          cases t <;> first | exact ff ok | skip
          rename_i l
          obtain ⟨v, ev, r⟩ := F.get es
          obtain ⟨w, g, p1, r1, y1, k1⟩ := path_upd c r et
          have r1' := r1
          rw [RepS] at r1
          obtain ⟨a, vs, rfl, qa, fa, _⟩ := r1
          refine ⟨v, .ref a, ev, p1, "list", muId m, muRd m, mf_mu h1, .inl (.inl ⟨rfl, vs, SqL.of qa⟩), ρ, fs0, F, ?_⟩
          refine (Run.bindO (M1 := mutXs Γ.g xs) q (fun i m => List.mem_cons_of_mem _ m)).imp fun ss ρ2 H2 fs2 F2 st2 q2 ys ra => ?_
          obtain ⟨f2, ra, tf, x1, x2⟩ := ra
          cases es2 : getS ρ2 i with
          | none => simp only [muR, es2] at q2; exact q2.elim
          | some s2 =>
            cases et2 : pget s2 fs with
            | none => simp only [muR, es2, et2] at q2; exact q2.elim
            | some t2 =>
              cases em : mu m t2 ss with
              | none => simp only [muR, es2, et2, em] at q2; exact q2.elim
              | some pr =>
                obtain ⟨t', rr⟩ := pr
                cases ep : pput s2 fs t' with
                | none => simp only [muR, es2, et2, em, ep] at q2; exact q2.elim
                | some s' =>
                  simp only [muR, es2, et2, em, ep] at q2
                  obtain ⟨v2, ev2, r2⟩ := F2.get es2
                  rw [ev] at ev2
                  have evv : v = v2 := by simpa using ev2
                  subst evv
                  obtain ⟨w2, g2, p2, r3, y2, k2⟩ := path_upd c r2 et2
                  have ew : w2 = .ref a := by
                    rcases h5 with h5 | h5
                    · subst h5
                      rw [show w2 = v from p2, show V.ref a = v from p1]
                    · refine pathV_uniq p2 (path_keep c st2.keep r et (fun b z ⟨j, jm, h⟩ => h5 (F.dis i j b z h ▸ jm)) p1)
                  subst ew
                  have dj : ∀ b, f2 b → ¬ g2 b := fun b h1 h2 => x1 i b h1 (y2 b h2)
                  refine mu_rule r3 ra dj (fun b z => F2.trk i b (y2 b z)) tf em fun H3 K rv g' fr kp hK rt rr' hg hfr hd tg' tfr => ?_
                  have hg' : ∀ b, g' b → g2 b ∨ ¬ fs2 i b := fun b z => (hg b z).imp id fun h h2 => x1 i b h h2
                  have rs' := k2 H3 K t' g' s' kp hK rt hg' ep
                  have hlt := getS_ne es2
                  have F3 := F2.upd hlt ev rs' kp (fun b z => y2 b (hK b z)) (fun b z => by
                    rcases z with z | z
                    · exact .inl z.1
                    · rcases hg b z with z | z
                      · exact .inl (y2 b z)
                      · exact .inr fun j h => x1 j b z h) (fun b z => by
                    rcases z with z | z
                    · exact fun h => F2.trk i b z.1 (kp.dom b h)
                    · exact tg' b z)
                  have st3 := st2.upd (t := some s') (g' := fun b => (fs2 i b ∧ ¬ g2 b) ∨ g' b) (M' := i :: mutXs Γ.g xs) (fun j m => List.mem_cons_of_mem _ m) List.mem_cons_self kp (fun b z => y2 b (hK b z)) (fun b z => by
                    rcases z with z | z
                    · exact .inl z.1
                    · rcases hg b z with z | z
                      · exact .inl (y2 b z)
                      · exact .inr ((x2 b z).imp (U.mono fun j m => List.mem_cons_of_mem _ m) id))
                  refine q2 H3 _ F3 st3 rv ⟨fr, rr', tfr, fun j b z h => ?_, fun b z => ?_⟩
                  · have h : (if j = i then (fun b => (fs2 i b ∧ ¬ g2 b) ∨ g' b) else fs2 j) b := h
                    by_cases hj : j = i
                    · subst hj
                      rw [if_pos rfl] at h
                      rcases h with h | h
                      · rcases hfr b z with y | y
                        · exact h.2 y
                        · exact x1 j b y h.1
                      · exact hd b h z
                    · rw [if_neg hj] at h
                      rcases hfr b z with y | y
                      · exact hj (F2.dis j i b h (y2 b y))
                      · exact x1 j b y h
                  · rcases hfr b z with y | y
                    · by_cases n : i ∈ mutXs Γ.g xs
                      · exact (st2.sub i b n (y2 b y)).imp (U.mono fun j m => List.mem_cons_of_mem _ m) id
                      · have y3 := y2 b y
                        rw [(st2.same i n).2] at y3
                        exact .inl ⟨i, List.mem_cons_self, y3⟩
                    · exact (x2 b y).imp (U.mono fun j m => List.mem_cons_of_mem _ m) id
  cases as with
  | cons a as => exact PE.imp (pe_mX (pe_path c _ rfl h2) (pa_ev c hxs h3) hb (chks_plain hxs h3) (by have := chks_len h3; omega) hl) main
  | nil =>
    refine PE.imp (pe_mX0 (pe_path c _ rfl h2) hb hl) fun σ H Q q => ?_
    obtain ⟨v, w, ev, p, T, id, r, mf, ty, q2⟩ := main σ H Q q
    have hx0 : xs = .nil := by
      cases xs with
      | nil => rfl
      | cons x xs => exact ff h3
    subst hx0
    obtain ⟨ρ, fs0, F, q3⟩ := q2
    exact ⟨v, w, ev, p, T, id, r, mf, ty, q3 H fs0 F .refl [] ⟨none', by rw [RepSs], fun _ z => z.elim, fun _ _ z => z.elim, fun _ z => z.elim⟩⟩
end Vm
/-! VmQ -/
namespace Vm
open PySem L2

variable {Γ : Gx} {Y : Cx} {sc : Scope} {W : WX} {e : Expr}
/-- the arguments of a call: values of their own at the places gs, lent slots -/
structure AOk (G : Pg) (H : Hp) (σ : L2.St) (fs : Nat → Fp) (as : List Arg) (vs : List V) (gs : Nat → Fp) : Prop where
  len : vs.length = as.length
  tmp : ∀ (j : Nat) s, as[j]? = some (Arg.t s) → ∃ v, vs[j]? = some v ∧ RepS G H s v (gs j)
  lnt : ∀ (j i : Nat), as[j]? = some (Arg.l i) → ∃ v, vs[j]? = some v ∧ σ[i]? = some (some v)
  dj : ∀ j k a, gs j a → gs k a → j = k
  nob : ∀ j i a, gs j a → ¬ fs i a
  trk : ∀ j a, gs j a → H a ≠ none
  emp : ∀ (j : Nat) a, gs j a → ∃ s, as[j]? = some (Arg.t s)
theorem argS_len {ρ : Fr} : ∀ {as : List Arg} {ss : List S}, argS ρ as = some ss → ss.length = as.length
  | [], ss, e => by cases e; rfl
  | a :: as, ss, e => by
    unfold argS at e
    split at e
    · rename_i s l h1 h2
      cases e
      rw [List.length_cons, List.length_cons, argS_len h2]
    · cases e
theorem argS_get {ρ : Fr} : ∀ {as : List Arg} {ss : List S} {j : Nat} {s : S}, argS ρ as = some ss → ss[j]? = some s → as[j]? = some (Arg.t s) ∨ ∃ i, as[j]? = some (Arg.l i) ∧ getS ρ i = some s
  | [], ss, j, s, e, h => by cases e; simp at h
  | a :: as, ss, j, s, e, h => by
    unfold argS at e
    split at e
    · rename_i s0 l h1 h2
      cases e
      cases j with
      | zero =>
        simp at h; subst h
        cases a with
        | t s1 => cases h1; exact .inl rfl
        | l i => exact .inr ⟨i, rfl, h1⟩
      | succ j => simpa using argS_get h2 (by simpa using h)
    · cases e
theorem lends_get : ∀ {as : List Arg} {j i : Nat}, as[j]? = some (Arg.l i) → i ∈ lends as
  | [], j, i, e => by simp at e
  | a :: as, 0, i, e => by
    simp at e; subst e
    exact List.mem_cons_self
  | a :: as, j + 1, i, e => by
    have := lends_get (as := as) (j := j) (i := i) (by simpa using e)
    cases a with
    | t s => exact this
    | l k => exact List.mem_cons_of_mem _ this
theorem distinct_get : ∀ {as : List Arg} {j k i : Nat}, distinct (lends as) = true → as[j]? = some (Arg.l i) → as[k]? = some (Arg.l i) → j = k
  | [], j, k, i, d, e, h => by simp at e
  | a :: as, j, k, i, d, e, h => by
    have d' : distinct (lends as) = true := by
      cases a with
      | t s => exact d
      | l n =>
        have d : (!(lends as).contains n && distinct (lends as)) = true := d
        rw [Bool.and_eq_true] at d; exact d.2
    have hd : ∀ n, a = .l n → n ∉ lends as := fun n z m => by
      subst z
      have d : (!(lends as).contains n && distinct (lends as)) = true := d
      rw [Bool.and_eq_true] at d
      have := d.1
      simp [List.contains_iff_mem, m] at this
    cases j with
    | zero =>
      cases k with
      | zero => rfl
      | succ k =>
        simp at e; subst e
        exact absurd (lends_get (by simpa using h)) (hd i rfl)
    | succ j =>
      cases k with
      | zero =>
        simp at h; subst h
        exact absurd (lends_get (by simpa using e)) (hd i rfl)
      | succ k => rw [distinct_get (j := j) (k := k) d' (by simpa using e) (by simpa using h)]
/-- what is put back: a lent slot holds what the parameter held -/
theorem putBack_spec {as : List Arg} (hd : distinct (lends as) = true) : ∀ {mt : List Nat} {fin : List S} {ρ ρC : Fr}, ρC.length = as.length → (∀ (j i : Nat), as[j]? = some (Arg.l i) → ρ[i]? = ρC[j]?) →
    (∀ (j i : Nat), as[j]? = some (Arg.l i) → (putBack as mt fin ρ)[i]? = ((mt.zip fin).foldl (fun ρ p => ρ.set p.1 (some p.2)) ρC)[j]?) ∧ (∀ (i : Nat), (∀ (j : Nat), as[j]? ≠ some (Arg.l i)) → (putBack as mt fin ρ)[i]? = ρ[i]?) ∧ (putBack as mt fin ρ).length = ρ.length
  | [], fin, ρ, ρC, hl, P => by
    refine ⟨fun j i e => ?_, fun i n => ?_, ?_⟩
    · simp only [putBack, List.zip_nil_left, List.foldl_nil]; exact P j i e
    · simp only [putBack]
    · simp only [putBack]
  | j0 :: mt, [], ρ, ρC, hl, P => by
    refine ⟨fun j i e => ?_, fun i n => ?_, ?_⟩
    · simp only [putBack, List.zip_nil_right, List.foldl_nil]; exact P j i e
    · simp only [putBack]
    · simp only [putBack]
  | j0 :: mt, s :: fin, ρ, ρC, hl, P => by
    simp only [List.zip_cons_cons, List.foldl_cons]
    have hl' : (ρC.set j0 (some s)).length = as.length := by rw [List.length_set]; exact hl
    have nl : (∀ (i : Nat), as[j0]? ≠ some (Arg.l i)) → putBack as (j0 :: mt) (s :: fin) ρ = putBack as mt fin ρ ∧ ∀ (j i : Nat), as[j]? = some (Arg.l i) → ρ[i]? = (ρC.set j0 (some s))[j]? := fun n => by
      refine ⟨?_, fun j i e => ?_⟩
      · simp only [putBack]
        first
          | done
          | (split
             · rename_i i h; exact absurd h (n i)
             · rfl)
      · have : j0 ≠ j := fun z => n i (by rw [z]; exact e)
        rw [List.getElem?_set_ne this]; exact P j i e
    cases h0 : as[j0]? with
    | none =>
      obtain ⟨e1, P'⟩ := nl (fun i => by rw [h0]; exact fun z => by cases z)
      rw [e1]
      exact putBack_spec hd hl' P'
    | some a =>
      cases a with
      | t u =>
        obtain ⟨e1, P'⟩ := nl (fun i => by rw [h0]; exact fun z => by cases z)
        rw [e1]
        exact putBack_spec hd hl' P'
      | l i0 =>
        have e1 : putBack as (j0 :: mt) (s :: fin) ρ = putBack as mt fin (ρ.set i0 (some s)) := by simp only [putBack, h0]
        have hj0 : j0 < ρC.length := by rw [hl]; exact (List.getElem?_eq_some_iff.mp h0).1
        have hi0 : i0 < ρ.length := by
          have := P j0 i0 h0
          rw [List.getElem?_eq_getElem hj0] at this
          exact (List.getElem?_eq_some_iff.mp this).1
        have P' : ∀ (j i : Nat), as[j]? = some (Arg.l i) → (ρ.set i0 (some s))[i]? = (ρC.set j0 (some s))[j]? := fun j i e => by
          by_cases hj : j0 = j
          · subst hj
            rw [h0] at e; cases e
            rw [List.getElem?_set_self hi0, List.getElem?_set_self hj0]
          · have hi : i0 ≠ i := fun z => hj (distinct_get hd h0 (by rw [z]; exact e))
            rw [List.getElem?_set_ne hi, List.getElem?_set_ne hj]; exact P j i e
        rw [e1]
        obtain ⟨a1, a2, a3⟩ := putBack_spec hd (mt := mt) (fin := fin) hl' P'
        refine ⟨a1, fun i n => ?_, by rw [a3, List.length_set]⟩
        rw [a2 i n]
        have hi : i0 ≠ i := fun z => n j0 (by rw [h0, z])
        exact List.getElem?_set_ne hi
def callR (as : List Arg) (mt : List Nat) (ρ : Fr) : Out → R S
  | .bad => .bad
  | .ok r fin => .ok r (putBack as mt fin ρ)
  | .ex e fin => .ex e (putBack as mt fin ρ)
theorem VP.z {r : Option Nat} {G : Pg} {H0 : Hp} {fs0 : Nat → Fp} {M : List Nat} {H : Hp} {fs : Nat → Fp} {s : S} {v : V} : VP r G.z H0 fs0 M H fs s v ↔ VP r G H0 fs0 M H fs s v :=
  ⟨fun ⟨f, h, x⟩ => ⟨f, (RepS.z s v).mpr h, x⟩, fun ⟨f, h, x⟩ => ⟨f, (RepS.z s v).mp h, x⟩⟩
/-- where the callee's slots are, seen by the caller -/
def fsC (as : List Arg) (fs gs : Nat → Fp) : Nat → Fp := fun j a => gs j a ∨ ∃ i, as[j]? = some (Arg.l i) ∧ fs i a
def fs2 (as : List Arg) (fs fs' : Nat → Fp) : Nat → Fp := fun i a => (∃ (j : Nat), as[j]? = some (Arg.l i) ∧ fs' j a) ∨ ((∀ (j : Nat), as[j]? ≠ some (Arg.l i)) ∧ fs i a)
section
variable {G : Pg} {H0 H1 : Hp} {σ : L2.St} {ρ0 ρ1 : Fr} {fs0 fs1 : Nat → Fp} {M : List Nat} {as : List Arg} {vs : List V} {gs : Nat → Fp} {ss : List S} {mt : List Nat}
theorem callee_fr (F1 : FR G H1 σ ρ1 fs1) (A : AOk G H1 σ fs1 as vs gs) (hs : argS ρ1 as = some ss) (hd : distinct (lends as) = true) : FR G.z H1 (vs.map some) (ss.map some) (fsC as fs1 gs) := by
  have hl := argS_len hs
  refine ⟨by rw [List.length_map, List.length_map, hl, A.len], fun j s e => ?_, fun j k a h1 h2 => ?_, fun j a h => ?_⟩
  · rw [List.getElem?_map] at e
    have e : ss[j]? = some s := by
      cases z : ss[j]? with
      | none => rw [z] at e; cases e
      | some t => rw [z] at e; cases e; rfl
    rcases argS_get hs e with h | ⟨i, h, hg⟩
    · obtain ⟨v, ev, r⟩ := A.tmp j s h
      exact ⟨v, by rw [List.getElem?_map, ev]; rfl, .inl ((RepS.z s v).mp (RepS.mono _ _ r fun b z => .inl z))⟩
    · obtain ⟨v, ev, es⟩ := A.lnt j i h
      obtain ⟨v', ev', r⟩ := F1.get hg
      rw [es] at ev'
      have : v = v' := by simpa using ev'
      subst this
      exact ⟨v, by rw [List.getElem?_map, ev]; rfl, .inl ((RepS.z s v).mp (RepS.mono _ _ r fun b z => .inr ⟨i, h, z⟩))⟩
  · rcases h1 with h1 | ⟨i, h1, h3⟩ <;> rcases h2 with h2 | ⟨i', h2, h4⟩
    · exact A.dj j k a h1 h2
    · exact absurd h4 (A.nob j i' a h1)
    · exact absurd h3 (A.nob k i a h2)
    · have := F1.dis i i' a h3 h4
      subst this
      exact distinct_get hd h1 h2
  · rcases h with h | ⟨i, _, h⟩
    · exact A.trk j a h
    · exact F1.trk i a h
theorem call_nU (F1 : FR G H1 σ ρ1 fs1) (A : AOk G H1 σ fs1 as vs gs) {i : Nat} {a : Addr} (n : ∀ (j : Nat), as[j]? ≠ some (Arg.l i)) (h : fs1 i a) : ¬ U (fsC as fs1 gs) mt a := fun ⟨j, jm, z⟩ => by
  rcases z with z | ⟨i', e, z⟩
  · exact A.nob j i a z h
  · exact n j (by rw [F1.dis i i' a h z]; exact e)
theorem call_upU (st1 : Step H0 ρ0 fs0 M H1 ρ1 fs1) (bd : ∀ j a, gs j a → U fs0 M a ∨ H0 a = none) (hm : ∀ (j i : Nat), j ∈ mt → as[j]? = some (Arg.l i) → i ∈ M) {a : Addr} (h : U (fsC as fs1 gs) mt a) : U fs0 M a ∨ H0 a = none := by
  obtain ⟨j, jm, z⟩ := h
  rcases z with z | ⟨i, e, z⟩
  · exact bd j a z
  · exact st1.sub i a (hm j i jm e) z
theorem caller_fr (F1 : FR G H1 σ ρ1 fs1) (st1 : Step H0 ρ0 fs0 M H1 ρ1 fs1) (A : AOk G H1 σ fs1 as vs gs) (bd : ∀ j a, gs j a → U fs0 M a ∨ H0 a = none) (hs : argS ρ1 as = some ss) (hd : distinct (lends as) = true) (hm : ∀ (j i : Nat), j ∈ mt → as[j]? = some (Arg.l i) → i ∈ M)
    {fin : List S} {H' : Hp} {fs' : Nat → Fp} (F' : FR G.z H' (vs.map some) ((mt.zip fin).foldl (fun ρ p => ρ.set p.1 (some p.2)) (ss.map some)) fs') (st' : Step H1 (ss.map some) (fsC as fs1 gs) mt H' ((mt.zip fin).foldl (fun ρ p => ρ.set p.1 (some p.2)) (ss.map some)) fs') :
    FR G H' σ (putBack as mt fin ρ1) (fs2 as fs1 fs') ∧ Step H0 ρ0 fs0 M H' (putBack as mt fin ρ1) (fs2 as fs1 fs') := by
  have hl := argS_len hs
  have P0 : ∀ (j i : Nat), as[j]? = some (Arg.l i) → ρ1[i]? = (ss.map some)[j]? := fun j i e => by
    have hj : j < ss.length := by rw [hl]; exact (List.getElem?_eq_some_iff.mp e).1
    rcases argS_get hs (List.getElem?_eq_getElem hj) with h | ⟨i', h, hg⟩
    · rw [e] at h; cases h
    · rw [e] at h; cases h
      rw [getS_ne hg, List.getElem?_map, List.getElem?_eq_getElem hj]; rfl
  obtain ⟨p1, p2, p3⟩ := putBack_spec hd (mt := mt) (fin := fin) (by rw [List.length_map, hl]) P0
  have nlj : ∀ (i : Nat), (∀ (j : Nat), as[j]? ≠ some (Arg.l i)) ∨ ∃ (j : Nat), as[j]? = some (Arg.l i) := fun i => by
    by_cases h : ∃ (j : Nat), as[j]? = some (Arg.l i)
    · exact .inr h
    · exact .inl fun j z => h ⟨j, z⟩
  have nU : ∀ i a, (∀ (j : Nat), as[j]? ≠ some (Arg.l i)) → fs1 i a → ¬ U (fsC as fs1 gs) mt a := fun i a n h => call_nU F1 A n h
  have upU : ∀ a, U (fsC as fs1 gs) mt a → U fs0 M a ∨ H0 a = none := fun a h => call_upU st1 bd hm h
  refine ⟨⟨by rw [p3]; exact F1.len, fun i s e => ?_, fun i k a h1 h2 => ?_, fun i a h => ?_⟩, ⟨⟨fun b w e p => ?_, fun b e => st1.keep.dom b (st'.keep.dom b e)⟩, fun i n => ?_, fun i b m h => ?_⟩⟩
  · rcases nlj i with n | ⟨j, ej⟩
    · rw [p2 i n] at e
      obtain ⟨v, ev, r⟩ := F1.rep i s e
      refine ⟨v, ev, r.imp (fun r => RepS.mono _ _ (RepS.keep st'.keep _ _ r fun a h => nU i a n h) fun a h => .inr ⟨n, h⟩) (ExnAt.keep st'.keep)⟩
    · rw [p1 j i ej] at e
      obtain ⟨v, ev, r⟩ := F'.rep j s e
      obtain ⟨v', ev', es⟩ := A.lnt j i ej
      rw [List.getElem?_map, ev'] at ev
      have : v' = v := by simpa using ev
      subst this
      refine ⟨v', es, .inl ?_⟩
      rcases r with r | ⟨a, dd, ws, c, f, d, hc, _⟩
      · exact RepS.mono _ _ ((RepS.z s v').mpr r) fun a h => .inl ⟨j, ej, h⟩
      · cases hc
  · rcases h1 with ⟨j, e1, h1⟩ | ⟨n1, h1⟩ <;> rcases h2 with ⟨j', e2, h2⟩ | ⟨n2, h2⟩
    · have := F'.dis j j' a h1 h2
      subst this
      rw [e1] at e2; cases e2; rfl
    · exfalso
      by_cases m : j ∈ mt
      · rcases st'.sub j a m h1 with z | z
        · exact nU k a n2 h2 z
        · exact F1.trk k a h2 z
      · rw [(st'.same j m).2] at h1
        rcases h1 with z | ⟨i', e, z⟩
        · exact A.nob j k a z h2
        · exact n2 j (by rw [F1.dis k i' a h2 z]; exact e)
    · exfalso
      by_cases m : j' ∈ mt
      · rcases st'.sub j' a m h2 with z | z
        · exact nU i a n1 h1 z
        · exact F1.trk i a h1 z
      · rw [(st'.same j' m).2] at h2
        rcases h2 with z | ⟨i', e, z⟩
        · exact A.nob j' i a z h1
        · exact n1 j' (by rw [F1.dis i i' a h1 z]; exact e)
    · exact F1.dis i k a h1 h2
  · rcases h with ⟨j, _, h⟩ | ⟨_, h⟩
    · exact F'.trk j a h
    · exact fun z => F1.trk i a h (st'.keep.dom a z)
  · have e1 := st1.keep.at' b w e p
    refine st'.keep.at' b w e1 (p.imp id fun h z => ?_)
    rcases upU b z with y | y
    · exact h y
    · rw [e] at y; cases y
  · obtain ⟨s1, s2⟩ := st1.same i n
    rcases nlj i with nl | ⟨j, ej⟩
    · refine ⟨by rw [p2 i nl]; exact s1, ?_⟩
      rw [← s2]
      funext a
      exact propext ⟨fun h => h.elim (fun ⟨j, e, _⟩ => absurd e (nl j)) fun h => h.2, fun h => .inr ⟨nl, h⟩⟩
    · have mj : j ∉ mt := fun z => n (hm j i z ej)
      obtain ⟨t1, t2⟩ := st'.same j mj
      refine ⟨by rw [p1 j i ej, t1, ← P0 j i ej]; exact s1, ?_⟩
      rw [← s2]
      funext a
      refine propext ⟨fun h => ?_, fun h => .inl ⟨j, ej, by rw [t2]; exact .inr ⟨i, ej, h⟩⟩⟩
      rcases h with ⟨j', e, h⟩ | ⟨nl, _⟩
      · have := distinct_get hd ej e
        subst this
        rw [t2] at h
        rcases h with z | ⟨i', e', z⟩
        · obtain ⟨u, eu⟩ := A.emp j a z
          rw [ej] at eu; cases eu
        · rw [ej] at e'; cases e'; exact z
      · exact absurd ej (nl j)
  · have up1 : ∀ i, fs1 i b → i ∈ M → U fs0 M b ∨ H0 b = none := fun i h m => st1.sub i b m h
    rcases h with ⟨j, ej, h⟩ | ⟨_, h⟩
    · by_cases mj : j ∈ mt
      · rcases st'.sub j b mj h with z | z
        · exact upU b z
        · exact .inr (st1.keep.dom b z)
      · rw [(st'.same j mj).2] at h
        rcases h with z | ⟨i', e', z⟩
        · exact bd j b z
        · rw [ej] at e'; cases e'; exact up1 i z m
    · exact up1 i h m
end
theorem call_core {G : Pg} {H0 H1 : Hp} {σ : L2.St} {ρ0 ρ1 : Fr} {fs0 fs1 : Nat → Fp} {M : List Nat} {as : List Arg} {vs : List V} {gs : Nat → Fp} {ss : List S} {mt : List Nat} {cf : List S → Out} {Q : VK}
    (F1 : FR G H1 σ ρ1 fs1) (st1 : Step H0 ρ0 fs0 M H1 ρ1 fs1) (A : AOk G H1 σ fs1 as vs gs) (bd : ∀ j a, gs j a → U fs0 M a ∨ H0 a = none) (hs : argS ρ1 as = some ss) (hd : distinct (lends as) = true) (hm : ∀ j i, j ∈ mt → as[j]? = some (Arg.l i) → i ∈ M)
    (q : Run G W σ H0 ρ0 fs0 M (fun s ρ' H' fs' => ∀ v, VP none G H0 fs0 M H' fs' s v → Q v H') (callR as mt ρ1 (cf ss))) : spF G mt cf vs H1 Q (WE W σ) := by
  have FC := callee_fr F1 A hs hd
  have core : ∀ {fin : List S} {H' : Hp} {fs' : Nat → Fp}, FR G.z H' (vs.map some) ((mt.zip fin).foldl (fun ρ p => ρ.set p.1 (some p.2)) (ss.map some)) fs' → Step H1 (ss.map some) (fsC as fs1 gs) mt H' ((mt.zip fin).foldl (fun ρ p => ρ.set p.1 (some p.2)) (ss.map some)) fs' →
      FR G H' σ (putBack as mt fin ρ1) (fs2 as fs1 fs') ∧ Step H0 ρ0 fs0 M H' (putBack as mt fin ρ1) (fs2 as fs1 fs') := fun F' st' => caller_fr F1 st1 A bd hs hd hm F' st'
  refine ⟨ss, fsC as fs1 gs, FC, ?_⟩
  cases hc : cf ss with
  | bad => rw [hc] at q; exact q.elim
  | ok r fin =>
    rw [hc] at q
    intro H' fs' F' st' v vp
    obtain ⟨F2, st2⟩ := core F' st'
    refine q H' _ F2 st2 v ?_
    obtain ⟨f, hr, tr, x1, x2⟩ := vp
    have x2' : ∀ a, f a → U fs0 M a ∨ H0 a = none := fun a h => by
      rcases x2 a h with ⟨j, jm, z⟩ | z
      · rcases z with z | ⟨i, e, z⟩
        · exact bd j a z
        · exact st1.sub i a (hm j i jm e) z
      · exact .inr (st1.keep.dom a z)
    refine ⟨f, (RepS.z r v).mpr hr, tr, fun i a h z => ?_, x2'⟩
    rcases z with ⟨j, _, z⟩ | ⟨n, z⟩
    · exact x1 j a h z
    · rcases x2 a h with ⟨j, jm, y⟩ | y
      · rcases y with y | ⟨i', e, y⟩
        · exact A.nob j i a y z
        · exact n j (by rw [F1.dis i i' a z y]; exact e)
      · exact F1.trk i a z y
  | ex x fin =>
    rw [hc] at q
    intro cls d H' fs' F' st' ep
    obtain ⟨F2, st2⟩ := core F' st'
    exact q cls d H' _ F2 st2 ep
end Vm
/-! VmR -/
namespace Vm
open PySem L2

variable {Γ : Gx} {Y : Cx} {sc : Scope} {W : WX} {e : Expr}
def A1 (G : Pg) (H : Hp) (σ : L2.St) (fs : Nat → Fp) : Arg → V → Fp → Prop
  | .t s, v, g => RepS G H s v g ∧ (∀ i a, g a → ¬ fs i a) ∧ ∀ a, g a → H a ≠ none
  | .l i, v, g => σ[i]? = some (some v) ∧ ∀ a, ¬ g a
def tA (G : Pg) (W : WX) (M : List Nat) (p : Fr → R Arg) : TE := fun σ H Q => ∃ ρ fs, FR G H σ ρ fs ∧
  Run G W σ H ρ fs M (fun a ρ' H' fs' => ∀ v g, A1 G H' σ fs' a v g → (∀ b, g b → U fs M b ∨ H b = none) → Q v H') (p ρ)
theorem toArg_eq {x : X} (h : ∀ i, x ≠ .nm i) (r : R S) : toArg x r = (plain x.isPath r).bind fun s ρ => .ok (.t s) ρ := by
  cases r with
  | bad => cases hp : x.isPath <;> simp [toArg, plain]
  | ex e ρ => cases hp : x.isPath <;> simp [toArg, plain]
  | ok s ρ =>
    cases x <;> first
      | exact absurd rfl (h _)
      | rfl
      | (cases s <;> rfl)
theorem pe_arg {x : X} (h : XOk Γ x) (c : Cok Γ.g Γ.G Γ.C Y sc W) (hc : chk Γ.g x sc e = true) : PE Y e (tA Γ.G W (mutX Γ.g x) (fun ρ => toArg x ((den Γ.C x).pk ρ))) := by
  by_cases hn : ∃ i, x = .nm i
  · obtain ⟨i, rfl⟩ := hn
    refine PE.imp (c.pv (Γ := Γ) hc) fun σ H Q ⟨ρ, fs, F, q⟩ => ?_
    have q : Run Γ.G W σ H ρ fs [] (fun a ρ' H' fs' => ∀ v g, A1 Γ.G H' σ fs' a v g → (∀ b, g b → U fs [] b ∨ H b = none) → Q v H') (toArg (.nm i) (R.of ρ (getS ρ i))) := q
    cases es : getS ρ i with
    | none => rw [es] at q; exact q.elim
    | some s =>
      rw [es] at q
      obtain ⟨v, ev, r⟩ := F.get es
      refine ⟨v, ev, ?_⟩
      cases s with
      | v d => exact q H fs F .refl v none' ⟨by rw [RepS] at r ⊢; exact r, fun _ _ z => z.elim, fun _ z => z.elim⟩ fun _ z => z.elim
      | _ => exact q H fs F .refl v none' ⟨ev, fun _ z => z⟩ fun _ z => z.elim
  · have hn : ∀ i, x ≠ .nm i := fun i z => hn ⟨i, z⟩
    refine PE.imp (xd_ev h c hc) fun σ H Q ⟨ρ, fs, F, q⟩ => ⟨ρ, fs, F, ?_⟩
    have q : Run Γ.G W σ H ρ fs (mutX Γ.g x) (fun a ρ' H' fs' => ∀ v g, A1 Γ.G H' σ fs' a v g → (∀ b, g b → U fs (mutX Γ.g x) b ∨ H b = none) → Q v H') (toArg x ((den Γ.C x).pk ρ)) := q
    rw [toArg_eq hn] at q
    refine (Run.bind (M1 := mutX Γ.g x) (M2 := []) q (fun i m => m) (fun i m => by cases m)).imp fun s ρ1 H1 fs1 F1 st1 q1 v vp => ?_
    obtain ⟨f, hr, tr, x1, x2⟩ := vp
    exact q1 H1 fs1 F1 .refl v f ⟨hr, fun i a z => x1 i a z, tr⟩ x2

def tAs (G : Pg) (W : WX) (M : List Nat) (p : Fr → R (List Arg)) : TA := fun σ H Q => ∃ ρ fs, FR G H σ ρ fs ∧
  Run G W σ H ρ fs M (fun as ρ' H' fs' => ∀ vs gs, AOk G H' σ fs' as vs gs → (∀ j a, gs j a → U fs M a ∨ H a = none) → Q vs H') (p ρ)
theorem aok_nil {G : Pg} {H : Hp} {σ : L2.St} {fs : Nat → Fp} : AOk G H σ fs [] [] (fun _ => none') :=
  ⟨rfl, fun j s h => by simp at h, fun j i h => by simp at h, fun _ _ _ z => z.elim, fun _ _ _ z => z.elim, fun _ _ z => z.elim, fun _ _ z => z.elim⟩
def cons1 (g : Fp) (gs : Nat → Fp) : Nat → Fp
  | 0 => g
  | j + 1 => gs j
theorem aok_cons {G : Pg} {H : Hp} {σ : L2.St} {fs : Nat → Fp} {a : Arg} {as : List Arg} {v : V} {vs : List V} {g : Fp} {gs : Nat → Fp} (h : A1 G H σ fs a v g) (A : AOk G H σ fs as vs gs) (d : ∀ j b, g b → ¬ gs j b) :
    AOk G H σ fs (a :: as) (v :: vs) (cons1 g gs) := by
  refine ⟨by rw [List.length_cons, List.length_cons, A.len], fun j s e => ?_, fun j i e => ?_, fun j k b h1 h2 => ?_, fun j i b h1 => ?_, fun j b h1 => ?_, fun j b h1 => ?_⟩
  · cases j with
    | zero => simp at e; subst e; exact ⟨v, rfl, h.1⟩
    | succ j => simpa [cons1] using A.tmp j s (by simpa using e)
  · cases j with
    | zero => simp at e; subst e; exact ⟨v, rfl, h.1⟩
    | succ j => simpa using A.lnt j i (by simpa using e)
  · cases j with
    | zero =>
      cases k with
      | zero => rfl
      | succ k => exact absurd h2 (d k b h1)
    | succ j =>
      cases k with
      | zero => exact absurd h1 (d j b h2)
      | succ k => rw [A.dj j k b h1 h2]
  · cases j with
    | zero =>
      cases a with
      | t s => exact h.2.1 i b h1
      | l k => exact absurd h1 (h.2 b)
    | succ j => exact A.nob j i b h1
  · cases j with
    | zero =>
      cases a with
      | t s => exact h.2.2 b h1
      | l k => exact absurd h1 (h.2 b)
    | succ j => exact A.trk j b h1
  · cases j with
    | zero =>
      cases a with
      | t s => exact ⟨s, rfl⟩
      | l k => exact absurd h1 (h.2 b)
    | succ j => simpa using A.emp j b h1
/-- carried over a step -/
theorem A1.carry {G : Pg} {H H' : Hp} {σ : L2.St} {ρ ρ' : Fr} {fs fs' : Nat → Fp} {M : List Nat} {a : Arg} {v : V} {g : Fp} (h : A1 G H σ fs a v g) (st : Step H ρ fs M H' ρ' fs') : A1 G H' σ fs' a v g := by
  cases a with
  | t s =>
    obtain ⟨r, n, tr⟩ := h
    have nU : ∀ b, g b → ¬ U fs M b := fun b z ⟨i, m, y⟩ => n i b z y
    refine ⟨RepS.keep st.keep _ _ r nU, fun i b z y => ?_, fun b z y => tr b z (st.keep.dom b y)⟩
    by_cases m : i ∈ M
    · rcases st.sub i b m y with w | w
      · exact nU b z w
      · exact tr b z w
    · rw [(st.same i m).2] at y; exact n i b z y
  | l i => exact h
theorem args_cons {x : X} {xs : Xs} {σ : L2.St} {H : Hp} {Q : List V → Hp → Prop} (h : tAs Γ.G W (mutXs Γ.g (.cons x xs)) (argsL (dens Γ.C (.cons x xs))) σ H Q) :
    tCons (tA Γ.G W (mutX Γ.g x) (fun ρ => toArg x ((den Γ.C x).pk ρ))) (tAs Γ.G W (mutXs Γ.g xs) (argsL (dens Γ.C xs))) σ H Q := by
  obtain ⟨ρ, fs, F, q⟩ := h
  refine ⟨ρ, fs, F, ?_⟩
  have q : Run Γ.G W σ H ρ fs (mutX Γ.g x ++ mutXs Γ.g xs) (fun as ρ' H' fs' => ∀ vs gs, AOk Γ.G H' σ fs' as vs gs → (∀ j a, gs j a → U fs (mutX Γ.g x ++ mutXs Γ.g xs) a ∨ H a = none) → Q vs H') ((toArg x ((den Γ.C x).pk ρ)).bind fun a ρ => (argsL (dens Γ.C xs) ρ).bind fun as ρ => .ok (a :: as) ρ) := q
  refine (Run.bind (M1 := mutX Γ.g x) (M2 := mutXs Γ.g xs) q (fun i m => List.mem_append_left _ m) (fun i m => List.mem_append_right _ m)).imp fun a ρ1 H1 fs1 F1 st1 q1 v g hg bd => ⟨ρ1, fs1, F1, ?_⟩
  refine (Run.bind (M1 := mutXs Γ.g xs) (M2 := []) q1 (fun i m => m) (fun i m => by cases m)).imp fun as ρ2 H2 fs2 F2 st2 q2 vs gs A bd2 => ?_
  have d : ∀ j b, g b → ¬ gs j b := fun j b z y => by
    cases a with
    | t s =>
      rcases bd2 j b y with ⟨i, m, w⟩ | w
      · exact hg.2.1 i b z w
      · exact hg.2.2 b z w
    | l i => exact hg.2 b z
  refine q2 H2 fs2 F2 .refl _ _ (aok_cons (hg.carry st2) A d) fun j b z => ?_
  cases j with
  | zero => exact (bd b z).imp (U.mono fun i m => List.mem_append_left _ m) id
  | succ j =>
    rcases bd2 j b z with ⟨i, m, w⟩ | w
    · by_cases n : i ∈ mutX Γ.g x
      · exact (st1.sub i b n w).imp (U.mono fun i m => List.mem_append_left _ m) id
      · rw [(st1.same i n).2] at w
        exact .inl ⟨i, List.mem_append_right _ m, w⟩
    · exact .inr (st1.keep.dom b w)
theorem args_nil {σ : L2.St} {H : Hp} {Q : List V → Hp → Prop} (h : tAs Γ.G W (mutXs Γ.g .nil) (argsL (dens Γ.C .nil)) σ H Q) : tNil σ H Q := by
  obtain ⟨ρ, fs, F, q⟩ := h
  exact q H fs F .refl [] (fun _ => none') aok_nil fun _ _ z => z.elim
theorem pa_args (c : Cok Γ.g Γ.G Γ.C Y sc W) : ∀ {xs : Xs} {es : List Expr}, XsOk Γ xs → chks Γ.g xs sc es = true → PA Y es (tAs Γ.G W (mutXs Γ.g xs) (argsL (dens Γ.C xs)))
  | .nil, es, h, hc => by
    rw [chks_nil hc]
    exact PA.imp pa_nil fun σ H Q q => args_nil q
  | .cons x xs, es, h, hc => by
    obtain ⟨e, es, rfl, h1, h2⟩ := chks_cons hc
    exact PA.imp (pa_cons (pe_arg h.hd c h1) (pa_args c h.tl h2) ((plain_of (h.hd.pl h1)).star _ _)) fun σ H Q q => args_cons q
theorem PK.imp {kws : List Keyword} {t t' : TA} (h : PK Y kws t) (i : ∀ σ H Q, t' σ H Q → t σ H Q) : PK Y kws t' := ⟨fun pos pins s σ H Q I q => h.run pos pins s σ H Q I (i σ H Q q)⟩
theorem pk_args (c : Cok Γ.g Γ.G Γ.C Y sc W) : ∀ {xs : Xs} {kws : List Keyword}, XsOk Γ xs → chks Γ.g xs sc (kwExprs kws) = true → PK Y kws (tAs Γ.G W (mutXs Γ.g xs) (argsL (dens Γ.C xs)))
  | xs, [], h, hc => by
    cases xs with
    | cons x xs => exact ff hc
    | nil => exact PK.imp pk_nil fun σ H Q q => args_nil q
  | xs, ⟨nm, e, kp⟩ :: kws, h, hc => by
    cases xs with
    | nil => exact ff hc
    | cons x xs =>
      obtain ⟨e', es, ee, h1, h2⟩ := chks_cons hc
      have ee : e :: kwExprs kws = e' :: es := ee
      injection ee with e1 e2
      subst e1 e2
      exact PK.imp (pk_cons (pe_arg h.hd c h1) (pk_args c h.tl h2)) fun σ H Q q => args_cons q
theorem toArg_l {x : X} {r : R S} {i : Nat} {ρ : Fr} (h : toArg x r = .ok (.l i) ρ) : x = .nm i := by
  by_cases hn : ∃ k, x = .nm k
  · obtain ⟨k, rfl⟩ := hn
    cases r with
    | bad => cases h
    | ex e ρ' => cases h
    | ok s ρ' => cases s <;> first | (cases h; done) | (cases h; rfl)
  · rw [toArg_eq fun k z => hn ⟨k, z⟩] at h
    obtain ⟨a, ρ1, e1, e2⟩ := R.bind_eq_ok h
    cases e2
theorem argsL_spec {C : Cal} : ∀ {xs : Xs} {ρ ρ' : Fr} {as : List Arg}, argsL (dens C xs) ρ = .ok as ρ' → as.length = xs.len ∧ ∀ (j i : Nat), as[j]? = some (Arg.l i) → xs.l[j]? = some (.nm i)
  | .nil, ρ, ρ', as, e => by cases e; exact ⟨rfl, fun j i h => by simp at h⟩
  | .cons x xs, ρ, ρ', as, e => by
    obtain ⟨a, ρ1, e1, e2⟩ := R.bind_eq_ok (r := toArg x ((den C x).pk ρ)) (k := fun a ρ => (argsL (dens C xs) ρ).bind fun as ρ => .ok (a :: as) ρ) e
    obtain ⟨as', ρ2, e3, e4⟩ := R.bind_eq_ok e2
    cases e4
    obtain ⟨h1, h2⟩ := argsL_spec e3
    refine ⟨by rw [List.length_cons, h1]; rfl, fun j i h => ?_⟩
    cases j with
    | zero =>
      simp at h; subst h
      rw [toArg_l e1]; rfl
    | succ j => simpa [Xs.l] using h2 j i (by simpa using h)
theorem lentTo_mem {m : List Nat} : ∀ {l : List X} {k j i : Nat}, l[j]? = some (.nm i) → k + j ∈ m → i ∈ lentTo m l k
  | [], k, j, i, h, _ => by simp at h
  | x :: l, k, 0, i, h, hm => by
    simp at h; subst h
    refine List.mem_append_left _ ?_
    show i ∈ if m.contains k then [i] else []
    rw [if_pos (by rw [List.contains_iff_mem]; simpa using hm)]
    exact List.mem_singleton_self i
  | x :: l, k, j + 1, i, h, hm => List.mem_append_right _ (lentTo_mem (k := k + 1) (by simpa using h) (by rw [show k + 1 + j = k + (j + 1) by omega]; exact hm))

section
variable {x : Str} {a : Addr} {es : List Expr} {t : TA} {p pos : Pos} {P : L2.St → List V → Hp → VK → Prop}
theorem pe_callX {e : Expr} (hg : Gl Y x) (hm : Y.mg x = some (.ref a)) (hk : PySem.W.keepIn Y.K (.ref a) = true) (hd : (x == ("__debug__" : Str)) = false) (ha : PA Y (e :: es) t) (hp : ∀ e', e' ∈ e :: es → plainB e' = true)
    (run : ∀ {pins : List (Addr × Obj)} {σ : L2.St} {H : Hp} {s : Shared} {Q : VK} {us : List Value} {vs : List V}, Inv Y pins σ H s → Vals vs us → P σ vs H Q → wpAny (model Y.prog Y.w) Y.A (call (.ref a) us) (L2.EP Y pins σ Q) Y.xe s) :
    PE Y (.Call (.Name x p) (e :: es) [] pos) (fun σ H Q => t σ H fun vs H1 => P σ vs H1 Q) := by
  refine ⟨fun pins s σ H Q I h => ?_⟩
  refine wpAny_Call_Name_kw (ld_glob I hg hm ?_ hd)
  refine PySem.W.callWith_K (h₀ := Y.base) I.ok.mod.kin hk (thn (ha.run pos pins s σ H _ I h) fun us s1 ⟨vs, H1, I1, r, q⟩ => ⟨I1.kIn, ?_⟩) ((plain_of (hp e List.mem_cons_self)).star es Y.env) (plain_any (fun e m => hp e (List.mem_cons_of_mem _ m)) Y.env pos)
  exact run I1 r q
theorem pe_callX0 (hg : Gl Y x) (hm : Y.mg x = some (.ref a)) (hk : PySem.W.keepIn Y.K (.ref a) = true) (hd : (x == ("__debug__" : Str)) = false)
    (run : ∀ {pins : List (Addr × Obj)} {σ : L2.St} {H : Hp} {s : Shared} {Q : VK} {us : List Value} {vs : List V}, Inv Y pins σ H s → Vals vs us → P σ vs H Q → wpAny (model Y.prog Y.w) Y.A (call (.ref a) us) (L2.EP Y pins σ Q) Y.xe s) :
    PE Y (.Call (.Name x p) [] [] pos) (fun σ H Q => P σ [] H Q) := by
  refine ⟨fun pins s σ H Q I h => ?_⟩
  refine wpAny_Call_Name_kw (ld_glob I hg hm ?_ hd)
  exact PySem.W.callWith_K0 I.kIn hk (run (us := []) I .nil h)
/-- .. either way, from a reading that evaluates the arguments -/
theorem pe_callA {xs : Xs} (c : Cok Γ.g Γ.G Γ.C Y sc W) (hxs : XsOk Γ xs) (hc : chks Γ.g xs sc es = true) (hg : Gl Y x) (hm : Y.mg x = some (.ref a)) (hk : PySem.W.keepIn Y.K (.ref a) = true) (hd : (x == ("__debug__" : Str)) = false)
    (run : ∀ {pins : List (Addr × Obj)} {σ : L2.St} {H : Hp} {s : Shared} {Q : VK} {us : List Value} {vs : List V}, Inv Y pins σ H s → Vals vs us → P σ vs H Q → wpAny (model Y.prog Y.w) Y.A (call (.ref a) us) (L2.EP Y pins σ Q) Y.xe s) :
    PE Y (.Call (.Name x p) es [] pos) (fun σ H Q => tAs Γ.G W (mutXs Γ.g xs) (argsL (dens Γ.C xs)) σ H fun vs H1 => P σ vs H1 Q) := by
  cases es with
  | cons e es => exact pe_callX hg hm hk hd (pa_args c hxs hc) (chks_plain hxs hc) run
  | nil =>
    have hx0 : xs = .nil := by
      cases xs with
      | nil => rfl
      | cons x xs => exact ff hc
    subst hx0
    refine PE.imp (pe_callX0 hg hm hk hd run) fun σ H Q ⟨ρ, fs, F, q⟩ => ?_
    exact q H fs F .refl [] (fun _ => none') aok_nil fun _ _ z => z.elim
end
theorem doCall_eq {C : Cal} {f : Nat} {as : List Arg} {ρ : Fr} {G : Pg} {W : WX} {σ : L2.St} {H : Hp} {ρ0 : Fr} {fs : Nat → Fp} {M : List Nat} {K : S → Fr → Hp → (Nat → Fp) → Prop} (q : Run G W σ H ρ0 fs M K (doCall C f as ρ)) :
    ∃ ss, argS ρ as = some ss ∧ distinct (lends as) = true ∧ Run G W σ H ρ0 fs M K (callR as (C.mt f) ρ (C.cf f ss)) := by
  unfold doCall at q
  cases hs : argS ρ as with
  | none => rw [hs] at q; exact q.elim
  | some ss =>
    rw [hs] at q
    cases hd : distinct (lends as) with
    | false => simp only [hd] at q; exact q.elim
    | true =>
      simp only [hd, if_true] at q
      refine ⟨ss, rfl, rfl, ?_⟩
      cases ho : C.cf f ss <;> (rw [ho] at q; exact q)
/-- the arguments, then the call -/
theorem call_args {xs : Xs} (c : Cok Γ.g Γ.G Γ.C Y sc W) {f : Nat} {σ : L2.St} {H : Hp} {Q : VK} (hl : xs.len = (Γ.g.ps f).length)
    (h : tV Γ.G W none (mutXs Γ.g xs ++ lentTo (Γ.g.mt f) xs.l 0) (fun ρ => (argsL (dens Γ.C xs) ρ).bind fun as ρ => doCall Γ.C f as ρ) σ H Q) :
    tAs Γ.G W (mutXs Γ.g xs) (argsL (dens Γ.C xs)) σ H fun vs H1 => vs.length = (Γ.g.ps f).length ∧ spF Γ.G (Γ.C.mt f) (Γ.C.cf f) vs H1 Q (WE W σ) := by
  obtain ⟨ρ, fs, F, q⟩ := h
  refine ⟨ρ, fs, F, (Run.bindO (M1 := mutXs Γ.g xs) q (fun i m => List.mem_append_left _ m)).imp' fun as ρ1 H1 fs1 e1 F1 st1 q1 vs gs A bd => ?_⟩
  obtain ⟨h1, h2⟩ := argsL_spec e1
  obtain ⟨ss, hs, hd, q2⟩ := doCall_eq q1
  refine ⟨by rw [A.len, h1]; exact hl, call_core F1 (st1.mono fun i m => List.mem_append_left _ m) A (fun j a z => (bd j a z).imp (U.mono fun i m => List.mem_append_left _ m) id) hs hd (fun j i m e => List.mem_append_right _ (lentTo_mem (h2 j i e) (by rw [Nat.zero_add, ← c.mt]; exact m))) q2⟩
theorem xok_call {f : Nat} {xs : Xs} (hxs : XsOk Γ xs) : XOk Γ (.call f xs) := by
  have sh : ∀ {sc e}, chk Γ.g (.call f xs) sc e = true → ∃ nm p0 as p, e = .Call (.Name nm p0) as [] p ∧ Γ.g.nt.fns[f]? = some nm ∧ sc.names.lookup nm = some .globalImplicit ∧ nm ≠ "__debug__" ∧ chks Γ.g xs sc as = true ∧ xs.len = (Γ.g.ps f).length ∧ (Γ.g.hot = true → Γ.g.hl f = true) := fun {sc e} h => by
    unfold chk at h
    split at h
    · simp only [Bool.and_eq_true, decide_eq_true_eq] at h
      obtain ⟨⟨⟨h1, h2⟩, h3⟩, h6⟩ := h
      split at h1
      · rename_i nm hn
        obtain ⟨p0, rfl, h4, h5⟩ := glName_of h1
        exact ⟨nm, p0, _, _, rfl, hn, h4, h5, h2, h3, fun z => by rw [z] at h6; simpa using h6⟩
      · exact ff h1
    · exact ff h
  refine XOk.of (p := fun ρ => (argsL (dens Γ.C xs) ρ).bind fun as ρ => doCall Γ.C f as ρ) rfl (fun {Y sc W e} c hc => ?_) fun hc => by obtain ⟨_, _, _, _, rfl, _⟩ := sh hc; exact ⟨rfl, rfl⟩
  obtain ⟨nm, p0, as, p, rfl, h1, h2, h3, h4, h5, h6⟩ := sh hc
  obtain ⟨a, hm, ok⟩ := c.fns f nm h1
  exact PE.imp (pe_callA (P := fun σ vs H Q => vs.length = (Γ.g.ps f).length ∧ spF Γ.G (Γ.C.mt f) (Γ.C.cf f) vs H Q (WE W σ)) c hxs h4 (c.gl h2) hm ok.kp (beq_eq_false_iff_ne.mpr h3) fun I r q => ok.run h6 c.tk I r q.2) fun σ H Q q => call_args c h5 q

section
variable {o : Expr} {m : Str} {apos pos : Pos} {C g : Addr} {es : List Expr} {ta : TE} {t : TA} {P : L2.St → List V → Hp → VK → Prop} {pl : Sem Bool}
theorem pe_methX {e : Expr} (he : PE Y o ta) (c : Cls Y.K C) (hm : Meth Y.K C m g) (ha : PA Y (e :: es) t) (hp : ∀ e', e' ∈ e :: es → plainB e' = true)
    (run : ∀ {pins : List (Addr × Obj)} {σ : L2.St} {H : Hp} {s : Shared} {Q : VK} {us : List Value} {vs : List V}, Inv Y pins σ H s → Vals vs us → P σ vs H Q → wpAny (model Y.prog Y.w) Y.A (call (.ref g) us) (L2.EP Y pins σ Q) Y.xe s)
    (ht : eval (.Call (.Attribute o m apos) (e :: es) [] pos) Y.env = (do
      let ov ← eval o Y.env
      standAt apos.atName
      let (f, first) ← holding [ov] (getMethod ov m pl)
      callWith pos f first (backTo pos (starEach (e :: es) Y.env)) (backToKw pos (keywordEach [] Y.env)))) :
    PE Y (.Call (.Attribute o m apos) (e :: es) [] pos) (fun σ H Q => ta σ H fun x H1 => ∃ a dx fs, x = .ref a ∧ H1 a = some (.ins C dx fs) ∧ fs.lookup m = none ∧ t σ H1 fun vs H2 => P σ (x :: vs) H2 Q) := by
  refine ⟨fun pins s σ H Q I h => ?_⟩
  refine PySem.W.methodCall_KW (pl := pl) (thn (he.run pins s σ H _ I h) fun u s1 ⟨x, H1, I1, rx, a, dx, fs, ex, ea, l, q⟩ => ?_) ht
  subst ex
  obtain rfl : u = Value.ref a := rx
  refine getmeth_ok I1 ea c hm l ?_
  refine PySem.W.callWith_K (first := [.ref a]) (h₀ := Y.base) I.ok.mod.kin hm.kp (thn (ha.run pos pins s1 σ H1 _ I1 q) fun us s2 ⟨vs, H2, I2, r, q2⟩ => ⟨I2.kIn, ?_⟩) ((plain_of (hp e List.mem_cons_self)).star es Y.env) (plain_any (fun e m => hp e (List.mem_cons_of_mem _ m)) Y.env pos)
  exact run (us := .ref a :: us) (vs := .ref a :: vs) I2 (.cons rfl r) q2
theorem pe_methX0 (he : PE Y o ta) (c : Cls Y.K C) (hm : Meth Y.K C m g)
    (run : ∀ {pins : List (Addr × Obj)} {σ : L2.St} {H : Hp} {s : Shared} {Q : VK} {us : List Value} {vs : List V}, Inv Y pins σ H s → Vals vs us → P σ vs H Q → wpAny (model Y.prog Y.w) Y.A (call (.ref g) us) (L2.EP Y pins σ Q) Y.xe s)
    (ht : eval (.Call (.Attribute o m apos) [] [] pos) Y.env = (do
      let ov ← eval o Y.env
      standAt apos.atName
      let (f, first) ← holding [ov] (getMethod ov m pl)
      callWith pos f first (backTo pos (starEach [] Y.env)) (backToKw pos (keywordEach [] Y.env)))) :
    PE Y (.Call (.Attribute o m apos) [] [] pos) (fun σ H Q => ta σ H fun x H1 => ∃ a dx fs, x = .ref a ∧ H1 a = some (.ins C dx fs) ∧ fs.lookup m = none ∧ P σ [x] H1 Q) := by
  refine ⟨fun pins s σ H Q I h => ?_⟩
  refine PySem.W.methodCall_KW (pl := pl) (thn (he.run pins s σ H _ I h) fun u s1 ⟨x, H1, I1, rx, a, dx, fs, ex, ea, l, q⟩ => ?_) ht
  subst ex
  obtain rfl : u = Value.ref a := rx
  refine getmeth_ok I1 ea c hm l ?_
  exact PySem.W.callWith_K0 (first := [.ref a]) I1.kIn hm.kp (run (us := [.ref a]) (vs := [.ref a]) I1 (.cons rfl .nil) q)
end
theorem plain_form {es : List Expr} (hp : ∀ e, e ∈ es → plainB e = true) (hl : es.length < 30) (env : Env) (pos : Pos) : methodCallForm (es.length + ([] : List Keyword).length) (backTo pos (starEach es env)) (backToKw pos (keywordEach [] env)) = true := by
  have hany := plain_any hp env pos
  have h1 : (backTo pos (starEach es env)).all (fun x => !x.1) = true := by
    rw [List.all_eq_true]
    intro x hx
    have := List.any_eq_false.mp hany x hx
    simpa using this
  show ((backTo pos (starEach es env)).all (fun x => !x.1) && true && decide (es.length + 0 + 0 < 30)) = true
  rw [h1, decide_eq_true (by omega)]; rfl
theorem meth_tree {o : Expr} {m : Str} {apos pos : Pos} {es : List Expr} {env : Env} (hb : attributeBase o m env (eval o env) = eval o env) (hp : ∀ e, e ∈ es → plainB e = true) (hl : es.length < 30) (hline : apos.endLine = pos.line) :
    eval (.Call (.Attribute o m apos) es [] pos) env = (do
      let ov ← eval o env
      standAt apos.atName
      let (f, first) ← holding [ov] (getMethod ov m (do return (← importBound o env).getD true))
      callWith pos f first (backTo pos (starEach es env)) (backToKw pos (keywordEach [] env))) := by
  have hpos : methodCallPos true o env apos pos = pure pos := by unfold methodCallPos; simp [hline]
  rw [PySem.arm_eval_Call, hb]
  unfold methodCall
  rw [plain_form hp hl, hpos]
  rfl
theorem lookup_none {nm : Str} : ∀ {fs : List Str} {ws : List V}, (∀ k, k ∈ fs → k ≠ nm) → (fs.zip ws).lookup nm = none
  | [], ws, h => rfl
  | f :: fs, [], h => rfl
  | f :: fs, w :: ws, h => by
    rw [List.zip_cons_cons, List.lookup_cons]
    have : (nm == f) = false := beq_eq_false_iff_ne.mpr fun z => h f List.mem_cons_self z.symm
    rw [this]
    exact lookup_none fun k m => h k (List.mem_cons_of_mem _ m)
theorem xok_mcall {f i : Nat} {xs : Xs} (hxs : XsOk Γ xs) : XOk Γ (.mcall f i xs) := by
  have sh : ∀ {sc e}, chk Γ.g (.mcall f i xs) sc e = true → ∃ y p1 apos as p c n, e = .Call (.Attribute (.Name y p1) n apos) as [] p ∧ nameB Γ.g.N sc i (.Name y p1) = true ∧ (Γ.g.nt.mth[f]?).join = some (c, n) ∧ chks Γ.g xs sc as = true ∧ xs.len + 1 = (Γ.g.ps f).length ∧ Γ.g.hot = false ∧ apos.endLine = p.line ∧ xs.len < 20 := fun {sc e} h => by
    unfold chk at h
    split at h
    · simp only [Bool.and_eq_true, decide_eq_true_eq, Bool.not_eq_true'] at h
      obtain ⟨⟨⟨⟨⟨⟨h1, h2⟩, h3⟩, h4⟩, h5⟩, h6⟩, h7⟩ := h
      obtain ⟨y, p1, rfl, _⟩ := nameB_of h1
      split at h2
      · rename_i c n hn
        have h2 := of_decide_eq_true h2
        subst h2
        exact ⟨_, _, _, _, _, c, _, rfl, h1, hn, h3, h4, h5, h6, h7⟩
      · exact ff h2
    · exact ff h
  refine XOk.of (p := fun ρ => if isObj (getS ρ i) (Γ.C.mc f) then (argsL (dens Γ.C xs) ρ).bind fun as ρ => doCall Γ.C f (.l i :: as) ρ else .bad) rfl (fun {Y sc W e} c hc => ?_) fun hc => by obtain ⟨_, _, _, _, _, _, _, rfl, _⟩ := sh hc; exact ⟨rfl, rfl⟩
  obtain ⟨y, p1, apos, as, p, cl, n, rfl, h1, h2, h3, h4, h5, h6, h7⟩ := sh hc
  obtain ⟨m1, m2, m3, a, m4, ok⟩ := c.mth f cl n h2
  have main : ∀ σ H Q, tV Γ.G W none (mutXs Γ.g xs ++ lentTo (Γ.g.mt f) (.nm i :: xs.l) 0) (fun ρ => if isObj (getS ρ i) (Γ.C.mc f) then (argsL (dens Γ.C xs) ρ).bind fun as ρ => doCall Γ.C f (.l i :: as) ρ else .bad) σ H Q →
      tVar i σ H fun x H1 => ∃ a dx fs, x = .ref a ∧ H1 a = some (.ins (Γ.G.ca cl) dx fs) ∧ fs.lookup n = none ∧ tAs Γ.G W (mutXs Γ.g xs) (argsL (dens Γ.C xs)) σ H1 fun vs H2 => (x :: vs).length = (Γ.g.ps f).length ∧ spF Γ.G (Γ.C.mt f) (Γ.C.cf f) (x :: vs) H2 Q (WE W σ) := by
    intro σ H Q ⟨ρ, fs, F, q⟩
    have q : Run Γ.G W σ H ρ fs (mutXs Γ.g xs ++ lentTo (Γ.g.mt f) (.nm i :: xs.l) 0) (fun s ρ' H' fs' => ∀ v, VP none Γ.G H fs (mutXs Γ.g xs ++ lentTo (Γ.g.mt f) (.nm i :: xs.l) 0) H' fs' s v → Q v H') (if isObj (getS ρ i) (Γ.C.mc f) then (argsL (dens Γ.C xs) ρ).bind fun as ρ => doCall Γ.C f (.l i :: as) ρ else .bad) := q
    cases ob : isObj (getS ρ i) (Γ.C.mc f) with
    | false => rw [ob] at q; exact q.elim
    | true =>
      rw [ob, if_pos rfl] at q
      cases es : getS ρ i with
      | none => rw [es] at ob; exact ff ob
      | some s =>
        rw [es, m1] at ob
        cases s <;> first | exact ff ob | skip
        rename_i c' fl vl
        have hc : c' = cl := by
          have := of_decide_eq_true ob
          cases this; rfl
        subst hc
        obtain ⟨v, ev, r⟩ := F.get es
        rw [RepS] at r
        obtain ⟨a', dx, ws, rfl, qa, fa, ⟨z1, z2⟩, rs⟩ := r
        refine ⟨.ref a', ev, a', dx, _, rfl, qa, lookup_none fun k hk => ?_, ρ, fs, F, ?_⟩
        · obtain ⟨j, hj, rfl⟩ := List.mem_map.mp hk
          exact m3 j (z2 j hj)
        · refine (Run.bindO (M1 := mutXs Γ.g xs) q (fun i m => List.mem_append_left _ m)).imp' fun as ρ1 H1 fs1 e1 F1 st1 q1 vs gs A bd => ?_
          obtain ⟨s1, s2⟩ := argsL_spec e1
          obtain ⟨ss, hs, hd, q2⟩ := doCall_eq q1
          refine ⟨by rw [List.length_cons, A.len, s1]; exact h4, call_core F1 (st1.mono fun i m => List.mem_append_left _ m) (aok_cons (a := .l i) (v := .ref a') (g := none') ⟨ev, fun _ z => z⟩ A fun _ _ z => z.elim) (fun j b z => ?_) hs hd (fun j k m e => List.mem_append_right _ (lentTo_mem (j := j) ?_ (by rw [Nat.zero_add, ← c.mt]; exact m))) q2⟩
          · cases j with
            | zero => exact z.elim
            | succ j => exact (bd j b z).imp (U.mono fun i m => List.mem_append_left _ m) id
          · cases j with
            | zero => simp at e; subst e; rfl
            | succ j => simpa using s2 j k (by simpa using e)
  have pv := c.pv (Γ := Γ) h1
  cases as with
  | cons e0 es => exact PE.imp (pe_methX (P := fun σ vs H Q => vs.length = (Γ.g.ps f).length ∧ spF Γ.G (Γ.C.mt f) (Γ.C.cf f) vs H Q (WE W σ)) pv m2 m4 (pa_args c hxs h3) (chks_plain hxs h3) (fun I r q => ok.run (fun z => by rw [h5] at z; cases z) c.tk I r q.2) (meth_tree rfl (chks_plain hxs h3) (by have := chks_len h3; omega) h6)) main
  | nil =>
    have hx0 : xs = .nil := by
      cases xs with
      | nil => rfl
      | cons x xs => exact ff h3
    subst hx0
    refine PE.imp (pe_methX0 (P := fun σ vs H Q => vs.length = (Γ.g.ps f).length ∧ spF Γ.G (Γ.C.mt f) (Γ.C.cf f) vs H Q (WE W σ)) pv m2 m4 (fun I r q => ok.run (fun z => by rw [h5] at z; cases z) c.tk I r q.2) (meth_tree rfl (fun e m => by cases m) (by decide) h6)) fun σ H Q q => ?_
    obtain ⟨v, ev, a', dx, fs, e1, e2, e3, ρ, fs0, F, q2⟩ := main σ H Q q
    exact ⟨v, ev, a', dx, fs, e1, e2, e3, q2 H fs0 F .refl [] (fun _ => none') aok_nil fun _ _ z => z.elim⟩

theorem xok_new {cl : Nat} {xs : Xs} (hxs : XsOk Γ xs) : XOk Γ (.new cl xs) := by
  have sh : ∀ {sc e}, chk Γ.g (.new cl xs) sc e = true → ∃ nm p0 as p r, e = .Call (.Name nm p0) as [] p ∧ Γ.g.nt.cls[cl]? = some nm ∧ sc.names.lookup nm = some .globalImplicit ∧ nm ≠ "__debug__" ∧ chks Γ.g xs sc as = true ∧ xs.len + 1 = (Γ.g.ps (Γ.g.ini cl)).length ∧ Γ.g.hot = false ∧ Γ.g.mt (Γ.g.ini cl) = 0 :: r ∧ 0 ∉ r := fun {sc e} h => by
    unfold chk at h
    split at h
    · simp only [Bool.and_eq_true, decide_eq_true_eq, Bool.not_eq_true'] at h
      obtain ⟨⟨⟨⟨h1, h2⟩, h3⟩, h4⟩, h5⟩ := h
      split at h1
      · rename_i nm hn
        obtain ⟨p0, rfl, h6, h7⟩ := glName_of h1
        split at h5
        · rename_i r hr
          exact ⟨nm, p0, _, _, r, rfl, hn, h6, h7, h2, h3, h4, hr, fun z => by simp [List.contains_iff_mem, z] at h5⟩
        · exact ff h5
      · exact ff h1
    · exact ff h
  refine XOk.of (p := fun ρ => (argsL (dens Γ.C xs) ρ).bind fun as ρ => newR Γ.C cl as ρ) rfl (fun {Y sc W e} c hc => ?_) fun hc => by obtain ⟨_, _, _, _, _, rfl, _⟩ := sh hc; exact ⟨rfl, rfl⟩
  obtain ⟨nm, p0, as, p, r, rfl, h1, h2, h3, h4, h5, h6, h7, h8⟩ := sh hc
  obtain ⟨hm, ok⟩ := c.new cl nm h1 (by omega)
  refine PE.imp (pe_callA (P := fun σ vs H Q => vs.length + 1 = (Γ.g.ps (Γ.g.ini cl)).length ∧ ∀ x dx, H x = none → H dx = none → dx ≠ x → spF Γ.G (Γ.C.mt (Γ.C.ini cl)) (Γ.C.cf (Γ.C.ini cl)) (.ref x :: vs) (upd (upd H dx (.own x)) x (.ins (Γ.G.ca cl) dx [])) (fun v H2 => v = .non ∧ Q (.ref x) H2) (WE W σ)) c hxs h4 (c.gl h2) hm ok.kp (beq_eq_false_iff_ne.mpr h3) fun I r q => ok.run c.tk h6 I r q.2) fun σ H Q ⟨ρ, fs, F, q⟩ => ?_
  refine ⟨ρ, fs, F, (Run.bindO (M1 := mutXs Γ.g xs) q (fun i m => List.mem_append_left _ m)).imp' fun as ρ1 H1 fs1 e1 F1 st1 q1 vs gs A bd => ?_⟩
  obtain ⟨s1, s2⟩ := argsL_spec e1
  refine ⟨by rw [A.len, s1]; exact h5, fun x dx hx hdx hne => ?_⟩
  -- the new object
  have hx2 : upd H1 dx (.own x) x = none := by rw [upd_ne (Ne.symm hne)]; exact hx
  have kp : Keep H1 (upd (upd H1 dx (.own x)) x (.ins (Γ.G.ca cl) dx [])) none' := Keep.trans (F := none') (F1 := none') (Keep.new hdx) (Keep.new hx2) fun a z => z.elim
  have F2 := F1.keep kp fun _ _ _ z => z
  have st2 : Step H ρ fs (mutXs Γ.g xs ++ lentTo (Γ.g.mt (Γ.g.ini cl)) (.om :: xs.l) 0) (upd (upd H1 dx (.own x)) x (.ins (Γ.G.ca cl) dx [])) ρ1 fs1 :=
    (st1.mono fun i m => List.mem_append_left _ m).trans ⟨kp.mono fun _ z => z.elim, fun _ _ => ⟨rfl, rfl⟩, fun i a m z => .inl ⟨i, m, z⟩⟩
  have nx : ∀ {a : Addr}, H1 a ≠ none → a ≠ x := fun h z => h (z ▸ hx)
  have A2 : AOk Γ.G (upd (upd H1 dx (.own x)) x (.ins (Γ.G.ca cl) dx [])) σ fs1 as vs gs := by
    refine ⟨A.len, fun j s e => ?_, A.lnt, A.dj, A.nob, fun j a h z => A.trk j a h (kp.dom a z), A.emp⟩
    obtain ⟨v, ev, rr⟩ := A.tmp j s e
    exact ⟨v, ev, RepS.keep kp _ _ rr fun _ _ z => z⟩
  have A3 : AOk Γ.G (upd (upd H1 dx (.own x)) x (.ins (Γ.G.ca cl) dx [])) σ fs1 (.t (.obj cl [] []) :: as) (.ref x :: vs) (cons1 (fun b => b = x) gs) := by
    refine aok_cons (a := .t (.obj cl [] [])) (v := .ref x) (g := fun b => b = x) ⟨?_, fun i a e z => ?_, fun a e z => ?_⟩ A2 fun j b e z => ?_
    · rw [RepS]
      exact ⟨x, dx, [], rfl, upd_same, rfl, ⟨rfl, fun k m => by cases m⟩, by rw [RepSs]⟩
    · subst e; exact nx (F1.trk i a z) rfl
    · subst e; rw [upd_same] at z; cases z
    · subst e; exact nx (A.trk j b z) rfl
  have bd3 : ∀ j a, cons1 (fun b => b = x) gs j a → U fs (mutXs Γ.g xs ++ lentTo (Γ.g.mt (Γ.g.ini cl)) (.om :: xs.l) 0) a ∨ H a = none := fun j a z => by
    cases j with
    | zero =>
      have z : a = x := z
      subst z
      exact .inr (st1.keep.dom a hx)
    | succ j => exact (bd j a z).imp (U.mono fun i m => List.mem_append_left _ m) id
  unfold newR at q1
  cases hs : argS ρ1 as with
  | none => rw [hs] at q1; exact q1.elim
  | some ss =>
    rw [hs] at q1
    cases hd : distinct (lends as) with
    | false => simp only [hd] at q1; exact q1.elim
    | true =>
      simp only [hd, if_true] at q1
      have hs3 : argS ρ1 (.t (.obj cl [] []) :: as) = some (.obj cl [] [] :: ss) := by unfold argS; rw [hs]
      have hm3 : ∀ (j i : Nat), j ∈ Γ.C.mt (Γ.C.ini cl) → (Arg.t (.obj cl [] []) :: as)[j]? = some (Arg.l i) → i ∈ mutXs Γ.g xs ++ lentTo (Γ.g.mt (Γ.g.ini cl)) (.om :: xs.l) 0 := fun j i m e => by
        cases j with
        | zero => simp at e
        | succ j =>
          refine List.mem_append_right _ (lentTo_mem (j := j + 1) ?_ (by rw [Nat.zero_add, ← c.mt, ← c.ini]; exact m))
          simpa using s2 j i (by simpa using e)
      have hmt : Γ.C.mt (Γ.C.ini cl) = 0 :: r := by rw [c.mt, c.ini]; exact h7
      refine ⟨.obj cl [] [] :: ss, fsC (.t (.obj cl [] []) :: as) fs1 _, callee_fr F2 A3 hs3 hd, ?_⟩
      cases hc : Γ.C.cf (Γ.C.ini cl) (.obj cl [] [] :: ss) with
      | bad => simp only [hc] at q1; exact q1.elim
      | ex x fin =>
        cases fin with
        | nil => simp only [hc] at q1; exact q1.elim
        | cons o fin =>
          simp only [hc] at q1
          intro cls d H' fs' F' st' ep
          obtain ⟨F4, st4⟩ := caller_fr F2 st2 A3 bd3 hs3 hd hm3 F' st'
          rw [hmt] at F4 st4 q1
          exact q1 cls d H' _ F4 st4 ep
      | ok rv fin =>
        cases rv <;> first | (simp only [hc] at q1; exact q1.elim) | skip
        rename_i dd
        cases dd <;> first | (simp only [hc] at q1; exact q1.elim) | skip
        cases fin with
        | nil => simp only [hc] at q1; exact q1.elim
        | cons o fin =>
          simp only [hc] at q1
          intro H' fs' F' st' v vp
          have ev := vp.toD
          rw [RepD] at ev
          refine ⟨ev, ?_⟩
          obtain ⟨F4, st4⟩ := caller_fr F2 st2 A3 bd3 hs3 hd hm3 F' st'
          have key : ∀ {r : List Nat} {fin : List S} {ρ : Fr}, 0 ∉ r → ((r.zip fin).foldl (fun ρ p => ρ.set p.1 (some p.2)) ρ)[0]? = ρ[0]? := by
            intro r
            induction r with
            | nil => intro fin ρ _; rfl
            | cons k r ih =>
              intro fin ρ h0
              cases fin with
              | nil => rfl
              | cons s fin =>
                simp only [List.zip_cons_cons, List.foldl_cons]
                rw [ih fun m => h0 (List.mem_cons_of_mem _ m)]
                exact List.getElem?_set_ne fun z => h0 (by rw [z]; exact List.mem_cons_self)
          have e0 : (((Γ.C.mt (Γ.C.ini cl)).zip (o :: fin)).foldl (fun (ρ : Fr) p => ρ.set p.1 (some p.2)) ((S.obj cl [] [] :: ss).map some))[0]? = some (some o) := by
            rw [hmt, List.zip_cons_cons, List.foldl_cons, key h8]
            rfl
          obtain ⟨w, ew, rr⟩ := F'.rep 0 o e0
          have ew : w = .ref x := by simpa using ew.symm
          subst ew
          rcases rr with rr | ⟨_, _, _, _, _, _, hcur, _⟩
          · rw [hmt] at F4 st4 q1
            refine q1 H' _ F4 st4 (.ref x) ⟨fs' 0, (RepS.z o (.ref x)).mpr rr, F'.trk 0, fun i a h z => ?_, fun a h => ?_⟩
            · rcases z with ⟨j, ej, z⟩ | ⟨nl, z⟩
              · have := F'.dis 0 j a h z
                subst this
                simp at ej
              · rcases st'.sub 0 a (by rw [hmt]; exact List.mem_cons_self) h with y | y
                · exact call_nU F2 A3 nl z y
                · exact F2.trk i a z y
            · rcases st'.sub 0 a (by rw [hmt]; exact List.mem_cons_self) h with y | y
              · exact call_upU st2 bd3 hm3 y
              · exact .inr (st2.keep.dom a y)
          · cases hcur

theorem kw_facts {env : Env} {pos : Pos} : ∀ {kws : List Keyword} {ks : List Str}, kwNames kws = some ks → (backToKw pos (keywordEach kws env)).all (·.1.isSome) = true ∧ (backToKw pos (keywordEach kws env)).filterMap (·.1) = ks ∧ (backToKw pos (keywordEach kws env)).any (·.1.isNone) = false
  | [], ks, h => by cases h; exact ⟨rfl, rfl, rfl⟩
  | ⟨none, e, p⟩ :: r, ks, h => by cases h
  | ⟨some n, e, p⟩ :: r, ks, h => by
    have h : (kwNames r).map (n :: ·) = some ks := h
    obtain ⟨js, h1, h2⟩ := Option.map_eq_some_iff.mp h
    obtain ⟨a, b, c⟩ := kw_facts (env := env) (pos := pos) h1
    subst h2
    refine ⟨?_, ?_, ?_⟩
    · show (true && (backToKw pos (keywordEach r env)).all (·.1.isSome)) = true
      rw [a]; rfl
    · show n :: (backToKw pos (keywordEach r env)).filterMap (·.1) = n :: js
      rw [b]
    · show (false || (backToKw pos (keywordEach r env)).any (·.1.isNone)) = false
      rw [c]; rfl
theorem mapM_map {α : Type} {f : Nat → Option α} : ∀ {p : List Nat} {l : List α}, p.mapM f = some l → l.map some = p.map f
  | [], l, h => by simp at h; subst h; rfl
  | k :: p, l, h => by
    rw [List.mapM_cons] at h
    cases e1 : f k with
    | none => rw [e1] at h; cases h
    | some a =>
      rw [e1] at h
      cases e2 : p.mapM f with
      | none => rw [e2] at h; cases h
      | some m =>
        rw [e2] at h; cases h
        rw [List.map_cons, List.map_cons, mapM_map e2, e1]
theorem map_get {α : Type} {f : Nat → Option α} {p : List Nat} {l : List α} (h : l.map some = p.map f) (j : Nat) : l[j]? = (p[j]?).bind f := by
  have := congrArg (fun m => m[j]?) h
  simp only [List.getElem?_map] at this
  cases e1 : l[j]? with
  | none =>
    rw [e1] at this
    cases e2 : p[j]? with
    | none => rfl
    | some k => rw [e2] at this; cases this
  | some a =>
    rw [e1] at this
    cases e2 : p[j]? with
    | none => rw [e2] at this; cases this
    | some k => rw [e2] at this; simpa using this
theorem map_ex {α β : Type} {f : Nat → Option α} {g : Nat → Option β} (hg : ∀ k, (f k).isSome = true → (g k).isSome = true) : ∀ {p : List Nat} {l : List α}, l.map some = p.map f → p.filterMap g = p.filterMap g ∧ (p.filterMap g).map some = p.map g
  | [], l, h => ⟨rfl, rfl⟩
  | k :: p, [], h => by cases h
  | k :: p, a :: l, h => by
    simp only [List.map_cons, List.cons.injEq] at h
    obtain ⟨b, hb⟩ := Option.isSome_iff_exists.mp (hg k (by rw [← h.1]; rfl))
    refine ⟨rfl, ?_⟩
    rw [List.filterMap_cons_some hb, List.map_cons, List.map_cons, (map_ex hg h.2).2, hb]
/-- permuted arguments -/
theorem AOk.perm {G : Pg} {H : Hp} {σ : L2.St} {fs : Nat → Fp} {as as' : List Arg} {vs zs : List V} {gs : Nat → Fp} {p : List Nat} (A : AOk G H σ fs as vs gs) (h1 : as'.map some = p.map fun k => as[k]?) (h2 : zs.map some = p.map fun k => vs[k]?) (nd : p.Nodup) :
    AOk G H σ fs as' zs (fun j a => ∃ k, p[j]? = some k ∧ gs k a) := by
  have g1 := map_get h1
  have g2 := map_get h2
  refine ⟨?_, fun j s e => ?_, fun j i e => ?_, fun j k a ⟨j', e1, z1⟩ ⟨k', e2, z2⟩ => ?_, fun j i a ⟨k, _, z⟩ => A.nob k i a z, fun j a ⟨k, _, z⟩ => A.trk k a z, fun j a ⟨k, e, z⟩ => ?_⟩
  · have := congrArg List.length h1
    have := congrArg List.length h2
    simp only [List.length_map] at *
    omega
  · rw [g1] at e
    obtain ⟨k, ek, e⟩ := Option.bind_eq_some_iff.mp e
    obtain ⟨v, ev, r⟩ := A.tmp k s e
    exact ⟨v, by rw [g2, ek]; exact ev, RepS.mono _ _ r fun b z => ⟨k, ek, z⟩⟩
  · rw [g1] at e
    obtain ⟨k, ek, e⟩ := Option.bind_eq_some_iff.mp e
    obtain ⟨v, ev, r⟩ := A.lnt k i e
    exact ⟨v, by rw [g2, ek]; exact ev, r⟩
  · have := A.dj j' k' a z1 z2
    subst this
    obtain ⟨a1, b1⟩ := List.getElem?_eq_some_iff.mp e1
    obtain ⟨a2, b2⟩ := List.getElem?_eq_some_iff.mp e2
    exact (List.getElem_inj nd).mp (b1.trans b2.symm)
  · obtain ⟨s, es⟩ := A.emp k a z
    exact ⟨s, by rw [g1, e]; exact es⟩
theorem xok_callk {f : Nat} {p : List Nat} {xs : Xs} (hxs : XsOk Γ xs) : XOk Γ (.callk f p xs) := by
  have sh : ∀ {sc e}, chk Γ.g (.callk f p xs) sc e = true → ∃ nm p0 kws pos ks, e = .Call (.Name nm p0) [] kws pos ∧ Γ.g.nt.fns[f]? = some nm ∧ sc.names.lookup nm = some .globalImplicit ∧ nm ≠ "__debug__" ∧ chks Γ.g xs sc (kwExprs kws) = true ∧ kwNames kws = some ks ∧ p.map some = permOf (Γ.g.ps f) 0 ks ∧ ks ∈ Γ.g.kws f ∧ p.Nodup ∧ Γ.g.hot = false ∧ ks.length = (Γ.g.ps f).length ∧ xs.len = (Γ.g.ps f).length := fun {sc e} h => by
    unfold chk at h
    split at h
    · rename_i nm as kws pos
      simp only [Bool.and_eq_true, decide_eq_true_eq, Bool.not_eq_true'] at h
      obtain ⟨⟨⟨⟨h1, h2⟩, h3⟩, h4⟩, h5⟩ := h
      have e0 : as = [] := List.isEmpty_iff.mp h2
      subst e0
      split at h1
      · rename_i nm' hn
        obtain ⟨p0, rfl, h6, h7⟩ := glName_of h1
        split at h4
        · rename_i ks hk
          simp only [Bool.and_eq_true, decide_eq_true_eq, Bool.not_eq_true'] at h4
          exact ⟨nm', p0, kws, pos, ks, rfl, hn, h6, h7, h3, hk, h4.1.1.1.1, h4.1.1.1.2, h4.1.1.2, h4.1.2, h4.2, h5⟩
        · exact ff h4
      · exact ff h1
    · exact ff h
  refine XOk.of (p := fun ρ => (argsL (dens Γ.C xs) ρ).bind fun as ρ => match p.mapM fun k => as[k]? with
      | some as => doCall Γ.C f as ρ
      | none => .bad) rfl (fun {Y sc W e} c hc => ?_) fun hc => by obtain ⟨_, _, _, _, _, rfl, _⟩ := sh hc; exact ⟨rfl, rfl⟩
  obtain ⟨nm, p0, kws, pos, ks, rfl, h1, h2, h3, h4, h5, h6, h11, h7, h8, h9, h10⟩ := sh hc
  obtain ⟨a, hm, ok⟩ := c.fns f nm h1
  obtain ⟨k1, k2, k3⟩ := kw_facts (env := Y.env) (pos := pos) h5
  refine ⟨fun pins s σ H Q I ⟨ρ, fs, F, q⟩ => ?_⟩
  refine wpAny_Call_Name_kw (ld_glob I (c.gl h2) hm ?_ (beq_eq_false_iff_ne.mpr h3))
  refine PySem.W.callWith_KW0 (h₀ := Y.base) I.ok.mod.kin ok.kp k1 ?_ (by show (false || _) = false; rw [k3]; rfl)
  have main : tAs Γ.G W (mutXs Γ.g xs) (argsL (dens Γ.C xs)) σ H fun vs H1 => vs.length = ks.length ∧ ∃ zs, zs.map some = p.map (fun k => vs[k]?) ∧ spF Γ.G (Γ.C.mt f) (Γ.C.cf f) zs H1 Q (WE W σ) := by
    refine ⟨ρ, fs, F, (Run.bindO (M1 := mutXs Γ.g xs) q (fun i m => List.mem_append_left _ m)).imp' fun as ρ1 H1 fs1 e1 F1 st1 q1 vs gs A bd => ?_⟩
    obtain ⟨s1, s2⟩ := argsL_spec e1
    cases em : p.mapM fun k => as[k]? with
    | none => rw [em] at q1; exact q1.elim
    | some as' =>
      rw [em] at q1
      obtain ⟨ss, hs, hd, q2⟩ := doCall_eq q1
      have m1 := mapM_map em
      have m2 := (map_ex (g := fun k => vs[k]?) (fun k hk => by
        obtain ⟨x, hx⟩ := Option.isSome_iff_exists.mp hk
        have hlt := (List.getElem?_eq_some_iff.mp hx).1
        rw [List.getElem?_eq_getElem (by rw [A.len]; exact hlt)]; rfl) m1).2
      have m3 := (map_ex (g := fun k => xs.l[k]?) (fun k hk => by
        obtain ⟨x, hx⟩ := Option.isSome_iff_exists.mp hk
        have hlt := (List.getElem?_eq_some_iff.mp hx).1
        have hxl : ∀ xs : Xs, xs.l.length = xs.len := fun xs => by
          induction xs using Xs.rec (motive_1 := fun _ => True) with
          | nil => rfl
          | cons x xs _ ih => simp only [Xs.l, Xs.len, List.length_cons, ih]
          | _ => trivial
        rw [List.getElem?_eq_getElem (by rw [hxl, ← s1]; exact hlt)]; rfl) m1).2
      refine ⟨by rw [A.len, s1, h10, h9], _, m2, call_core F1 (st1.mono fun i m => List.mem_append_left _ m) (A.perm m1 m2 h7) (fun j a ⟨k, _, z⟩ => (bd k a z).imp (U.mono fun i m => List.mem_append_left _ m) id) hs hd (fun j i m e => List.mem_append_right _ (lentTo_mem (j := j) ?_ (by rw [Nat.zero_add, ← c.mt]; exact m))) q2⟩
      rw [map_get m1] at e
      obtain ⟨k, ek, e⟩ := Option.bind_eq_some_iff.mp e
      rw [map_get m3, ek]
      exact s2 k i e
  refine thn ((pk_args c hxs h4).run pos pins s σ H _ I main) fun ws s2 ⟨vs, H2, I2, rz, hl, zs, hz, q2⟩ => ⟨I2.kIn, ?_⟩
  rw [k2]
  exact ok.runK c.tk h8 h11 h6 (by rw [← rz.length]; exact hl) I2 rz hz q2
end Vm
/-! VmS -/
namespace Vm
open PySem L2

variable {Γ : Gx} {Y : Cx} {sc : Scope} {W : WX} {e : Expr}
/-- J yields the data ds while Gd is true of the heap; Gd is about the objects at S -/
structure Src (K : PySem.W.Frag) (J : It) (S : Fp) (ds : List D) (Gd : Hp → Prop) : Prop where
  keep : ∀ H H' F, Gd H → Keep H H' F → (∀ b, S b → ¬ F b) → Gd H'
  go : ∀ i H, Gd H → i < ds.length → J.go i H
  stop : ∀ i H, Gd H → ds.length ≤ i → J.stop i H
  yld : ∀ i H x H' d, Gd H → ds[i]? = some d → J.yld i H x H' → Keep H H' none' ∧ RepD K H' d x
theorem src_list {K : PySem.W.Frag} {a : Addr} {S : Fp} {ds : List D} {vs : List V} {Gd : Hp → Prop} (h : ∀ H, Gd H → SqL K H a vs ∧ RepDs K H ds vs) (k : ∀ H H' F, Gd H → Keep H H' F → (∀ b, S b → ¬ F b) → Gd H') : Src K (Itl K a) S ds Gd := by
  refine ⟨k, fun i H g hi => ?_, fun i H g hi => ?_, fun i H x H' d g hd y => ?_⟩
  · obtain ⟨s, r⟩ := h H g
    have : i < vs.length := by rw [← r.length]; exact hi
    exact ⟨vs, vs[i], s, List.getElem?_eq_getElem this⟩
  · obtain ⟨s, r⟩ := h H g
    exact ⟨vs, s, by rw [← r.length]; exact hi⟩
  · obtain ⟨s, r⟩ := h H g
    obtain ⟨rfl, y⟩ := y
    obtain ⟨v, ev, rv⟩ := r.get hd
    rw [y vs s] at ev; cases ev
    exact ⟨.refl, rv⟩
theorem src_tup {K : PySem.W.Frag} {a : Addr} {S : Fp} {ds : List D} {vs : List V} {Gd : Hp → Prop} (h : ∀ H, Gd H → SqT K H a vs ∧ RepDs K H ds vs) (k : ∀ H H' F, Gd H → Keep H H' F → (∀ b, S b → ¬ F b) → Gd H') : Src K (Itt K a) S ds Gd := by
  refine ⟨k, fun i H g hi => ?_, fun i H g hi => ?_, fun i H x H' d g hd y => ?_⟩
  · obtain ⟨s, r⟩ := h H g
    have : i < vs.length := by rw [← r.length]; exact hi
    exact ⟨vs, vs[i], s, List.getElem?_eq_getElem this⟩
  · obtain ⟨s, r⟩ := h H g
    exact ⟨vs, s, by rw [← r.length]; exact hi⟩
  · obtain ⟨s, r⟩ := h H g
    obtain ⟨rfl, y⟩ := y
    obtain ⟨v, ev, rv⟩ := r.get hd
    rw [y vs s] at ev; cases ev
    exact ⟨.refl, rv⟩
/-- the word about a list or a tuple -/
theorem lst_gd {G : Pg} {H : Hp} {s : S} {v : V} {f : Fp} {ds : List D} (r : RepS G H s v f) (e : lstD s = some ds) : ∃ (a : Addr) (vs : List V) (S : Fp), ∃ Gd : Hp → Prop, v = .ref a ∧ (∀ b, S b → f b) ∧ Gd H ∧ (∀ H, Gd H → SqL G.K H a vs ∧ RepDs G.K H ds vs) ∧ ∀ H H' F, Gd H → Keep H H' F → (∀ b, S b → ¬ F b) → Gd H' := by
  unfold lstD at e
  split at e
  · cases e
    rw [RepS, RepD] at r
    obtain ⟨a, vs, o, rfl, q, z, r⟩ := r
    exact ⟨a, vs, none', fun H => H a = some (.frz o (.lst vs)) ∧ RepDs G.K H ds vs, rfl, fun _ z => z.elim, ⟨q, r⟩, fun H g => ⟨.inl (.inr ⟨o, g.1⟩), g.2⟩, fun H H' F g k _ => ⟨k.at' _ _ g.1 (.inl trivial), RepDs.keep k _ _ g.2⟩⟩
  · rw [RepS] at r
    obtain ⟨a, vs, rfl, q, fa, z, r⟩ := r
    refine ⟨a, vs, fun b => b = a, fun H => H a = some (.lst vs) ∧ RepDs G.K H ds vs, rfl, fun b z => z ▸ fa, ⟨q, RepSs.toD e r⟩, fun H g => ⟨SqL.of g.1, g.2⟩, fun H H' F g k n => ⟨k.at' _ _ g.1 (.inr (n a rfl)), RepDs.keep k _ _ g.2⟩⟩
  · cases e
theorem tup_gd {G : Pg} {H : Hp} {s : S} {v : V} {f : Fp} {ds : List D} (r : RepS G H s v f) (e : tupD s = some ds) : ∃ (a : Addr) (vs : List V), ∃ Gd : Hp → Prop, v = .ref a ∧ Gd H ∧ (∀ H, Gd H → SqT G.K H a vs ∧ RepDs G.K H ds vs) ∧ ∀ H H' F, Gd H → Keep H H' F → Gd H' := by
  unfold tupD at e
  split at e
  · rename_i k l
    cases e
    rw [RepS, RepD] at r
    obtain ⟨a, vs, rfl, q, z, r⟩ := r
    exact ⟨a, vs, fun H => TupAt H k a vs ∧ RepDs G.K H ds vs, rfl, ⟨q, r⟩, fun H g => ⟨g.1.sq, g.2⟩, fun H H' F g kp => ⟨g.1.keep kp, RepDs.keep kp _ _ g.2⟩⟩
  · cases e
theorem seq_cases {s : S} {ds : List D} (e : seqD s = some ds) : lstD s = some ds ∨ tupD s = some ds := by
  unfold seqD at e
  split at e
  · exact .inr e
  · exact .inl e
  · exact .inl e
  · cases e
/-- the readings' end -/
def RI (K : PySem.W.Frag) (rs : List Nat) (H : Hp) (fs : Nat → Fp) (ds : List D) (R : It → Hp → Prop) : Prop :=
  ∀ J S Gd, Src K J S ds Gd → Gd H → (∀ a, S a → (∃ i, i ∈ rs ∧ fs i a) ∨ ∀ i, ¬ fs i a) → (∀ a, S a → H a ≠ none) → R J H
def tI (G : Pg) (W : WX) (rs M : List Nat) (p : Fr → R (List D)) : TI := fun σ H R => ∃ ρ fs, FR G H σ ρ fs ∧
  Run G W σ H ρ fs M (fun ds ρ' H' fs' => RI G.K rs H' fs' ds R) (p ρ)
theorem VP.place {r : Option Nat} {G : Pg} {H0 : Hp} {fs0 : Nat → Fp} {M : List Nat} {H : Hp} {fs : Nat → Fp} {s : S} {v : V} (h : VP r G H0 fs0 M H fs s v) : ∃ f, RepS G H s v f ∧ (∀ a, f a → (∃ i, i ∈ r.toList ∧ fs i a) ∨ ∀ i, ¬ fs i a) ∧ ∀ a, f a → H a ≠ none := by
  obtain ⟨f, hr, tr, x⟩ := h
  refine ⟨f, hr, fun a q => ?_, tr⟩
  cases r with
  | none => exact .inr fun i z => x.1 i a q z
  | some i => exact .inl ⟨i, by simp, x a q⟩
def iSeq (K : PySem.W.Frag) (tl : TE) : TI := fun σ H R => tl σ H fun x H1 => ∃ a, x = .ref a ∧ (((∃ xs, SqL K H1 a xs) ∧ R (Itl K a) H1) ∨ ((∃ xs, SqT K H1 a xs) ∧ R (Itt K a) H1))
theorem pi_seq {tg l : Expr} {tl : TE} (hl : PE Y l tl) : PI Y tg l (iSeq Y.K tl) := by
  refine ⟨fun pins s σ H R I h => ?_⟩
  refine thn (hl.run pins s σ H _ I h) fun v s1 ⟨x, H1, I1, r1, q1⟩ => ?_
  obtain ⟨a, e, q⟩ := q1
  subst e
  cases r1
  have hf : ∀ b, b ∈ [s1.heap.objs.size] → FpOk Y pins H1 b := fun b hb => by
    have e : b = s1.heap.objs.size := by simpa using hb
    subst e
    exact I1.fpOk (Nat.le_refl _) (I1.hok.fresh (Nat.le_refl _))
  rcases q with ⟨⟨xs, hq⟩, q⟩ | ⟨⟨xs, hq⟩, q⟩
  · obtain ⟨its, rv, p, hz⟩ := I1.list hq
    refine wpAny_pyIter_list p.isList ?_
    exact ⟨s1.heap.objs.size, [s1.heap.objs.size], _, _, H1, rfl, I1.kept (t' := s1.toks) fun b o e => Heap.get?_push_of_some _ e, turn_list a _, ⟨_, Heap.get?_push_size _ rfl, rfl, rfl⟩, hf, q⟩
  · obtain ⟨its, rv, p, hz⟩ := I1.tuple hq
    refine wpAny_pyIter_tuple (show s1.heap.IsTuple a its.toArray from p) ?_
    exact ⟨s1.heap.objs.size, [s1.heap.objs.size], _, _, H1, rfl, I1.kept (t' := s1.toks) fun b o e => Heap.get?_push_of_some _ e, turn_tuple a _, ⟨_, Heap.get?_push_size _ rfl, rfl, rfl⟩, hf, q⟩
theorem PI.imp' {tg it : Expr} {t t' : TI} (h : PI Y tg it t) (i : ∀ σ H Q, t' σ H Q → t σ H Q) : PI Y tg it t' := ⟨fun pins s σ H Q I q => h.run pins s σ H Q I (i σ H Q q)⟩
/-- what an expression walks -/
def IOk (Γ : Gx) (x : X) : Prop := ∀ {Y sc W e tg}, Cok Γ.g Γ.G Γ.C Y sc W → chk Γ.g x sc e = true → itOkB x tg = true → Γ.g.hot = false → PI Y tg e (tI Γ.G W (roots x) (mutX Γ.g x) (den Γ.C x).it)
theorem iok_of {x : X} (hx : XOk Γ x) (hd : (den Γ.C x).it = (Den.of (den Γ.C x).pk).it) (hr : roots x = (root x).toList) : IOk Γ x := by
  intro Y sc W e tg c hc _ _
  rw [hd, hr]
  refine PI.imp' (pi_seq (hx.pe c hc)) fun σ H Z ⟨ρ, fs, F, q⟩ => ⟨ρ, fs, F, ?_⟩
  refine (Run.bind (M1 := mutX Γ.g x) (M2 := []) (k := fun s ρ => R.of ρ (seqD s)) q (fun i m => m) (fun i m => by cases m)).imp fun s ρ1 H1 fs1 F1 st1 q1 v vp => ?_
  obtain ⟨ds, e1, k⟩ := Run.of F1 q1
  obtain ⟨f, hr, pl, tr⟩ := vp.place
  rcases seq_cases e1 with e1 | e1
  · obtain ⟨a, vs, S, Gd, ev, hS, g, h1, h2⟩ := lst_gd hr e1
    refine ⟨a, ev, .inl ⟨⟨vs, by rw [c.K]; exact (h1 _ g).1⟩, ?_⟩⟩
    rw [c.K]
    exact k _ S Gd (src_list h1 h2) g (fun b z => pl b (hS b z)) fun b z => tr b (hS b z)
  · obtain ⟨a, vs, Gd, ev, g, h1, h2⟩ := tup_gd hr e1
    refine ⟨a, ev, .inr ⟨⟨vs, by rw [c.K]; exact (h1 _ g).1⟩, ?_⟩⟩
    rw [c.K]
    exact k _ none' Gd (src_tup h1 fun H H' F g k _ => h2 H H' F g k) g (fun _ z => z.elim) fun _ z => z.elim

theorem src_range {K : PySem.W.Frag} {lo hi : Int} : Src K (Itr lo (hi - lo).toNat) none' (rngD lo hi) (fun _ => True) := by
  have hl : (rngD lo hi).length = (hi - lo).toNat := by unfold rngD; rw [List.length_map, List.length_range]
  refine ⟨fun _ _ _ _ _ _ => trivial, fun i H _ hi => by rw [hl] at hi; exact hi, fun i H _ hi => by rw [hl] at hi; exact hi, fun i H x H' d _ hd y => ?_⟩
  obtain ⟨rfl, rfl⟩ := y
  refine ⟨.refl, ?_⟩
  unfold rngD at hd
  rw [List.getElem?_map] at hd
  cases e : (List.range (hi - lo).toNat)[i]? with
  | none => rw [e] at hd; cases hd
  | some k =>
    rw [e] at hd
    have ek : k = i := by
      have := List.getElem?_eq_some_iff.mp e
      obtain ⟨h1, h2⟩ := this
      simpa using h2.symm
    subst ek
    cases hd
    rw [RepD]
theorem iok_rng {xs : Xs} (hxs : XsOk Γ xs) : IOk Γ (.rng xs) := by
  intro Y sc W e tg c hc _ _
  unfold chk at hc
  split at hc
  · rename_i f as p
    simp only [Bool.and_eq_true, Bool.or_eq_true, decide_eq_true_eq] at hc
    obtain ⟨⟨h1, h2⟩, h3⟩ := hc
    obtain ⟨p0, rfl, h4, _⟩ := glName_of h1
    have hl := chks_len h2
    have pa := pa_fz c hxs h2
    have hp := chks_plain hxs h2
    have hm := c.blt "range" (by decide +kernel)
    cases as with
    | nil => simp at hl; omega
    | cons a as =>
      cases as with
      | nil =>
        refine PI.imp' (pi_range1 (c.gl h4) hm pa ((plain_of (hp a List.mem_cons_self)).star _ _)) fun σ H Z ⟨ρ, fs, F, q⟩ => ⟨ρ, fs, F, ?_⟩
        refine (Run.bind (M1 := mutXs Γ.g xs) (M2 := []) q (fun i m => m) (fun i m => by cases m)).imp' fun ds ρ1 H1 fs1 e1 F1 st1 q1 vs rs => ?_
        have hd : ds.length = 1 := by rw [fzsL_len e1, dens_len, ← hl]; rfl
        unfold rngR at q1
        split at q1
        · rename_i j
          split at q1
          · rename_i hj
            rw [Bool.and_eq_true, decide_eq_true_eq, decide_eq_true_eq] at hj
            rw [RepDs] at rs
            obtain ⟨v, r, rfl, rv, rn⟩ := rs
            rw [RepDs] at rn; subst rn
            rw [RepD] at rv; subst rv
            refine ⟨j, rfl, hj.1, by have := hj.2; have h : lineN = 16777216 := rfl; omega, ?_⟩
            have := q1 H1 fs1 F1 .refl (Itr 0 (j - 0).toNat) none' (fun _ => True) src_range trivial (fun _ z => z.elim) fun _ z => z.elim
            rwa [Int.sub_zero] at this
          · exact q1.elim
        · simp at hd
        · exact q1.elim
      | cons b as =>
        cases as with
        | cons _ _ => simp at hl; omega
        | nil =>
          refine PI.imp' (pi_range2 (c.gl h4) hm pa (by rw [(plain_of (hp a List.mem_cons_self)).star, (plain_of (hp b (by simp))).star]; rfl) ((plain_of (hp b (by simp))).star _ _)) fun σ H Z ⟨ρ, fs, F, q⟩ => ⟨ρ, fs, F, ?_⟩
          refine (Run.bind (M1 := mutXs Γ.g xs) (M2 := []) q (fun i m => m) (fun i m => by cases m)).imp' fun ds ρ1 H1 fs1 e1 F1 st1 q1 vs rs => ?_
          have hd : ds.length = 2 := by rw [fzsL_len e1, dens_len, ← hl]; rfl
          unfold rngR at q1
          split at q1
          · simp at hd
          · rename_i i j
            split at q1
            · rename_i hj
              simp only [Bool.and_eq_true, decide_eq_true_eq] at hj
              rw [RepDs] at rs
              obtain ⟨v, r, rfl, rv, rn⟩ := rs
              rw [RepDs] at rn
              obtain ⟨v2, r2, rfl, rv2, rn⟩ := rn
              rw [RepDs] at rn; subst rn
              rw [RepD] at rv rv2; subst rv rv2
              exact ⟨i, j, rfl, ⟨hj.1.1.1.1, hj.1.1.1.2, hj.1.1.2, hj.1.2⟩, q1 H1 fs1 F1 .refl _ none' (fun _ => True) src_range trivial (fun _ z => z.elim) fun _ z => z.elim⟩
            · exact q1.elim
          · exact q1.elim
  · exact ff hc
end Vm
/-! VmT -/
namespace Vm
open PySem L2

variable {Γ : Gx} {Y : Cx} {sc : Scope} {W : WX} {e : Expr}
/-- views with their places -/
def ViewsP (G : Pg) (H : Hp) (fs : Nat → Fp) (rs : List Nat) : List S → List V → Prop
  | [], vs => vs = []
  | s :: ss, vs => ∃ v r, ∃ f : Fp, vs = v :: r ∧ RepS G H s v f ∧ (∀ a, f a → (∃ i, i ∈ rs ∧ fs i a) ∨ ∀ i, ¬ fs i a) ∧ (∀ a, f a → H a ≠ none) ∧ ViewsP G H fs rs ss r
theorem ViewsP.mono {G : Pg} {H : Hp} {fs : Nat → Fp} {rs rs' : List Nat} (h : ∀ i, i ∈ rs → i ∈ rs') : ∀ {ss : List S} {vs : List V}, ViewsP G H fs rs ss vs → ViewsP G H fs rs' ss vs
  | [], vs, r => r
  | s :: ss, vs, ⟨v, r, f, e, a, b, c, d⟩ => ⟨v, r, f, e, a, fun x z => (b x z).imp (fun ⟨i, m, y⟩ => ⟨i, h i m, y⟩) id, c, ViewsP.mono h d⟩
def rootsL (xs : Xs) : List Nat := xs.l.flatMap fun x => (root x).toList
def tPkP (G : Pg) (W : WX) (rs M : List Nat) (p : Fr → R (List S)) : TA := fun σ H Q => ∃ ρ fs, FR G H σ ρ fs ∧
  Run G W σ H ρ fs M (fun ss ρ' H' fs' => ∀ vs, ViewsP G H' fs' rs ss vs → Q vs H') (p ρ)
theorem pa_pkP (c : Cok Γ.g Γ.G Γ.C Y sc W) : ∀ {xs : Xs} {es : List Expr}, XsOk Γ xs → chks Γ.g xs sc es = true → apartXs Γ.g xs = true → PA Y es (tPkP Γ.G W (rootsL xs) (mutXs Γ.g xs) (pksL (dens Γ.C xs)))
  | .nil, es, h, hc, _ => by
    rw [chks_nil hc]
    refine PA.imp pa_nil fun σ H Q ⟨ρ, fs, F, q⟩ => ?_
    exact q H fs F .refl [] rfl
  | .cons x xs, es, h, hc, ha => by
    obtain ⟨e, es, rfl, h1, h2⟩ := chks_cons hc
    have ha : (apart (root x) (mutXs Γ.g xs) && apartXs Γ.g xs) = true := ha
    rw [Bool.and_eq_true] at ha
    refine PA.imp (pa_cons (h.hd.pe c h1) (pa_pkP c h.tl h2 ha.2) ((plain_of (h.hd.pl h1)).star _ _)) fun σ H Q ⟨ρ, fs, F, q⟩ => ⟨ρ, fs, F, ?_⟩
    have q : Run Γ.G W σ H ρ fs (mutX Γ.g x ++ mutXs Γ.g xs) (fun ss ρ' H' fs' => ∀ vs, ViewsP Γ.G H' fs' (rootsL (.cons x xs)) ss vs → Q vs H') (((den Γ.C x).pk ρ).bind fun d ρ => (pksL (dens Γ.C xs) ρ).bind fun ds ρ => .ok (d :: ds) ρ) := q
    refine (Run.bind (M1 := mutX Γ.g x) (M2 := mutXs Γ.g xs) q (fun i m => List.mem_append_left _ m) (fun i m => List.mem_append_right _ m)).imp fun s ρ1 H1 fs1 F1 st1 q1 v vp => ⟨ρ1, fs1, F1, ?_⟩
    refine (Run.bind (M1 := mutXs Γ.g xs) (M2 := []) q1 (fun i m => m) (fun i m => by cases m)).imp fun ss ρ2 H2 fs2 F2 st2 q2 vs rs => ?_
    obtain ⟨f, hr, pl, tr⟩ := (vp.carry F1 st2 (not_apart ha.1)).place
    have m1 : ∀ i, i ∈ (root x).toList → i ∈ rootsL (.cons x xs) := fun i m => by
      unfold rootsL; simp only [Xs.l, List.flatMap_cons]; exact List.mem_append_left _ m
    have m2 : ∀ i, i ∈ rootsL xs → i ∈ rootsL (.cons x xs) := fun i m => by
      unfold rootsL at m ⊢; simp only [Xs.l, List.flatMap_cons]; exact List.mem_append_right _ m
    exact q2 H2 fs2 F2 .refl _ ⟨v, vs, f, rfl, hr, fun a z => (pl a z).imp (fun ⟨i, m, y⟩ => ⟨i, m1 i m, y⟩) id, tr, rs.mono m2⟩
theorem rep_pair {K : PySem.W.Frag} {H : Hp} {T : Addr} {x y : V} {d e : D} (hT : H T = none) (r1 : RepD K H d x) (r2 : RepD K H e y) : RepD K (upd H T (.tup [x, y])) (.tup true [d, e]) (.ref T) := by
  have k := Keep.new (F := none') (o := .tup [x, y]) hT
  rw [RepD]
  exact ⟨T, _, rfl, upd_same, by show 2 ≤ sizeLine; rw [sizeLine_eq]; decide, .cons (RepD.keep k _ _ r1) (.single (RepD.keep k _ _ r2))⟩
theorem zip2_get {l m : List D} {i : Nat} {d : D} (h : (zip2 l m)[i]? = some d) : ∃ x y, l[i]? = some x ∧ m[i]? = some y ∧ d = .tup true [x, y] := by
  unfold zip2 at h
  rw [List.getElem?_map] at h
  cases e : (l.zip m)[i]? with
  | none => rw [e] at h; cases h
  | some p =>
    rw [e] at h; cases h
    obtain ⟨h1, h2⟩ := List.getElem?_zip_eq_some.mp e
    exact ⟨p.1, p.2, h1, h2, rfl⟩
theorem zip2_len (l m : List D) : (zip2 l m).length = min l.length m.length := by unfold zip2; rw [List.length_map, List.length_zip]
theorem src_zip {K : PySem.W.Frag} {a b : Addr} {S S' : Fp} {ds es : List D} {vs ws : List V} {Gd Gd' : Hp → Prop}
    (h : ∀ H, Gd H → SqL K H a vs ∧ RepDs K H ds vs) (k : ∀ H H' F, Gd H → Keep H H' F → (∀ b, S b → ¬ F b) → Gd H') (h' : ∀ H, Gd' H → SqL K H b ws ∧ RepDs K H es ws) (k' : ∀ H H' F, Gd' H → Keep H H' F → (∀ b, S' b → ¬ F b) → Gd' H') :
    Src K (Itz K a b) (fun x => S x ∨ S' x) (zip2 ds es) (fun H => Gd H ∧ Gd' H) := by
  refine ⟨fun H H' F g kp n => ⟨k H H' F g.1 kp fun b z => n b (.inl z), k' H H' F g.2 kp fun b z => n b (.inr z)⟩, fun i H g hi => ?_, fun i H g hi => ?_, fun i H x H' d g hd y => ?_⟩
  · obtain ⟨s, r⟩ := h H g.1
    obtain ⟨s', r'⟩ := h' H g.2
    rw [zip2_len] at hi
    have h1 : i < vs.length := by rw [← r.length]; omega
    have h2 : i < ws.length := by rw [← r'.length]; omega
    exact ⟨vs, ws, vs[i], ws[i], s, s', List.getElem?_eq_getElem h1, List.getElem?_eq_getElem h2⟩
  · obtain ⟨s, r⟩ := h H g.1
    obtain ⟨s', r'⟩ := h' H g.2
    rw [zip2_len] at hi
    exact ⟨vs, ws, s, s', by rw [← r.length, ← r'.length]; omega⟩
  · obtain ⟨s, r⟩ := h H g.1
    obtain ⟨s', r'⟩ := h' H g.2
    obtain ⟨T, x1, y1, rfl, hT, rfl, z1, z2⟩ := y
    obtain ⟨d1, d2, e1, e2, rfl⟩ := zip2_get hd
    obtain ⟨u1, f1, g1⟩ := r.get e1
    obtain ⟨u2, f2, g2⟩ := r'.get e2
    rw [z1 vs s] at f1; cases f1
    rw [z2 ws s'] at f2; cases f2
    exact ⟨Keep.new hT, rep_pair hT g1 g2⟩
theorem src_zipT {K : PySem.W.Frag} {a b : Addr} {ds es : List D} {vs ws : List V} {Gd Gd' : Hp → Prop}
    (h : ∀ H, Gd H → SqT K H a vs ∧ RepDs K H ds vs) (k : ∀ H H' F, Gd H → Keep H H' F → Gd H') (h' : ∀ H, Gd' H → SqT K H b ws ∧ RepDs K H es ws) (k' : ∀ H H' F, Gd' H → Keep H H' F → Gd' H') :
    Src K (RZ.ItzT K a b) none' (zip2 ds es) (fun H => Gd H ∧ Gd' H) := by
  refine ⟨fun H H' F g kp n => ⟨k H H' F g.1 kp, k' H H' F g.2 kp⟩, fun i H g hi => ?_, fun i H g hi => ?_, fun i H x H' d g hd y => ?_⟩
  · obtain ⟨s, r⟩ := h H g.1
    obtain ⟨s', r'⟩ := h' H g.2
    rw [zip2_len] at hi
    have h1 : i < vs.length := by rw [← r.length]; omega
    have h2 : i < ws.length := by rw [← r'.length]; omega
    exact ⟨vs, ws, vs[i], ws[i], s, s', List.getElem?_eq_getElem h1, List.getElem?_eq_getElem h2⟩
  · obtain ⟨s, r⟩ := h H g.1
    obtain ⟨s', r'⟩ := h' H g.2
    rw [zip2_len] at hi
    exact ⟨vs, ws, s, s', by rw [← r.length, ← r'.length]; omega⟩
  · obtain ⟨s, r⟩ := h H g.1
    obtain ⟨s', r'⟩ := h' H g.2
    obtain ⟨T, x1, y1, rfl, hT, rfl, z1, z2⟩ := y
    obtain ⟨d1, d2, e1, e2, rfl⟩ := zip2_get hd
    obtain ⟨u1, f1, g1⟩ := r.get e1
    obtain ⟨u2, f2, g2⟩ := r'.get e2
    rw [z1 vs s] at f1; cases f1
    rw [z2 ws s'] at f2; cases f2
    exact ⟨Keep.new hT, rep_pair hT g1 g2⟩
theorem iok_zip {xs : Xs} (hxs : XsOk Γ xs) : IOk Γ (.zip xs) := by
  intro Y sc W e tg c hc ht _
  have ht : ∃ elts kk tpos, tg = .Tuple elts kk tpos := by
    cases tg <;> first | exact ff ht | exact ⟨_, _, _, rfl⟩
  obtain ⟨elts, kk, tpos, rfl⟩ := ht
  unfold chk at hc
  split at hc
  · rename_i f as p
    simp only [Bool.and_eq_true, decide_eq_true_eq] at hc
    obtain ⟨⟨⟨h1, h2⟩, h3⟩, h4⟩ := hc
    obtain ⟨p0, rfl, h5, _⟩ := glName_of h1
    have hl := chks_len h3
    have pa := pa_pkP c hxs h3 h2
    have hp := chks_plain hxs h3
    cases as with
    | nil => simp at hl; omega
    | cons a as =>
      cases as with
      | nil => simp at hl; omega
      | cons b as =>
        cases as with
        | cons _ _ => simp at hl; omega
        | nil =>
          refine PI.imp' (RZ.pi_zipA (c.gl h5) (c.blt "zip" (by decide +kernel)) pa ((plain_of (hp a List.mem_cons_self)).star _ _) (plain_any (fun e m => hp e (List.mem_cons_of_mem _ m)) Y.env p)) fun σ H Z ⟨ρ, fs, F, q⟩ => ⟨ρ, fs, F, ?_⟩
          refine (Run.bind (M1 := mutXs Γ.g xs) (M2 := []) q (fun i m => m) (fun i m => by cases m)).imp fun ss ρ1 H1 fs1 F1 st1 q1 vs rs => ?_
          obtain ⟨ds, e1, k⟩ := Run.of F1 q1
          unfold zipS at e1
          split at e1
          · rename_i s t
            obtain ⟨v, r, f, rfl, hr, pl, tr, rs⟩ := rs
            obtain ⟨v2, r2, f2, rfl, hr2, pl2, tr2, rs⟩ := rs
            have rs : r2 = [] := rs
            subst rs
            split at e1
            · rename_i l m el em
              cases e1
              obtain ⟨a1, vs1, S1, Gd1, rfl, hS1, g1, w1, w2⟩ := lst_gd hr el
              obtain ⟨a2, vs2, S2, Gd2, rfl, hS2, g2, w3, w4⟩ := lst_gd hr2 em
              refine ⟨a1, a2, vs1, vs2, rfl, .inl ⟨by rw [c.K]; exact (w1 _ g1).1, by rw [c.K]; exact (w3 _ g2).1, ?_⟩⟩
              rw [c.K]
              refine k _ _ _ (src_zip w1 w2 w3 w4) ⟨g1, g2⟩ (fun x z => ?_) fun x z => ?_
              · rcases z with z | z
                · exact pl x (hS1 x z)
                · exact pl2 x (hS2 x z)
              · rcases z with z | z
                · exact tr x (hS1 x z)
                · exact tr2 x (hS2 x z)
            · split at e1
              · rename_i l m el em
                cases e1
                obtain ⟨a1, vs1, Gd1, rfl, g1, w1, w2⟩ := tup_gd hr el
                obtain ⟨a2, vs2, Gd2, rfl, g2, w3, w4⟩ := tup_gd hr2 em
                refine ⟨a1, a2, vs1, vs2, rfl, .inr ⟨by rw [c.K]; exact (w1 _ g1).1, by rw [c.K]; exact (w3 _ g2).1, ?_⟩⟩
                rw [c.K]
                exact k _ none' _ (src_zipT w1 w2 w3 w4) ⟨g1, g2⟩ (fun x z => z.elim) fun x z => z.elim
              · cases e1
          · cases e1
  · exact ff hc

theorem src_enu {K : PySem.W.Frag} {a : Addr} {S : Fp} {ds : List D} {vs : List V} {Gd : Hp → Prop} (h : ∀ H, Gd H → SqL K H a vs ∧ RepDs K H ds vs) (k : ∀ H H' F, Gd H → Keep H H' F → (∀ b, S b → ¬ F b) → Gd H') : Src K (Ite K a) S (enuD ds) Gd := by
  have hl : (enuD ds).length = ds.length := by unfold enuD; rw [List.length_map, List.length_zip, List.length_range, Nat.min_self]
  refine ⟨k, fun i H g hi => ?_, fun i H g hi => ?_, fun i H x H' d g hd y => ?_⟩
  · obtain ⟨s, r⟩ := h H g
    have : i < vs.length := by rw [← r.length, ← hl]; exact hi
    exact ⟨vs, vs[i], s, List.getElem?_eq_getElem this⟩
  · obtain ⟨s, r⟩ := h H g
    exact ⟨vs, s, by rw [← r.length, ← hl]; exact hi⟩
  · obtain ⟨s, r⟩ := h H g
    obtain ⟨T, x1, rfl, hT, rfl, z1⟩ := y
    unfold enuD at hd
    rw [List.getElem?_map] at hd
    cases e : ((List.range ds.length).zip ds)[i]? with
    | none => rw [e] at hd; cases hd
    | some p =>
      rw [e] at hd; cases hd
      obtain ⟨h1, h2⟩ := List.getElem?_zip_eq_some.mp e
      have ek : p.1 = i := by
        obtain ⟨a1, a2⟩ := List.getElem?_eq_some_iff.mp h1
        simpa using a2.symm
      obtain ⟨u1, f1, g1⟩ := r.get h2
      rw [z1 vs s] at f1; cases f1
      refine ⟨Keep.new hT, ?_⟩
      show RepD K _ (.tup true [.int (p.1 : Nat), p.2]) _
      rw [ek]
      exact rep_pair hT rep_int g1
theorem iok_enu {x : X} (hx : XOk Γ x) : IOk Γ (.enu x) := by
  intro Y sc W e tg c hc ht _
  have ht : ∃ elts kk tpos, tg = .Tuple elts kk tpos := by
    cases tg <;> first | exact ff ht | exact ⟨_, _, _, rfl⟩
  obtain ⟨elts, kk, tpos, rfl⟩ := ht
  unfold chk at hc
  split at hc
  · rename_i f a p
    simp only [Bool.and_eq_true] at hc
    obtain ⟨h1, h2⟩ := hc
    obtain ⟨p0, rfl, h5, _⟩ := glName_of h1
    have hs := (plain_of (hx.pl h2)).star [] Y.env
    refine PI.imp' (pi_enum (c.gl h5) (c.blt "enumerate" (by decide +kernel)) (pa_cons (hx.pe c h2) pa_nil hs) hs) fun σ H Z ⟨ρ, fs, F, q⟩ => ⟨ρ, fs, F, ?_⟩
    refine (Run.bind (M1 := mutX Γ.g x) (M2 := []) q (fun i m => m) (fun i m => by cases m)).imp fun s ρ1 H1 fs1 F1 st1 q1 v vp => ?_
    obtain ⟨ds, e1, k⟩ := Run.of F1 q1
    obtain ⟨l, el, e2⟩ := Option.map_eq_some_iff.mp e1
    subst e2
    obtain ⟨f, hr, pl, tr⟩ := vp.place
    obtain ⟨a1, vs1, S1, Gd1, rfl, hS1, g1, w1, w2⟩ := lst_gd hr el
    refine ⟨a1, vs1, rfl, by rw [c.K]; exact (w1 _ g1).1, ?_⟩
    rw [c.K]
    exact k _ S1 Gd1 (src_enu w1 w2) g1 (fun b z => pl b (hS1 b z)) fun b z => tr b (hS1 b z)
  · exact ff hc

theorem rev_get {l : List D} {i : Nat} {d : D} (h : l.reverse[i]? = some d) : l[l.length - 1 - i]? = some d := by
  have hi : i < l.length := by
    have := (List.getElem?_eq_some_iff.mp h).1
    simpa using this
  rw [List.getElem?_reverse hi] at h
  exact h
theorem src_rev {K : PySem.W.Frag} {a : Addr} {S : Fp} {ds : List D} {vs : List V} {Gd : Hp → Prop} (h : ∀ H, Gd H → SqL K H a vs ∧ RepDs K H ds vs) (k : ∀ H H' F, Gd H → Keep H H' F → (∀ b, S b → ¬ F b) → Gd H') (hl : ds.length = vs.length) : Src K (Itv K a vs.length) S ds.reverse Gd := by
  refine ⟨k, fun i H g hi => ?_, fun i H g hi => by rw [List.length_reverse, hl] at hi; exact hi, fun i H x H' d g hd y => ?_⟩
  · obtain ⟨s, r⟩ := h H g
    rw [List.length_reverse, hl] at hi
    have : vs.length - 1 - i < vs.length := by omega
    exact ⟨hi, vs, vs[vs.length - 1 - i], s, List.getElem?_eq_getElem this⟩
  · obtain ⟨s, r⟩ := h H g
    obtain ⟨rfl, y⟩ := y
    have hd := rev_get hd
    rw [hl] at hd
    obtain ⟨v, ev, rv⟩ := r.get hd
    rw [y vs s] at ev; cases ev
    exact ⟨.refl, rv⟩
theorem src_revT {K : PySem.W.Frag} {a : Addr} {ds : List D} {vs : List V} {Gd : Hp → Prop} (h : ∀ H, Gd H → SqT K H a vs ∧ RepDs K H ds vs) (k : ∀ H H' F, Gd H → Keep H H' F → Gd H') (hl : ds.length = vs.length) : Src K (RT.ItvT K a vs.length) none' ds.reverse Gd := by
  refine ⟨fun H H' F g kp _ => k H H' F g kp, fun i H g hi => ?_, fun i H g hi => by rw [List.length_reverse, hl] at hi; exact hi, fun i H x H' d g hd y => ?_⟩
  · obtain ⟨s, r⟩ := h H g
    rw [List.length_reverse, hl] at hi
    have : vs.length - 1 - i < vs.length := by omega
    exact ⟨hi, vs, vs[vs.length - 1 - i], s, List.getElem?_eq_getElem this⟩
  · obtain ⟨s, r⟩ := h H g
    obtain ⟨rfl, y⟩ := y
    have hd := rev_get hd
    rw [hl] at hd
    obtain ⟨v, ev, rv⟩ := r.get hd
    rw [y vs s] at ev; cases ev
    exact ⟨.refl, rv⟩
theorem iok_rev {x : X} (hx : XOk Γ x) : IOk Γ (.rev x) := by
  intro Y sc W e tg c hc ht _
  unfold chk at hc
  split at hc
  · rename_i f a p
    simp only [Bool.and_eq_true] at hc
    obtain ⟨h1, h2⟩ := hc
    obtain ⟨p0, rfl, h5, _⟩ := glName_of h1
    have hs := (plain_of (hx.pl h2)).star [] Y.env
    refine PI.imp' (RT.pi_revA (c.gl h5) (c.blt "reversed" (by decide +kernel)) (hx.pe c h2) hs) fun σ H Z ⟨ρ, fs, F, q⟩ => ⟨ρ, fs, F, ?_⟩
    refine (Run.bind (M1 := mutX Γ.g x) (M2 := []) q (fun i m => m) (fun i m => by cases m)).imp fun s ρ1 H1 fs1 F1 st1 q1 v vp => ?_
    obtain ⟨ds, e1, k⟩ := Run.of F1 q1
    obtain ⟨l, el, e2⟩ := Option.map_eq_some_iff.mp e1
    subst e2
    obtain ⟨f, hr, pl, tr⟩ := vp.place
    rcases seq_cases el with el | el
    · obtain ⟨a1, vs1, S1, Gd1, rfl, hS1, g1, w1, w2⟩ := lst_gd hr el
      refine ⟨a1, vs1, rfl, .inl ⟨by rw [c.K]; exact (w1 _ g1).1, ?_⟩⟩
      rw [c.K]
      exact k _ S1 Gd1 (src_rev w1 w2 (w1 _ g1).2.length) g1 (fun b z => pl b (hS1 b z)) fun b z => tr b (hS1 b z)
    · obtain ⟨a1, vs1, Gd1, rfl, g1, w1, w2⟩ := tup_gd hr el
      refine ⟨a1, vs1, rfl, .inr ⟨by rw [c.K]; exact (w1 _ g1).1, ?_⟩⟩
      rw [c.K]
      exact k _ none' Gd1 (src_revT w1 w2 (w1 _ g1).2.length) g1 (fun b z => z.elim) fun b z => z.elim
  · exact ff hc
end Vm
/-! VmU -/
namespace Vm
open PySem L2

variable {Γ : Gx} {Y : Cx} {sc : Scope} {W : WX} {e : Expr}
def WF : WX := fun _ _ _ _ => False
theorem Cok.blk (c : Cok Γ.g Γ.G Γ.C Y sc W) (hh : Γ.g.hot = false) (scope : Scope) (cl : List (Str × Addr)) (C : Addr) (s : Shared) (H : Hp) (fp : List Addr) : Cok Γ.g Γ.G Γ.C (Y.blk s H scope (compEnvC scope cl C Y.env) fp) (relS scope sc) WF := by
  refine ⟨c.K, c.N, c.nd, ?_, c.calm, fun u s' ⟨a, B, sI, pins, σ, H, cls, d, _, _, _, _, _, _, _, _, w⟩ => w.elim, c.un, c.un65, c.blt, c.mt, c.ini, fun f nm h => ?_, c.fld, c.inj, c.nam, c.att, fun f cl' n h => ?_, fun cl' nm h1 h2 => ?_, c.fnI, c.cls, c.curn, (fun z => by rw [hh] at z; cases z), (fun z => by rw [hh] at z; cases z)⟩
  · show relS scope Y.env.scope = relS scope sc
    rw [c.sc]
  · obtain ⟨a, hm, ok⟩ := c.fns f nm h
    exact ⟨a, hm, ok.kp, ok.cool, fun z => by rw [hh] at z; cases z⟩
  · obtain ⟨m1, m2, m3, a, m4, ok⟩ := c.mth f cl' n h
    exact ⟨m1, m2, m3, a, m4, ok.kp, ok.cool, fun z => by rw [hh] at z; cases z⟩
  · obtain ⟨hm, ok⟩ := c.new cl' nm h1 h2
    exact ⟨hm, ok.kp, ok.cool⟩
theorem tgB_cases {N : List Str} {fn : Str → Bool} {is : List Nat} {tg : Expr} (h : tgB N sc fn is tg = true) : (∃ es k p, tg = .Tuple es k p ∧ is.length ≠ 1 ∧ stosB N sc fn is es = true) ∨ ∃ i x p, is = [i] ∧ tg = .Name x p ∧ stoB N sc fn i (.Name x p) = true := by
  cases tg with
  | Tuple es k p =>
    have h : (decide (is.length ≠ 1) && stosB N sc fn is es) = true := h
    rw [Bool.and_eq_true, decide_eq_true_eq] at h
    exact .inl ⟨es, k, p, rfl, h.1, h.2⟩
  | Name x p =>
    cases is with
    | nil => exact ff h
    | cons i r =>
      cases r with
      | cons _ _ => exact ff h
      | nil => exact .inr ⟨i, x, p, rfl, rfl, h⟩
  | _ =>
    cases is with
    | nil => exact ff h
    | cons i r => cases r <;> exact ff h
theorem FR.set1 {G : Pg} {H : Hp} {σ : L2.St} {ρ : Fr} {fs : Nat → Fp} {i : Nat} {d : D} {v : V} (F : FR G H σ ρ fs) (r : RepD G.K H d v) : FR G H (σ.set i (some v)) (ρ.set i (some (.v d))) (fun j => if j = i then none' else fs j) := by
  refine ⟨by rw [List.length_set, List.length_set]; exact F.len, fun j t e => ?_, fun j k a h1 h2 => ?_, fun j a h1 => ?_⟩
  · by_cases hj : j = i
    · subst hj
      have hlt : j < ρ.length := by
        have := (List.getElem?_eq_some_iff.mp e).1
        rwa [List.length_set] at this
      rw [List.getElem?_set_self hlt] at e
      cases e
      exact ⟨v, List.getElem?_set_self (by rw [← F.len]; exact hlt), .inl (by rw [RepS]; exact r)⟩
    · rw [List.getElem?_set_ne (Ne.symm hj)] at e
      obtain ⟨w, ew, rw'⟩ := F.rep j t e
      exact ⟨w, by rw [List.getElem?_set_ne (Ne.symm hj)]; exact ew, by rw [if_neg hj]; exact rw'⟩
  · by_cases hj : j = i
    · rw [if_pos hj] at h1; exact h1.elim
    · by_cases hk : k = i
      · rw [if_pos hk] at h2; exact h2.elim
      · rw [if_neg hj] at h1; rw [if_neg hk] at h2; exact F.dis j k a h1 h2
  · by_cases hj : j = i
    · rw [if_pos hj] at h1; exact h1.elim
    · rw [if_neg hj] at h1; exact F.trk j a h1
/-- what a store into the slots `is` leaves -/
def Put (G : Pg) (H : Hp) (is : List Nat) (σ : L2.St) (ρ : Fr) (fs : Nat → Fp) (ρ' : Fr) (Q : L2.St → Hp → Prop) : Prop :=
  ∀ σ' fs', FR G H σ' ρ' fs' → (∀ i, i ∉ is → σ'[i]? = σ[i]? ∧ ρ'[i]? = ρ[i]? ∧ fs' i = fs i) → (∀ i, i ∈ is → ∀ a, ¬ fs' i a) → σ'.length = σ.length → Q σ' H
theorem sto_pg {X : Cx} {N : List Str} {fn : Str → Bool} {i : Nat} (hN : X.N = N) (nd : N.Nodup) (hs : X.env.scope = sc) (hf : ∀ x, sc.names.lookup x = some .cell → fn x = true → X.fn x = true) (h : stoB N sc fn i e = true) : PG X e (gName i) := by
  cases e <;> first | exact ff h | skip
  rename_i x p
  have h : (decide (N[i]? = some x) && (decide (sc.names.lookup x = some .local) || (decide (sc.names.lookup x = some .cell) && fn x))) = true := h
  simp only [Bool.and_eq_true, Bool.or_eq_true, decide_eq_true_eq] at h
  obtain ⟨h1, h2⟩ := h
  rcases h2 with h2 | ⟨h2, h3⟩
  · exact pg_name (by rw [hN]; exact nd) (by rw [hN]; exact h1) (.inl (by rw [hs]; exact h2)) (.inr (by rw [hs]; exact h2))
  · exact pg_name (by rw [hN]; exact nd) (by rw [hN]; exact h1) (.inr (by rw [hs]; exact h2)) (.inl (hf x h2 h3))
def gNames : List Nat → TGs
  | [] => gNil
  | i :: is => gCons (gName i) (gNames is)
theorem stos_pgs {X : Cx} {N : List Str} {fn : Str → Bool} (hN : X.N = N) (nd : N.Nodup) (hs : X.env.scope = sc) (hf : ∀ x, sc.names.lookup x = some .cell → fn x = true → X.fn x = true) : ∀ {is : List Nat} {es : List Expr}, stosB N sc fn is es = true → PGs X es (gNames is) ∧ (assignEach es X.env).length = is.length ∧ (assignEach es X.env).findIdx? (·.1) = none
  | [], es, h => by
    have : es = [] := by cases es with | nil => rfl | cons _ _ => exact ff h
    subst this
    exact ⟨pgs_nil, rfl, rfl⟩
  | i :: is, [], h => ff h
  | i :: is, e :: es, h => by
    have h : (stoB N sc fn i e && stosB N sc fn is es) = true := h
    rw [Bool.and_eq_true] at h
    obtain ⟨p1, p2, p3⟩ := stos_pgs hN nd hs hf h.2
    have pe := sto_pg hN nd hs hf h.1
    have hx : ∃ x p, e = .Name x p := by
      have h1 := h.1
      cases e <;> first | exact ff h1 | exact ⟨_, _, rfl⟩
    obtain ⟨x, p, rfl⟩ := hx
    refine ⟨pgs_cons pe p1 rfl, ?_, ?_⟩
    · show (assignEach es X.env).length + 1 = is.length + 1
      rw [p2]
    · show ((false, assign (.Name x p) X.env) :: assignEach es X.env).findIdx? (·.1) = none
      rw [List.findIdx?_cons]
      simp [p3]
def gTg (K : PySem.W.Frag) (is : List Nat) : Expr → TG
  | .Tuple _ _ _ => gTup K is.length (gNames is)
  | _ => match is with
    | [i] => gName i
    | _ => fun _ _ _ _ => False
theorem tg_pg {X : Cx} {N : List Str} {fn : Str → Bool} {is : List Nat} {tg : Expr} (hc : X.calm = true) (hN : X.N = N) (nd : N.Nodup) (hs : X.env.scope = sc) (hf : ∀ x, sc.names.lookup x = some .cell → fn x = true → X.fn x = true) (h : tgB N sc fn is tg = true) : PG X tg (gTg X.K is tg) := by
  rcases tgB_cases h with ⟨es, k, p, rfl, h1, h2⟩ | ⟨i, x, p, rfl, rfl, h1⟩
  · obtain ⟨p1, p2, p3⟩ := stos_pgs hN nd hs hf h2
    exact pg_tup hc p1 p2 p3
  · exact sto_pg hN nd hs hf h1
theorem names_put {G : Pg} {H : Hp} : ∀ {is : List Nat} {ds : List D} {vs : List V} {σ : L2.St} {ρ : Fr} {fs : Nat → Fp} {Q : L2.St → Hp → Prop}, FR G H σ ρ fs → RepDs G.K H ds vs → is.length = ds.length →
    Put G H is σ ρ fs ((is.zip ds).foldl (fun ρ p => ρ.set p.1 (some (.v p.2))) ρ) Q → gNames is vs σ H Q
  | [], ds, vs, σ, ρ, fs, Q, F, r, hl, q => by
    have : ds = [] := List.length_eq_zero_iff.mp hl.symm
    subst this
    rw [RepDs] at r; subst r
    exact ⟨rfl, q σ fs F (fun i _ => ⟨rfl, rfl, rfl⟩) (fun i m => by cases m) rfl⟩
  | i :: is, [], vs, σ, ρ, fs, Q, F, r, hl, q => by cases hl
  | i :: is, d :: ds, vs, σ, ρ, fs, Q, F, r, hl, q => by
    rw [RepDs] at r
    obtain ⟨v, ws, rfl, r1, r2⟩ := r
    refine ⟨v, ws, rfl, ?_⟩
    refine names_put (F.set1 (i := i) r1) r2 (by simpa using hl) fun σ' fs' F' h1 h2 h3 => ?_
    refine q σ' fs' F' (fun j n => ?_) (fun j m a => ?_) (by rw [h3, List.length_set])
    · have nj : j ≠ i := fun z => n (by rw [z]; exact List.mem_cons_self)
      obtain ⟨a1, a2, a3⟩ := h1 j fun m => n (List.mem_cons_of_mem _ m)
      refine ⟨by rw [a1, List.getElem?_set_ne (Ne.symm nj)], ?_, by rw [a3, if_neg nj]⟩
      show ((is.zip ds).foldl (fun ρ p => ρ.set p.1 (some (.v p.2))) (ρ.set i (some (.v d))))[j]? = _
      rw [a2, List.getElem?_set_ne (Ne.symm nj)]
    · by_cases mi : j ∈ is
      · exact h2 j mi a
      · have e : j = i := by
          rcases List.mem_cons.mp m with m | m
          · exact m
          · exact absurd m mi
        rw [(h1 j mi).2.2, if_pos e]
        exact fun z => z
/-- the store of an item -/
theorem tg_put {G : Pg} {K : PySem.W.Frag} (hK : K = G.K) {H : Hp} {is : List Nat} {tg : Expr} {d : D} {x : V} {σ : L2.St} {ρ ρ' : Fr} {fs : Nat → Fp} {Q : L2.St → Hp → Prop} {N : List Str} {fn : Str → Bool} (h : tgB N sc fn is tg = true) (F : FR G H σ ρ fs) (r : RepD G.K H d x) (e : setTg is d ρ = some ρ') (q : Put G H is σ ρ fs ρ' Q) : gTg K is tg x σ H Q := by
  rcases tgB_cases h with ⟨es, k, p, rfl, h1, h2⟩ | ⟨i, x', p, rfl, rfl, h1⟩
  · unfold setTg at e
    split at e
    · simp at h1
    · rename_i ds _
      split at e
      · rename_i hl
        cases e
        rw [RepD] at r
        obtain ⟨a, vs, rfl, qa, z, rs⟩ := r
        refine ⟨a, vs, rfl, by rw [hK]; exact qa.sq, by rw [hl, rs.length], names_put F rs hl q⟩
      · cases e
    · cases e
  · have e : (if i < ρ.length then some (ρ.set i (some (.v d))) else none) = some ρ' := e
    split at e
    · cases e
      refine q _ _ (F.set1 (i := i) r) (fun j n => ?_) (fun j m a => ?_) (by rw [List.length_set])
      · have nj : j ≠ i := fun z => n (by rw [z]; exact List.mem_singleton_self i)
        exact ⟨List.getElem?_set_ne (Ne.symm nj), List.getElem?_set_ne (Ne.symm nj), if_neg nj⟩
      · have e : j = i := List.mem_singleton.mp m
        show ¬ (if j = i then none' else fs j) a
        rw [if_pos e]; exact fun z => z
    · cases e
end Vm
/-! VmV -/
namespace Vm
open PySem L2

variable {Γ : Gx} {Y : Cx} {sc : Scope} {W : WX} {e : Expr}
theorem unsetN_len : ∀ {t : List Nat} {ρ : Fr}, (unsetN t ρ).length = ρ.length
  | [], ρ => rfl
  | i :: t, ρ => by
    show (unsetN t (ρ.set i none)).length = _
    rw [unsetN_len, List.length_set]
theorem unsetN_out : ∀ {t : List Nat} {ρ : Fr} {j : Nat}, j ∉ t → (unsetN t ρ)[j]? = ρ[j]?
  | [], ρ, j, h => rfl
  | i :: t, ρ, j, h => by
    show (unsetN t (ρ.set i none))[j]? = _
    rw [unsetN_out fun m => h (List.mem_cons_of_mem _ m), List.getElem?_set_ne fun z => h (by rw [z]; exact List.mem_cons_self)]
theorem unsetN_in : ∀ {t : List Nat} {ρ : Fr} {j : Nat}, j ∈ t → j < ρ.length → (unsetN t ρ)[j]? = some none
  | i :: t, ρ, j, h, hl => by
    show (unsetN t (ρ.set i none))[j]? = _
    by_cases m : j ∈ t
    · exact unsetN_in m (by rw [List.length_set]; exact hl)
    · rw [unsetN_out m]
      have : j = i := by
        rcases List.mem_cons.mp h with h | h
        · exact h
        · exact absurd h m
      subst this
      exact List.getElem?_set_self hl
theorem unsetN_some {t : List Nat} {ρ : Fr} {j : Nat} {s : S} (h : (unsetN t ρ)[j]? = some (some s)) : j ∉ t ∧ ρ[j]? = some (some s) := by
  by_cases m : j ∈ t
  · have hl : j < ρ.length := by
      have := (List.getElem?_eq_some_iff.mp h).1
      rwa [unsetN_len] at this
    rw [unsetN_in m hl] at h; cases h
  · rw [unsetN_out m] at h; exact ⟨m, h⟩
theorem wipe_in {σ : L2.St} : ∀ {t : List Nat} {j : Nat}, j ∈ t → j < σ.length → (wipe σ t)[j]? = some none
  | i :: t, j, h, hl => by
    show ((wipe σ t).set i none)[j]? = _
    by_cases hj : i = j
    · subst hj; exact List.getElem?_set_self (by rw [wipe_length]; exact hl)
    · rw [List.getElem?_set_ne hj]
      rcases List.mem_cons.mp h with h | h
      · exact absurd h.symm hj
      · exact wipe_in h hl
theorem wipe_eq {σ σ' : L2.St} {t : List Nat} (hl : σ'.length = σ.length) (h : ∀ j, j ∉ t → σ'[j]? = σ[j]?) : wipe σ' t = wipe σ t := by
  apply List.ext_getElem?
  intro j
  by_cases m : j ∈ t
  · by_cases hj : j < σ.length
    · rw [wipe_in m hj, wipe_in m (by rw [hl]; exact hj)]
    · rw [List.getElem?_eq_none (by rw [wipe_length]; omega), List.getElem?_eq_none (by rw [wipe_length]; omega)]
  · rw [wipe_out m, wipe_out m, h j m]
theorem sets_agree : ∀ {is : List Nat} {ds : List D} {ρa ρb : Fr}, is.length = ds.length → ρa.length = ρb.length → (∀ j, j ∉ is → ρa[j]? = ρb[j]?) →
    (is.zip ds).foldl (fun (ρ : Fr) p => ρ.set p.1 (some (.v p.2))) ρa = (is.zip ds).foldl (fun (ρ : Fr) p => ρ.set p.1 (some (.v p.2))) ρb
  | [], ds, ρa, ρb, h, hl, ha => by
    have e : ρa = ρb := List.ext_getElem? fun j => ha j (by simp)
    rw [e]
  | i :: is, [], ρa, ρb, h, hl, ha => by cases h
  | i :: is, d :: ds, ρa, ρb, h, hl, ha => by
    simp only [List.zip_cons_cons, List.foldl_cons]
    refine sets_agree (by simpa using h) (by rw [List.length_set, List.length_set]; exact hl) fun j n => ?_
    by_cases hj : i = j
    · subst hj
      by_cases hlt : i < ρa.length
      · rw [List.getElem?_set_self hlt, List.getElem?_set_self (by rw [← hl]; exact hlt)]
      · rw [List.getElem?_eq_none (by rw [List.length_set]; omega), List.getElem?_eq_none (by rw [List.length_set]; omega)]
    · rw [List.getElem?_set_ne hj, List.getElem?_set_ne hj]
      exact ha j fun m => by
        rcases List.mem_cons.mp m with m | m
        · exact hj m.symm
        · exact n m
theorem setTg_agree {is : List Nat} {d : D} {ρa ρb : Fr} (hl : ρa.length = ρb.length) (ha : ∀ j, j ∉ is → ρa[j]? = ρb[j]?) : setTg is d ρa = setTg is d ρb := by
  have tup : ∀ k ds, is.length ≠ 1 → setTg is (.tup k ds) ρa = setTg is (.tup k ds) ρb := fun k ds h1 => by
    have e : ∀ ρ : Fr, setTg is (.tup k ds) ρ = if is.length = ds.length then some ((is.zip ds).foldl (fun ρ p => ρ.set p.1 (some (.v p.2))) ρ) else none := fun ρ => by
      unfold setTg
      split
      · simp at h1
      · rename_i heq
        injection heq with _ heq
        subst heq
        rfl
      · rename_i hn; exact absurd rfl (hn k ds)
    rw [e, e]
    by_cases h : is.length = ds.length
    · rw [if_pos h, if_pos h, sets_agree h hl ha]
    · rw [if_neg h, if_neg h]
  cases is with
  | nil =>
    cases d <;> first
      | rfl
      | exact tup _ _ (by simp)
  | cons i r =>
    cases r with
    | nil =>
      show (if i < ρa.length then some (ρa.set i (some (.v d))) else none) = if i < ρb.length then some (ρb.set i (some (.v d))) else none
      rw [hl]
      have e : ρa.set i (some (.v d)) = ρb.set i (some (.v d)) := sets_agree (is := [i]) (ds := [d]) rfl hl ha
      rw [e]
    | cons j r =>
      cases d <;> first
        | rfl
        | exact tup _ _ (by simp)
/-- the places off t -/
def fsU (t : List Nat) (fs : Nat → Fp) : Nat → Fp := fun i => if i ∈ t then none' else fs i
theorem fsU_in {t : List Nat} {fs : Nat → Fp} {i : Nat} (h : i ∈ t) : fsU t fs i = none' := if_pos h
theorem fsU_out {t : List Nat} {fs : Nat → Fp} {i : Nat} (h : i ∉ t) : fsU t fs i = fs i := if_neg h
/-- a block's state: entered at H0, the own slots t unset there -/
structure BS (G : Pg) (σ : L2.St) (t M : List Nat) (H0 : Hp) (ρ0 : Fr) (fs0 : Nat → Fp) (H : Hp) (σ' : L2.St) (ρ : Fr) (fs : Nat → Fp) : Prop where
  fr : FR G H σ' ρ fs
  st : Step H0 (unsetN t ρ0) (fsU t fs0) M H (unsetN t ρ) (fsU t fs)
  wi : wipe σ' t = wipe σ t
  ln : σ'.length = σ.length
theorem U_off {t M : List Nat} {fs : Nat → Fp} (h : ∀ i, i ∈ t → i ∉ M) {a : Addr} : U (fsU t fs) M a ↔ U fs M a :=
  ⟨fun ⟨i, m, z⟩ => ⟨i, m, by rw [fsU_out fun k => h i k m] at z; exact z⟩, fun ⟨i, m, z⟩ => ⟨i, m, by rw [fsU_out fun k => h i k m]; exact z⟩⟩
section
variable {G : Pg} {σ : L2.St} {t M M' : List Nat} {H0 H H' : Hp} {ρ0 ρ ρ' : Fr} {fs0 fs fs' : Nat → Fp} {σ' : L2.St}
theorem FR.off (F : FR G H σ' ρ fs) : FR G H (wipe σ' t) (unsetN t ρ) (fsU t fs) := by
  refine ⟨by rw [unsetN_len, wipe_length]; exact F.len, fun j s e => ?_, fun j k a h1 h2 => ?_, fun j a h => ?_⟩
  · obtain ⟨n, e⟩ := unsetN_some e
    obtain ⟨v, ev, r⟩ := F.rep j s e
    exact ⟨v, by rw [wipe_out n]; exact ev, by rw [fsU_out n]; exact r⟩
  · by_cases hj : j ∈ t
    · rw [fsU_in hj] at h1; exact h1.elim
    · by_cases hk : k ∈ t
      · rw [fsU_in hk] at h2; exact h2.elim
      · rw [fsU_out hj] at h1; rw [fsU_out hk] at h2; exact F.dis j k a h1 h2
  · by_cases hj : j ∈ t
    · rw [fsU_in hj] at h; exact h.elim
    · rw [fsU_out hj] at h; exact F.trk j a h
theorem BS.head (b : BS G σ t M H0 ρ0 fs0 H σ' ρ fs) : FR G H (wipe σ t) (unsetN t ρ) (fsU t fs) := by rw [← b.wi]; exact b.fr.off
/-- a step inside -/
theorem BS.step (b : BS G σ t M H0 ρ0 fs0 H σ' ρ fs) (F : FR G H' σ' ρ' fs') (st : Step H ρ fs M' H' ρ' fs') (h1 : ∀ i, i ∈ M' → i ∈ M) (h2 : ∀ i, i ∈ t → i ∉ M') : BS G σ t M H0 ρ0 fs0 H' σ' ρ' fs' := by
  refine ⟨F, b.st.trans (Step.mono (M := M') ⟨st.keep.mono fun a h => (U_off h2).mpr h, fun i n => ?_, fun i a m h => ?_⟩ h1), b.wi, b.ln⟩
  · by_cases hi : i ∈ t
    · refine ⟨?_, by rw [fsU_in hi, fsU_in hi]⟩
      by_cases hl : i < ρ.length
      · rw [unsetN_in hi hl, unsetN_in hi (by rw [F.len, ← b.fr.len]; exact hl)]
      · rw [List.getElem?_eq_none (by rw [unsetN_len, F.len, ← b.fr.len]; omega), List.getElem?_eq_none (by rw [unsetN_len]; omega)]
    · rw [unsetN_out hi, unsetN_out hi, fsU_out hi, fsU_out hi]
      exact st.same i n
  · have hi : i ∉ t := fun k => h2 i k m
    rw [fsU_out hi] at h
    exact (st.sub i a m h).imp (U_off h2).mpr id
/-- the heap alone grows, or changes where nothing is held -/
theorem BS.grow {F : Fp} (b : BS G σ t M H0 ρ0 fs0 H σ' ρ fs) (k : Keep H H' F) (n : ∀ i a, fs i a → ¬ F a) (hF : ∀ a, F a → H0 a = none ∨ U (fsU t fs0) M a) : BS G σ t M H0 ρ0 fs0 H' σ' ρ fs := by
  refine ⟨b.fr.keep k n, ⟨⟨fun a o e p => ?_, fun a e => b.st.keep.dom a (k.dom a e)⟩, b.st.same, b.st.sub⟩, b.wi, b.ln⟩
  refine k.at' a o (b.st.keep.at' a o e p) (p.imp id fun h z => ?_)
  rcases hF a z with y | y
  · rw [e] at y; cases y
  · exact h y
/-- a turn's store -/
theorem BS.put {is : List Nat} {tg : Expr} {N : List Str} {fn : Str → Bool} {K : PySem.W.Frag} {d : D} {x : V} {Q : L2.St → Hp → Prop} (hK : K = G.K) (b : BS G σ t M H0 ρ0 fs0 H σ' ρ fs) (ht : ∀ i, i ∈ is → i ∈ t) (h : tgB N sc fn is tg = true) (r : RepD G.K H d x) (e : setTg is d ρ = some ρ')
    (q : ∀ σ2 fs2, BS G σ t M H0 ρ0 fs0 H σ2 ρ' fs2 → (∀ i, i ∉ is → fs2 i = fs i) → (∀ i, i ∈ is → ∀ a, ¬ fs2 i a) → Q σ2 H) : gTg K is tg x σ' H Q := by
  refine tg_put hK h b.fr r e fun σ2 fs2 F h1 h2 h3 => q σ2 fs2 ⟨F, ?_, ?_, h3.trans b.ln⟩ (fun i n => (h1 i n).2.2) h2
  · have e1 : unsetN t ρ' = unsetN t ρ := by
      apply List.ext_getElem?
      intro j
      by_cases hj : j ∈ t
      · by_cases hl : j < ρ.length
        · rw [unsetN_in hj hl, unsetN_in hj (by rw [F.len, h3, ← b.fr.len]; exact hl)]
        · rw [List.getElem?_eq_none (by rw [unsetN_len, F.len, h3, ← b.fr.len]; omega), List.getElem?_eq_none (by rw [unsetN_len]; omega)]
      · rw [unsetN_out hj, unsetN_out hj, (h1 j fun m => hj (ht j m)).2.1]
    have e2 : fsU t fs2 = fsU t fs := by
      funext j
      by_cases hj : j ∈ t
      · rw [fsU_in hj, fsU_in hj]
      · rw [fsU_out hj, fsU_out hj, (h1 j fun m => hj (ht j m)).2.2]
    rw [e1, e2]; exact b.st
  · rw [← b.wi]
    exact wipe_eq h3 fun j n => (h1 j fun m => n (ht j m)).1
end
/-- tests -/
theorem pts_all (c : Cok Γ.g Γ.G Γ.C Y sc W) {cs : Xs} {ifs : List Expr} (h : XsOk Γ cs) (hc : chks Γ.g cs sc ifs = true) (hl : cs.len ≤ 1) : PTs Y ifs (tT Γ.G W (mutXs Γ.g cs) (tAndL (dens Γ.C cs))) := by
  cases cs with
  | nil =>
    rw [chks_nil hc]
    refine ⟨fun pins s σ H Q I ⟨ρ, fs, F, q⟩ => pts_nil.run pins s σ H Q I ?_⟩
    exact q H fs F .refl
  | cons x xs =>
    cases xs with
    | cons _ _ => simp [Xs.len] at hl
    | nil =>
      obtain ⟨e, es, rfl, h1, h2⟩ := chks_cons hc
      rw [chks_nil h2]
      refine ⟨fun pins s σ H Q I ⟨ρ, fs, F, q⟩ => (pts_one (h.hd.pt c h1)).run pins s σ H Q I ⟨ρ, fs, F, ?_⟩⟩
      have q : Run Γ.G W σ H ρ fs (mutX Γ.g x ++ []) (fun b ρ' H' fs' => Q b H') (((den Γ.C x).ts ρ).bind fun b ρ => if b then .ok true ρ else .ok false ρ) := q
      refine (Run.bind (M1 := mutX Γ.g x) (M2 := []) q (fun i m => List.mem_append_left _ m) (fun i m => by cases m)).imp fun t ρ1 H1 fs1 F1 st1 q1 => ?_
      cases t <;> exact q1 H1 fs1 F1 .refl
end Vm
/-! VmW -/
namespace Vm
open PySem L2

variable {Γ : Gx} {Y : Cx} {sc : Scope} {W : WX} {e : Expr}
theorem unset_len {ρ : Fr} : ∀ {t : List Nat} {ρ' : Fr}, (unset t ρ ρ').length = ρ'.length
  | [], ρ' => rfl
  | i :: t, ρ' => by
    show (unset t ρ (ρ'.set i (ρ[i]?).join)).length = _
    rw [unset_len, List.length_set]
theorem unset_out {ρ : Fr} : ∀ {t : List Nat} {ρ' : Fr} {j : Nat}, j ∉ t → (unset t ρ ρ')[j]? = ρ'[j]?
  | [], ρ', j, h => rfl
  | i :: t, ρ', j, h => by
    show (unset t ρ (ρ'.set i (ρ[i]?).join))[j]? = _
    rw [unset_out fun m => h (List.mem_cons_of_mem _ m), List.getElem?_set_ne fun z => h (by rw [z]; exact List.mem_cons_self)]
theorem unset_in {ρ : Fr} : ∀ {t : List Nat} {ρ' : Fr} {j : Nat}, j ∈ t → ρ'.length = ρ.length → (unset t ρ ρ')[j]? = ρ[j]?
  | i :: t, ρ', j, h, hl => by
    show (unset t ρ (ρ'.set i (ρ[i]?).join))[j]? = _
    by_cases m : j ∈ t
    · exact unset_in m (by rw [List.length_set]; exact hl)
    · rw [unset_out m]
      have : j = i := by
        rcases List.mem_cons.mp h with h | h
        · exact h
        · exact absurd h m
      subst this
      by_cases hj : j < ρ.length
      · rw [List.getElem?_set_self (by rw [hl]; exact hj), List.getElem?_eq_getElem hj]; rfl
      · rw [List.getElem?_eq_none (by rw [List.length_set]; omega), List.getElem?_eq_none (by omega)]
def finU (t : List Nat) (fs1 fs : Nat → Fp) : Nat → Fp := fun i => if i ∈ t then fs1 i else fs i
section
variable {G : Pg} {σ : L2.St} {t M : List Nat} {H1 H : Hp} {ρ1 ρc : Fr} {fs1 fsc : Nat → Fp}
/-- a block's end -/
theorem BS.done (F1 : FR G H1 σ ρ1 fs1) (b : BS G σ t M H1 ρ1 fs1 H (wipe σ t) (unsetN t ρc) fsc) (tM : ∀ i, i ∈ t → i ∉ M) :
    FR G H σ (unset t ρ1 ρc) (finU t fs1 fsc) ∧ Step H1 ρ1 fs1 M H (unset t ρ1 ρc) (finU t fs1 fsc) := by
  have hl : ρc.length = ρ1.length := by
    have := b.fr.len
    rw [unsetN_len, wipe_length] at this
    rw [this, F1.len]
  have kp : Keep H1 H (U fs1 M) := b.st.keep.mono fun a h => (U_off tM).mp h
  have offM : ∀ {i a}, i ∉ M → i ∉ t → fsc i a → fs1 i a := fun {i a} n h z => by
    have e := (b.st.same i n).2
    rw [fsU_out h, fsU_out h] at e
    rw [e] at z; exact z
  have inM : ∀ {i a}, i ∈ M → fsc i a → U fs1 M a ∨ H1 a = none := fun {i a} m z => by
    have h : i ∉ t := fun k => tM i k m
    exact (b.st.sub i a m (by rw [fsU_out h]; exact z)).imp (U_off tM).mp id
  refine ⟨⟨by rw [unset_len, hl]; exact F1.len, fun j s e => ?_, fun j k a h1 h2 => ?_, fun j a h => ?_⟩, ⟨kp, fun i n => ?_, fun i a m h => ?_⟩⟩
  · by_cases h : j ∈ t
    · rw [unset_in h hl] at e
      obtain ⟨v, ev, r⟩ := F1.rep j s e
      refine ⟨v, ev, ?_⟩
      unfold finU
      rw [if_pos h]
      exact r.imp (fun r => RepS.keep kp _ _ r fun a z ⟨i, m, y⟩ => tM j h (F1.dis j i a z y ▸ m)) (ExnAt.keep kp)
    · rw [unset_out h] at e
      obtain ⟨v, ev, r⟩ := b.fr.rep j s (by rw [unsetN_out h]; exact e)
      rw [wipe_out h] at ev
      refine ⟨v, ev, ?_⟩
      unfold finU
      rw [if_neg h]; exact r
  · unfold finU at h1 h2
    have mix : ∀ {j k}, j ∈ t → k ∉ t → fs1 j a → fsc k a → False := fun {j k} hj hk z y => by
      by_cases m : k ∈ M
      · rcases inM m y with ⟨i, im, x⟩ | x
        · exact tM j hj (F1.dis j i a z x ▸ im)
        · exact F1.trk j a z x
      · exact hk (F1.dis j k a z (offM m hk y) ▸ hj)
    by_cases hj : j ∈ t <;> by_cases hk : k ∈ t
    · rw [if_pos hj] at h1; rw [if_pos hk] at h2; exact F1.dis j k a h1 h2
    · rw [if_pos hj] at h1; rw [if_neg hk] at h2; exact (mix hj hk h1 h2).elim
    · rw [if_neg hj] at h1; rw [if_pos hk] at h2; exact (mix hk hj h2 h1).elim
    · rw [if_neg hj] at h1; rw [if_neg hk] at h2; exact b.fr.dis j k a h1 h2
  · unfold finU at h
    by_cases hj : j ∈ t
    · rw [if_pos hj] at h; exact fun z => F1.trk j a h (kp.dom a z)
    · rw [if_neg hj] at h; exact b.fr.trk j a h
  · by_cases h : i ∈ t
    · exact ⟨unset_in h hl, by unfold finU; rw [if_pos h]⟩
    · have e := b.st.same i n
      rw [unsetN_out h, unsetN_out h, unsetN_out h, fsU_out h, fsU_out h] at e
      exact ⟨by rw [unset_out h]; exact e.1, by unfold finU; rw [if_neg h]; exact e.2⟩
  · have hi : i ∉ t := fun k => tM i k m
    unfold finU at h
    rw [if_neg hi] at h
    exact inM m h
end
theorem apartL_of {rs M : List Nat} (h : apartL rs M = true) : ∀ i, i ∈ rs → i ∉ M := fun i m k => by
  unfold apartL at h
  have := List.all_eq_true.mp h i m
  simp [List.contains_iff_mem, k] at this
theorem stosB_ix {N : List Str} {fn : Str → Bool} : ∀ {is : List Nat} {es : List Expr}, stosB N sc fn is es = true → (ownOf N is).map (·.2) = is
  | [], es, h => rfl
  | i :: is, [], h => ff h
  | i :: is, e :: es, h => by
    have h : (stoB N sc fn i e && stosB N sc fn is es) = true := h
    rw [Bool.and_eq_true] at h
    have ih := stosB_ix h.2
    have h1 := h.1
    cases e with
    | Name x p =>
      have h1 : (decide (N[i]? = some x) && (decide (sc.names.lookup x = some .local) || (decide (sc.names.lookup x = some .cell) && fn x))) = true := h1
      rw [Bool.and_eq_true, decide_eq_true_eq] at h1
      unfold ownOf
      rw [List.filterMap_cons, h1.1]
      show i :: (ownOf N is).map (·.2) = i :: is
      rw [ih]
    | _ => exact ff h1
theorem tgB_ix {N : List Str} {fn : Str → Bool} {is : List Nat} {tg : Expr} (h : tgB N sc fn is tg = true) : (ownOf N is).map (·.2) = is := by
  rcases tgB_cases h with ⟨es, k, p, rfl, h1, h2⟩ | ⟨i, x, p, rfl, rfl, h1⟩
  · exact stosB_ix h2
  · exact stosB_ix (is := [i]) (es := [.Name x p]) (show (stoB N sc fn i (.Name x p) && true) = true by rw [h1]; rfl)
theorem lcGo_cons {t : List Nat} {ts : Fr → R Bool} {el : Fr → R S} {d : D} {r : List D} {ρ ρF : Fr} {acc l : List D} (h : lcGo t ts el (d :: r) ρ acc = .ok l ρF) :
    ∃ ρ1 b ρ2, setTg t d ρ = some ρ1 ∧ ts ρ1 = .ok b ρ2 ∧ ((b = false ∧ lcGo t ts el r ρ2 acc = .ok l ρF) ∨ (b = true ∧ ∃ x ρ3, el ρ2 = .ok (.v x) ρ3 ∧ lcGo t ts el r ρ3 (x :: acc) = .ok l ρF)) := by
  unfold lcGo at h
  split at h
  · cases h
  · rename_i ρ1 e1
    split at h
    · rename_i ρ2 e2
      exact ⟨ρ1, false, ρ2, e1, e2, .inl ⟨rfl, h⟩⟩
    · rename_i ρ2 e2
      split at h
      · rename_i x ρ3 e3
        exact ⟨ρ1, true, ρ2, e1, e2, .inr ⟨rfl, x, ρ3, e3, h⟩⟩
      · cases h
    · cases h
theorem lcGo_len {t : List Nat} {ts : Fr → R Bool} {el : Fr → R S} : ∀ {ds : List D} {ρ ρF : Fr} {acc l : List D}, lcGo t ts el ds ρ acc = .ok l ρF → acc.length ≤ l.length
  | [], ρ, ρF, acc, l, h => by
    unfold lcGo at h
    cases h
    rw [List.length_reverse]; exact Nat.le_refl _
  | d :: r, ρ, ρF, acc, l, h => by
    obtain ⟨ρ1, b, ρ2, e1, e2, h⟩ := lcGo_cons h
    rcases h with ⟨_, h⟩ | ⟨_, x, ρ3, _, h⟩
    · exact lcGo_len h
    · have := lcGo_len h
      rw [List.length_cons] at this; omega
/-- a turn of a block: the item is put, the tests are asked -/
theorem blk_turn {G : Pg} {σ : L2.St} {t M Mc : List Nat} {H0 H H' : Hp} {ρ0 ρc ρ2 ρ3 : Fr} {fs0 fsc : Nat → Fp} {tg : Expr} {N : List Str} {fn : Str → Bool} {K : PySem.W.Frag} {d : D} {x : V} {b : Bool} {ts : Fr → R Bool} {Q : L2.St → Hp → (Nat → Fp) → Prop}
    (hK : K = G.K) (hb : BS G σ t M H0 ρ0 fs0 H (wipe σ t) (unsetN t ρc) fsc) (ht : tgB N sc fn t tg = true) (k : Keep H H' none') (r : RepD G.K H' d x) (e : setTg t d ρc = some ρ2) (et : ts ρ2 = .ok b ρ3) (h1 : ∀ i, i ∈ Mc → i ∈ M) (h2 : ∀ i, i ∈ t → i ∉ M)
    (q : ∀ σ2 H3 fs3, BS G σ t M H0 ρ0 fs0 H3 σ2 ρ3 fs3 → Keep H' H3 (U fsc M) → (∀ a, H' a ≠ none → (∀ i, ¬ fsc i a) → ∀ i, ¬ fs3 i a) → Q σ2 H3 fs3) :
    gTg K t tg x (wipe σ t) H' fun σ2 H2 => wipe σ2 t = wipe σ t ∧ tT G WF Mc ts σ2 H2 fun b' H3 => b' = b ∧ ∃ fs3, Q σ2 H3 fs3 := by
  have b1 := hb.grow k (fun _ _ _ z => z) (fun _ z => z.elim)
  have e' : setTg t d (unsetN t ρc) = some ρ2 := by rw [← e]; exact setTg_agree unsetN_len fun j n => unsetN_out n
  refine b1.put hK (fun i m => m) ht r e' fun σ2 fs2 b2 p1 p2 => ⟨b2.wi, ρ2, fs2, b2.fr, ?_⟩
  rw [et]
  intro H3 fs3 F3 st3
  have up : ∀ a, U fs2 Mc a → U fsc M a := fun a ⟨i, m, z⟩ => by
    have hi : i ∉ t := fun y => h2 i y (h1 i m)
    rw [p1 i hi] at z
    exact ⟨i, h1 i m, z⟩
  refine ⟨rfl, fs3, q σ2 H3 fs3 (b2.step F3 st3 h1 fun i m z => h2 i m (h1 i z)) (st3.keep.mono up) fun a ha hn i z => ?_⟩
  by_cases m : i ∈ Mc
  · rcases st3.sub i a m z with y | y
    · obtain ⟨j, _, y⟩ := up a y
      exact hn j y
    · exact ha y
  · rw [(st3.same i m).2] at z
    by_cases hi : i ∈ t
    · exact p2 i hi a z
    · rw [p1 i hi] at z; exact hn i z
/-- to the head of the next turn -/
theorem unsetN_idem {t : List Nat} {ρ : Fr} : unsetN t (unsetN t ρ) = unsetN t ρ := by
  apply List.ext_getElem?
  intro j
  by_cases m : j ∈ t
  · by_cases hj : j < ρ.length
    · rw [unsetN_in m hj, unsetN_in m (by rw [unsetN_len]; exact hj)]
    · rw [List.getElem?_eq_none (by rw [unsetN_len, unsetN_len]; omega), List.getElem?_eq_none (by rw [unsetN_len]; omega)]
  · rw [unsetN_out m]
theorem fsU_idem {t : List Nat} {fs : Nat → Fp} : fsU t (fsU t fs) = fsU t fs := by
  funext i
  by_cases m : i ∈ t
  · rw [fsU_in m, fsU_in m]
  · rw [fsU_out m]
theorem BS.toHead {G : Pg} {σ : L2.St} {t M : List Nat} {H0 H : Hp} {ρ0 ρ : Fr} {fs0 fs : Nat → Fp} {σ' : L2.St} (b : BS G σ t M H0 ρ0 fs0 H σ' ρ fs) : BS G σ t M H0 ρ0 fs0 H (wipe σ t) (unsetN t ρ) (fsU t fs) :=
  ⟨b.head, by rw [unsetN_idem, fsU_idem]; exact b.st, wipe_eq (by rw [wipe_length]) fun j n => wipe_out n, by rw [wipe_length]⟩
theorem gNames_mono {Q Q' : L2.St → Hp → Prop} (h : ∀ σ H, Q σ H → Q' σ H) : ∀ {is : List Nat} {vs : List V} {σ : L2.St} {H : Hp}, gNames is vs σ H Q → gNames is vs σ H Q'
  | [], vs, σ, H, ⟨e, q⟩ => ⟨e, h _ _ q⟩
  | i :: is, vs, σ, H, ⟨v, r, e, q⟩ => ⟨v, r, e, gNames_mono h (is := is) q⟩
theorem gTg_mono {K : PySem.W.Frag} {is : List Nat} {tg : Expr} {x : V} {σ : L2.St} {H : Hp} {Q Q' : L2.St → Hp → Prop} (h : ∀ σ H, Q σ H → Q' σ H) (q : gTg K is tg x σ H Q) : gTg K is tg x σ H Q' := by
  cases tg with
  | Tuple es k p =>
    obtain ⟨a, xs, e1, e2, e3, q⟩ := q
    exact ⟨a, xs, e1, e2, e3, gNames_mono h q⟩
  | _ =>
    cases is with
    | nil => exact q
    | cons i r => cases r with
      | nil => exact h _ _ q
      | cons _ _ => exact q
end Vm
/-! VmX -/
namespace Vm
open PySem L2

variable {Γ : Gx} {Y : Cx} {sc : Scope} {W : WX} {e : Expr}
/-- what is walked stays within a block -/
theorem src_stays {G : Pg} {S : Fp} {rs M t : List Nat} {H1 H : Hp} {σ : L2.St} {ρ1 ρc : Fr} {fs1 fsc : Nat → Fp} {σ' : L2.St} (F1 : FR G H1 σ ρ1 fs1) (pl : ∀ a, S a → (∃ i, i ∈ rs ∧ fs1 i a) ∨ ∀ i, ¬ fs1 i a) (tr : ∀ a, S a → H1 a ≠ none) (hr : ∀ i, i ∈ rs → i ∉ M) (tM : ∀ i, i ∈ t → i ∉ M)
    (b : BS G σ t M H1 ρ1 fs1 H σ' ρc fsc) : ∀ a, S a → ¬ U fsc M a := fun a sa ⟨i, m, z⟩ => by
  have hi : i ∉ t := fun y => tM i y m
  rcases b.st.sub i a m (by rw [fsU_out hi]; exact z) with h | h
  · obtain ⟨i, m, z⟩ := (U_off tM).mp h
    rcases pl a sa with ⟨j, jm, y⟩ | y
    · exact hr j jm (F1.dis i j a z y ▸ m)
    · exact y i z
  · exact tr a sa h
/-- a comprehension: as a value, or stored into a name at once -/
def CompOk (Γ : Gx) (x : X) : Prop := ∀ {Y sc W e}, Cok Γ.g Γ.G Γ.C Y sc W → chk Γ.g x sc e = true → ∃ te : TE, PE Y e te ∧ (∀ (i : Nat) (y : Str) (py spos : Pos), Y.N[i]? = some y → Y.env.scope.names.lookup y = some .local → swapsWith e (some (.Name y py)) spos.line Y.env = pure true → PS Y (.Assign [.Name y py] e spos) (tAsg te (gName i))) ∧
  ∀ σ H Q, tV Γ.G W (root x) (mutX Γ.g x) (den Γ.C x).pk σ H Q → te σ H Q
theorem xok_comp {x : X} {p : Fr → R S} (h : CompOk Γ x) (hd : den Γ.C x = Den.of p) (pl : ∀ {sc e}, chk Γ.g x sc e = true → plainB e = true ∧ testPlainB e = true) : XOk Γ x :=
  XOk.of hd (fun c hc => by
    obtain ⟨te, p1, _, p3⟩ := h c hc
    rw [hd] at p3
    exact PE.imp p1 p3) pl
theorem lc_plain {x it : X} {t : List Nat} {cs : Xs} {sc : Scope} {e : Expr} (h : chk Γ.g (.lc x t it cs) sc e = true) : plainB e = true ∧ testPlainB e = true := by
  unfold chk at h
  split at h
  · exact ⟨rfl, rfl⟩
  · exact ff h
theorem comp_lc {x it : X} {t : List Nat} {cs : Xs} (hx : XOk Γ x) (hit : XOk Γ it) (hii : IOk Γ it) (hcs : XsOk Γ cs) : CompOk Γ (.lc x t it cs) := by
  have sh : ∀ {sc e}, chk Γ.g (.lc x t it cs) sc e = true → ∃ elt tg iter ifs scope p, e = .ListComp elt [⟨tg, iter, ifs, 0⟩] scope p ∧ Γ.g.hot = false ∧ itOkB it tg = true ∧ chk Γ.g it sc iter = true ∧ blkC Γ.g.N sc scope (ownOf Γ.g.N t) = true ∧ tgB Γ.g.N (relS scope sc) (fun x => scope.names.lookup x == some .cell) t tg = true ∧
      chks Γ.g cs (relS scope sc) ifs = true ∧ chk Γ.g x (relS scope sc) elt = true ∧ cs.len ≤ 1 ∧ apartL t (mutXs Γ.g cs ++ mutX Γ.g x) = true ∧ apartL (roots it) (mutXs Γ.g cs ++ mutX Γ.g x) = true := fun {sc e} h => by
    unfold chk at h
    split at h
    · simp only [Bool.and_eq_true, decide_eq_true_eq, Bool.not_eq_true'] at h
      obtain ⟨⟨⟨⟨⟨⟨⟨⟨⟨h1, h2⟩, h3⟩, h4⟩, h5⟩, h6⟩, h7⟩, h8⟩, h9⟩, h10⟩ := h
      exact ⟨_, _, _, _, _, _, rfl, h1, h2, h3, h4, h5, h6, h7, h8, h9, h10⟩
    · exact ff h
  intro Y sc W e c hc
  obtain ⟨elt, tg, iter, ifs, scope, p, rfl, hh, h2, h3, h4, h5, h6, h7, h8, h9, h10⟩ := sh hc
  have own : (ownOf Γ.g.N t).map (·.2) = t := tgB_ix h5
  have tM := apartL_of h9
  have rM := apartL_of h10
  have cal := c.calm hh
  have hit' := hii c h3 h2 hh
  have hbl : BlkOk Y.N Y.env.scope scope (ownOf Γ.g.N t) := blkOk_by (by rw [c.N, c.sc]; exact h4)
  have main := pe_lc (g := gTg Y.K t tg) (tt := tT Γ.G WF (mutXs Γ.g cs) (tAndL (dens Γ.C cs))) (te := tV Γ.G WF none (mutX Γ.g x) (XD.ev (x, den Γ.C x))) (pos := p) cal (by rw [c.N]; exact c.nd) (hii c h3 h2 hh) (blkOk_by (by rw [c.N, c.sc]; exact h4))
    (fun s H C cl fp => tg_pg (X := Y.blk s H scope (compEnvC scope cl C Y.env) fp) (sc := relS scope sc) cal c.N c.nd (by show relS scope Y.env.scope = _; rw [c.sc]) (fun x _ h => h) h5)
    (fun s H C cl fp => pts_all (c.blk hh scope cl C s H fp) hcs h6 h8) (fun s H C cl fp => xd_ev hx (c.blk hh scope cl C s H fp) h7) (fun v => (plain_of (hit.pl h3)).fold Y.env v)
  have main2 := fun (i : Nat) (y : Str) (py spos : Pos) (h1 : Y.N[i]? = some y) (hl : Y.env.scope.names.lookup y = some .local) (hw : swapsWith (.ListComp elt [⟨tg, iter, ifs, 0⟩] scope p) (some (.Name y py)) spos.line Y.env = pure true) =>
    ps_setLc (i := i) (y := y) (py := py) (spos := spos) (g := gTg Y.K t tg) (tt := tT Γ.G WF (mutXs Γ.g cs) (tAndL (dens Γ.C cs))) (te := tV Γ.G WF none (mutX Γ.g x) (XD.ev (x, den Γ.C x))) (pos := p) cal (by rw [c.N]; exact c.nd) h1 hl hw hit' hbl
    (fun s H C cl fp => tg_pg (X := Y.blk s H scope (compEnvC scope cl C Y.env) fp) (sc := relS scope sc) cal c.N c.nd (by show relS scope Y.env.scope = _; rw [c.sc]) (fun x _ h => h) h5)
    (fun s H C cl fp => pts_all (c.blk hh scope cl C s H fp) hcs h6 h8) (fun s H C cl fp => xd_ev hx (c.blk hh scope cl C s H fp) h7) (fun v => (plain_of (hit.pl h3)).fold Y.env v)
  refine ⟨_, main, main2, fun σ H Q ⟨ρ, fs, F, q⟩ => ⟨ρ, fs, F, ?_⟩⟩
  rw [own]
  have q : Run Γ.G W σ H ρ fs (mutX Γ.g (.lc x t it cs)) (fun s ρ' H' fs' => ∀ v, VP none Γ.G H fs (mutX Γ.g (.lc x t it cs)) H' fs' s v → Q v H') (((den Γ.C it).it ρ).bind fun ds ρ => lcR t ρ (lcGo t (tAndL (dens Γ.C cs)) (XD.ev (x, den Γ.C x)) ds ρ [])) := q
  refine (Run.bindO (M1 := mutX Γ.g it) q (fun i m => List.mem_append_left _ m)).imp fun ds ρ1 H1 fs1 F1 st1 q1 J S Gd sr g1 pl tr D hD => ?_
  have kD : Keep H1 (upd H1 D (.lst [])) none' := Keep.new hD
  have hK : Y.K = Γ.G.K := c.K
  cases hgo : lcGo t (tAndL (dens Γ.C cs)) (XD.ev (x, den Γ.C x)) ds ρ1 [] with
  | bad => rw [hgo] at q1; exact q1.elim
  | ex _ _ => rw [hgo] at q1; exact q1.elim
  | ok l ρF =>
    rw [hgo] at q1
    have q1 : Run Γ.G W σ H ρ fs (mutX Γ.g (.lc x t it cs)) (fun s ρ' H' fs' => ∀ v, VP none Γ.G H fs (mutX Γ.g (.lc x t it cs)) H' fs' s v → Q v H') (if l.length ≤ lineN then .ok (.lst (l.map Vm.S.v)) (unset t ρ1 ρF) else .bad) := q1
    by_cases hll : l.length ≤ lineN
    · rw [if_pos hll] at q1
      let M := mutXs Γ.g cs ++ mutX Γ.g x
      let st : Nat → Hp → Prop := fun i H => ∃ ρc fsc acc accV, BS Γ.G σ t M H1 ρ1 fs1 H (wipe σ t) (unsetN t ρc) fsc ∧ (∀ i, ¬ fsc i D) ∧ Gd H ∧ H D = some (.lst accV) ∧ RepDs Γ.G.K H acc.reverse accV ∧
        lcGo t (tAndL (dens Γ.C cs)) (XD.ev (x, den Γ.C x)) (ds.drop i) ρc acc = .ok l ρF
      have b0 : BS Γ.G σ t M H1 ρ1 fs1 H1 σ ρ1 fs1 := ⟨F1, .refl, rfl, rfl⟩
      refine ⟨fun i m H => m = ds.length - i ∧ i ≤ ds.length ∧ st i H, ⟨ds.length, by simp, Nat.zero_le _, ρ1, fsU t fs1, [], [], b0.toHead.grow kD (fun _ _ _ z => z) (fun _ z => z.elim), fun i z => ?_, sr.keep _ _ _ g1 kD (fun _ _ z => z), upd_same, .nil, hgo⟩, ?_⟩
      · by_cases hi : i ∈ t
        · rw [fsU_in hi] at z; exact z
        · rw [fsU_out hi] at z; exact F1.trk i D z hD
      · rintro i m H2 ⟨rfl, hi, ρc, fsc, acc, accV, hb, nD, g2, hD2, ra, hg⟩
        by_cases hlt : i < ds.length
        · refine .inr ⟨sr.go i H2 g2 hlt, fun H' => st (i + 1) H', fun H' s' => ⟨ds.length - (i + 1), by omega, rfl, hlt, s'⟩, fun xv H' y => ?_⟩
          obtain ⟨k, rx⟩ := sr.yld i H2 xv H' ds[i] g2 (List.getElem?_eq_getElem hlt) y
          rw [List.drop_eq_getElem_cons hlt] at hg
          obtain ⟨ρ2, b, ρ3, e1, e2, hg⟩ := lcGo_cons hg
          have hD' : H' D = some (.lst accV) := k.at' _ _ hD2 (.inr fun z => z)
          have tb := blk_turn (Mc := mutXs Γ.g cs) (Q := fun σ2 H3 fs3 => BS Γ.G σ t M H1 ρ1 fs1 H3 σ2 ρ3 fs3 ∧ (∀ i, ¬ fs3 i D) ∧ Gd H3 ∧ H3 D = some (.lst accV) ∧ RepDs Γ.G.K H3 acc.reverse accV)
            hK hb h5 k rx e1 e2 (fun i m => List.mem_append_left _ m) tM fun σ2 H3 fs3 b3 kk nn => ⟨b3, nn D (by rw [hD']; exact fun z => by cases z) nD,
              sr.keep _ _ _ (sr.keep _ _ _ g2 k fun _ _ z => z) kk (src_stays F1 pl tr rM tM hb), kk.at' _ _ hD' (.inr fun ⟨j, _, z⟩ => nD j z), RepDs.keep kk _ _ (RepDs.keep k _ _ ra)⟩
          refine gTg_mono (fun σ2 H3 z => ?_) tb
          obtain ⟨z1, ρ0', fs0', F0', z2⟩ := z
          refine ⟨z1, ρ0', fs0', F0', z2.imp fun b' ρ'' H4 fs4 F4 st4 z3 => ?_⟩
          obtain ⟨rfl, fs5, b5, n5, g5, hD5, r5⟩ := z3
          rcases hg with ⟨rfl, hg⟩ | ⟨rfl, xv2, ρ4, e3, hg⟩
          · rw [if_neg (by decide)]
            refine ⟨ρ3, fsU t fs5, acc, accV, b5.toHead, fun i z => ?_, g5, hD5, r5, hg⟩
            by_cases hi : i ∈ t
            · rw [fsU_in hi] at z; exact z
            · rw [fsU_out hi] at z; exact n5 i z
          · rw [if_pos rfl]
            refine ⟨ρ3, fs5, b5.fr, ?_⟩
            rw [e3]
            intro H6 fs6 F6 st6 yv vp
            have mx : ∀ i, i ∈ mutX Γ.g x → i ∈ M := fun i m => List.mem_append_right _ m
            have b6 := b5.step F6 st6 mx fun i m z => tM i m (mx i z)
            have up : ∀ a, U fs5 (mutX Γ.g x) a → U fs5 M a := fun a => U.mono mx
            have hD6 : H6 D = some (.lst accV) := st6.keep.at' _ _ hD5 (.inr fun ⟨j, _, z⟩ => n5 j z)
            have n6 : ∀ i, ¬ fs6 i D := fun i z => by
              by_cases m : i ∈ mutX Γ.g x
              · rcases st6.sub i D m z with ⟨j, _, y⟩ | y
                · exact n5 j y
                · rw [hD5] at y; cases y
              · rw [(st6.same i m).2] at z; exact n5 i z
            have n6u : ∀ i, ¬ fsU t fs6 i D := fun i z => by
              by_cases hi : i ∈ t
              · rw [fsU_in hi] at z; exact z
              · rw [fsU_out hi] at z; exact n6 i z
            have g6 : Gd H6 := sr.keep _ _ _ g5 st6.keep fun a sa z => src_stays F1 pl tr rM tM b5 a sa (up a z)
            have kS : Keep H6 (upd H6 D (.lst (accV ++ [yv]))) (fun a => a = D) := Keep.set hD6 (fun z => z) rfl
            have ln := lcGo_len hg
            rw [List.length_cons] at ln
            refine ⟨accV, hD6, by have := r5.length; rw [List.length_reverse] at this; rw [← this, ← lineN_eq]; omega, ρ4, fsU t fs6, xv2 :: acc, accV ++ [yv], b6.toHead.grow kS (fun i a z y => n6u i (y ▸ z)) (fun a z => .inl (z ▸ hD)), n6u, sr.keep _ _ _ g6 kS fun a sa z => tr a sa (z ▸ hD), upd_same, ?_, hg⟩
            rw [List.reverse_cons]
            exact (RepDs.keep kS _ _ (RepDs.keep st6.keep _ _ r5)).append (.single (RepD.keep kS _ _ vp.toD))
        · have e : i = ds.length := by omega
          subst e
          refine .inl ⟨sr.stop _ H2 g2 (Nat.le_refl _), ?_⟩
          rw [List.drop_length] at hg
          have hg : (.ok acc.reverse ρc : R (List Vm.D)) = .ok l ρF := hg
          injection hg with e1 e2
          subst e1 e2
          obtain ⟨F2, st2⟩ := BS.done F1 hb tM
          have nF : ∀ i, ¬ finU t fs1 fsc i D := fun i z => by
            unfold finU at z
            by_cases hi : i ∈ t
            · rw [if_pos hi] at z; exact F1.trk i D z hD
            · rw [if_neg hi] at z; exact nD i z
          refine q1 H2 _ F2 ((st1.mono fun i m => List.mem_append_left _ m).trans (st2.mono fun i m => List.mem_append_right _ m)) (.ref D) ⟨fun b => b = D, ?_, fun a z => ?_, fun i a z y => nF i (z ▸ y), fun a z => .inr (st1.keep.dom a (z ▸ hD))⟩
          · rw [RepS]
            exact ⟨D, accV, rfl, hD2, rfl, by rw [← ra.length, ← lineN_eq]; exact hll, RepSs.ofD ra⟩
          · rw [z, hD2]; exact fun y => by cases y
    · rw [if_neg hll] at q1; exact q1.elim
theorem xok_lc {x it : X} {t : List Nat} {cs : Xs} (hx : XOk Γ x) (hit : XOk Γ it) (hii : IOk Γ it) (hcs : XsOk Γ cs) : XOk Γ (.lc x t it cs) := xok_comp (comp_lc hx hit hii hcs) rfl lc_plain
end Vm
/-! VmY -/
namespace Vm
open PySem L2

variable {Γ : Gx} {Y : Cx} {sc : Scope} {W : WX} {e : Expr}
/-- where a row of statements was entered; the slots that may be changed in place, those that may be assigned -/
structure Fx where
  H0 : Hp
  σ0 : L2.St
  fs0 : Nat → Fp
  mp : List Nat
  as : List Nat
/-- what is true of the frame since then -/
structure Big (x : Fx) (H : Hp) (σ : L2.St) (fs : Nat → Fp) : Prop where
  keep : Keep x.H0 H (U x.fs0 x.mp)
  sub : ∀ i a, fs i a → (i ∉ x.mp ∧ x.fs0 i a) ∨ U x.fs0 x.mp a ∨ x.H0 a = none
  par : ∀ j, j ∉ x.as → σ[j]? = x.σ0[j]?
  len : σ.length = x.σ0.length
theorem Big.start {H : Hp} {σ : L2.St} {fs : Nat → Fp} {mp as : List Nat} : Big ⟨H, σ, fs, mp, as⟩ H σ fs :=
  ⟨.refl, fun i a z => by
    by_cases m : i ∈ mp
    · exact .inr (.inl ⟨i, m, z⟩)
    · exact .inl ⟨m, z⟩, fun _ _ => rfl, rfl⟩
theorem Big.up {x : Fx} {H : Hp} {σ : L2.St} {fs : Nat → Fp} (b : Big x H σ fs) {M : List Nat} (h : ∀ i, i ∈ M → i ∈ x.mp) {a : Addr} : U fs M a → U x.fs0 x.mp a ∨ x.H0 a = none := fun ⟨i, m, z⟩ => by
  rcases b.sub i a z with ⟨h1, _⟩ | y
  · exact absurd (h i m) h1
  · exact y
theorem Big.step {x : Fx} {H H' : Hp} {σ : L2.St} {ρ ρ' : Fr} {fs fs' : Nat → Fp} {M : List Nat} (b : Big x H σ fs) (st : Step H ρ fs M H' ρ' fs') (h : ∀ i, i ∈ M → i ∈ x.mp) : Big x H' σ fs' := by
  refine ⟨b.keep.trans st.keep fun a z => b.up h z, fun i a z => ?_, b.par, b.len⟩
  by_cases m : i ∈ M
  · rcases st.sub i a m z with y | y
    · exact .inr (b.up h y)
    · exact .inr (.inr (b.keep.dom a y))
  · rw [(st.same i m).2] at z; exact b.sub i a z
/-- a row within a row -/
theorem Big.trans {x : Fx} {H1 H : Hp} {σ1 σ : L2.St} {fs1 fs : Nat → Fp} {mp as : List Nat} (b : Big x H1 σ1 fs1) (y : Big ⟨H1, σ1, fs1, mp, as⟩ H σ fs) (h1 : ∀ i, i ∈ mp → i ∈ x.mp) (h2 : ∀ i, i ∈ as → i ∈ x.as) : Big x H σ fs := by
  refine ⟨b.keep.trans y.keep fun a z => b.up h1 z, fun i a z => ?_, fun j n => (y.par j fun m => n (h2 j m)).trans (b.par j n), y.len.trans b.len⟩
  rcases y.sub i a z with ⟨_, w⟩ | w | w
  · exact b.sub i a w
  · exact .inr (b.up h1 w)
  · exact .inr (.inr (b.keep.dom a w))
/-- a value that nobody has, seen from the entry -/
theorem vp_big {x : Fx} {G : Pg} {H H' : Hp} {σ : L2.St} {fs fs' : Nat → Fp} {M : List Nat} {s : S} {v : V} (b : Big x H σ fs) (h : ∀ i, i ∈ M → i ∈ x.mp) (vp : VP none G H fs M H' fs' s v) : VP none G x.H0 x.fs0 x.mp H' fs' s v := by
  obtain ⟨f, hr, tr, x1, x2⟩ := vp
  refine ⟨f, hr, tr, x1, fun a z => ?_⟩
  rcases x2 a z with y | y
  · exact b.up h y
  · exact .inr (b.keep.dom a y)
/-- what is wanted of a statement that ends so -/
def SW (x : Fx) (G : Pg) (W : WX) (D : Ends) : RF → Prop
  | .bad => False
  | .ok f ρ' => ∀ σ' H' fs', FR G H' σ' ρ' fs' → Big x H' σ' fs' → match f with
    | .nx => D.nx σ' H'
    | .brk => D.bk σ' H'
    | .cnt => D.ct σ' H'
    | .ret s => ∀ v, VP none G x.H0 x.fs0 x.mp H' fs' s v → D.rt v H'
  | .ex e ρ' => ∀ cls d σ' H' fs', FR G H' σ' ρ' fs' → Big x H' σ' fs' → EP G e cls d H' → W cls d σ' H'
def tS (x : Fx) (G : Pg) (W : WX) (p : Fr → RF) : TS := fun D σ H => ∃ ρ fs, FR G H σ ρ fs ∧ Big x H σ fs ∧ SW x G W D (p ρ)
/-- from an expression to the rest of the statement -/
theorem SW.run {α : Type} {x : Fx} {G : Pg} {W : WX} {D : Ends} {σ : L2.St} {H : Hp} {ρ : Fr} {fs : Nat → Fp} {M : List Nat} {r : R α} {k : α → Fr → RF} (b : Big x H σ fs) (h : ∀ i, i ∈ M → i ∈ x.mp) (q : SW x G W D (r.bind k)) :
    Run G W σ H ρ fs M (fun a ρ1 H1 fs1 => FR G H1 σ ρ1 fs1 ∧ Big x H1 σ fs1 ∧ SW x G W D (k a ρ1)) r := by
  cases r with
  | bad => exact q
  | ok a ρ1 => exact fun H1 fs1 F1 st1 => ⟨F1, b.step st1 h, q⟩
  | ex e ρ1 => exact fun cls d H1 fs1 F1 st1 ep => q cls d σ H1 fs1 F1 (b.step st1 h) ep
theorem PS.imp {st : Stmt} {t t' : TS} (h : PS Y st t) (i : ∀ D σ H, t' D σ H → t D σ H) : PS Y st t' := ⟨fun pins s σ H D I q => h.run pins s σ H D I (i D σ H q)⟩
theorem PSs.imp {st : List Stmt} {t t' : TS} (h : PSs Y st t) (i : ∀ D σ H, t' D σ H → t D σ H) : PSs Y st t' := ⟨fun pins s σ H D I q => h.run pins s σ H D I (i D σ H q)⟩
variable {x : Fx} {pos : Pos}
theorem st_pass : PS Y (.Pass pos) (tS x Γ.G W fun ρ => .ok .nx ρ) := PS.imp ps_pass fun D σ H ⟨ρ, fs, F, b, q⟩ => q σ H fs F b
theorem st_brk : PS Y (.Break pos) (tS x Γ.G W fun ρ => .ok .brk ρ) := PS.imp ps_break fun D σ H ⟨ρ, fs, F, b, q⟩ => q σ H fs F b
theorem st_cnt : PS Y (.Continue pos) (tS x Γ.G W fun ρ => .ok .cnt ρ) := PS.imp ps_continue fun D σ H ⟨ρ, fs, F, b, q⟩ => q σ H fs F b
theorem st_retN : PS Y (.Return none pos) (tS x Γ.G W fun ρ => .ok (.ret (.v .non)) ρ) := PS.imp ps_retN fun D σ H ⟨ρ, fs, F, b, q⟩ => q σ H fs F b _ (VP.d rep_non)
theorem st_ret {y : X} (hy : XOk Γ y) (c : Cok Γ.g Γ.G Γ.C Y sc W) (hc : chk Γ.g y sc e = true) (hM : ∀ i, i ∈ mutX Γ.g y → i ∈ x.mp) : PS Y (.Return (some e) pos) (tS x Γ.G W fun ρ => (ev Γ.C y ρ).bind fun s ρ => .ok (.ret s) ρ) := by
  refine PS.imp (ps_ret (xd_ev hy c hc)) fun D σ H ⟨ρ, fs, F, b, q⟩ => ⟨ρ, fs, F, ?_⟩
  refine (SW.run (ρ := ρ) (r := XD.ev (y, den Γ.C y) ρ) b hM q).imp fun s ρ1 H1 fs1 F1 st1 ⟨F1', b1, q1⟩ v vp => ?_
  exact q1 σ H1 fs1 F1' b1 v (vp_big b hM vp)
theorem st_ex {y : X} (hy : XOk Γ y) (c : Cok Γ.g Γ.G Γ.C Y sc W) (hc : chk Γ.g y sc e = true) (hM : ∀ i, i ∈ mutX Γ.g y → i ∈ x.mp) (hs : swapsWith e none pos.line Y.env = pure false) : PS Y (.Expr e pos) (tS x Γ.G W fun ρ => (pk Γ.C y ρ).bind fun _ ρ => .ok .nx ρ) := by
  refine PS.imp (ps_expr (hy.pe c hc) hs) fun D σ H ⟨ρ, fs, F, b, q⟩ => ⟨ρ, fs, F, ?_⟩
  refine (SW.run (ρ := ρ) (r := (den Γ.C y).pk ρ) b hM q).imp fun s ρ1 H1 fs1 F1 st1 ⟨F1', b1, q1⟩ v vp => ?_
  exact q1 σ H1 fs1 F1' b1
theorem st_if {y : X} {a b : List Stmt} {pa pb : Fr → RF} (hy : XOk Γ y) (c : Cok Γ.g Γ.G Γ.C Y sc W) (hc : chk Γ.g y sc e = true) (hM : ∀ i, i ∈ mutX Γ.g y → i ∈ x.mp) (ha : PSs Y a (tS x Γ.G W pa)) (hb : PSs Y b (tS x Γ.G W pb)) :
    PS Y (.If e a b pos) (tS x Γ.G W fun ρ => (tst Γ.C y ρ).bind fun t ρ => if t then pa ρ else pb ρ) := by
  refine PS.imp (ps_if (hy.pt c hc) ha hb) fun D σ H ⟨ρ, fs, F, b, q⟩ => ⟨ρ, fs, F, ?_⟩
  refine (SW.run (ρ := ρ) (r := (den Γ.C y).ts ρ) b hM q).imp fun t ρ1 H1 fs1 F1 st1 ⟨F1', b1, q1⟩ => ?_
  cases t with
  | true => exact ⟨ρ1, fs1, F1', b1, q1⟩
  | false => exact ⟨ρ1, fs1, F1', b1, q1⟩
theorem sts_nil : PSs Y [] (tS x Γ.G W fun ρ => .ok .nx ρ) := PSs.imp pss_nil fun D σ H ⟨ρ, fs, F, b, q⟩ => q σ H fs F b
end Vm
/-! VmZ -/
namespace Vm
open PySem L2

variable {Γ : Gx} {Y : Cx} {sc : Scope} {W : WX} {e : Expr} {x : Fx} {pos : Pos}
def thenR (p q : Fr → RF) : Fr → RF := fun ρ => match p ρ with
  | .ok .nx ρ => q ρ
  | r => r
theorem sts_cons {st : Stmt} {sts : List Stmt} {p q : Fr → RF} (h1 : PS Y st (tS x Γ.G W p)) (h2 : PSs Y sts (tS x Γ.G W q)) : PSs Y (st :: sts) (tS x Γ.G W (thenR p q)) := by
  refine PSs.imp (pss_cons h1 h2) fun D σ H ⟨ρ, fs, F, b, w⟩ => ⟨ρ, fs, F, b, ?_⟩
  unfold thenR at w
  cases hp : p ρ with
  | bad => rw [hp] at w; exact w
  | ex e ρ' => rw [hp] at w; exact w
  | ok f ρ' =>
    rw [hp] at w
    cases f with
    | nx => exact fun σ' H' fs' F' b' => ⟨ρ', fs', F', b', w⟩
    | _ => exact w
theorem FR.setS {G : Pg} {H : Hp} {σ : L2.St} {ρ : Fr} {fs : Nat → Fp} {i : Nat} {s : S} {v : V} {f : Fp} (F : FR G H σ ρ fs) (r : RepS G H s v f) (nf : ∀ j a, f a → ¬ fs j a) (tr : ∀ a, f a → H a ≠ none) : FR G H (σ.set i (some v)) (ρ.set i (some s)) (fun j => if j = i then f else fs j) := by
  refine ⟨by rw [List.length_set, List.length_set]; exact F.len, fun j t e => ?_, fun j k a h1 h2 => ?_, fun j a h1 => ?_⟩
  · by_cases hj : j = i
    · subst hj
      have hlt : j < ρ.length := by
        have := (List.getElem?_eq_some_iff.mp e).1
        rwa [List.length_set] at this
      rw [List.getElem?_set_self hlt] at e
      cases e
      exact ⟨v, List.getElem?_set_self (by rw [← F.len]; exact hlt), .inl (by rw [if_pos rfl]; exact r)⟩
    · rw [List.getElem?_set_ne (Ne.symm hj)] at e
      obtain ⟨w, ew, rw'⟩ := F.rep j t e
      exact ⟨w, by rw [List.getElem?_set_ne (Ne.symm hj)]; exact ew, by rw [if_neg hj]; exact rw'⟩
  · by_cases hj : j = i <;> by_cases hk : k = i
    · rw [hj, hk]
    · rw [if_pos hj] at h1; rw [if_neg hk] at h2; exact absurd h2 (nf k a h1)
    · rw [if_neg hj] at h1; rw [if_pos hk] at h2; exact absurd h1 (nf j a h2)
    · rw [if_neg hj] at h1; rw [if_neg hk] at h2; exact F.dis j k a h1 h2
  · by_cases hj : j = i
    · rw [if_pos hj] at h1; exact tr a h1
    · rw [if_neg hj] at h1; exact F.trk j a h1
theorem Big.set {H : Hp} {σ : L2.St} {fs : Nat → Fp} {i : Nat} {v : V} {f : Fp} (b : Big x H σ fs) (hi : i ∈ x.as) (hf : ∀ a, f a → U x.fs0 x.mp a ∨ x.H0 a = none) : Big x H (σ.set i (some v)) (fun j => if j = i then f else fs j) := by
  refine ⟨b.keep, fun j a z => ?_, fun j n => ?_, by rw [List.length_set]; exact b.len⟩
  · by_cases hj : j = i
    · rw [if_pos hj] at z; exact .inr (hf a z)
    · rw [if_neg hj] at z; exact b.sub j a z
  · rw [List.getElem?_set_ne fun z => n (by rw [← z]; exact hi)]
    exact b.par j n
/-- name = .. -/
theorem st_asg {y : X} {i : Nat} {s0 : Stmt} (hp : PS Y s0 (tAsg (tV Γ.G W none (mutX Γ.g y) (XD.ev (y, den Γ.C y))) (gName i))) (hM : ∀ i, i ∈ mutX Γ.g y → i ∈ x.mp) (hi : i ∈ x.as) : PS Y s0 (tS x Γ.G W fun ρ => doSet Γ.C (.nm i) y ρ) := by
  refine PS.imp hp fun D σ H ⟨ρ, fs, F, b, q⟩ => ⟨ρ, fs, F, ?_⟩
  refine (SW.run (ρ := ρ) (r := XD.ev (y, den Γ.C y) ρ) (k := fun s ρ => if i < ρ.length then .ok .nx (ρ.set i (some s)) else .bad) b hM q).imp fun s ρ1 H1 fs1 F1 st1 ⟨F1', b1, q1⟩ v vp => ?_
  by_cases hl : i < ρ1.length
  · rw [if_pos hl] at q1
    obtain ⟨f, hr, tr, x1, x2⟩ := vp_big b hM vp
    exact q1 _ _ _ (F1'.setS hr (fun j a z y => x1 j a z y) tr) (b1.set hi x2)
  · rw [if_neg hl] at q1; exact q1.elim
/-- a, b = .. of a tuple -/
theorem Big.put {H : Hp} {σ σ' : L2.St} {fs fs' : Nat → Fp} {is : List Nat} (b : Big x H σ fs) (hi : ∀ i, i ∈ is → i ∈ x.as) (h1 : ∀ i, i ∉ is → σ'[i]? = σ[i]? ∧ fs' i = fs i) (h2 : ∀ i, i ∈ is → ∀ a, ¬ fs' i a) (hl : σ'.length = σ.length) : Big x H σ' fs' := by
  refine ⟨b.keep, fun i a z => ?_, fun j n => ?_, hl.trans b.len⟩
  · by_cases m : i ∈ is
    · exact absurd z (h2 i m a)
    · rw [(h1 i m).2] at z; exact b.sub i a z
  · rw [(h1 j fun m => n (hi j m)).1]; exact b.par j n

theorem loopGo_cons {t : List Nat} {body : Fr → RF} {d : D} {r : List D} {ρ : Fr} {G : Pg} {D' : Ends} (h : SW x G W D' (loopGo t body (d :: r) ρ)) : ∃ ρ1, setTg t d ρ = some ρ1 ∧ SW x G W D' (match body ρ1 with
      | .ok .nx ρ2 => loopGo t body r ρ2
      | .ok .cnt ρ2 => loopGo t body r ρ2
      | .ok .brk ρ2 => .ok .nx ρ2
      | q => q) := by
  unfold loopGo at h
  cases e : setTg t d ρ with
  | none => rw [e] at h; exact h.elim
  | some ρ1 => rw [e] at h; exact ⟨ρ1, rfl, h⟩
theorem PSs.ex {α : Type} {sts : List Stmt} {t : α → TS} {P : α → Prop} (h : ∀ a, P a → PSs Y sts (t a)) : PSs Y sts (fun D σ H => ∃ a, P a ∧ t a D σ H) := ⟨fun pins s σ H D I ⟨a, p, q⟩ => (h a p).run pins s σ H D I q⟩
/-- the rows within, entered anew -/
def inX (mp as : List Nat) (y : Fx) : Prop := (∀ i, i ∈ mp → i ∈ y.mp) ∧ ∀ i, i ∈ as → i ∈ y.as
theorem loop_read {it : X} {t mb ab : List Nat} {tg : Expr} {pb : Fr → RF} (c : Cok Γ.g Γ.G Γ.C Y sc W)
    (ht : tgB Γ.g.N sc (fun _ => true) t tg = true) (hM : ∀ i, i ∈ mutX Γ.g it → i ∈ x.mp) (hmb : ∀ i, i ∈ mb → i ∈ x.mp) (hab : ∀ i, i ∈ ab → i ∈ x.as) (hta : ∀ i, i ∈ t → i ∈ ab) (hr : apartL (roots it) mb = true) {D : Ends} {σ : L2.St} {H : Hp}
    (h : tS x Γ.G W (fun ρ => (Vm.iter Γ.C it ρ).bind fun ds ρ => loopGo t pb ds ρ) D σ H) : tFor (tI Γ.G W (roots it) (mutX Γ.g it) (den Γ.C it).it) (gTg Y.K t tg) (fun D σ H => ∃ y, inX mb ab y ∧ tS y Γ.G W pb D σ H) D σ H := by
  have rM := apartL_of hr
  obtain ⟨ρ, fs, F, b, q⟩ := h
  refine ⟨ρ, fs, F, ?_⟩
  refine (SW.run (ρ := ρ) (r := (den Γ.C it).it ρ) b hM q).imp fun ds ρ1 H1 fs1 F1 st1 ⟨F1', b1, q1⟩ J S0 Gd sr g1 pl tr => ?_
  let y : Fx := ⟨H1, σ, fs1, mb, ab⟩
  let st : Nat → L2.St → Hp → Prop := fun i σ' H' => ∃ ρ' fs', FR Γ.G H' σ' ρ' fs' ∧ Big y H' σ' fs' ∧ SW x Γ.G W D (loopGo t pb (ds.drop i) ρ')
  have gd : ∀ {H' σ' fs'}, Big y H' σ' fs' → Gd H' := fun bb => sr.keep _ _ _ g1 bb.keep fun a sa ⟨i, m, z⟩ => by
    rcases pl a sa with ⟨j, jm, w⟩ | w
    · exact rM j jm (F1.dis i j a z w ▸ m)
    · exact w i z
  refine ⟨fun i m σ' H' => m = ds.length - i ∧ i ≤ ds.length ∧ st i σ' H', ⟨ds.length, by simp, Nat.zero_le _, ρ1, fs1, F1, Big.start, q1⟩, ?_⟩
  rintro i m σ2 H2 ⟨rfl, hi, ρ2, fs2, F2, b2, q2⟩
  by_cases hlt : i < ds.length
  · refine .inr ⟨sr.go i H2 (gd b2) hlt, st (i + 1), fun σ' H' s' => ⟨ds.length - (i + 1), by omega, rfl, hlt, s'⟩, fun xv H' yy => ?_⟩
    obtain ⟨k, rx⟩ := sr.yld i H2 xv H' ds[i] (gd b2) (List.getElem?_eq_getElem hlt) yy
    rw [List.drop_eq_getElem_cons hlt] at q2
    obtain ⟨ρ3, e3, q3⟩ := loopGo_cons q2
    have F3 := F2.keep k fun _ _ _ z => z
    have b3 : Big y H' σ2 fs2 := ⟨b2.keep.trans k fun _ z => z.elim, b2.sub, b2.par, b2.len⟩
    refine tg_put c.K ht F3 rx e3 fun σ4 fs4 F4 p1 p2 p3 => ⟨y, ⟨fun _ m => m, fun _ m => m⟩, ρ3, fs4, F4, b3.put hta (fun i n => ⟨(p1 i n).1, (p1 i n).2.2⟩) p2 p3, ?_⟩
    have up : ∀ {H' σ' fs'}, Big y H' σ' fs' → Big x H' σ' fs' := fun bb => b1.trans bb hmb hab
    cases hp : pb ρ3 with
    | bad => rw [hp] at q3; exact q3.elim
    | ex e ρ' => rw [hp] at q3; exact fun cls d σ' H' fs' F' b' ep => q3 cls d σ' H' fs' F' (up b') ep
    | ok f ρ' =>
      rw [hp] at q3
      cases f with
      | nx => exact fun σ' H' fs' F' b' => ⟨ρ', fs', F', b', q3⟩
      | cnt => exact fun σ' H' fs' F' b' => ⟨ρ', fs', F', b', q3⟩
      | brk => exact fun σ' H' fs' F' b' => q3 σ' H' fs' F' (up b')
      | ret s =>
        intro σ' H' fs' F' b' v vp
        exact q3 σ' H' fs' F' (up b') v (vp_big b1 hmb vp)
  · have e : i = ds.length := by omega
    subst e
    refine .inl ⟨sr.stop _ H2 (gd b2) (Nat.le_refl _), ?_⟩
    rw [List.drop_length] at q2
    exact q2 σ2 H2 fs2 F2 (b1.trans b2 hmb hab)
theorem st_loop {it : X} {t mb ab : List Nat} {tg iter : Expr} {body : List Stmt} {pb : Fr → RF} (hit : XOk Γ it) (hii : IOk Γ it) (c : Cok Γ.g Γ.G Γ.C Y sc W) (hh : Γ.g.hot = false) (hfn : ∀ z, Y.fn z = true) (hpo : PassesOwn (model Y.prog Y.w) Y.A Y.env Y.xe)
    (hc : chk Γ.g it sc iter = true) (h2 : itOkB it tg = true) (ht : tgB Γ.g.N sc (fun _ => true) t tg = true) (hM : ∀ i, i ∈ mutX Γ.g it → i ∈ x.mp) (hmb : ∀ i, i ∈ mb → i ∈ x.mp) (hab : ∀ i, i ∈ ab → i ∈ x.as) (hta : ∀ i, i ∈ t → i ∈ ab) (hr : apartL (roots it) mb = true)
    (hb : ∀ y : Fx, inX mb ab y → PSs Y body (tS y Γ.G W pb)) : PS Y (.For tg iter body [] pos) (tS x Γ.G W fun ρ => (Vm.iter Γ.C it ρ).bind fun ds ρ => loopGo t pb ds ρ) := by
  have cal := c.calm hh
  have hg := tg_pg (X := Y) (sc := sc) (tg := tg) (is := t) cal c.N c.nd c.sc (fun z _ _ => hfn z) ht
  exact PS.imp (ps_for (pos := pos) hpo cal (hii c hc h2 hh) hg (PSs.ex hb) (fun v => (plain_of (hit.pl hc)).fold Y.env v)) fun D σ H h => loop_read c ht hM hmb hab hta hr h
end Vm
/-! Vn1 -/
namespace Vm
open PySem L2

variable {Γ : Gx} {Y : Cx} {sc : Scope} {W : WX} {e : Expr} {x : Fx} {pos : Pos}
theorem Big.upd {H H' : Hp} {σ : L2.St} {fs : Nat → Fp} {K g' : Fp} {i : Nat} (b : Big x H σ fs) (hi : i ∈ x.mp) (kp : Keep H H' K) (hK : ∀ a, K a → fs i a) (hg : ∀ a, g' a → fs i a ∨ U x.fs0 x.mp a ∨ x.H0 a = none) : Big x H' σ (fun j => if j = i then g' else fs j) := by
  have up : ∀ a, fs i a → U x.fs0 x.mp a ∨ x.H0 a = none := fun a z => b.up (M := [i]) (fun j m => by rw [List.mem_singleton.mp m]; exact hi) ⟨i, List.mem_singleton_self i, z⟩
  refine ⟨b.keep.trans kp fun a z => up a (hK a z), fun j a z => ?_, b.par, b.len⟩
  by_cases hj : j = i
  · rw [if_pos hj] at z
    rcases hg a z with y | y
    · exact .inr (up a y)
    · exact .inr y
  · rw [if_neg hj] at z; exact b.sub j a z
theorem fput_new {G : Pg} {H : Hp} {c f : Nat} {s : S} {y : V} {fy : Fp} (inj : ∀ j, G.ok c j → G.fn j = G.fn f → j = f) (of' : G.ok c f) (ry : RepS G H s y fy) : ∀ {fs : List Nat} {ss : List S} {ws : List V} {F : Fp}, (∀ k, k ∈ fs → G.ok c k) → fs.length = ws.length → RepSs G H ss ws F → (∀ b, fy b → ¬ F b) →
    ∃ ws', ((fput fs ss f s).1.map G.fn).zip ws' = putF (G.fn f) y ((fs.map G.fn).zip ws) ∧ (fput fs ss f s).1.length = ws'.length ∧ (∀ k, k ∈ (fput fs ss f s).1 → G.ok c k) ∧ RepSs G H (fput fs ss f s).2 ws' (fun b => F b ∨ fy b)
  | [], ss, ws, F, hk, hl, r, d => by
    have : ws = [] := List.length_eq_zero_iff.mp hl.symm
    subst this
    have e : fput [] ss f s = ([f], [s]) := by cases ss <;> rfl
    rw [e]
    refine ⟨[y], rfl, rfl, fun k m => by rw [List.mem_singleton.mp m]; exact of', ?_⟩
    rw [RepSs]
    exact ⟨y, [], fy, rfl, fun b z => .inr z, ry, by rw [RepSs]⟩
  | k :: fs, [], ws, F, hk, hl, r, d => by
    rw [RepSs] at r; subst r
    simp at hl
  | k :: fs, t :: ss, ws, F, hk, hl, r, d => by
    rw [RepSs] at r
    obtain ⟨v, r', g, rfl, yy, a, b⟩ := r
    by_cases h : k = f
    · subst h
      have e : fput (k :: fs) (t :: ss) k s = (k :: fs, s :: ss) := by simp [fput]
      rw [e]
      refine ⟨y :: r', ?_, by simpa using hl, hk, ?_⟩
      · simp only [List.map_cons, List.zip_cons_cons, putF, if_true]
      · rw [RepSs]
        exact ⟨y, r', fy, rfl, fun b z => .inr z, ry, RepSs.mono _ _ b fun b z => ⟨.inl z.1, fun w => d b w z.1⟩⟩
    · have hne : G.fn k ≠ G.fn f := fun z => h (inj k (hk k List.mem_cons_self) z)
      obtain ⟨ws', e1, e2, e3, e4⟩ := fput_new inj of' ry (fun j m => hk j (List.mem_cons_of_mem _ m)) (by simpa using hl) b fun b z w => d b z w.1
      have e : fput (k :: fs) (t :: ss) f s = (k :: (fput fs ss f s).1, t :: (fput fs ss f s).2) := by simp [fput, h]
      rw [e]
      refine ⟨v :: ws', ?_, by simpa using e2, fun j m => ?_, ?_⟩
      · simp only [List.map_cons, List.zip_cons_cons, putF, if_neg hne, e1]
      · rcases List.mem_cons.mp m with rfl | m
        · exact hk j List.mem_cons_self
        · exact e3 j m
      · rw [RepSs]
        refine ⟨v, ws', g, rfl, fun b z => .inl (yy b z), a, RepSs.mono _ _ e4 fun b z => ?_⟩
        rcases z with z | z
        · exact ⟨.inl z.1, z.2⟩
        · exact ⟨.inr z, fun w => d b z (yy b w)⟩
theorem putF_len {f : Str} {v : V} : ∀ fs : List (Str × V), (putF f v fs).length ≤ fs.length + 1 := fun fs => length_putF f v fs
theorem swap_att {o : Expr} {f : Str} {p : Pos} {l : Nat} {env : Env} (e : Expr) : swapsWith e (some (.Attribute o f p)) l env = pure false := by
  cases e <;> rfl
/-- a part of a slot is changed, at a row of statements -/
theorem part_upd (c : Cok Γ.g Γ.G Γ.C Y sc W) {H : Hp} {σ : L2.St} {ρ : Fr} {fs : Nat → Fp} {i : Nat} {p : List Nat} {s t : S} {fv : Fp} (F : FR Γ.G H σ ρ fs) (b : Big x H σ fs) (hi : i ∈ x.mp) (es : getS ρ i = some s) (et : pget s p = some t) (nf : ∀ j a, fv a → ¬ fs j a) (bf : ∀ a, fv a → U x.fs0 x.mp a ∨ x.H0 a = none) :
    ∃ v w g, σ[i]? = some (some v) ∧ PathV Γ.G Y.K H v p w ∧ RepS Γ.G H t w g ∧ (∀ a, g a → fs i a) ∧ (∀ a, fv a → ¬ g a) ∧ ∀ H' K t' g' s', Keep H H' K → (∀ a, K a → g a) → RepS Γ.G H' t' w g' → (∀ a, g' a → g a ∨ fv a) → (∀ a, g' a → H' a ≠ none) → pput s p t' = some s' →
      ∃ fs', FR Γ.G H' σ (ρ.set i (some s')) fs' ∧ Big x H' σ fs' := by
  obtain ⟨v, ev, r⟩ := F.get es
  obtain ⟨w, g, p1, r1, y1, k1⟩ := path_upd c r et
  refine ⟨v, w, g, ev, p1, r1, y1, fun a z y => nf i a z (y1 a y), fun H' K t' g' s' kp hK rt hg tg ep => ?_⟩
  have rs := k1 H' K t' g' s' kp hK rt (fun a z => (hg a z).imp id fun h h2 => nf i a h h2) ep
  refine ⟨_, F.upd (getS_ne es) ev rs kp (fun a z => y1 a (hK a z)) (fun a z => ?_) (fun a z => ?_), b.upd hi kp (fun a z => y1 a (hK a z)) fun a z => ?_⟩
  · rcases z with z | z
    · exact .inl z.1
    · rcases hg a z with h | h
      · exact .inl (y1 a h)
      · exact .inr fun j => nf j a h
  · rcases z with z | z
    · exact fun h => F.trk i a z.1 (kp.dom a h)
    · exact tg a z
  · rcases z with z | z
    · exact .inl z.1
    · rcases hg a z with h | h
      · exact .inl (y1 a h)
      · exact .inr (bf a h)
theorem st_att {y : X} {i f : Nat} {p : List Nat} {o : Expr} {nm : Str} {ap : Pos} (hy : XOk Γ y) (c : Cok Γ.g Γ.G Γ.C Y sc W) (hc : chk Γ.g y sc e = true) (hM : ∀ i, i ∈ mutX Γ.g y → i ∈ x.mp) (hi : i ∈ x.mp) (hp : pathB Γ.g.nt Γ.g.N sc i p o = true) (hn : Γ.g.nt.flds[f]? = some nm) :
    PS Y (.Assign [.Attribute o nm ap] e pos) (tS x Γ.G W fun ρ => doSet Γ.C (.att i p f) y ρ) := by
  refine PS.imp (ps_fld (pos := pos) (pe_path c _ rfl hp) (xd_ev hy c hc) (swap_att e)) fun D σ H ⟨ρ, fs, F, b, q⟩ => ⟨ρ, fs, F, ?_⟩
  refine (SW.run (ρ := ρ) (r := XD.ev (y, den Γ.C y) ρ) (k := fun s ρ => match pathUpd ρ i p fun o => fldPut Γ.C.at' o f s with
    | some ρ => .ok .nx ρ
    | none => .bad) b hM q).imp fun s ρ1 H1 fs1 F1 st1 ⟨F1', b1, q1⟩ v vp => ?_
  obtain ⟨fv, hr, tr, x1, x2⟩ := vp_big b hM vp
  unfold pathUpd at q1
  cases es : getS ρ1 i with
  | none => rw [es] at q1; exact q1.elim
  | some s1 =>
    rw [es] at q1
    cases et : pget s1 p with
    | none => simp only [et] at q1; exact q1.elim
    | some t =>
      simp only [et] at q1
      cases eu : fldPut Γ.C.at' t f s with
      | none => rw [eu] at q1; exact q1.elim
      | some t' =>
        rw [eu] at q1
        cases ep : pput s1 p t' with
        | none => simp only [ep] at q1; exact q1.elim
        | some s' =>
          simp only [ep, Option.map_some] at q1
          obtain ⟨v1, w, g, ev, p1, r1, y1, d1, k1⟩ := part_upd (fv := fv) c F1' b1 hi es et (fun j a z y => x1 j a z y) x2
          refine ⟨v1, w, ev, p1, ?_⟩
          unfold fldPut at eu
          split at eu
          · rename_i cl fl vs
            split at eu
            · rename_i ha
              rw [Bool.and_eq_true, decide_eq_true_eq] at ha
              cases eu
              rw [RepS] at r1
              obtain ⟨a, dx, ws, rfl, qa, fa, ⟨z1, z2⟩, rs⟩ := r1
              have ok := c.att cl f ha.1
              have kk := c.fld cl f ok
              have en := c.nam f nm hn
              have kS : ∀ {o}, Keep H1 (upd H1 a o) (fun b => b = a) := Keep.set qa (fun z => z) rfl
              have rs' := RepSs.keep (kS (o := .ins (Γ.G.ca cl) dx (putF (Γ.G.fn f) v ((fl.map Γ.G.fn).zip ws)))) _ _ rs fun b z => z.2
              have hr' := RepS.keep (kS (o := .ins (Γ.G.ca cl) dx (putF (Γ.G.fn f) v ((fl.map Γ.G.fn).zip ws)))) _ _ hr fun b z h => d1 b z (h ▸ fa)
              obtain ⟨ws', e1, e2, e3, e4⟩ := fput_new (c := cl) (fun j hj => c.inj cl j f hj ok) ok hr' z2 z1 rs' fun b z w => d1 b z w.1
              rw [← en]
              refine ⟨a, _, dx, _, rfl, qa, kk.1, kk.2, ?_, ?_⟩
              · rw [List.length_zip, List.length_map, ← z1, Nat.min_self]; omega
              · obtain ⟨fs', F2, b2⟩ := k1 _ _ _ (fun b => g b ∨ fv b) s' kS (fun b h => h ▸ fa) (by
                  rw [RepS]
                  refine ⟨a, dx, ws', rfl, by rw [upd_same, e1], .inl fa, ⟨e2, e3⟩, RepSs.mono _ _ e4 fun b z => ?_⟩
                  rcases z with z | z
                  · exact ⟨.inl z.1, z.2⟩
                  · exact ⟨.inr z, fun h => d1 b z (h ▸ fa)⟩) (fun b z => z) (fun b z h => by
                  rcases z with z | z
                  · exact F1'.trk i b (y1 b z) (kS.dom b h)
                  · exact tr b z (kS.dom b h)) ep
                exact q1 _ _ _ F2 b2
            · cases eu
          · cases eu
end Vm
/-! Vn2 -/
namespace Vm
open PySem L2

variable {Γ : Gx} {Y : Cx} {sc : Scope} {W : WX} {e : Expr} {x : Fx} {pos : Pos}
theorem RepSs.setS {G : Pg} {H : Hp} {s : S} {v : V} {h : Fp} (q : RepS G H s v h) : ∀ {l : List S} {vs : List V} {f : Fp} (n : Nat), RepSs G H l vs f → (∀ b, h b → ¬ f b) → RepSs G H (l.set n s) (vs.set n v) (fun b => f b ∨ h b)
  | [], vs, f, n, r, d => by rw [RepSs] at r; subst r; show RepSs G H [] [] _; rw [RepSs]
  | t :: l, vs, f, 0, r, d => by
    rw [RepSs] at r
    obtain ⟨w, r', g, rfl, y, a, b⟩ := r
    show RepSs G H (s :: l) (v :: r') _
    rw [RepSs]
    exact ⟨v, r', h, rfl, fun b z => .inr z, q, RepSs.mono _ _ b fun b z => ⟨.inl z.1, fun w => d b w z.1⟩⟩
  | t :: l, vs, f, n + 1, r, d => by
    rw [RepSs] at r
    obtain ⟨w, r', g, rfl, y, a, b⟩ := r
    show RepSs G H (t :: l.set n s) (w :: r'.set n v) _
    rw [RepSs]
    refine ⟨w, _, g, rfl, fun b z => .inl (y b z), a, RepSs.mono _ _ (RepSs.setS q n b fun b z w => d b z w.1) fun b z => ?_⟩
    rcases z with z | z
    · exact ⟨.inl z.1, z.2⟩
    · exact ⟨.inr z, fun w => d b z (y b w)⟩
theorem any_same {κ : Type} [DecidableEq κ] {kd : D → Option κ} {k : D} {q : κ} (hs : ∀ d κ', kd d = some κ' → D.same d k = decide (κ' = q)) : ∀ {l : List (D × D)} {kvs : List (κ × V)}, (kvs.map fun p => some p.1) = (l.map (·.1)).map kd → (kvs.any fun p => decide (p.1 = q)) = l.any fun p => D.same p.1 k
  | [], kvs, h => by
    cases kvs with
    | nil => rfl
    | cons p r => simp at h
  | (a, b) :: l, kvs, h => by
    cases kvs with
    | nil => simp at h
    | cons p r =>
      simp only [List.map_cons, List.cons.injEq] at h
      rw [List.any_cons, List.any_cons, hs a p.1 h.1.symm, any_same hs h.2]
theorem map_same {κ : Type} [DecidableEq κ] {K : PySem.W.Frag} {H : Hp} {kd : D → Option κ} {k d : D} {q : κ} {v : V} (hs : ∀ d κ', kd d = some κ' → D.same d k = decide (κ' = q)) (rv : RepD K H d v) : ∀ {l : List (D × D)} {kvs : List (κ × V)}, (kvs.map fun p => some p.1) = (l.map (·.1)).map kd → RepDs K H (l.map (·.2)) (kvs.map (·.2)) →
    ((kvs.map fun p => if p.1 = q then (p.1, v) else p).map fun p => some p.1) = ((l.map fun p => if D.same p.1 k then (p.1, d) else p).map (·.1)).map kd ∧ RepDs K H ((l.map fun p => if D.same p.1 k then (p.1, d) else p).map (·.2)) ((kvs.map fun p => if p.1 = q then (p.1, v) else p).map (·.2))
  | [], kvs, h, r => by
    cases kvs with
    | nil => exact ⟨rfl, .nil⟩
    | cons p r => simp at h
  | (a, b) :: l, kvs, h, r => by
    cases kvs with
    | nil => simp at h
    | cons p r' =>
      obtain ⟨p1, p2⟩ := p
      simp only [List.map_cons, List.cons.injEq] at h
      rw [List.map_cons, List.map_cons, RepDs] at r
      obtain ⟨w, ws, ev, ra, rb⟩ := r
      simp only [List.cons.injEq] at ev
      obtain ⟨rfl, rfl⟩ := ev
      obtain ⟨i1, i2⟩ := map_same hs rv h.2 rb
      have sm := hs a p1 h.1.symm
      by_cases hq : p1 = q
      · have e : D.same a k = true := by rw [sm]; exact decide_eq_true hq
        simp only [List.map_cons, e, hq, if_true]
        exact ⟨by rw [i1, ← hq, h.1], .cons rv i2⟩
      · have e : D.same a k = false := by rw [sm]; exact decide_eq_false hq
        simp only [List.map_cons, e, if_neg hq, if_false, Bool.false_eq_true]
        exact ⟨by rw [i1, h.1], .cons ra i2⟩
theorem put_same {κ : Type} [DecidableEq κ] {K : PySem.W.Frag} {H : Hp} {kd : D → Option κ} {k d : D} {q : κ} {v : V} (hk : kd k = some q) (hs : ∀ d κ', kd d = some κ' → D.same d k = decide (κ' = q)) (rv : RepD K H d v) {l : List (D × D)} {kvs : List (κ × V)} (h : (kvs.map fun p => some p.1) = (l.map (·.1)).map kd) (r : RepDs K H (l.map (·.2)) (kvs.map (·.2))) :
    ((putK kvs q v).map fun p => some p.1) = ((dput l k d).map (·.1)).map kd ∧ RepDs K H ((dput l k d).map (·.2)) ((putK kvs q v).map (·.2)) := by
  unfold putK dput
  rw [any_same hs h]
  by_cases ha : (l.any fun p => D.same p.1 k) = true
  · rw [if_pos ha, if_pos ha]
    exact map_same hs rv h r
  · rw [if_neg ha, if_neg ha]
    refine ⟨by simp only [List.map_append, List.map_cons, List.map_nil, h, hk], ?_⟩
    simp only [List.map_append, List.map_cons, List.map_nil]
    exact r.append (.single rv)
/-- a store into a dict -/
theorem dput_rep {K : PySem.W.Frag} {H : Hp} {t : Bool} {l : List (D × D)} {ws : List V} {u : HO} {a : Addr} {k d : D} {vk v : V} (hk : DKeys t (l.map (·.1)) ws u) (hv : RepDs K H (l.map (·.2)) ws) (ha : H a = some u) (ik : k.isKey t = true) (rk : RepD K H k vk) (rv : RepD K H d v) (hl : l.length < lineN) :
    ∃ u' ws', DPut H a vk v (upd H a u') ∧ DKeys t ((dput l k d).map (·.1)) ws' u' ∧ RepDs K H ((dput l k d).map (·.2)) ws' ∧ ¬ Pers u := by
  cases t with
  | false =>
    obtain ⟨kvs, rfl, h1, rfl⟩ := hk
    obtain ⟨κ, e⟩ := isKey_ft ik
    obtain ⟨p1, p2⟩ := put_same (kd := keyD) e (fun d κ' hd => same_key hd e) rv h1 hv
    have hn : kvs.length < sizeLine := by
      have := congrArg List.length h1
      simp only [List.length_map] at this
      rw [this, ← lineN_eq]; exact hl
    exact ⟨.dK (putK kvs κ v), _, .inl ⟨kvs, κ, ha, keyD_V rk e, hn, rfl⟩, ⟨_, rfl, p1, rfl⟩, p2, fun z => z⟩
  | true =>
    obtain ⟨kvs, rfl, h1, rfl⟩ := hk
    obtain ⟨κ, e⟩ := isKey_tt ik
    obtain ⟨b, ev, hb⟩ := keysD_V rk e
    obtain ⟨p1, p2⟩ := put_same (kd := keysD) e (fun d κ' hd => same_tup hd e) rv h1 hv
    have hn : kvs.length < sizeLine := by
      have := congrArg List.length h1
      simp only [List.length_map] at this
      rw [this, ← lineN_eq]; exact hl
    exact ⟨.dT (putK kvs κ v), _, .inr ⟨kvs, κ, b, ha, ev, hb, hn, rfl⟩, ⟨_, rfl, p1, rfl⟩, p2, fun z => z⟩
def rSub : TSet := fun o i v H Q => rSetL o i v H Q ∨ rSetD o i v H Q
theorem set_sub (hu : Y.A.units + 64 < cLine) : PSet Y rSub := by
  intro pins s σ H o i v ov iv u Q I ro ri rv h
  rcases h with h | h
  · exact set_list pins s σ H o i v ov iv u Q I ro ri rv h
  · exact set_dict (by omega) pins s σ H o i v ov iv u Q I ro ri rv h
theorem sub_upd {G : Pg} {H : Hp} {t t' s : S} {k : D} {w vk v : V} {g fv : Fp} {Q : Hp → Prop} (r : RepS G H t w g) (rk : RepD G.K H k vk) (rv : RepS G H s v fv) (dj : ∀ b, fv b → ¬ g b) (tg : ∀ b, g b → H b ≠ none) (tf : ∀ b, fv b → H b ≠ none) (e : subSet t (.v k) s = some t')
    (q : ∀ H' K g', Keep H H' K → (∀ a, K a → g a) → RepS G H' t' w g' → (∀ a, g' a → g a ∨ fv a) → (∀ a, g' a → H' a ≠ none) → Q H') : rSub w vk v H Q := by
  unfold subSet at e
  split at e
  · rename_i l
    split at e
    · rename_i i heq
      cases heq
      obtain ⟨j, ej, rfl⟩ := Option.map_eq_some_iff.mp e
      rw [RepS] at r
      obtain ⟨a, vs, rfl, qa, fa, z, rs⟩ := r
      rw [RepD] at rk; subst rk
      have kS : ∀ {o}, Keep H (upd H a o) (fun b => b = a) := Keep.set qa (fun z => z) rfl
      refine .inl ⟨a, vs, i, j, rfl, rfl, qa, by rw [← rs.length]; exact ej, q _ _ (fun b => g b ∨ fv b) kS (fun b h => h ▸ fa) ?_ (fun b z => z) fun b z h => ?_⟩
      · rw [RepS]
        refine ⟨a, _, rfl, upd_same, .inl fa, by rw [List.length_set]; exact z, RepSs.mono _ _ (RepSs.setS (RepS.keep kS _ _ rv fun b z h => dj b z (h ▸ fa)) j (RepSs.keep kS _ _ rs fun b z => z.2) fun b z w => dj b z w.1) fun b z => ?_⟩
        rcases z with z | z
        · exact ⟨.inl z.1, z.2⟩
        · exact ⟨.inr z, fun h => dj b z (h ▸ fa)⟩
      · rcases z with z | z
        · exact tg b z (kS.dom b h)
        · exact tf b z (kS.dom b h)
    · cases e
  · rename_i tt l
    split at e
    · rename_i k' d heq
      cases heq
      split at e
      · rename_i hc
        rw [Bool.and_eq_true, decide_eq_true_eq] at hc
        cases e
        rw [RepS] at r
        rw [RepS] at rv
        obtain ⟨a, u, ws, rfl, qa, fa, dk, rs⟩ := r
        obtain ⟨u', ws', dp, dk', rs', np⟩ := dput_rep dk rs qa hc.1 rk rv hc.2
        have kS : Keep H (upd H a u') (fun b => b = a) := Keep.set qa np rfl
        refine .inr ⟨a, _, rfl, dp, q _ _ g kS (fun b h => h ▸ fa) ?_ (fun b z => .inl z) fun b z h => tg b z (kS.dom b h)⟩
        rw [RepS]
        exact ⟨a, u', ws', rfl, upd_same, fa, dk', RepDs.keep kS _ _ rs'⟩
      · cases e
    · cases e
  · cases e
end Vm
/-! Vn3 -/
namespace Vm
open PySem L2

variable {Γ : Gx} {Y : Cx} {sc : Scope} {W : WX} {e : Expr} {x : Fx} {pos : Pos}
theorem swap_sub {o i : Expr} {p : Pos} {l : Nat} {env : Env} (e : Expr) : swapsWithSole [.Subscript o i p] e l env = pure false := by
  cases e <;> rfl
theorem swapped_sub {o i : Expr} {p : Pos} {env : Env} (e : Expr) : swappedStores [.Subscript o i p] e env = pure none := by
  cases e <;> rfl
/-- the rest of a store: the key is read, the part is changed -/
theorem sub_rest {i : Nat} {p : List Nat} {k : X} {H1 : Hp} {σ : L2.St} {ρ1 : Fr} {fs1 : Nat → Fp} {D : Ends} {s : S} {v : V} {fv : Fp} (c : Cok Γ.g Γ.G Γ.C Y sc W) (F1 : FR Γ.G H1 σ ρ1 fs1) (b1 : Big x H1 σ fs1) (hi : i ∈ x.mp) (hMk : ∀ j, j ∈ mutX Γ.g k → j ∈ x.mp) (hik : i ∉ mutX Γ.g k)
    (rv : RepS Γ.G H1 s v fv) (nf : ∀ j a, fv a → ¬ fs1 j a) (tf : ∀ a, fv a → H1 a ≠ none) (bf : ∀ a, fv a → U x.fs0 x.mp a ∨ x.H0 a = none)
    (hok : ∃ s1 t, getS ρ1 i = some s1 ∧ pget s1 p = some t)
    (q : SW x Γ.G W D ((XD.ev (k, den Γ.C k) ρ1).bind fun k ρ => match pathUpd ρ i p fun o => subSet o k s with
      | some ρ => .ok .nx ρ
      | none => .bad)) :
    tPath Γ.G Y.K i p σ H1 fun o H2 => tV Γ.G W none (mutX Γ.g k) (XD.ev (k, den Γ.C k)) σ H2 fun kv H3 => rSub o kv v H3 fun H4 => D.nx σ H4 := by
  obtain ⟨s1, t, es, et⟩ := hok
  obtain ⟨v0, ev0, r0⟩ := F1.get es
  obtain ⟨w, g0, p0, rt0, y0, _⟩ := path_upd c r0 et
  refine ⟨v0, w, ev0, p0, ρ1, fs1, F1, ?_⟩
  refine (SW.run (ρ := ρ1) (r := XD.ev (k, den Γ.C k) ρ1) b1 hMk q).imp fun kd ρ2 H2 fs2 F2 st2 ⟨F2', b2, q2⟩ kv vk => ?_
  have nU : ∀ a, fv a → ¬ U fs1 (mutX Γ.g k) a := fun a z ⟨j, _, y⟩ => nf j a z y
  have rv2 := RepS.keep st2.keep _ _ rv nU
  have tf2 : ∀ a, fv a → H2 a ≠ none := fun a z y => tf a z (st2.keep.dom a y)
  have nf2 : ∀ j a, fv a → ¬ fs2 j a := fun j a z y => by
    by_cases m : j ∈ mutX Γ.g k
    · rcases st2.sub j a m y with h | h
      · exact nU a z h
      · exact tf a z h
    · rw [(st2.same j m).2] at y; exact nf j a z y
  unfold pathUpd at q2
  have e2 : ρ2[i]? = ρ1[i]? := (st2.same i hik).1
  cases es2 : getS ρ2 i with
  | none => rw [es2] at q2; exact q2.elim
  | some s2 =>
    rw [es2] at q2
    have ess : s2 = s1 := by
      have h1 := getS_ne es2
      rw [e2, getS_ne es] at h1
      simpa using h1.symm
    subst ess
    simp only [et] at q2
    cases kd with
    | v kk =>
      cases eu : subSet t (.v kk) s with
      | none => rw [eu] at q2; exact q2.elim
      | some t' =>
        rw [eu] at q2
        cases ep : pput s2 p t' with
        | none => simp only [ep] at q2; exact q2.elim
        | some s' =>
          simp only [ep, Option.map_some] at q2
          obtain ⟨v1, w1, g, ev, p1, r1, y1, d1, k1⟩ := part_upd (fv := fv) c F2' b2 hi es2 et nf2 bf
          have evv : v1 = v0 := by rw [ev0] at ev; simpa using ev.symm
          subst evv
          have ew : w1 = w := pathV_uniq p1 (path_keep c st2.keep r0 et (fun a z ⟨j, jm, h⟩ => hik (F1.dis i j a z h ▸ jm)) p0)
          subst ew
          refine sub_upd r1 vk.toD rv2 d1 (fun a z => F2'.trk i a (y1 a z)) tf2 eu fun H' K g' kS hK rt hg tg => ?_
          obtain ⟨fs', F3, b3⟩ := k1 H' K t' g' s' kS hK rt hg tg ep
          exact q2 σ H' fs' F3 b3
    | _ =>
      exfalso
      have : ∀ u, subSet t u s = none ∨ ∃ kk, u = .v kk := fun u => by
        unfold subSet
        cases t <;> first
          | exact .inl rfl
          | (cases u <;> first | exact .inr ⟨_, rfl⟩ | exact .inl rfl)
      rcases this _ with h | ⟨kk, h⟩
      · rw [h] at q2; exact q2.elim
      · cases h
theorem st_sub {y k : X} {i : Nat} {p : List Nat} {o ke : Expr} {tp : Pos} (hy : XOk Γ y) (hk : XOk Γ k) (c : Cok Γ.g Γ.G Γ.C Y sc W) (hc : chk Γ.g y sc e = true) (hck : chk Γ.g k sc ke = true) (hM : ∀ j, j ∈ mutX Γ.g y → j ∈ x.mp) (hMk : ∀ j, j ∈ mutX Γ.g k → j ∈ x.mp) (hi : i ∈ x.mp) (hik : i ∉ mutX Γ.g k)
    (hp : pathB Γ.g.nt Γ.g.N sc i p o = true) (ha : ∀ v, assign (.Subscript o ke tp) Y.env v = (do
      let ov ← holding [v] (eval o Y.env)
      let iv ← holding [v, ov] (eval ke Y.env)
      standAt tp
      holding [v, ov, iv] (setItem ov iv v)
      release [v, ov, iv] [])) : PS Y (.Assign [.Subscript o ke tp] e pos) (tS x Γ.G W fun ρ => doSet Γ.C (.sub i p k) y ρ) := by
  refine PS.imp (ps_asg (pos := pos) (xd_ev hy c hc) (pg_sub (pe_path c _ rfl hp) (xd_ev hk c hck) (set_sub c.un) ha) (swap_sub e) (swapped_sub e) rfl) fun D σ H ⟨ρ, fs, F, b, q⟩ => ⟨ρ, fs, F, ?_⟩
  refine (SW.run (ρ := ρ) (r := XD.ev (y, den Γ.C y) ρ) (k := fun s ρ => if hasP ρ i p then (XD.ev (k, den Γ.C k) ρ).bind fun k ρ => match pathUpd ρ i p fun o => subSet o k s with
      | some ρ => .ok .nx ρ
      | none => .bad
    else .bad) b hM q).imp fun s ρ1 H1 fs1 F1 st1 ⟨F1', b1, q1⟩ v vp => ?_
  obtain ⟨fv, hr, tr, x1, x2⟩ := vp_big b hM vp
  cases hq : hasP ρ1 i p with
  | false => rw [hq] at q1; exact q1.elim
  | true =>
    rw [hq, if_pos rfl] at q1
    unfold hasP at hq
    obtain ⟨t, ht⟩ := Option.isSome_iff_exists.mp hq
    obtain ⟨s1, h1, h2⟩ := Option.bind_eq_some_iff.mp ht
    exact sub_rest c F1' b1 hi hMk hik hr (fun j a z y => x1 j a z y) tr x2 ⟨s1, t, h1, h2⟩ q1
end Vm
/-! Vn4 -/
namespace Vm
open PySem L2

variable {Γ : Gx} {Y : Cx} {sc : Scope} {W : WX} {e : Expr} {x : Fx} {pos : Pos}
/-- targets, = a value -/
theorem st_asgT {y : X} {is : List Nat} {tg : Expr} (hy : XOk Γ y) (c : Cok Γ.g Γ.G Γ.C Y sc W) (cal : Y.calm = true) (hfn : ∀ z, Y.fn z = true) (hc : chk Γ.g y sc e = true) (hM : ∀ j, j ∈ mutX Γ.g y → j ∈ x.mp) (hi : ∀ i, i ∈ is → i ∈ x.as) (ht : tgB Γ.g.N sc (fun _ => true) is tg = true)
    (hs : swapsWithSole [tg] e pos.line Y.env = pure false) (hw : swappedStores [tg] e Y.env = pure none) (h1 : (assignEach [tg] Y.env).map (·.2) = [assign tg Y.env]) : PS Y (.Assign [tg] e pos) (tS x Γ.G W fun ρ => doSet Γ.C (.tup is) y ρ) := by
  have hg := tg_pg (X := Y) (sc := sc) (tg := tg) (is := is) cal c.N c.nd c.sc (fun z _ _ => hfn z) ht
  refine PS.imp (ps_asg (pos := pos) (xd_ev hy c hc) hg hs hw h1) fun D σ H ⟨ρ, fs, F, b, q⟩ => ⟨ρ, fs, F, ?_⟩
  refine (SW.run (ρ := ρ) (r := XD.ev (y, den Γ.C y) ρ) (k := fun s ρ => match s with
    | .v d => match setTg is d ρ with
      | some ρ => .ok .nx ρ
      | none => .bad
    | _ => .bad) b hM q).imp fun s ρ1 H1 fs1 F1 st1 ⟨F1', b1, q1⟩ v vp => ?_
  cases s with
  | v d =>
    cases e1 : setTg is d ρ1 with
    | none => simp only [e1] at q1; exact q1.elim
    | some ρ2 =>
      simp only [e1] at q1
      exact tg_put c.K ht F1' vp.toD e1 fun σ2 fs2 F2 p1 p2 p3 => q1 σ2 H1 fs2 F2 (b1.put hi (fun i n => ⟨(p1 i n).1, (p1 i n).2.2⟩) p2 p3)
  | _ => exact q1.elim
end Vm
/-! Vn5 -/
namespace Vm
open PySem L2

variable {Γ : Gx} {Y : Cx} {sc : Scope} {W : WX} {e : Expr} {x : Fx} {pos : Pos}
theorem st_while {y : X} {n : Nat} {body : List Stmt} {pb : Fr → RF} (hy : XOk Γ y) (c : Cok Γ.g Γ.G Γ.C Y sc W) (hpo : PassesOwn (model Y.prog Y.w) Y.A Y.env Y.xe) (hc : chk Γ.g y sc e = true) (hM : ∀ j, j ∈ mutX Γ.g y → j ∈ x.mp) (hb : PSs Y body (tS x Γ.G W pb)) :
    PS Y (.While e body [] pos) (tS x Γ.G W fun ρ => whileGo (tst Γ.C y) pb n ρ) := by
  refine PS.imp (ps_while (pos := pos) hpo (hy.pt c hc) hb) fun D σ H ⟨ρ, fs, F, b, q⟩ => ?_
  refine ⟨fun m σ' H' => ∃ ρ' fs', FR Γ.G H' σ' ρ' fs' ∧ Big x H' σ' fs' ∧ SW x Γ.G W D (whileGo (tst Γ.C y) pb m ρ'), ⟨n, ρ, fs, F, b, q⟩, ?_⟩
  rintro m σ1 H1 ⟨ρ1, fs1, F1, b1, q1⟩
  cases m with
  | zero => exact q1.elim
  | succ m =>
    refine ⟨ρ1, fs1, F1, ?_⟩
    have q1 : SW x Γ.G W D (match tst Γ.C y ρ1 with
      | .ok false ρ1 => .ok .nx ρ1
      | .ok true ρ1 => match pb ρ1 with
        | .ok .nx ρ2 => whileGo (tst Γ.C y) pb m ρ2
        | .ok .cnt ρ2 => whileGo (tst Γ.C y) pb m ρ2
        | .ok .brk ρ2 => .ok .nx ρ2
        | q => q
      | .bad => .bad
      | .ex e ρ1 => .ex e ρ1) := q1
    show Run Γ.G W σ1 H1 ρ1 fs1 (mutX Γ.g y) _ (tst Γ.C y ρ1)
    cases et : tst Γ.C y ρ1 with
    | bad => rw [et] at q1; exact q1.elim
    | ex ex ρ2 => rw [et] at q1; exact fun cls d H2 fs2 F2 st2 ep => q1 cls d σ1 H2 fs2 F2 (b1.step st2 hM) ep
    | ok t ρ2 =>
      rw [et] at q1
      intro H2 fs2 F2 st2
      have b2 := b1.step st2 hM
      cases t with
      | false => exact q1 σ1 H2 fs2 F2 b2
      | true =>
        refine ⟨fun σ' H' => ∃ ρ' fs', FR Γ.G H' σ' ρ' fs' ∧ Big x H' σ' fs' ∧ SW x Γ.G W D (whileGo (tst Γ.C y) pb m ρ'), fun σ' H' s' => ⟨m, Nat.lt_succ_self m, s'⟩, ρ2, fs2, F2, b2, ?_⟩
        cases hp : pb ρ2 with
        | bad => simp only [hp] at q1; exact q1.elim
        | ex ex ρ' => simp only [hp] at q1; exact q1
        | ok f ρ' =>
          cases f with
          | nx => simp only [hp] at q1; exact fun σ' H' fs' F' b' => ⟨ρ', fs', F', b', q1⟩
          | cnt => simp only [hp] at q1; exact fun σ' H' fs' F' b' => ⟨ρ', fs', F', b', q1⟩
          | brk => simp only [hp] at q1; exact fun σ' H' fs' F' b' => q1 σ' H' fs' F' b'
          | ret s => simp only [hp] at q1; exact q1
end Vm
/-! Vn6 -/
namespace Vm
open PySem L2

variable {Γ : Gx} {Y : Cx} {sc : Scope} {W : WX} {e : Expr} {x : Fx} {pos : Pos} {G : Pg}
theorem iop_arith (o : Op2) (ho : o ≠ .pow) : OpR Y (inplaceOp (pyOp o)) (rBI G o) := by
  cases o with
  | add => exact OpR.imp iop_add fun x y H Q ⟨i, j, k, e1, e2, e3, q⟩ => ⟨i, j, e1, e2, by cases e3; exact q⟩
  | sub => exact OpR.imp iop_sub fun x y H Q ⟨i, j, k, e1, e2, e3, q⟩ => ⟨i, j, e1, e2, by cases e3; exact q⟩
  | mul =>
    refine OpR.imp iop_mul fun x y H Q ⟨i, j, k, e1, e2, e3, q⟩ => ?_
    simp only [arith] at e3
    split at e3
    · rename_i h; cases e3; exact ⟨i, j, e1, e2, b64_of h, q⟩
    · cases e3
  | fdiv =>
    refine OpR.imp iop_fdiv fun x y H Q ⟨i, j, k, e1, e2, e3, q⟩ => ?_
    simp only [arith] at e3
    split at e3
    · rename_i h; cases e3; simp only [Bool.and_eq_true, decide_eq_true_eq] at h; exact ⟨i, j, e1, e2, h, q⟩
    · cases e3
  | mod =>
    refine OpR.imp iop_mod fun x y H Q ⟨i, j, k, e1, e2, e3, q⟩ => ?_
    simp only [arith] at e3
    split at e3
    · rename_i h; cases e3; exact ⟨i, j, e1, e2, of_decide_eq_true h, q⟩
    · cases e3
  | pow => exact absurd rfl ho
  | shl =>
    refine OpR.imp iop_shl fun x y H Q ⟨i, j, k, e1, e2, e3, q⟩ => ?_
    simp only [arith] at e3
    split at e3
    · rename_i h; cases e3; simp only [Bool.and_eq_true, decide_eq_true_eq] at h; exact ⟨i, j, e1, e2, ⟨h.1.1, h.1.2, by omega⟩, q⟩
    · cases e3
  | shr =>
    refine OpR.imp iop_shr fun x y H Q ⟨i, j, k, e1, e2, e3, q⟩ => ?_
    simp only [arith] at e3
    split at e3
    · rename_i h; cases e3; exact ⟨i, j, e1, e2, of_decide_eq_true h, q⟩
    · cases e3
  | band => exact OpR.imp iop_and fun x y H Q ⟨i, j, k, e1, e2, e3, q⟩ => ⟨i, j, e1, e2, by cases e3; exact q⟩
  | bor => exact OpR.imp iop_or fun x y H Q ⟨i, j, k, e1, e2, e3, q⟩ => ⟨i, j, e1, e2, by cases e3; exact q⟩
  | bxor => exact OpR.imp iop_xor fun x y H Q ⟨i, j, k, e1, e2, e3, q⟩ => ⟨i, j, e1, e2, by cases e3; exact q⟩
theorem augV_rep {H : Hp} {o : Op2} {a b s : S} {v w : V} {f g : Fp} {Q : VK} (r1 : RepS G H a v f) (r2 : RepS G H b w g) (e : augV o a b = some s) (q : ∀ u, RepD G.K H (match s with | .v d => d | _ => .non) u → (∃ d, s = .v d) → Q u H) : rBI G o v w H Q := by
  unfold augV at e
  split at e
  · rename_i i j
    obtain ⟨k, ek, es⟩ := Option.map_eq_some_iff.mp e
    subst es
    exact ⟨i, j, k, repS_int r1, repS_int r2, ek, q _ rep_int ⟨_, rfl⟩⟩
  · cases e
theorem aug_v {o : Op2} {a b s : S} (e : augV o a b = some s) : ∃ d, s = .v d := by
  unfold augV at e
  split at e
  · obtain ⟨k, ek, es⟩ := Option.map_eq_some_iff.mp e
    exact ⟨_, es.symm⟩
  · cases e
/-- name op= .. -/
theorem st_augN {y : X} {i : Nat} {nm : Str} {p' : Pos} {o : Op2} (hy : XOk Γ y) (c : Cok Γ.g Γ.G Γ.C Y sc W) (hc : chk Γ.g y sc e = true) (hM : ∀ j, j ∈ mutX Γ.g y → j ∈ x.mp) (hi : i ∈ x.as) (hiy : i ∉ mutX Γ.g y) (ho : o ≠ .pow)
    (hN : Y.N[i]? = some nm) (hx : Loc Y.env.scope nm) (hf : Y.fn nm = true ∨ Y.env.scope.names.lookup nm = some .local) : PS Y (.AugAssign (.Name nm p') (pyOp o) e pos) (tS x Γ.G W fun ρ => doAug Γ.C (.nm i) o y ρ) := by
  refine PS.imp (ps_aug (pos := pos) (by rw [c.N]; exact c.nd) hN hx (xd_ev hy c hc) (ti := rBI Γ.G o) (fun pins s σ H x y v u Q I rx ry q => iop_arith o ho pins s σ H x y v u Q I rx ry q) hf) fun D σ H ⟨ρ, fs, F, b, q⟩ => ?_
  have q : SW x Γ.G W D (match getS ρ i with
    | some a => (XD.ev (y, den Γ.C y) ρ).bind fun b ρ => match augV o a b with
      | some s => if i < ρ.length then .ok .nx (ρ.set i (some s)) else .bad
      | none => .bad
    | none => .bad) := q
  cases es : getS ρ i with
  | none => rw [es] at q; exact q.elim
  | some a =>
    rw [es] at q
    obtain ⟨v, ev, r⟩ := F.get es
    refine ⟨v, ev, ρ, fs, F, ?_⟩
    refine (SW.run (ρ := ρ) (r := XD.ev (y, den Γ.C y) ρ) b hM q).imp fun s ρ1 H1 fs1 F1 st1 ⟨F1', b1, q1⟩ w vp => ?_
    cases eu : augV o a s with
    | none => rw [eu] at q1; exact q1.elim
    | some t =>
      rw [eu] at q1
      by_cases hl : i < ρ1.length
      · simp only [if_pos hl] at q1
        have r' := RepS.keep st1.keep _ _ r fun b z ⟨j, jm, h⟩ => hiy (F.dis i j b z h ▸ jm)
        obtain ⟨g, hr⟩ := vp.rep
        obtain ⟨d, rfl⟩ := aug_v eu
        refine augV_rep r' hr eu fun u ru _ => ?_
        have ru : RepD Γ.G.K H1 d u := ru
        exact q1 _ _ _ (F1'.setS (f := none') (by rw [RepS]; exact ru) (fun j a z => z.elim) fun a z => z.elim) (b1.set hi fun a z => z.elim)
      · simp only [if_neg hl] at q1; exact q1.elim
end Vm
/-! Vn7 -/
namespace Vm
open PySem L2

variable {Γ : Gx} {Y : Cx} {sc : Scope} {W : WX} {e : Expr} {x : Fx} {pos : Pos} {G : Pg}
def rGetI (K : PySem.W.Frag) : V → V → Hp → VK → Prop := fun o i H Q => rIxL K o i H Q ∨ rDG o i H Q
theorem get_item (hu : Y.A.units + 64 < cLine) : PGet Y (rGetI Y.K) := by
  intro pins s σ H o i ov iv Q I ro ri h
  rcases h with h | ⟨a, w, e, g, q⟩
  · obtain ⟨p, xs, i, z, rfl, rfl, hq, he, q⟩ := h
    cases ro
    obtain ⟨t, rfl⟩ := ri
    obtain ⟨its, r, pl, hz⟩ := I.list hq
    obtain ⟨j, h1, h2, h3, h4, h5⟩ := atI_get he
    obtain ⟨w, ew, rw'⟩ := r.get h2
    have hl := r.length
    have hn := line63
    have fin : L2.EP Y pins σ Q w s := ⟨z, H, I, rw', q⟩
    by_cases h0 : 0 ≤ i
    · have hj : i.toNat = j := by
        rw [seqIndex_of h0 h5] at h1
        exact Option.some.inj h1
      exact wpAny_getItem_list pl.isList h0 (by omega) (by rw [hj]; simpa using ew) fin
    · have hj : (i + (its.toArray.size : Int)).toNat = j := by
        rw [seqIndex_neg (by omega) h4] at h1
        rw [List.size_toArray, ← hl]
        exact Option.some.inj h1
      exact wpAny_getItem_list_neg pl.isList (by omega) (by rw [List.size_toArray]; omega) (by omega) (by rw [hj]; simpa using ew) fin
  · subst e
    cases (show ov = Value.ref a from ro)
    exact d_getItem (by omega) I g ri fun w' s3 I3 rw' => ⟨w, H, I3, rw', q⟩
/-- what stands at the key, an int -/
theorem get_rep {K : PySem.W.Frag} (hK : K = G.K) {H : Hp} {t k : S} {i : Int} {w vk : V} {g f : Fp} {Q : VK} (r : RepS G H t w g) (rk : RepS G H k vk f) (e : getI t k = some i) (q : Q (.int i) H) : rGetI K w vk H Q := by
  subst hK
  unfold getI at e
  split at e
  · rename_i l j
    split at e
    · rename_i j' ej
      cases e
      rw [RepS] at r
      have := repS_int rk
      subst this
      obtain ⟨a, vs, rfl, qa, fa, z, rs⟩ := r
      obtain ⟨v, ev, rv⟩ := atI_repS rs ej
      have := repS_int rv
      subst this
      exact .inl ⟨a, vs, j, .int i, rfl, rfl, SqL.of qa, ev, q⟩
    · cases e
  · rename_i tt l k'
    rw [RepS] at rk
    split at e
    · rename_i ik
      split at e
      · rename_i j ej
        cases e
        obtain ⟨a, u, ws, rfl, qa, h1, h2⟩ := dictD_rep (t := tt) (l := l) r rfl
        rcases dget_rep h1 h2 qa ik rk with ⟨g1, g2⟩ | ⟨d', v, g1, g2, g3⟩
        · rw [g1] at ej; cases ej
        · rw [g1] at ej; cases ej
          rw [RepD] at g3
          subst g3
          exact .inr ⟨a, .int i, rfl, g2, q⟩
      · cases e
    · cases e
  · cases e
/-- the end of a store into an item -/
theorem sub_end {i : Nat} {p : List Nat} {kk : D} {kv : V} {H : Hp} {σ : L2.St} {ρ : Fr} {fs : Nat → Fp} {D : Ends} {s s1 t : S} {v v0 w : V} {fv : Fp} (c : Cok Γ.g Γ.G Γ.C Y sc W) (F : FR Γ.G H σ ρ fs) (b : Big x H σ fs) (hi : i ∈ x.mp) (es : getS ρ i = some s1) (et : pget s1 p = some t)
    (ev0 : σ[i]? = some (some v0)) (pw : PathV Γ.G Y.K H v0 p w) (rk : RepD Γ.G.K H kk kv) (rv : RepS Γ.G H s v fv) (nf : ∀ j a, fv a → ¬ fs j a) (tf : ∀ a, fv a → H a ≠ none) (bf : ∀ a, fv a → U x.fs0 x.mp a ∨ x.H0 a = none)
    (q : SW x Γ.G W D (match pathUpd ρ i p fun o => subSet o (.v kk) s with
      | some ρ => .ok .nx ρ
      | none => .bad)) : rSub w kv v H fun H4 => D.nx σ H4 := by
  unfold pathUpd at q
  simp only [es, et] at q
  cases eu : subSet t (.v kk) s with
  | none => rw [eu] at q; exact q.elim
  | some t' =>
    rw [eu] at q
    cases ep : pput s1 p t' with
    | none => simp only [ep] at q; exact q.elim
    | some s' =>
      simp only [ep, Option.map_some] at q
      obtain ⟨v1, w1, g, ev, p1, r1, y1, d1, k1⟩ := part_upd (fv := fv) c F b hi es et nf bf
      have evv : v1 = v0 := by rw [ev0] at ev; simpa using ev.symm
      subst evv
      have ew : w1 = w := pathV_uniq p1 pw
      subst ew
      refine sub_upd r1 rk rv d1 (fun a z => F.trk i a (y1 a z)) tf eu fun H' K g' kS hK rt hg tg => ?_
      obtain ⟨fs', F3, b3⟩ := k1 H' K t' g' s' kS hK rt hg tg ep
      exact q σ H' fs' F3 b3
theorem augV_ints {o : Op2} {a b s : S} (e : augV o a b = some s) : ∃ i j k, a = .v (.int i) ∧ b = .v (.int j) ∧ s = .v (.int k) ∧ arith o i j = some k := by
  unfold augV at e
  split at e
  · obtain ⟨k, ek, es⟩ := Option.map_eq_some_iff.mp e
    exact ⟨_, _, k, rfl, rfl, es.symm, ek⟩
  · cases e
theorem getI_d {t k : S} {i : Int} (e : getI t k = some i) : ∃ kk, k = .v kk := by
  unfold getI at e
  split at e
  · exact ⟨_, rfl⟩
  · exact ⟨_, rfl⟩
  · cases e
theorem pip_of (o : Op2) (ho : o ≠ .pow) : PIp Y (pyOp o) (rBI G o) := fun pins s σ H x y v u Q I rx ry q => iop_arith o ho pins s σ H x y v u Q I rx ry q
/-- a slot that is not changed: its tree, its path -/
theorem same_path (c : Cok Γ.g Γ.G Γ.C Y sc W) {i : Nat} {p M : List Nat} {H H' : Hp} {σ : L2.St} {ρ ρ' : Fr} {fs fs' : Nat → Fp} {s t : S} {v w : V} (F : FR Γ.G H σ ρ fs) (st : Step H ρ fs M H' ρ' fs') (hi : i ∉ M) (es : getS ρ i = some s) (et : pget s p = some t) (ev : σ[i]? = some (some v)) (pw : PathV Γ.G Y.K H v p w) :
    getS ρ' i = some s ∧ PathV Γ.G Y.K H' v p w := by
  refine ⟨?_, ?_⟩
  · unfold getS at es ⊢
    rw [(st.same i hi).1]; exact es
  · obtain ⟨v1, e1, r1⟩ := F.get es
    have : v1 = v := by rw [ev] at e1; simpa using e1.symm
    subst this
    exact path_keep c st.keep r1 et (fun a z ⟨j, jm, h⟩ => hi (F.dis i j a z h ▸ jm)) pw
theorem st_augS {y k : X} {i : Nat} {p : List Nat} {oe ke : Expr} {tp : Pos} {o : Op2} (hy : XOk Γ y) (hk : XOk Γ k) (c : Cok Γ.g Γ.G Γ.C Y sc W) (hc : chk Γ.g y sc e = true) (hck : chk Γ.g k sc ke = true) (hM : ∀ j, j ∈ mutX Γ.g y → j ∈ x.mp) (hMk : ∀ j, j ∈ mutX Γ.g k → j ∈ x.mp) (hi : i ∈ x.mp) (hik : i ∉ mutX Γ.g k) (hiy : i ∉ mutX Γ.g y) (ho : o ≠ .pow)
    (hp : pathB Γ.g.nt Γ.g.N sc i p oe = true) (ha : ∀ ov iv new, augStore ke ov iv new = (do holding [new, ov, iv] (setItem ov iv new); release [new, ov, iv] []; pure .next)) : PS Y (.AugAssign (.Subscript oe ke tp) (pyOp o) e pos) (tS x Γ.G W fun ρ => doAug Γ.C (.sub i p k) o y ρ) := by
  refine PS.imp (ps_augS (pos := pos) (pe_path c _ rfl hp) (xd_ev hk c hck) (get_item c.un) (xd_ev hy c hc) (pip_of (G := Γ.G) o ho) (set_sub c.un) ha) fun D σ H ⟨ρ, fs, F, b, q⟩ => ?_
  have q : SW x Γ.G W D (if hasP ρ i p then (XD.ev (k, den Γ.C k) ρ).bind fun k ρ => match (getS ρ i).bind fun s => (pget s p).bind fun t => getI t k with
      | some a => (XD.ev (y, den Γ.C y) ρ).bind fun b ρ => match augV o (.v (.int a)) b with
        | some s => match pathUpd ρ i p fun o => subSet o k s with
          | some ρ => .ok .nx ρ
          | none => .bad
        | none => .bad
      | none => .bad
    else .bad) := q
  cases hq : hasP ρ i p with
  | false => rw [hq] at q; exact q.elim
  | true =>
    rw [hq, if_pos rfl] at q
    unfold hasP at hq
    obtain ⟨t, ht⟩ := Option.isSome_iff_exists.mp hq
    obtain ⟨s1, es, et⟩ := Option.bind_eq_some_iff.mp ht
    obtain ⟨v0, ev0, r0⟩ := F.get es
    obtain ⟨w, g0, p0, rt0, y0, _⟩ := path_upd c r0 et
    refine ⟨v0, w, ev0, p0, ρ, fs, F, ?_⟩
    refine (SW.run (ρ := ρ) (r := XD.ev (k, den Γ.C k) ρ) b hMk q).imp fun kd ρ2 H2 fs2 F2 st2 ⟨F2', b2, q2⟩ kv vk => ?_
    obtain ⟨es2, p2⟩ := same_path c F st2 hik es et ev0 p0
    simp only [es2, Option.bind_some, et] at q2
    cases eg : getI t kd with
    | none => rw [eg] at q2; exact q2.elim
    | some i0 =>
      rw [eg] at q2
      obtain ⟨kk, rfl⟩ := getI_d eg
      obtain ⟨v1, ev1, r1⟩ := F2'.get es2
      have : v1 = v0 := by rw [ev0] at ev1; simpa using ev1.symm
      subst this
      obtain ⟨w1, g1, p1, rt1, y1, _⟩ := path_upd c r1 et
      have := pathV_uniq p1 p2
      subst this
      obtain ⟨fk, rk⟩ := vk.rep
      refine get_rep c.K rt1 rk eg ⟨ρ2, fs2, F2', ?_⟩
      refine (SW.run (ρ := ρ2) (r := XD.ev (y, den Γ.C y) ρ2) b2 hM q2).imp fun s ρ3 H3 fs3 F3 st3 ⟨F3', b3, q3⟩ yv vy => ?_
      obtain ⟨es3, p3⟩ := same_path c F2' st3 hiy es2 et ev1 p2
      cases eu : augV o (.v (.int i0)) s with
      | none => rw [eu] at q3; exact q3.elim
      | some z =>
        simp only [eu] at q3
        obtain ⟨i1, j1, k1, e1, e2, e3, e4⟩ := augV_ints eu
        cases e1
        subst e2 e3
        obtain ⟨fy, ry⟩ := vy.rep
        have := repS_int ry
        subst this
        exact ⟨i0, j1, k1, rfl, rfl, e4, sub_end (fv := none') c F3' b3 hi es3 et ev1 p3 (RepD.keep st3.keep _ _ vk.toD) (by rw [RepS]; exact rep_int) (fun _ _ z => z.elim) (fun _ z => z.elim) (fun _ z => z.elim) q3⟩
theorem iop_in (o : Op2) (ho : o ≠ .pow) : InOp Y (pyOp o) (rBI G o) := fun pins s σ H x y v u Q I rx ry q => iop_arith o ho pins s σ H x y v u Q I rx ry q
theorem st_augA {y : X} {i f : Nat} {p : List Nat} {oe : Expr} {nm : Str} {ap : Pos} {o : Op2} (hy : XOk Γ y) (c : Cok Γ.g Γ.G Γ.C Y sc W) (hc : chk Γ.g y sc e = true) (hM : ∀ i, i ∈ mutX Γ.g y → i ∈ x.mp) (hi : i ∈ x.mp) (hiy : i ∉ mutX Γ.g y) (ho : o ≠ .pow) (hp : pathB Γ.g.nt Γ.g.N sc i p oe = true) (hn : Γ.g.nt.flds[f]? = some nm) :
    PS Y (.AugAssign (.Attribute oe nm ap) (pyOp o) e pos) (tS x Γ.G W fun ρ => doAug Γ.C (.att i p f) o y ρ) := by
  refine PS.imp (ps_fldaug (pos := pos) (tpos := ap) (f := nm) (pe_path c _ rfl hp) (xd_ev hy c hc) (iop_in (G := Γ.G) o ho)) fun D σ H ⟨ρ, fs, F, b, q⟩ => ?_
  have q : SW x Γ.G W D (match (getS ρ i).bind fun s => (pget s p).bind fun t => fldGet t f with
    | some a => (XD.ev (y, den Γ.C y) ρ).bind fun b ρ => match augV o a b with
      | some s => match pathUpd ρ i p fun o => fldPut Γ.C.at' o f s with
        | some ρ => .ok .nx ρ
        | none => .bad
      | none => .bad
    | none => .bad) := q
  cases ha : (getS ρ i).bind fun s => (pget s p).bind fun t => fldGet t f with
  | none => rw [ha] at q; exact q.elim
  | some a =>
    rw [ha] at q
    obtain ⟨s1, es, h1⟩ := Option.bind_eq_some_iff.mp ha
    obtain ⟨t, et, ef⟩ := Option.bind_eq_some_iff.mp h1
    obtain ⟨v0, ev0, r0⟩ := F.get es
    obtain ⟨w, g0, p0, rt0, y0, _⟩ := path_upd c r0 et
    obtain ⟨cl, aa, dx, fl, u, e2, e3, e4, e5, e6⟩ := fld_rep c rt0 ef
    have kk := c.fld cl f e4
    have en := c.nam f nm hn
    subst e2
    refine ⟨v0, _, ev0, p0, aa, Γ.G.ca cl, dx, fl, u, rfl, e3, kk.1, by rw [← en]; exact kk.2, by rw [← en]; exact e5, ρ, fs, F, ?_⟩
    refine (SW.run (ρ := ρ) (r := XD.ev (y, den Γ.C y) ρ) b hM q).imp fun s ρ3 H3 fs3 F3 st3 ⟨F3', b3, q3⟩ yv vy => ?_
    obtain ⟨es3, p3⟩ := same_path c F st3 hiy es et ev0 p0
    cases eu : augV o a s with
    | none => rw [eu] at q3; exact q3.elim
    | some z =>
      simp only [eu] at q3
      obtain ⟨i1, j1, k1, h1, h2, h3, e4'⟩ := augV_ints eu
      subst h1 h2 h3
      obtain ⟨fy, ry⟩ := vy.rep
      have := repS_int ry
      subst this
      have := repS_int e6
      subst this
      refine ⟨i1, j1, k1, rfl, rfl, e4', ?_⟩
      unfold pathUpd at q3
      simp only [es3, et] at q3
      cases eu2 : fldPut Γ.C.at' t f (.v (.int k1)) with
      | none => rw [eu2] at q3; exact q3.elim
      | some t' =>
        rw [eu2] at q3
        cases ep : pput s1 p t' with
        | none => simp only [ep] at q3; exact q3.elim
        | some s' =>
          simp only [ep, Option.map_some] at q3
          obtain ⟨v1, w1, g, ev, p1, r1, y1, d1, k2⟩ := part_upd (fv := none') c F3' b3 hi es3 et (fun _ _ z => z.elim) (fun _ z => z.elim)
          have evv : v1 = v0 := by rw [ev0] at ev; simpa using ev.symm
          subst evv
          have ew := pathV_uniq p1 p3
          subst ew
          unfold fldPut at eu2
          split at eu2
          · rename_i cl2 fl2 vs2
            split at eu2
            · rename_i hh
              rw [Bool.and_eq_true, decide_eq_true_eq] at hh
              cases eu2
              rw [RepS] at r1
              obtain ⟨a2, dx2, ws, ea2, qa, fa, ⟨z1, z2⟩, rs⟩ := r1
              cases ea2
              have ok := c.att cl2 f hh.1
              have kS : ∀ {o}, Keep H3 (L2.upd H3 aa o) (fun b => b = aa) := Keep.set qa (fun z => z) rfl
              have rs' := RepSs.keep (kS (o := .ins (Γ.G.ca cl2) dx2 (putF (Γ.G.fn f) (.int k1) ((fl2.map Γ.G.fn).zip ws)))) _ _ rs fun b z => z.2
              obtain ⟨ws', e1, e2, e3', e4⟩ := fput_new (c := cl2) (s := .v (.int k1)) (y := .int k1) (fy := none') (fun j hj => c.inj cl2 j f hj ok) ok (by rw [RepS]; exact rep_int) z2 z1 rs' fun b z => z.elim
              have ec : Γ.G.ca cl2 = Γ.G.ca cl := by
                rw [RepS] at rt0
                obtain ⟨a3, dx3, ws3, ea3, qa3, _⟩ := rt0
                cases ea3
                rw [e3] at qa3
                injection qa3 with h
                injection h with h1 h2 h3
                exact h1.symm
              rw [← en, ← ec]
              refine ⟨dx2, _, qa, ?_, ?_⟩
              · rw [List.length_zip, List.length_map, ← z1, Nat.min_self]; omega
              · obtain ⟨fs', F2, b2⟩ := k2 _ _ _ g s' kS (fun b h => h ▸ fa) (by
                  rw [RepS]
                  refine ⟨aa, dx2, ws', rfl, by rw [upd_same, e1], fa, ⟨e2, e3'⟩, RepSs.mono _ _ e4 fun b z => ?_⟩
                  rcases z with z | z
                  · exact z
                  · exact z.elim) (fun b z => .inl z) (fun b z h => F3'.trk i b (y1 b z) (kS.dom b h)) ep
                exact q3 _ _ _ F2 b2
            · cases eu2
          · cases eu2
end Vm
/-! Vn8 -/
namespace Vm
open PySem L2

variable {Γ : Gx} {Y : Cx} {sc : Scope} {W : WX} {e : Expr} {x : Fx} {pos : Pos} {G : Pg}
/-- which names are stored from the right; none: the model is silent -/
def swpd (sc : Scope) (ts vs : List Expr) : Option (Option (List Str)) :=
  if !(ts.length == 2 || ts.length == 3) || vs.length != ts.length then some none
  else if vs.any fun | .Starred .. => true | _ => false then some none
  else
    let line := (ts.head?.map (·.pos.line)).getD 0
    let names := ts.filterMap fun
      | .Name id pos => if sc.names.lookup id == some .local && pos.line == line then some id else none
      | _ => none
    if names.length != ts.length || names.eraseDups.length != names.length then some none
    else if vs.all (foldedForSure 8) then some none
    else if vs.all (constantsAlone 8) then none
    else some (some names)
theorem swpd_of {env : Env} {ts vs : List Expr} {k k2 : Nat} {p p2 : Pos} {r : Option (List Str)} (hk : env.scope.kind = .function) (hs : env.scope = sc) (h : swpd sc ts vs = some r) : swappedStores [.Tuple ts k p] (.Tuple vs k2 p2) env = pure r := by
  have hb : (env.blockKind != .function) = false := by
    unfold Env.blockKind
    rw [hk]; rfl
  subst hs
  unfold swpd at h
  unfold swappedStores
  simp only [hb, Bool.or_false]
  by_cases h1 : (!(ts.length == 2 || ts.length == 3) || vs.length != ts.length) = true
  · rw [if_pos h1] at h ⊢; cases h; rfl
  rw [if_neg h1] at h ⊢
  by_cases h2 : (vs.any fun | .Starred .. => true | _ => false) = true
  · rw [if_pos h2] at h; cases h; exact if_pos h2
  rw [if_neg h2] at h
  refine (if_neg h2).trans ?_
  dsimp only at h ⊢
  by_cases h3 : (((ts.filterMap fun
      | .Name id pos => if env.scope.names.lookup id == some .local && pos.line == (ts.head?.map (·.pos.line)).getD 0 then some id else none
      | _ => none).length != ts.length || (ts.filterMap fun
      | .Name id pos => if env.scope.names.lookup id == some .local && pos.line == (ts.head?.map (·.pos.line)).getD 0 then some id else none
      | _ => none).eraseDups.length != (ts.filterMap fun
      | .Name id pos => if env.scope.names.lookup id == some .local && pos.line == (ts.head?.map (·.pos.line)).getD 0 then some id else none
      | _ => none).length) = true)
  · have h := (if_pos h3).symm.trans h; cases h; exact if_pos h3
  have h := (if_neg h3).symm.trans h
  refine (if_neg h3).trans ?_
  by_cases h4 : vs.all (foldedForSure 8) = true
  · rw [if_pos h4] at h ⊢; cases h; rfl
  rw [if_neg h4] at h ⊢
  by_cases h5 : vs.all (constantsAlone 8) = true
  · rw [if_pos h5] at h; cases h
  rw [if_neg h5] at h ⊢
  cases h
  rfl
def setV : List Nat → List V → L2.St → L2.St
  | i :: is, v :: vs, σ => setV is vs (σ.set i (some v))
  | _, _, σ => σ
theorem sets_fr {G : Pg} {H : Hp} : ∀ {is : List Nat} {ss : List S} {vs : List V} {f : Fp} {σ : L2.St} {ρ ρ' : Fr} {fs : Nat → Fp}, FR G H σ ρ fs → Big x H σ fs → (∀ i, i ∈ is → i ∈ x.as) → RepSs G H ss vs f → (∀ j a, f a → ¬ fs j a) → (∀ a, f a → H a ≠ none) → (∀ a, f a → U x.fs0 x.mp a ∨ x.H0 a = none) → setsS is ss ρ = some ρ' →
    is.length = vs.length ∧ ∃ fs', FR G H (setV is vs σ) ρ' fs' ∧ Big x H (setV is vs σ) fs'
  | [], [], vs, f, σ, ρ, ρ', fs, F, b, hi, r, nf, tf, bf, e => by
    cases e
    rw [RepSs] at r
    subst r
    exact ⟨rfl, fs, F, b⟩
  | [], s :: ss, vs, f, σ, ρ, ρ', fs, F, b, hi, r, nf, tf, bf, e => by cases e
  | i :: is, [], vs, f, σ, ρ, ρ', fs, F, b, hi, r, nf, tf, bf, e => by cases e
  | i :: is, s :: ss, vs, f, σ, ρ, ρ', fs, F, b, hi, r, nf, tf, bf, e => by
    rw [RepSs] at r
    obtain ⟨v, r', g, rfl, y, ra, rb⟩ := r
    unfold setsS at e
    split at e
    · have F1 := F.setS (i := i) ra (fun j a z w => nf j a (y a z) w) (fun a z => tf a (y a z))
      have b1 := b.set (i := i) (v := v) (f := g) (hi i List.mem_cons_self) fun a z => bf a (y a z)
      obtain ⟨h1, fs', F2, b2⟩ := sets_fr F1 b1 (fun j m => hi j (List.mem_cons_of_mem _ m)) rb (fun j a z w => by
        by_cases hj : j = i
        · rw [if_pos hj] at w; exact z.2 w
        · rw [if_neg hj] at w; exact nf j a z.1 w) (fun a z => tf a z.1) (fun a z => bf a z.1) e
      exact ⟨by rw [List.length_cons, List.length_cons, h1], fs', F2, b2⟩
    · cases e
theorem par_run {xs : Xs} {is : List Nat} (hM : ∀ j, j ∈ mutXs Γ.g xs → j ∈ x.mp) (hi : ∀ i, i ∈ is → i ∈ x.as) {D : Ends} {σ : L2.St} {H : Hp} {Q : List V → Hp → Prop} (hQ : ∀ vs H', is.length = vs.length → D.nx (setV is vs σ) H' → Q vs H')
    (h : tS x Γ.G W (fun ρ => (evsL (dens Γ.C xs) ρ).bind fun ss ρ => match setsS is ss ρ with
      | some ρ => .ok .nx ρ
      | none => .bad) D σ H) : tVs Γ.G W (mutXs Γ.g xs) (evsL (dens Γ.C xs)) σ H Q := by
  obtain ⟨ρ, fs, F, b, q⟩ := h
  refine ⟨ρ, fs, F, ?_⟩
  refine (SW.run (ρ := ρ) (r := evsL (dens Γ.C xs) ρ) b hM q).imp fun ss ρ1 H1 fs1 F1 st1 ⟨F1', b1, q1⟩ vs vp => ?_
  obtain ⟨f, hr, tr, x1, x2⟩ := vp
  cases e : setsS is ss ρ1 with
  | none => rw [e] at q1; exact q1.elim
  | some ρ2 =>
    simp only [e] at q1
    obtain ⟨h1, fs', F2, b2⟩ := sets_fr F1' b1 hi hr (fun j a z w => x1 j a z w) tr (fun a z => by
      rcases x2 a z with y | y
      · exact b.up hM y
      · exact .inr (b.keep.dom a y)) e
    exact hQ vs H1 h1 (q1 _ _ _ F2 b2)
theorem st_par2 {xs : Xs} {i j : Nat} {n m : Str} {a b : Expr} {k k2 : Nat} {px py pt p2 : Pos} (hxs : XsOk Γ xs) (c : Cok Γ.g Γ.G Γ.C Y sc W) (cal : Y.calm = true) (hc : chks Γ.g xs sc [a, b] = true) (hM : ∀ j, j ∈ mutXs Γ.g xs → j ∈ x.mp) (hi : i ∈ x.as) (hj : j ∈ x.as) (hij : i ≠ j)
    (hn : Γ.g.N[i]? = some n) (hm : Γ.g.N[j]? = some m) (ln : sc.names.lookup n = some .local) (lm : sc.names.lookup m = some .local) (hk : sc.kind = .function) (hw : swpd sc [.Name n px, .Name m py] [a, b] = some (some [n, m])) :
    PS Y (.Assign [.Tuple [.Name n px, .Name m py] k pt] (.Tuple [a, b] k2 p2) pos) (tS x Γ.G W fun ρ => (evsL (dens Γ.C xs) ρ).bind fun ss ρ => match setsS [i, j] ss ρ with
      | some ρ => .ok .nx ρ
      | none => .bad) := by
  refine PS.imp (ps_par (pos := pos) cal (by rw [c.N]; exact c.nd) (by rw [c.N]; exact hn) (by rw [c.N]; exact hm) hij (by rw [c.sc]; exact ln) (by rw [c.sc]; exact lm) (pa_ev c hxs hc) (swpd_of (by rw [c.sc]; exact hk) c.sc hw)) fun D σ H q => ?_
  refine par_run hM (fun l ml => ?_) (fun vs H' hl q' => ?_) q
  · rcases List.mem_cons.mp ml with rfl | ml
    · exact hi
    · rw [List.mem_singleton.mp ml]; exact hj
  · match vs, hl, q' with
    | [v, w], _, q' => exact ⟨v, w, rfl, q'⟩
theorem st_par3 {xs : Xs} {i j l : Nat} {n m o : Str} {a b d : Expr} {k k2 : Nat} {px py pz pt p2 : Pos} (hxs : XsOk Γ xs) (c : Cok Γ.g Γ.G Γ.C Y sc W) (cal : Y.calm = true) (hc : chks Γ.g xs sc [a, b, d] = true) (hM : ∀ j, j ∈ mutXs Γ.g xs → j ∈ x.mp) (hi : i ∈ x.as) (hj : j ∈ x.as) (hl : l ∈ x.as) (hij : i ≠ j) (hil : i ≠ l) (hjl : j ≠ l)
    (hn : Γ.g.N[i]? = some n) (hm : Γ.g.N[j]? = some m) (ho : Γ.g.N[l]? = some o) (ln : sc.names.lookup n = some .local) (lm : sc.names.lookup m = some .local) (lo : sc.names.lookup o = some .local) (hk : sc.kind = .function) (hw : swpd sc [.Name n px, .Name m py, .Name o pz] [a, b, d] = some (some [n, m, o])) :
    PS Y (.Assign [.Tuple [.Name n px, .Name m py, .Name o pz] k pt] (.Tuple [a, b, d] k2 p2) pos) (tS x Γ.G W fun ρ => (evsL (dens Γ.C xs) ρ).bind fun ss ρ => match setsS [i, j, l] ss ρ with
      | some ρ => .ok .nx ρ
      | none => .bad) := by
  refine PS.imp (ps_par3 (pos := pos) cal (by rw [c.N]; exact c.nd) (by rw [c.N]; exact hn) (by rw [c.N]; exact hm) (by rw [c.N]; exact ho) hij hil hjl (by rw [c.sc]; exact ln) (by rw [c.sc]; exact lm) (by rw [c.sc]; exact lo) (pa_ev c hxs hc) (swpd_of (by rw [c.sc]; exact hk) c.sc hw)) fun D σ H q => ?_
  refine par_run hM (fun l' ml => ?_) (fun vs H' hl q' => ?_) q
  · rcases List.mem_cons.mp ml with rfl | ml
    · exact hi
    · rcases List.mem_cons.mp ml with rfl | ml
      · exact hj
      · rw [List.mem_singleton.mp ml]; exact hl
  · match vs, hl, q' with
    | [v, w, u], _, q' => exact ⟨v, w, u, rfl, q'⟩
end Vm
/-! Vn9 -/
namespace Vm
open PySem L2 PyProof.Rows

variable {Γ : Gx} {Y : Cx} {sc : Scope} {W : WX} {e : Expr} {x : Fx} {pos : Pos} {G : Pg}
/-- an entry is there, and goes -/
def DDel (H : Hp) (a : Addr) (y : V) (H' : Hp) : Prop :=
  (∃ (kvs : List (Key × V)) (k : Key), H a = some (.dK kvs) ∧ y = kV k ∧ (valV kvs k).isSome = true ∧ H' = upd H a (.dK (dropK kvs k))) ∨
  ∃ (kvs : List (List Key × V)) (k : List Key) (b : Addr), H a = some (.dT kvs) ∧ y = .ref b ∧ H b = some (.tup (k.map kV)) ∧ (valV kvs k).isSome = true ∧ H' = upd H a (.dT (dropK kvs k))
theorem d_delT {X : Cx} {pins : List (Addr × Obj)} {σ : L2.St} {H : Hp} {s : Shared} {a b : Addr} {kvs : List (List Key × V)} {k : List Key} {E : Value → Shared → Prop} {Q : Unit → Shared → Prop} (hu : X.A.units + 1 < cLine) (I : Inv X pins σ H s) (ha : H a = some (.dT kvs)) (hb : H b = some (.tup (k.map kV))) (l : (valV kvs k).isSome = true)
    (h : ∀ s', Inv X pins σ (upd H a (.dT (dropK kvs k))) s' → Q () s') : wpAny (model X.prog X.w) X.A (delItem (.ref a) (.ref b)) Q E s := by
  obtain ⟨z, hd, xs', rel, dd⟩ := dt_of I.hok ha
  have hz : xs'.length ≤ sizeLine := by rw [← Paired.length rel]; exact z
  have r := rel.val k
  obtain ⟨v0, ev⟩ := Option.isSome_iff_exists.mp l
  rw [ev] at r
  obtain ⟨p, hp⟩ : ∃ p, atKey xs' k = some p := by
    cases e : atKey xs' k with
    | none => rw [e] at r; exact (show False from r).elim
    | some p => exact ⟨p, rfl⟩
  refine wpAny_delItem_heap (knd := tupleKind (mixKind X.prog X.w)) (k := k) (p := p) (tupleKind_room_in1 hu) (key_of I.hok hb) hd dd hp (fun h' dd' hs => ?_) hz
  obtain ⟨o, es, ep, hq, h2, h3, h4, _, h5⟩ := dd'
  have I2 : Inv X pins σ (upd H a (.dT (dropK kvs k))) { s with heap := h', toks := s.toks + (tupleKind (mixKind X.prog X.w)).draws k } :=
    d_write I (by rw [ha]; exact True.intro) hs ⟨o, hq⟩ ⟨Nat.le_trans (dropK_le kvs k) z, hd, _, (L2.DX.KT_drop k rel).keeps (fun c ys ec => (by rw [upd_ne (ne_of ec ha (fun z => nomatch z))]; exact ec)), o, es, ep, hq, h2, h3, h4, h5⟩
  exact h _ I2
def sDel (td ty : TE) : TS := fun D σ H => td σ H fun x H1 => ty σ H1 fun y H2 => ∃ a H3, x = .ref a ∧ DDel H2 a y H3 ∧ D.nx σ H3
theorem ps_del {X : Cx} {o i : Expr} {td ty : TE} {tpos pos : Pos} (hu : X.A.units + 64 < cLine) (ho : PE X o td) (hi : PE X i ty) : PS X (.Delete [.Subscript o i tpos] pos) (sDel td ty) := by
  refine ⟨fun pins s σ H D I h => ?_⟩
  refine wpAny_Delete (wpAny_deleteEach_cons (wpAny_delete_Subscript (thn (ho.run pins s σ H _ I h) fun u s1 ⟨x, H1, I1, rx, q1⟩ => thn (hi.run pins s1 σ H1 _ I1 q1) fun iv s2 ⟨y, H2, I2, ry, a, H3, ex, g, q2⟩ => ?_)))
  subst ex
  obtain rfl : u = Value.ref a := rx
  rcases g with ⟨kvs, k, e, ey, l, eh⟩ | ⟨kvs, k, b, e, ey, eb, l, eh⟩
  · subst ey eh
    exact d_delItem I2 e ry l fun s3 I3 => wpAny_deleteEach_nil ⟨σ, _, I3, q2⟩
  · subst ey eh
    obtain rfl : iv = Value.ref b := ry
    exact d_delT (by omega) I2 e eb l fun s3 I3 => wpAny_deleteEach_nil ⟨σ, _, I3, q2⟩
theorem drop_same {κ : Type} [DecidableEq κ] {K : PySem.W.Frag} {H : Hp} {kd : D → Option κ} {k : D} {q : κ} (hs : ∀ d κ', kd d = some κ' → D.same d k = decide (κ' = q)) : ∀ {l : List (D × D)} {kvs : List (κ × V)}, (kvs.map fun p => some p.1) = (l.map (·.1)).map kd → RepDs K H (l.map (·.2)) (kvs.map (·.2)) →
    ((dropK kvs q).map fun p => some p.1) = ((ddel l k).map (·.1)).map kd ∧ RepDs K H ((ddel l k).map (·.2)) ((dropK kvs q).map (·.2))
  | [], kvs, h, r => by
    cases kvs with
    | nil => exact ⟨rfl, .nil⟩
    | cons p r => simp at h
  | (a, b) :: l, kvs, h, r => by
    cases kvs with
    | nil => simp at h
    | cons p r' =>
      obtain ⟨p1, p2⟩ := p
      simp only [List.map_cons, List.cons.injEq] at h
      rw [List.map_cons, List.map_cons, RepDs] at r
      obtain ⟨w, ws, ev, ra, rb⟩ := r
      simp only [List.cons.injEq] at ev
      obtain ⟨rfl, rfl⟩ := ev
      obtain ⟨i1, i2⟩ := drop_same hs h.2 rb
      have sm := hs a p1 h.1.symm
      unfold dropK ddel at i1 i2 ⊢
      by_cases hq : p1 = q
      · have e : D.same a k = true := by rw [sm]; exact decide_eq_true hq
        rw [List.filter_cons_of_neg (by simp [hq]), List.filter_cons_of_neg (by simp [e])]
        exact ⟨i1, i2⟩
      · have e : D.same a k = false := by rw [sm]; exact decide_eq_false hq
        rw [List.filter_cons_of_pos (by simp [hq]), List.filter_cons_of_pos (by simp [e])]
        simp only [List.map_cons]
        exact ⟨by rw [i1, h.1], .cons ra i2⟩
theorem ddel_rep {K : PySem.W.Frag} {H : Hp} {t : Bool} {l : List (D × D)} {ws : List V} {u : HO} {a : Addr} {k : D} {vk : V} (hk : DKeys t (l.map (·.1)) ws u) (hv : RepDs K H (l.map (·.2)) ws) (ha : H a = some u) (ik : k.isKey t = true) (rk : RepD K H k vk) (hl : (dget l k).isSome = true) :
    ∃ u' ws', DDel H a vk (upd H a u') ∧ DKeys t ((ddel l k).map (·.1)) ws' u' ∧ RepDs K H ((ddel l k).map (·.2)) ws' ∧ ¬ Pers u := by
  cases t with
  | false =>
    obtain ⟨kvs, rfl, h1, rfl⟩ := hk
    obtain ⟨κ, e⟩ := isKey_ft ik
    obtain ⟨p1, p2⟩ := drop_same (kd := keyD) (fun d κ' hd => same_key hd e) h1 hv
    refine ⟨.dK (dropK kvs κ), _, .inl ⟨kvs, κ, ha, keyD_V rk e, ?_, rfl⟩, ⟨_, rfl, p1, rfl⟩, p2, fun z => z⟩
    rcases dget_val (kd := keyD) (k := k) (q := κ) (fun d κ' hd => same_key hd e) h1 hv with ⟨g1, g2⟩ | ⟨d, v, g1, g2, g3⟩
    · rw [g1] at hl; cases hl
    · rw [g2]; rfl
  | true =>
    obtain ⟨kvs, rfl, h1, rfl⟩ := hk
    obtain ⟨κ, e⟩ := isKey_tt ik
    obtain ⟨b, ev, hb⟩ := keysD_V rk e
    obtain ⟨p1, p2⟩ := drop_same (kd := keysD) (fun d κ' hd => same_tup hd e) h1 hv
    refine ⟨.dT (dropK kvs κ), _, .inr ⟨kvs, κ, b, ha, ev, hb, ?_, rfl⟩, ⟨_, rfl, p1, rfl⟩, p2, fun z => z⟩
    rcases dget_val (kd := keysD) (k := k) (q := κ) (fun d κ' hd => same_tup hd e) h1 hv with ⟨g1, g2⟩ | ⟨d, v, g1, g2, g3⟩
    · rw [g1] at hl; cases hl
    · rw [g2]; rfl
theorem st_del {k : X} {i : Nat} {p : List Nat} {oe ke : Expr} {tp : Pos} (hk : XOk Γ k) (c : Cok Γ.g Γ.G Γ.C Y sc W) (hck : chk Γ.g k sc ke = true) (hMk : ∀ j, j ∈ mutX Γ.g k → j ∈ x.mp) (hi : i ∈ x.mp) (hik : i ∉ mutX Γ.g k) (hp : pathB Γ.g.nt Γ.g.N sc i p oe = true) :
    PS Y (.Delete [.Subscript oe ke tp] pos) (tS x Γ.G W fun ρ => if hasP ρ i p then (ev Γ.C k ρ).bind fun k ρ => match k with
    | .v k => match pathUpd ρ i p fun o => subDel o k with
      | some ρ => .ok .nx ρ
      | none => .bad
    | _ => .bad
    else .bad) := by
  refine PS.imp (ps_del (tpos := tp) (pos := pos) c.un (pe_path c _ rfl hp) (xd_ev hk c hck)) fun D σ H ⟨ρ, fs, F, b, q⟩ => ?_
  dsimp only at q
  cases hq : hasP ρ i p with
  | false => rw [hq] at q; exact q.elim
  | true =>
    rw [hq, if_pos rfl] at q
    unfold hasP at hq
    obtain ⟨t, ht⟩ := Option.isSome_iff_exists.mp hq
    obtain ⟨s1, es, et⟩ := Option.bind_eq_some_iff.mp ht
    obtain ⟨v0, ev0, r0⟩ := F.get es
    obtain ⟨w, g0, p0, rt0, y0, _⟩ := path_upd c r0 et
    refine ⟨v0, w, ev0, p0, ρ, fs, F, ?_⟩
    refine (SW.run (ρ := ρ) (r := XD.ev (k, den Γ.C k) ρ) b hMk q).imp fun kd ρ2 H2 fs2 F2 st2 ⟨F2', b2, q2⟩ kv vk => ?_
    obtain ⟨es2, p2⟩ := same_path c F st2 hik es et ev0 p0
    cases kd with
    | v kk =>
      unfold pathUpd at q2
      simp only [es2, et] at q2
      cases eu : subDel t kk with
      | none => rw [eu] at q2; exact q2.elim
      | some t' =>
        rw [eu] at q2
        cases ep : pput s1 p t' with
        | none => simp only [ep] at q2; exact q2.elim
        | some s' =>
          simp only [ep, Option.map_some] at q2
          obtain ⟨v1, w1, g, ev, p1, r1, y1, d1, k1⟩ := part_upd (fv := none') c F2' b2 hi es2 et (fun _ _ z => z.elim) (fun _ z => z.elim)
          have evv : v1 = v0 := by rw [ev0] at ev; simpa using ev.symm
          subst evv
          have ew := pathV_uniq p1 p2
          subst ew
          unfold subDel at eu
          split at eu
          · rename_i tt l
            split at eu
            · rename_i hh
              rw [Bool.and_eq_true] at hh
              cases eu
              rw [RepS] at r1
              obtain ⟨a, u, ws, rfl, qa, fa, dk, rs⟩ := r1
              obtain ⟨u', ws', dp, dk', rs', np⟩ := ddel_rep dk rs qa hh.1 vk.toD hh.2
              have kS : Keep H2 (L2.upd H2 a u') (fun b => b = a) := Keep.set qa np rfl
              obtain ⟨fs', F3, b3⟩ := k1 _ _ _ g s' kS (fun b h => h ▸ fa) (by
                rw [RepS]
                exact ⟨a, u', ws', rfl, upd_same, fa, dk', RepDs.keep kS _ _ rs'⟩) (fun b z => .inl z) (fun b z h => F2'.trk i b (y1 b z) (kS.dom b h)) ep
              exact ⟨a, _, rfl, dp, q2 _ _ _ F3 b3⟩
            · cases eu
          · cases eu
    | _ => exact q2.elim
end Vm
/-! Vo1 -/
set_option maxHeartbeats 1000000
namespace Vm
open PySem PySem.Spec PySem.Calls PyProof.Rows L2
section
variable {P : Program} {w : World} {A : Around} {E : Value → Shared → Prop} {K : PySem.W.Frag} {x D : Addr} {ox : Obj} {od : Option Obj}
abbrev gaV : Value := .builtin "BaseException.__getattribute__"
abbrev cdV : Value := .builtin "object.__class__"
theorem cls_found (C : ExcC K D) : PySem.W.findObj K D od "__class__" = some (.bind (.builtin "getset_descriptor.__get__") cdV) := by
  have ic : ∃ cd, PySem.W.clsIn K D = some cd := let ⟨cd, h, _⟩ := PySem.W.any_some C.hd; ⟨cd, h⟩
  obtain ⟨cd, h⟩ := ic
  simp only [PySem.W.findObj, h, C.ha, C.hn, C.ht, Option.bind_some]
/-- the class of an exception, asked by its attribute -/
theorem exc_class {s : Shared} {Q : Option Value → Shared → Prop} (C : ExcC K D) (X : K.In s.heap) (I : PySem.W.InstAt s.heap x ox D od) (q : Q (some (.ref D)) { s with toks := s.toks + 1 }) : wpAny (model P w) A (getAttr? (.ref x) "__class__") Q E s := by
  rcases s with ⟨hp, gs, dr, tk, os⟩
  have ty := I.type (M := model P w)
  have isE : PySem.W.Looks (model P w) hp (isInstance (.ref x) (.type "BaseException")) true := ty.andThen (PySem.W.looks_subIn X C.hs)
  have look := PySem.W.looks_find (M := model P w) X I (cls_found C)
  have n1 : (gaV == Value.builtin "object.__getattribute__") = false := by decide +kernel
  -- the way to the hook
  simp only [getAttr?, getAttrBy?, getAttrBy]
  apply wpAny_bind; apply wpAny_mkText; apply wpAny_bind; apply wpAny_attempt; apply wpAny_holding
  apply wpAny_bind; apply ty.at
  apply wpAny_bind; apply (PySem.W.looks_findIn (M := model P w) X C.hg).at
  have n2 : (onTheHeap (Value.ref D) && gaV == Value.builtin "object.__getattribute__") = false := by rw [n1, Bool.and_false]
  show wpAny _ _ (if (onTheHeap (Value.ref D) && gaV == Value.builtin "object.__getattribute__") = true then _ else _) _ _ _
  rw [n2]
  simp only [Bool.false_eq_true, if_false, getAttrByItsOwn, hookBefore]
  apply wpAny_bind
  rw [show (if onTheHeap (Value.ref D) = true then _ else _) = _ from if_pos rfl]
  apply (PySem.W.looks_findIn (M := model P w) X C.hk).at
  apply wpAny_bind; apply wpAny_attempt; apply wpAny_holding
  have n3 : (false && onTheHeap gaV) = false := Bool.false_and _
  simp only [callGetattribute, n3, boundAndCalled, Bool.false_eq_true, if_false, PySem.F.excAttr_ValueError.ga.bind (.ref x)]
  apply wpAny_bind; apply wpAny_pure
  -- the attribute's own call
  have ar := PySem.F.args_bexc_ga (.ref x) (.str "__class__" tk)
  apply wpAny_call
  apply codeAny_call_builtin PySem.F.excAttr_ValueError.ga.plain PySem.F.entry_bexc_ga
  have ck := @PySem.W.check_slot (model P w)
  refine @ck _ _ ⟨hp, gs, dr, tk + 1, os⟩ "BaseException.__getattribute__" "BaseException" "__getattribute__" (.ref x) [.str "__class__" tk] [] _ (by decide +kernel) (by decide +kernel) isE ar ?_
  unfold Builtin.«object.__getattribute__»
  apply wpAny_bind
  refine wpAny_of_eq (a := ((Value.ref x : Value), [Value.str "__class__" tk])) rfl ?_
  apply wpAny_bind; apply wpAny_pure
  apply wpAny_bind; apply ty.at
  apply wpAny_bind; apply look.at
  have cg : wpAny (model P w) A.in1 (call (.builtin "getset_descriptor.__get__") [cdV, .ref x, .ref D]) (fun v s' => v = .ref D ∧ s' = ⟨hp, gs, dr, tk + 1, os⟩) (fun _ _ => False) ⟨hp, gs, dr, tk + 1, os⟩ :=
    wpAny_call (PySem.W.class_get (s := ⟨hp, gs, dr, tk + 1, os⟩) (ox := ox) (od := od) X I C.hm ⟨rfl, rfl⟩)
  show wpAny _ _ (holding [cdV] (call (.builtin "getset_descriptor.__get__") [cdV, .ref x, .ref D]) >>= ret) _ _ _
  apply wpAny_bind; apply wpAny_holding
  refine wpAny_mono cg (fun v s' h => ?_) (fun _ _ h => h.elim)
  obtain ⟨rfl, rfl⟩ := h
  apply wpAny_pure
  show wpAny _ _ (handedOut (Value.ref D)) _ _ _
  rw [PySem.W.handedOut_of (v := .ref D) rfl]
  exact wpAny_pure (wpAny_pure q)
/-- isinstance may be asked of it -/
theorem exc_kit (C : ExcC K D) : PySem.W.KitX K (.ref x) (.ref D) (fun h => PySem.W.InstAt h x ox D od) := by
  have cl : ∃ c d o sl, K.lookup D = some ⟨c, d, .cls o, sl⟩ := by
    obtain ⟨cd, h, _⟩ := PySem.W.any_some C.hd
    unfold PySem.W.clsIn at h
    split at h
    · exact ⟨_, _, _, _, by assumption⟩
    · cases h
  obtain ⟨c, d, o, sl, lk⟩ := cl
  refine ⟨fun _ _ _ I => I.type, fun M h X _ A Q E s k q => ?_, fun h tp dd its n sl' X e => ?_, fun X I q => exc_class C X I q⟩
  · simp only [isType, loadHead]
    exact wpAny_bind (wpAny_loadPart (k _ _ (X _ _ lk)) (wpAny_pure q))
  · cases hq : (Value.ref D == Value.ref tp) with
    | false => rfl
    | true =>
      have eq := Value.ref.inj (beq_iff_eq.mp hq)
      rw [← eq, X _ _ lk] at e
      simp at e
/-- isinstance(e, c), e the handled exception of the class D, its fields at dd -/
def rIsG (K : PySem.W.Frag) (D a dd : Addr) : List V → Hp → VK → Prop := fun xs H Q => ∃ (c : V) (cv : Value) (b : Bool) (fs : List (Str × V)), xs = [.ref a, c] ∧ H dd = some (.xd fs) ∧ (∀ u, RelV c u → u = cv) ∧ PySem.W.kitOne K (.ref D) cv = some b ∧ Q (.bl b) H
theorem call_isG {X : Cx} {a D dd : Addr} {oe : Obj} (C : ExcC X.K D) (hz : Zc (.ref D) (some dd) oe) (hf : ∃ vs, oe.data = .fields vs) (hp : (a, oe) ∈ X.pn) : CallR X (.builtin "isinstance") (rIsG X.K D a dd) := by
  rintro pins s σ H _ us Q I r ⟨c, cv, b, fs, rfl, ea, hcv, ek, q⟩
  rcases r with _ | ⟨r1, _ | ⟨r2, _ | _⟩⟩
  obtain rfl := hcv _ r2
  cases r1
  obtain ⟨vs, hv⟩ := hf
  obtain ⟨mA, hns, -⟩ := (show ObjOk X.prog X.w H s.heap dd (.xd fs) from I.hok dd _ ea)
  obtain ⟨od, ho, -⟩ := lookIn_ns hns
  have at1 := (I.pin (a, oe) (List.mem_append_left _ hp)).1
  have J : PySem.W.InstAt s.heap a oe D (some od) := by
    refine ⟨at1, hz.1, ?_, ?_⟩
    · simp only [PySem.W.notCls, hv]
    · rw [hz.2]; exact ho
  exact PySem.W.kia_one (exc_kit C) I.kIn J ek (by intro z; cases z) fun tk => ⟨.bl b, H, I.kept (t' := tk) fun _ _ z => z, rfl, q⟩
/-- C(e, ..), C a class over ValueError with its own __init__, made with no context -/
theorem pmk_new {X : Cx} {CX : CXT} {c : Str} {e : Expr} {es : List Expr} {ta : TA} {p pos : Pos} {C f : Addr} {k : Nat} {fd : FuncData} {ps : List Str} {sp : Sp} (T : OexC X.K C) (hf : PySem.W.findIn X.K (.ref C) "__init__" = some (some (.ref f))) (tf : PySem.W.typeIn X.K (.ref f) = some (.type "function"))
    (F : FnOk X.prog X.w X.K X.mg X.base CX k f fd ps sp) (room : Room (k + 1) X.A) (hb : Binds X.K fd ps []) (pass : Passes CX X (fun _ _ _ => False)) (hg : Gl X c) (hm : X.mg c = some (.ref C)) (ha : PA X (e :: es) ta)
    (hdb : (c == ("__debug__" : Str)) = false) (st : starEach (e :: es) X.env = (false, eval e X.env) :: starEach es X.env) (pl : (backTo pos (starEach es X.env)).any (·.1) = false) : L2N.PMk X (.Call (.Name c p) (e :: es) [] pos) (tMkO C sp [] ta) := by
  rintro pins s σ H Q I h
  rcases id T.cls with ⟨_, _, _, _, bm, _, _, _, _, _, _, _, _, _, _, obj, refs⟩
  -- the class is loaded, the arguments are read
  apply wpAny_Call_Name_kw
  refine ld_glob I hg hm ?_ hdb
  apply PySem.W.callWith_K (h₀ := X.base) I.ok.mod.kin T.kC _ st pl
  refine thn (ha.run pos pins s σ H _ I h) ?_
  rintro us ⟨hp, gs, dr, tk, os⟩ ⟨vs, H1, I1, rel, few, q⟩
  refine ⟨I1.kIn, ?_⟩
  show wpAny _ _ (call (.ref C) us) _ _ _
  -- the object as it is made: its arguments' tuple at t, itself behind
  have made : ((hp.push (PySem.W.kdv_tup us)).push (PySem.HandSPX.excO C hp.objs.size)).get? (hp.objs.size + 1) = some (PySem.HandSPX.excO C hp.objs.size) := by heap_get
  obtain ⟨t, ht⟩ : ∃ t, t = hp.objs.size := ⟨_, rfl⟩
  rw [← ht] at made
  obtain ⟨hp', hh⟩ : ∃ h, h = (hp.push (PySem.W.kdv_tup us)).push (PySem.HandSPX.excO C t) := ⟨_, rfl⟩
  rw [← hh] at made
  have grow : ∀ b o, hp.get? b = some o → hp'.get? b = some o := fun b o z => by rw [hh]; exact Heap.get?_push_of_some _ (Heap.get?_push_of_some _ z)
  have above : hp.objs.size ≤ t + 1 := by rw [ht]; exact Nat.le_succ _
  have free : H1 (t + 1) = none := I1.hok.fresh above
  have J : Inv X pins σ (upd H1 (t + 1) (exo (t + 1) C none)) ⟨hp', gs, dr, tk, os⟩ := I1.laid (t' := tk) (o := exo (t + 1) C none) grow above (exo_ok made)
  have q1 := q (t + 1) free
  rw [List.append_nil] at q1
  have rel1 : Vals (V.ref (t + 1) :: vs) (Value.ref (t + 1) :: us) := .cons rfl rel
  have len : (Value.ref (t + 1) :: us).length = ps.length := by rw [← rel1.length]; exact F.len _ _ _ _ q1
  have bind1 := hb _ (Value.ref (t + 1) :: us) J.kIn (by rw [List.append_nil]; exact len)
  rw [List.append_nil] at bind1
  have few' : us.length ≤ sizeLine := by rw [← Paired.length rel, sizeLine_eq]; omega
  have body := F.run _ X.stack _ _ ⟨Value.ref (t + 1) :: us, []⟩ (Value.ref (t + 1) :: us) _ _ (fun _ _ _ => False) (room.make C us []) (J.env0.make C us []) bind1 rel1 q1
  apply wpAny_call
  subst hh ht
  refine PySem.HandSPX.call_own PySem.F.excBase_ValueError (fun Y => PySem.HandSPX.refsVE_contains Y bm refs) (I1.kIn _ _ obj) (PySem.W.looks_findIn I1.kIn hf) (fun self => PySem.W.bind_fn I1.kIn self tf) few' (codeAny_mono body ?_)
  rintro (er | fl) s' z
  · exact pass pins σ _ _ er s' J z
  rcases fl with _ | _ | _ | u
  all_goals first | exact z.elim | skip
  obtain ⟨v, H2, os2, bare2, un2, hok2, rv, ev, d, fs, ea, ed, hd1, q2⟩ := z
  subst ev
  rcases s' with ⟨h2, g2, d2, t2, os'⟩
  obtain ⟨t0, G, I3, kG, ge, at3, na⟩ := mk_end0 (d2 := d2) (t2 := t2) I1 above grow un2 hok2 os2 bare2 ea ed hd1
  have ctx : ∀ vs : Array Value, Data.fields #[Value.ref t0, .none, .none, .none, .bool false, .none] = .fields vs → vs[2]? = some Value.none := by rintro _ ⟨⟩; rfl
  exact ⟨rv, ⟨_, _, _, ⟨G, g2, d2, t2, os'⟩, _, .ref C, some d, rfl, I3, kG, ge, at3, ⟨rfl, rfl, ctx⟩, rfl, rfl, na, rfl, bare2, raises_own T.exC T.tyC, q2⟩⟩
end
end Vm
/-! Vo2 -/
namespace Vm
open PySem L2

variable {Γ : Gx} {Y : Cx} {sc : Scope} {W : WX} {e : Expr}
theorem getX_exn {G : Pg} {H : Hp} {σ : L2.St} {ρ : Fr} {fs : Nat → Fp} {i c : Nat} {gs : List Nat} {ds : List D} (F : FR G H σ ρ fs) (h : getX ρ i = some (c, gs, ds)) :
    ∃ a dd ws, G.cur = some (i, a, dd, c) ∧ σ[i]? = some (some (.ref a)) ∧ H dd = some (.xd ((gs.map G.fn).zip ws)) ∧ gs.length = ws.length ∧ RepDs G.K H ds ws := by
  unfold getX at h
  split at h
  · rename_i c' gs' ds' er
    cases h
    obtain ⟨v, ev, r | ⟨a, dd, ws, c2, fs2, ds2, h1, h2, h3, h4, h5, h6⟩⟩ := F.rep i _ er
    · rw [RepS] at r; exact r.elim
    · cases h2
      subst h3
      exact ⟨a, dd, ws, h1, ev, h4, h5, h6⟩
  · cases h
theorem fget_data {G : Pg} {H : Hp} {f : Nat} (inj : ∀ j k, G.fn j = G.fn k → j = k) : ∀ {fs : List Nat} {ds : List D} {ws : List V} {s : S}, fs.length = ws.length → RepDs G.K H ds ws → fget fs (ds.map S.v) f = some s → ∃ v d, s = .v d ∧ ((fs.map G.fn).zip ws).lookup (G.fn f) = some v ∧ RepD G.K H d v
  | [], ds, ws, s, hl, r, e => by cases e
  | k :: fs, [], ws, s, hl, r, e => by cases e
  | k :: fs, d :: ds, ws, s, hl, r, e => by
    rw [RepDs] at r
    obtain ⟨v, r', rfl, a, b⟩ := r
    simp only [List.map_cons, fget] at e
    simp only [List.map_cons, List.zip_cons_cons, List.lookup_cons]
    by_cases h : k = f
    · subst h
      rw [if_pos rfl] at e
      cases e
      exact ⟨v, d, rfl, by simp, a⟩
    · rw [if_neg h] at e
      obtain ⟨w, d', e1, e2, r1⟩ := fget_data inj (by simpa using hl) b e
      have hne : (G.fn f == G.fn k) = false := by
        rw [beq_eq_false_iff_ne]
        exact fun z => h (inj f k z).symm
      rw [hne]
      exact ⟨w, d', e1, e2, r1⟩
theorem pe_no {X : Cx} {e : Expr} {t : TE} (h : ∀ σ H Q, ¬ t σ H Q) : PE X e t := ⟨fun _ _ σ H Q _ q => absurd q (h σ H Q)⟩
theorem xok_exf (i f : Nat) : XOk Γ (.exf i f) := by
  have sh : ∀ {sc e}, chk Γ.g (.exf i f) sc e = true → ∃ y p1 a p, e = .Attribute (.Name y p1) a p ∧ Γ.g.nt.flds[f]? = some a ∧ nameB Γ.g.N sc i (.Name y p1) = true ∧ Γ.g.hot = true := fun {sc e} h => by
    cases e <;> first | exact ff h | skip
    rename_i v a p
    have h : (decide (Γ.g.nt.flds[f]? = some a) && nameB Γ.g.N sc i v && Γ.g.hot) = true := h
    simp only [Bool.and_eq_true, decide_eq_true_eq] at h
    obtain ⟨y, p1, rfl, _⟩ := nameB_of h.1.2
    exact ⟨y, p1, a, p, rfl, h.1.1, h.1.2, h.2⟩
  refine XOk.of (p := fun ρ => R.of ρ ((getX ρ i).bind fun x => fget x.2.1 (x.2.2.map S.v) f)) rfl (fun {Y sc W e} c h => ?_) fun h => by obtain ⟨_, _, _, _, rfl, _⟩ := sh h; exact ⟨rfl, rfl⟩
  obtain ⟨y, p1, an, p, rfl, h1, h2, h3⟩ := sh h
  have key : ∀ σ H Q, tV Γ.G W (root (.exf i f)) (mutX Γ.g (.exf i f)) (fun ρ => R.of ρ ((getX ρ i).bind fun x => fget x.2.1 (x.2.2.map S.v) f)) σ H Q → ∃ (a dd : Addr) (c : Nat) (ws : List V) (fs : List Nat) (v : V), Γ.G.cur = some (i, a, dd, c) ∧ σ[i]? = some (some (.ref a)) ∧ H dd = some (.xd ((fs.map Γ.G.fn).zip ws)) ∧ ((fs.map Γ.G.fn).zip ws).lookup (Γ.G.fn f) = some v ∧ Q v H := by
    intro σ H Q ⟨ρ, fs, F, q⟩
    obtain ⟨s, es, k⟩ := Run.of F q
    obtain ⟨⟨cl, gs, ds⟩, ex, ef⟩ := Option.bind_eq_some_iff.mp es
    obtain ⟨a, dd, ws, k1, k2, k3, k4, k5⟩ := getX_exn F ex
    obtain ⟨v, d, rfl, k6, k7⟩ := fget_data c.fnI k4 k5 ef
    exact ⟨a, dd, cl, ws, gs, v, k1, k2, k3, k6, k v (VP.d k7)⟩
  cases hc : Γ.G.cur with
  | none => exact pe_no fun σ H Q q => by obtain ⟨a, dd, c', ws, fs, v, k1, _⟩ := key σ H Q q; rw [hc] at k1; cases k1
  | some cu =>
    obtain ⟨j, a, dd, cl⟩ := cu
    obtain ⟨X0, oe, pn, rfl, hz, hf, xf, xc, nof, ki⟩ := c.exn h3 j a dd cl hc
    have pv := c.pv (Γ := Γ) h2
    refine PE.imp (pe_xf (X := X0) (pos := p) (n := an) xf (nof f an h1) hz hf pv rfl) fun σ H Q q => ?_
    obtain ⟨a', dd', c', ws, fs, v, k1, k2, k3, k4, k5⟩ := key σ H Q q
    rw [hc] at k1
    cases k1
    exact ⟨_, k2, rfl, rfl, _, _, v, rfl, k3, by rw [← c.nam f an h1]; exact k4, k5⟩
theorem xok_exi (i cl : Nat) : XOk Γ (.exi i cl) := by
  have sh : ∀ {sc e}, chk Γ.g (.exi i cl) sc e = true → ∃ p0 y p1 n p2 p, e = .Call (.Name "isinstance" p0) [.Name y p1, .Name n p2] [] p ∧ sc.names.lookup ("isinstance" : Str) = some .globalImplicit ∧ nameB Γ.g.N sc i (.Name y p1) = true ∧ sc.names.lookup n = some .globalImplicit ∧ n ≠ "__debug__" ∧ (if cl = 1000 then n = "ValueError" else Γ.g.nt.cls[cl]? = some n) ∧ Γ.g.hot = true := fun {sc e} h => by
    unfold chk at h
    split at h
    · simp only [Bool.and_eq_true] at h
      obtain ⟨⟨⟨h1, h2⟩, h3⟩, h4⟩ := h
      obtain ⟨p0, rfl, g1, g2⟩ := glName_of h1
      obtain ⟨y, p1, rfl, _⟩ := nameB_of h2
      split at h3
      · rename_i hcl
        obtain ⟨p2, rfl, g3, g4⟩ := glName_of h3
        exact ⟨p0, y, p1, _, p2, _, rfl, g1, h2, g3, g4, by rw [if_pos hcl], h4⟩
      · rename_i hcl
        split at h3
        · rename_i n hn
          obtain ⟨p2, rfl, g3, g4⟩ := glName_of h3
          exact ⟨p0, y, p1, n, p2, _, rfl, g1, h2, g3, g4, by rw [if_neg hcl]; exact hn, h4⟩
        · exact ff h3
    · exact ff h
  refine XOk.of (p := fun ρ => R.of ρ ((getX ρ i).bind fun x => (Γ.C.exm x.1 cl).map b01)) rfl (fun {Y sc W e} c h => ?_) fun h => by obtain ⟨_, _, _, _, _, _, rfl, _⟩ := sh h; exact ⟨rfl, rfl⟩
  obtain ⟨p0, y, p1, n, p2, p, rfl, h1, h2, h3, h4, h5, h6⟩ := sh h
  have key : ∀ σ H Q, tV Γ.G W (root (.exi i cl)) (mutX Γ.g (.exi i cl)) (fun ρ => R.of ρ ((getX ρ i).bind fun x => (Γ.C.exm x.1 cl).map b01)) σ H Q → ∃ (a dd : Addr) (c : Nat) (fs : List (Str × V)) (b : Bool), Γ.G.cur = some (i, a, dd, c) ∧ σ[i]? = some (some (.ref a)) ∧ H dd = some (.xd fs) ∧ Γ.C.exm c cl = some b ∧ Q (.bl b) H := by
    intro σ H Q ⟨ρ, fs, F, q⟩
    obtain ⟨s, es, k⟩ := Run.of F q
    obtain ⟨⟨c', gs, ds⟩, ex, ef⟩ := Option.bind_eq_some_iff.mp es
    obtain ⟨b, eb, rfl⟩ := Option.map_eq_some_iff.mp ef
    obtain ⟨a, dd, ws, k1, k2, k3, k4, k5⟩ := getX_exn F ex
    exact ⟨a, dd, c', _, b, k1, k2, k3, eb, k _ (VP.d rep_bl)⟩
  cases hc : Γ.G.cur with
  | none => exact pe_no fun σ H Q q => by obtain ⟨a, dd, c', ws, v, k1, _⟩ := key σ H Q q; rw [hc] at k1; cases k1
  | some cu =>
    obtain ⟨j, a, dd, cx⟩ := cu
    obtain ⟨X0, oe, pn, eX, hz, hf, xf, xc, nof, ki⟩ := c.exn h6 j a dd cx hc
    -- the class's name
    obtain ⟨v, cv, pn2, hv⟩ : ∃ (v : V) (cv : Value), PE Y (.Name n p2) (tC v) ∧ (∀ u, RelV v u → u = Γ.G.cv cl) := by
      by_cases hcl : cl = 1000
      · rw [if_pos hcl] at h5
        subst h5
        exact ⟨.ty "ValueError", .type "ValueError", pe_bltn (c.gl h3) (c.blt "ValueError" (by decide +kernel)) (by decide +kernel) rfl (by decide) (by decide), fun u r => by unfold Pg.cv; rw [if_pos hcl]; exact r⟩
      · rw [if_neg hcl] at h5
        exact ⟨.ref (Γ.G.ca cl), .ref (Γ.G.ca cl), pe_glob (c.gl h3) (c.cls cl n h5) rfl (beq_eq_false_iff_ne.mpr h4), fun u r => by unfold Pg.cv; rw [if_neg hcl]; exact r⟩
    have pv := c.pv (Γ := Γ) h2
    have pn : (a, oe) ∈ Y.pn := by rw [eX]; exact List.mem_cons_self
    have pa : PA Y [.Name y p1, .Name n p2] (tCons (tVar i) (tCons (tC v) tNil)) := pa_cons pv (pa_cons pn2 pa_nil)
    have hs : starEach [.Name y p1, .Name n p2] Y.env = (false, eval (.Name y p1) Y.env) :: starEach [.Name n p2] Y.env := rfl
    refine PE.imp (pe_callB (p := p0) (pos := p) (call_isG xc hz hf pn) (c.gl h1) (c.blt "isinstance" (by decide +kernel)) (by decide +kernel) pa (by decide +kernel) (by decide +kernel) hs rfl) fun σ H Q q => ?_
    obtain ⟨a', dd', c', fs, b, k1, k2, k3, k4, k5⟩ := key σ H Q q
    rw [hc] at k1
    cases k1
    exact ⟨_, k2, v, Γ.G.cv cl, b, fs, rfl, k3, hv, ki _ _ k4, k5⟩
end Vm
/-! Vo3 -/
namespace Vm
open PySem L2

variable {Γ : Gx} {Y : Cx} {sc : Scope} {W : WX} {e : Expr} {x : Fx} {pos : Pos} {U : Rules}
/-- what an exception's __init__ does -/
def spEx (C : Addr) (names : List Str) : Sp := fun vs H Q E => ∃ a ws, vs = .ref a :: ws ∧ ws.length = names.length ∧ H a = some (exo a C none) ∧
  ∀ dx H', H dx = none → H' a = some (exo a C (some dx)) → H' dx = some (exd dx (names.zip ws).reverse) → (∀ b, b ≠ a → b ≠ dx → H' b = H b) → Q .non H'
/-- exceptions: raised, caught -/
structure Rok (Γ : Gx) (U : Rules) (X : Cx) : Prop where
  rz : ∀ c nm, Γ.g.nt.cls[c]? = some nm → U.exF c ≠ [] → ∃ f fd k ps, OexC X.K (Γ.G.ca c) ∧ PySem.W.findIn X.K (.ref (Γ.G.ca c)) "__init__" = some (some (.ref f)) ∧ PySem.W.typeIn X.K (.ref f) = some (.type "function") ∧
    FnOk X.prog X.w X.K X.mg X.base (L2N.CX X.prog X.w) k f fd ps (spEx (Γ.G.ca c) ((U.exF c).map Γ.G.fn)) ∧ Room (k + 1) X.A ∧ Binds X.K fd ps []
  hx : ∀ e c b, U.exm e c = some b → PySem.W.exmOne X.K (.ref (Γ.G.ca e)) (Γ.G.cv c) = some b
theorem zip_rev {α β : Type} : ∀ {l : List α} {m : List β}, l.length = m.length → (l.zip m).reverse = l.reverse.zip m.reverse
  | [], m, h => by cases m <;> first | rfl | simp at h
  | a :: l, [], h => by simp at h
  | a :: l, b :: m, h => by
    have h' : l.length = m.length := by simpa using h
    rw [List.zip_cons_cons, List.reverse_cons, List.reverse_cons, List.reverse_cons, zip_rev h', List.zip_append (by simp [h'])]
    rfl
theorem st_raise {xs : Xs} {c : Nat} {nm : Str} {p0 p : Pos} {as : List Expr} (hxs : XsOk Γ xs) (k : Cok Γ.g Γ.G Γ.C Y sc W) (r : Rok Γ U Y) (cal : Y.calm = true) (hn : Γ.g.nt.cls[c]? = some nm) (hg : sc.names.lookup nm = some .globalImplicit) (hd : nm ≠ "__debug__") (hf : U.exF c ≠ []) (hl : xs.len ≠ 0) (hl2 : (U.exF c).length ≤ 1000) (hc : chks Γ.g xs sc as = true) (hM : ∀ i, i ∈ mutXs Γ.g xs → i ∈ x.mp) :
    PS Y (.Raise (some (.Call (.Name nm p0) as [] p)) none pos) (tS x Γ.G W fun ρ => (fzsL (dens Γ.C xs) ρ).bind fun ds ρ => if ds.length = (U.exF c).length then .ex ⟨c, (U.exF c).reverse, ds.reverse⟩ ρ else .bad) := by
  obtain ⟨f, fd, kk, ps, T, h1, h2, F0, room, hb⟩ := r.rz c nm hn hf
  have ha := pa_fz k hxs hc
  have hp := chks_plain hxs hc
  have hlen := chks_len hc
  cases as with
  | nil => exact absurd hlen.symm hl
  | cons e0 es =>
    have pm := pmk_new (X := Y) (c := nm) (p := p0) (pos := p) T h1 h2 F0 room hb (fun pins σ H s e s' I z => by
      obtain ⟨_, _, _, _, _, _, _, _, _, _, _, _, w⟩ := z
      exact w.elim) (k.gl hg) (k.cls c nm hn) ha (beq_eq_false_iff_ne.mpr hd) ((plain_of (hp e0 List.mem_cons_self)).star _ _) (plain_any (fun e m => hp e (List.mem_cons_of_mem _ m)) _ _)
    refine PS.imp (L2N.ps_raise (W := W) (pos := pos) cal k.tk pm) fun D σ H ⟨ρ, fs, F, b, q⟩ => ⟨ρ, fs, F, ?_⟩
    refine (SW.run (ρ := ρ) (r := fzsL (dens Γ.C xs) ρ) b hM q).imp fun ds ρ1 H1 fs1 F1 st1 ⟨F1', b1, q1⟩ vs rs => ?_
    by_cases hq : ds.length = (U.exF c).length
    · rw [if_pos hq] at q1
      have hv : vs.length = (U.exF c).length := by rw [← rs.length]; exact hq
      refine ⟨?_, fun a na => ⟨a, vs, by rw [List.append_nil], by rw [List.length_map]; exact hv, upd_same, fun dx H' nd e1 e2 e3 => ⟨rfl, dx, _, e1, e2, ?_, ?_⟩⟩⟩
      · rw [hv]; exact hl2
      · have : dx ≠ a := by rintro rfl; rw [upd_same] at nd; cases nd
        rwa [upd_ne this] at nd
      · have hda : dx ≠ a := by rintro rfl; rw [upd_same] at nd; cases nd
        have nd1 : H1 dx = none := by rwa [upd_ne hda] at nd
        have eH : upd (del H' a) dx (.xd (((U.exF c).map Γ.G.fn).zip vs).reverse) = upd H1 dx (.xd (((U.exF c).map Γ.G.fn).zip vs).reverse) := by
          funext z
          by_cases hz : z = dx
          · subst hz; rw [upd_same, upd_same]
          · rw [upd_ne hz, upd_ne hz]
            by_cases hza : z = a
            · subst hza; rw [del_same, na]
            · rw [del_ne hza, e3 z hza hz, upd_ne hza]
        rw [eH]
        have kp : Keep H1 (upd H1 dx (.xd (((U.exF c).map Γ.G.fn).zip vs).reverse)) none' := Keep.new nd1
        refine q1 _ _ σ _ fs1 (F1'.keep kp fun _ _ _ z => z) ⟨b1.keep.trans kp fun _ z => z.elim, b1.sub, b1.par, b1.len⟩ ⟨rfl, dx, vs.reverse, rfl, ?_, ?_, ?_⟩
        · rw [upd_same, zip_rev (by rw [List.length_map, hv]), List.map_reverse]
        · rw [List.length_reverse, List.length_reverse, hv]
        · exact RepDs.reverse (RepDs.keep kp _ _ rs)
    · rw [if_neg hq] at q1; exact q1.elim
end Vm
/-! Vo4 -/
namespace Vm
open PySem L2

/-- self.f = f, one after another -/
def iniB (N : List Str) (sc : Scope) : Nat → List Str → List Stmt → Bool
  | _, [], st => st.isEmpty
  | k, f :: fs, st => match st with
    | .Assign [.Attribute o a _] e _ :: st => nameB N sc 0 o && decide (a = f) && nameB N sc k e && iniB N sc (k + 1) fs st
    | _ => false
def tIni (K : PySem.W.Frag) : Nat → List Str → TS
  | _, [] => fun D σ H => D.nx σ H
  | k, f :: fs => fun D σ H => tOst K f (tVar 0) (tVar k) { D with nx := fun σ1 H1 => tIni K (k + 1) fs D σ1 H1 } σ H
theorem pv_of {X : Cx} {N : List Str} {sc : Scope} {i : Nat} {e : Expr} (hN : X.N = N) (hs : X.env.scope = sc) (h : nameB N sc i e = true) : PE X e (tVar i) := by
  obtain ⟨x, p, rfl, h1, h2, h3, h4⟩ := nameB_of h
  exact pe_var (by rw [hN]; exact h1) (by rw [hs]; exact vis_of h2) (beq_eq_false_iff_ne.mpr h3) (beq_eq_false_iff_ne.mpr h4)
theorem ini_pss {X : Cx} {N : List Str} {sc : Scope} (hN : X.N = N) (hs : X.env.scope = sc) : ∀ {fs : List Str} {k : Nat} {st : List Stmt}, iniB N sc k fs st = true → PSs X st (tIni X.K k fs)
  | [], k, st, h => by
    have : st = [] := List.isEmpty_iff.mp h
    subst this
    exact pss_nil
  | f :: fs, k, st, h => by
    unfold iniB at h
    split at h
    · rename_i o a ap e ep st
      simp only [Bool.and_eq_true, decide_eq_true_eq] at h
      obtain ⟨⟨⟨h1, rfl⟩, h3⟩, h4⟩ := h
      have he := pv_of hN hs h3
      obtain ⟨x, p, rfl, _⟩ := nameB_of h3
      exact pss_cons (ps_ost (pv_of hN hs h1) he rfl) (ini_pss hN hs h4)
    · exact ff h
theorem ini_on {K : PySem.W.Frag} {a C dx : Addr} {D : Ends} {σ : L2.St} (T : OexC K C) (hda : dx ≠ a) (h0 : σ[0]? = some (some (.ref a))) : ∀ {fs : List Str} {k : Nat} {ws : List V} {acc : List (Str × V)} {H : Hp}, ws.length = fs.length → (∀ j w, ws[j]? = some w → σ[k + j]? = some (some w)) → (∀ f, f ∈ fs → PySem.W.findIn K (.ref C) f = some none) →
    H a = some (exo a C (some dx)) → H dx = some (exd dx acc) → acc.length + fs.length ≤ 900 → (∀ H', H' a = some (exo a C (some dx)) → H' dx = some (exd dx ((fs.zip ws).reverse ++ acc)) → (∀ b, b ≠ a → b ≠ dx → H' b = H b) → D.nx σ H') → tIni K k fs D σ H
  | [], k, ws, acc, H, hl, hw, hf, e1, e2, hn, q => q H e1 (by simpa using e2) fun _ _ _ => rfl
  | f :: fs, k, [], acc, H, hl, hw, hf, e1, e2, hn, q => by simp at hl
  | f :: fs, k, w :: ws, acc, H, hl, hw, hf, e1, e2, hn, q => by
    refine ⟨w, by simpa using hw 0 w rfl, .ref a, h0, a, C, rfl, T, hf f List.mem_cons_self, .inr ⟨dx, acc, e1, e2, by rw [List.length_cons] at hn; omega, ?_⟩⟩
    refine ini_on T hda h0 (ws := ws) (acc := (f, w) :: acc) (by simpa using hl) (fun j v h => ?_) (fun g m => hf g (List.mem_cons_of_mem _ m)) (by rw [upd_ne hda.symm]; exact e1) upd_same (by rw [List.length_cons] at hn ⊢; omega) fun H' k1 k2 k3 => q H' k1 (by rw [k2, List.zip_cons_cons, List.reverse_cons, List.append_assoc]; rfl) fun b n1 n2 => by rw [k3 b n1 n2, upd_ne n2]
    have := hw (j + 1) v (by simpa using h)
    rwa [show k + (j + 1) = k + 1 + j by omega] at this
theorem ex_init {P : Program} {w : World} {K : PySem.W.Frag} {mg : Str → Option Value} {base : Heap} {f : Addr} {name qual : Str} {params : Arguments} {body : List Stmt} {scope : Scope} {dV kV doc pm cdv ct oc : Value} {an od : Option Addr} {osl : Array (Option Value)} {N : List Str} {C : Addr} {names : List Str} {CX : CXT}
    (lk : K.lookup f = some ⟨oc, od, .func (PySem.W.fnOf name qual params body scope dV kV doc pm an cdv ct), osl⟩) (hcd : PySem.W.codeIn K cdv qual = true) (S : FnScope N N scope) (T : OexC K C) (hf : ∀ g, g ∈ names → PySem.W.findIn K (.ref C) g = some none) (hl : N.length = names.length + 1) (h0 : names ≠ []) (h9 : names.length ≤ 900) (hb : iniB N scope 1 names body = true) :
    FnOk P w K mg base CX 1 f (PySem.W.fnOf name qual params body scope dV kV doc pm an cdv ct) N (spEx C names) := by
  refine fn_of (k := 0) lk hcd S (fun vs H Q E ⟨a, ws, e, h, _⟩ => by rw [e, List.length_cons, h, hl]) fun A outer s H vs Q E hr ⟨a, ws, ev, hw, ha, q⟩ => ⟨_, ini_pss rfl rfl hb, ?_⟩
  subst ev
  obtain ⟨g, gs, rfl⟩ : ∃ g gs, names = g :: gs := by cases names with
    | nil => exact absurd rfl h0
    | cons g gs => exact ⟨g, gs, rfl⟩
  obtain ⟨y, ys, rfl⟩ : ∃ y ys, ws = y :: ys := by cases ws with
    | nil => simp at hw
    | cons y ys => exact ⟨y, ys, rfl⟩
  have st : L2.start N (.ref a :: y :: ys) = (V.ref a :: y :: ys).map some := by
    unfold L2.start
    have : N.length - (V.ref a :: y :: ys).length = 0 := by simp only [List.length_cons] at hw hl ⊢; omega
    rw [this]; simp
  rw [st]
  refine ⟨y, rfl, .ref a, rfl, a, C, rfl, T, hf g List.mem_cons_self, .inl ⟨ha, fun dx nd ne => ?_⟩⟩
  refine ini_on T ne rfl (k := 2) (ws := ys) (acc := [(g, y)]) (by simpa using hw) (fun j v h => ?_) (fun f m => hf f (List.mem_cons_of_mem _ m)) upd_same (by rw [upd_ne ne, upd_same]) (by simp only [List.length_cons, List.length_nil] at h9 ⊢; omega) fun H' k1 k2 k3 => ?_
  · have : (V.ref a :: y :: ys)[2 + j]? = some v := by rw [show 2 + j = j + 1 + 1 by omega]; simpa using h
    rw [List.getElem?_map, this]; rfl
  · refine q dx H' nd k1 (by rw [k2, List.zip_cons_cons, List.reverse_cons]) fun b n1 n2 => by rw [k3 b n1 n2, upd_ne n1, upd_ne n2]
end Vm
/-! Vo5 -/
namespace Vm
open PySem L2

variable {Γ : Gx} {Y : Cx} {sc : Scope} {W : WX} {e : Expr} {x : Fx} {pos : Pos} {U : Rules}
/-- within an except suite -/
def Pg.in (G : Pg) (cu : Option (Nat × Addr × Addr × Nat)) : Pg := { G with cur := cu }
def Gm.warm (g : Gm) : Gm := { g with hot := true }
def Gx.warm (Γ : Gx) (cu : Option (Nat × Addr × Addr × Nat)) : Gx := ⟨Γ.g.warm, Γ.G.in cu, Γ.C⟩
theorem RepS.in {G : Pg} {H : Hp} {s : S} {v : V} {f : Fp} (cu : Option (Nat × Addr × Addr × Nat)) : RepS G H s v f ↔ RepS (G.in cu) H s v f := (RepS.z s v).trans (RepS.z (G := G.in cu) s v).symm
theorem VP.in {G : Pg} {r : Option Nat} {H0 : Hp} {fs0 : Nat → Fp} {M : List Nat} {H : Hp} {fs : Nat → Fp} {s : S} {v : V} (cu : Option (Nat × Addr × Addr × Nat)) : VP r G H0 fs0 M H fs s v ↔ VP r (G.in cu) H0 fs0 M H fs s v :=
  ⟨fun ⟨f, h, k⟩ => ⟨f, (RepS.in cu).mp h, k⟩, fun ⟨f, h, k⟩ => ⟨f, (RepS.in cu).mpr h, k⟩⟩
def noFs (i : Nat) (fs : Nat → Fp) : Nat → Fp := fun j => if j = i then none' else fs j
theorem noFs_sub {i j : Nat} {fs : Nat → Fp} {a : Addr} (h : noFs i fs j a) : j ≠ i ∧ fs j a := by
  unfold noFs at h
  by_cases hj : j = i
  · rw [if_pos hj] at h; exact h.elim
  · rw [if_neg hj] at h; exact ⟨hj, h⟩
/-- the name is bound to the exception -/
theorem FR.enter {G : Pg} {H : Hp} {σ : L2.St} {ρ : Fr} {fs : Nat → Fp} {i : Nat} {a dd : Addr} {e : Ex} {ws : List V} (F : FR G H σ ρ fs) (hc : G.cur = none) (h1 : H dd = some (.xd ((e.fs.map G.fn).zip ws))) (h2 : e.fs.length = ws.length) (h3 : RepDs G.K H e.vs ws) :
    FR (G.in (some (i, a, dd, e.c))) H (σ.set i (some (.ref a))) (ρ.set i (some (.exn e.c e.fs e.vs))) (noFs i fs) := by
  refine ⟨by rw [List.length_set, List.length_set]; exact F.len, fun j t ej => ?_, fun j k b z1 z2 => F.dis j k b (noFs_sub z1).2 (noFs_sub z2).2, fun j b z => F.trk j b (noFs_sub z).2⟩
  by_cases hj : j = i
  · subst hj
    have hlt : j < ρ.length := by
      have := (List.getElem?_eq_some_iff.mp ej).1
      rwa [List.length_set] at this
    rw [List.getElem?_set_self hlt] at ej
    cases ej
    exact ⟨.ref a, List.getElem?_set_self (by rw [← F.len]; exact hlt), .inr ⟨a, dd, ws, e.c, e.fs, e.vs, rfl, rfl, rfl, h1, h2, h3⟩⟩
  · rw [List.getElem?_set_ne (Ne.symm hj)] at ej
    obtain ⟨v, ev, r⟩ := F.rep j t ej
    refine ⟨v, by rw [List.getElem?_set_ne (Ne.symm hj)]; exact ev, ?_⟩
    rcases r with r | ⟨_, _, _, _, _, _, z, _⟩
    · refine .inl ?_
      unfold noFs
      rw [if_neg hj]
      exact (RepS.in _).mp r
    · rw [hc] at z; cases z
/-- .. and gone -/
theorem FR.leave {G : Pg} {H : Hp} {σ : L2.St} {ρ : Fr} {fs : Nat → Fp} {i : Nat} {a dd : Addr} {c : Nat} (F : FR (G.in (some (i, a, dd, c))) H σ ρ fs) : FR G H (σ.set i none) (ρ.set i none) (noFs i fs) := by
  refine ⟨by rw [List.length_set, List.length_set]; exact F.len, fun j t ej => ?_, fun j k b z1 z2 => F.dis j k b (noFs_sub z1).2 (noFs_sub z2).2, fun j b z => F.trk j b (noFs_sub z).2⟩
  by_cases hj : j = i
  · subst hj
    rw [List.getElem?_set] at ej
    simp at ej
  · rw [List.getElem?_set_ne (Ne.symm hj)] at ej
    obtain ⟨v, ev, r⟩ := F.rep j t ej
    refine ⟨v, by rw [List.getElem?_set_ne (Ne.symm hj)]; exact ev, ?_⟩
    rcases r with r | ⟨_, _, _, _, _, _, z, _⟩
    · refine .inl ?_
      unfold noFs
      rw [if_neg hj]
      exact (RepS.in _).mpr r
    · cases z; exact absurd rfl hj
theorem FR.warm {G : Pg} {H : Hp} {σ : L2.St} {ρ : Fr} {fs : Nat → Fp} (hc : G.cur = none) : FR G H σ ρ fs ↔ FR (G.in none) H σ ρ fs := by
  have : G.in none = G := by unfold Pg.in; rw [← hc]
  rw [this]
theorem Big.one {H : Hp} {σ : L2.St} {fs : Nat → Fp} {i : Nat} {o : Option V} (b : Big x H σ fs) (hi : i ∈ x.as) : Big x H (σ.set i o) (noFs i fs) := by
  refine ⟨b.keep, fun j a z => b.sub j a (noFs_sub z).2, fun j n => ?_, by rw [List.length_set]; exact b.len⟩
  rw [List.getElem?_set_ne fun z => n (by rw [← z]; exact hi)]
  exact b.par j n
/-- the exceptions that clauses may catch -/
def isE (U : Rules) (c : Nat) : Prop := ∃ k b, U.exm c k = some b
/-- the context of a suite -/
def SuOk (Γ : Gx) (U : Rules) (Y : Cx) (sc : Scope) : Prop := ∀ (a : Addr) (oe : Obj) (dd : Addr) (c : Nat) (pn : List (Addr × Obj)), L2N.Zn (.ref (Γ.G.ca c)) (some dd) oe → (∃ vs, oe.data = .fields vs) → isE U c →
  (∀ i, Cok (Γ.warm (some (i, a, dd, c))).g (Γ.warm (some (i, a, dd, c))).G Γ.C (Y.suite a ((a, oe) :: pn)) sc WF) ∧ Cok (Γ.warm none).g (Γ.warm none).G Γ.C (Y.suite a ((a, oe) :: pn)) sc WF
theorem ex_dec (G : Pg) (U : Rules) {e : Ex} {cls : Value} {d : Option Addr} {H : Hp} (h : EP G e cls d H) : cls = .ref (G.ca e.c) ∧ ∃ dd ws, d = some dd ∧ H dd = some (.xd ((e.fs.map G.fn).zip ws)) ∧ e.fs.length = ws.length ∧ RepDs G.K H e.vs ws := h
/-- the suite of a clause with a name -/
def tSu (x : Fx) (Γ : Gx) (U : Rules) (i : Nat) (ph : Fr → RF) : Addr → Value → Option Addr → TS := fun a cls d D σ H => ∃ q : Addr × Nat, (cls = .ref (Γ.G.ca q.2) ∧ d = some q.1 ∧ isE U q.2) ∧ tS x (Γ.G.in (some (i, a, q.1, q.2))) WF ph D σ H
def tSu0 (x : Fx) (Γ : Gx) (U : Rules) (ph : Fr → RF) : Addr → Value → Option Addr → TS := fun a cls d D σ H => ∃ q : Addr × Nat, (cls = .ref (Γ.G.ca q.2) ∧ d = some q.1 ∧ isE U q.2) ∧ tS x (Γ.G.in none) WF ph D σ H
theorem st_try1 {c i : Nat} {nm n : Str} {np pos' : Pos} {body suite : List Stmt} {b0 : Stmt} {pb ph : Fr → RF} (k : Cok Γ.g Γ.G Γ.C Y sc W) (r : Rok Γ U Y) (hh : Γ.g.hot = false) (hs : Y.stack = Y.env :: Y.outer) (hf : Y.env.frame = some Y.env.locals) (hn : Γ.g.N[i]? = some n) (hln : sc.names.lookup n = some .local) (hc : Names Y nm (Γ.G.cv c)) (hi : i ∈ x.as)
    (hb : ∀ (W' : WX) (pn : List (Addr × Obj)) (xe : Value → Shared → Prop), L2N.Takes (Y.tr pn xe) W' → PassesOwn (model Y.prog Y.w) Y.A Y.env xe → PSs (Y.tr pn xe) body (tS x Γ.G W' pb))
    (hsu : ∀ (a : Addr) (oe : Obj) (dd : Addr) (ec : Nat) (pn : List (Addr × Obj)), L2N.Zn (.ref (Γ.G.ca ec)) (some dd) oe → (∃ vs, oe.data = .fields vs) → isE U ec → PSs (Y.suite a ((a, oe) :: pn)) (b0 :: suite) (tS x (Γ.G.in (some (i, a, dd, ec))) WF ph)) :
    PS Y (.Try body [.ExceptHandler (some (.Name nm np)) (some n) (b0 :: suite) pos'] [] [] pos) (tS x Γ.G W fun ρ => match pb ρ with
      | .ex e ρ1 => match U.exm e.c c with
        | none => .bad
        | some false => .ex e ρ1
        | some true => match ph (ρ1.set i (some (.exn e.c e.fs e.vs))) with
          | .ok f ρ2 => .ok f (ρ2.set i none)
          | _ => .bad
      | q => q) := by
  refine PS.imp (L2N.ps_try_as (tb := fun W' => tS x Γ.G W' pb) (ts := tSu x Γ U i ph) (pos := pos) (pos' := pos') (np := np) hs hf (by rw [k.N]; exact k.nd) (by rw [k.N]; exact hn) (by show Y.env.scope.names.lookup n = _; rw [k.sc]; exact hln) hc k.tk hb fun a oe cls d pn hz hd => PSs.ex fun q ⟨e1, e2, e3⟩ => by
    subst e1 e2
    exact hsu a oe q.1 q.2 pn hz hd e3) fun D σ H ⟨ρ, fs, F, b, w⟩ => ⟨ρ, fs, F, b, ?_⟩
  dsimp only at w
  cases hp : pb ρ with
  | bad => rw [hp] at w; exact w
  | ok f ρ' => rw [hp] at w; exact w
  | ex e ρ1 =>
    rw [hp] at w
    intro cls d σ' H' fs' F' b' ep
    cases hx : U.exm e.c c with
    | none => simp only [hx] at w; exact w.elim
    | some tf =>
      obtain ⟨ec, dd, ws, ed, h1, h2, h3⟩ := ep
      refine ⟨tf, by rw [ec]; exact r.hx _ _ _ hx, fun ht a na => ?_, fun hf => ?_⟩
      · subst ht
        simp only [hx] at w
        refine ⟨(dd, e.c), ⟨ec, ed, _, _, hx⟩, ρ1.set i (some (.exn e.c e.fs e.vs)), noFs i fs', F'.enter (k.curn hh) h1 h2 h3, b'.one hi, ?_⟩
        cases hq : ph (ρ1.set i (some (.exn e.c e.fs e.vs))) with
        | bad => rw [hq] at w; exact w
        | ex e2 ρ2 => rw [hq] at w; exact w.elim
        | ok f ρ2 =>
          rw [hq] at w
          intro σ2 H2 fs2 F2 b2
          have := w _ H2 _ F2.leave (b2.one hi)
          cases f with
          | nx => exact this
          | brk => exact this
          | cnt => exact this
          | ret s => exact fun v vp => this v (by
              obtain ⟨f, g1, g2, g3, g4⟩ := (VP.in _).mpr vp
              exact ⟨f, g1, g2, fun j a z y => g3 j a z (noFs_sub y).2, g4⟩)
      · subst hf
        simp only [hx] at w
        exact w cls d σ' H' fs' F' b' ⟨ec, dd, ws, ed, h1, h2, h3⟩
def handM (U : Rules) : List (Nat × (Fr → RF)) → Ex → Fr → RF
  | [], e, ρ => .ex e ρ
  | q :: r, e, ρ => match U.exm e.c q.1 with
    | none => .bad
    | some false => handM U r e ρ
    | some true => match q.2 ρ with
      | .ok f ρ2 => .ok f ρ2
      | _ => .bad
theorem wish_many (k : Cok Γ.g Γ.G Γ.C Y sc W) (r : Rok Γ U Y) (hh : Γ.g.hot = false) {D : Ends} {e : Ex} {ρ1 : Fr} {cls : Value} {d : Option Addr} {σ' : L2.St} {H' : Hp} {fs' : Nat → Fp} (F : FR Γ.G H' σ' ρ1 fs') (b : Big x H' σ' fs') (ep : EP Γ.G e cls d H') : ∀ {l : List (Nat × (Fr → RF))}, SW x Γ.G W D (handM U l e ρ1) →
    wMany Y.K W D (l.map fun q => (Γ.G.cv q.1, tSu0 x Γ U q.2)) cls d σ' H'
  | [], w => w cls d σ' H' fs' F b ep
  | (c, ph) :: l, w => by
    unfold handM at w
    dsimp only at w
    cases hx : U.exm e.c c with
    | none => simp only [hx] at w; exact w.elim
    | some tf =>
      obtain ⟨ec, dd, ws, ed, h1, h2, h3⟩ := id ep
      refine ⟨tf, by rw [ec]; exact r.hx _ _ _ hx, fun ht a na => ?_, fun hf => ?_⟩
      · subst ht
        simp only [hx] at w
        refine ⟨(dd, e.c), ⟨ec, ed, _, _, hx⟩, ρ1, fs', (FR.warm (k.curn hh)).mp F, b, ?_⟩
        show SW x (Γ.G.in none) WF D (ph ρ1)
        cases hq : ph ρ1 with
        | bad => rw [hq] at w; exact w
        | ex e2 ρ2 => rw [hq] at w; exact w.elim
        | ok f ρ2 =>
          rw [hq] at w
          intro σ2 H2 fs2 F2 b2
          have := w _ H2 _ ((FR.warm (k.curn hh)).mpr F2) b2
          cases f with
          | nx => exact this
          | brk => exact this
          | cnt => exact this
          | ret s => exact fun v vp => this v ((VP.in _).mpr vp)
      · subst hf
        simp only [hx] at w
        exact wish_many k r hh F b ep w
theorem st_tryM {body : List Stmt} {h0 : ExceptHandler} {hds : List ExceptHandler} {pb : Fr → RF} {l : List (Nat × (Fr → RF))} (k : Cok Γ.g Γ.G Γ.C Y sc W) (r : Rok Γ U Y) (hh : Γ.g.hot = false) (hs : Y.stack = Y.env :: Y.outer) (hf : Y.env.frame = some Y.env.locals)
    (hb : ∀ (W' : WX) (pn : List (Addr × Obj)) (xe : Value → Shared → Prop), L2N.Takes (Y.tr pn xe) W' → PassesOwn (model Y.prog Y.w) Y.A Y.env xe → PSs (Y.tr pn xe) body (tS x Γ.G W' pb))
    (hk : L2N.HdsOk Y (h0 :: hds) (l.map fun q => (Γ.G.cv q.1, tSu0 x Γ U q.2))) :
    PS Y (.Try body (h0 :: hds) [] [] pos) (tS x Γ.G W fun ρ => match pb ρ with
      | .ex e ρ1 => handM U l e ρ1
      | q => q) := by
  refine PS.imp (L2N.ps_try_many (tb := fun W' => tS x Γ.G W' pb) (pos := pos) hs hf k.tk hb hk) fun D σ H ⟨ρ, fs, F, b, w⟩ => ⟨ρ, fs, F, b, ?_⟩
  dsimp only at w
  cases hp : pb ρ with
  | bad => rw [hp] at w; exact w
  | ok f ρ' => rw [hp] at w; exact w
  | ex e ρ1 =>
    rw [hp] at w
    exact fun cls d σ' H' fs' F' b' ep => wish_many k r hh F' b' ep w
end Vm
/-! Vq0 -/
set_option maxHeartbeats 1000000
namespace Vm
open PySem PySem.Spec PyProof.Rows L2
theorem ps_putDc {X : Cx} {i : Nat} {y : Str} {kx vx tg iter : Expr} {ifs : List Expr} {scope : Scope} {own : List (Str × Nat)} {py pos at' : Pos} {wi : TI} {g : TG} {tt : TT} {tk tv : TE} (cal : X.calm = true) (nd : X.N.Nodup) (hy : X.N[i]? = some y) (loc : X.env.scope.names.lookup y = some .local)
    (sw : swapsWith (.DictComp kx vx [⟨tg, iter, ifs, 0⟩] scope pos) (some (.Name y py)) at'.line X.env = pure true) (hi : PI X tg iter wi) (ok : BlkOk X.N X.env.scope scope own)
    (hg : ∀ (s : Shared) (H : Hp) (C : Addr) (cl : List (Str × Addr)) (fp : List Addr), PG (X.blk s H scope (compEnvC scope cl C X.env) fp) tg g) (ht : ∀ (s : Shared) (H : Hp) (C : Addr) (cl : List (Str × Addr)) (fp : List Addr), PTs (X.blk s H scope (compEnvC scope cl C X.env) fp) ifs tt)
    (hk : ∀ (s : Shared) (H : Hp) (C : Addr) (cl : List (Str × Addr)) (fp : List Addr), PE (X.blk s H scope (compEnvC scope cl C X.env) fp) kx tk) (hv : ∀ (s : Shared) (H : Hp) (C : Addr) (cl : List (Str × Addr)) (fp : List Addr), PE (X.blk s H scope (compEnvC scope cl C X.env) fp) vx tv)
    (fold : ∀ x, foldedSetIterable iter X.env x = pure x) : PS X (.Assign [.Name y py] (.DictComp kx vx [⟨tg, iter, ifs, 0⟩] scope pos) at') (tAsg (tDc wi g tt tk tv (own.map (·.2))) (gName i)) := by
  constructor
  intro pins s σ H D I h
  rw [exec_Assign_Name_used _ _ _ _ sw]
  apply wpAny_bind; apply wpAny_standAt; apply wpAny_bind
  have core := dc_core (Qf := fun _ s' => SP X pins D .next s') (use := some (assign (.Name y py) X.env)) (pos := pos) (pos' := firstIterPos [⟨tg, iter, ifs, 0⟩] pos) (Q := fun v H1 => D.nx (σ.set i (some v)) H1) cal nd I hi ok hg ht hk hv fold h (fun L C s1 m H1 I1 q ns f => by
    obtain ⟨f0, f1, f2, f3, f4, f5⟩ := f
    show wpAny _ _ (assign (.Name y py) X.env (.ref L)) _ _ _
    apply wpAny_assign_Name
    refine store_ok2 (v := .ref L) I1 nd hy (.inl loc) rfl (fun s2 I2 hs2 => ?_) (.inr loc)
    obtain ⟨a, sb, ha⟩ := hs2
    have apart : C ≠ a := ha.elim (fun z => z ▸ f1) fun z e => f4 y a z e.symm
    exact ⟨m, ns.sameBut sb apart, fun h3 sb3 => ⟨_, H1, I2.turned (t' := s2.toks) (fun b o n e => (sb3.2 b n).trans e) f0 f1 f3 f4 f5, q⟩⟩)
  show wpAny _ X.A (do let _ ← comprehension (.DictComp kx vx [⟨tg, iter, ifs, 0⟩] scope pos) scope X.env (firstIterPos [⟨tg, iter, ifs, 0⟩] pos) newDict false (eval iter X.env) (some (assign (.Name y py) X.env))) _ _ s
  apply wpAny_bind
  refine thn core fun _ s' z => ?_
  exact wpAny_pure (wpAny_pure z)
end Vm
/-! Vo6 -/
namespace Vm
open PySem L2

variable {Γ : Gx} {Y : Cx} {sc : Scope} {W : WX} {e : Expr}
theorem dcGo_cons {dt : Bool} {t : List Nat} {ts : Fr → R Bool} {ek el : Fr → R S} {d : D} {r : List D} {ρ ρF : Fr} {acc l : List (D × D)} (h : dcGo dt t ts ek el (d :: r) ρ acc = .ok l ρF) :
    ∃ ρ2 b ρ3, setTg t d ρ = some ρ2 ∧ ts ρ2 = .ok b ρ3 ∧ ((b = false ∧ dcGo dt t ts ek el r ρ3 acc = .ok l ρF) ∨ (b = true ∧ ∃ k ρ4 x ρ5, ek ρ3 = .ok (.v k) ρ4 ∧ k.isKey dt = true ∧ acc.length < lineN ∧ el ρ4 = .ok (.v x) ρ5 ∧ dcGo dt t ts ek el r ρ5 (dput acc k x) = .ok l ρF)) := by
  unfold dcGo at h
  cases e1 : setTg t d ρ with
  | none => rw [e1] at h; cases h
  | some ρ2 =>
    simp only [e1] at h
    cases e2 : ts ρ2 with
    | bad => rw [e2] at h; cases h
    | ex _ _ => rw [e2] at h; cases h
    | ok b ρ3 =>
      cases b with
      | false => simp only [e2] at h; exact ⟨ρ2, false, ρ3, rfl, e2, .inl ⟨rfl, h⟩⟩
      | true =>
        simp only [e2] at h
        cases e3 : ek ρ3 with
        | bad => rw [e3] at h; cases h
        | ex _ _ => rw [e3] at h; cases h
        | ok ks ρ4 =>
          cases ks with
          | v k =>
            simp only [e3] at h
            by_cases hk : (k.isKey dt && decide (acc.length < lineN)) = true
            · rw [if_pos hk] at h
              rw [Bool.and_eq_true, decide_eq_true_eq] at hk
              cases e4 : el ρ4 with
              | bad => rw [e4] at h; cases h
              | ex _ _ => rw [e4] at h; cases h
              | ok xs ρ5 =>
                cases xs with
                | v x => simp only [e4] at h; exact ⟨ρ2, true, ρ3, rfl, e2, .inr ⟨rfl, k, ρ4, x, ρ5, e3, hk.1, hk.2, e4, h⟩⟩
                | _ => simp only [e4] at h; cases h
            · rw [if_neg hk] at h; cases h
          | _ => simp only [e3] at h; cases h
theorem dc_plain {k x it : X} {dt : Bool} {t : List Nat} {cs : Xs} {sc : Scope} {e : Expr} (h : chk Γ.g (.dc dt k x t it cs) sc e = true) : plainB e = true ∧ testPlainB e = true := by
  unfold chk at h
  split at h
  · exact ⟨rfl, rfl⟩
  · exact ff h
theorem comp_dc {k x it : X} {dt : Bool} {t : List Nat} {cs : Xs} (hk : XOk Γ k) (hx : XOk Γ x) (hit : XOk Γ it) (hii : IOk Γ it) (hcs : XsOk Γ cs) : CompOk Γ (.dc dt k x t it cs) := by
  have sh : ∀ {sc e}, chk Γ.g (.dc dt k x t it cs) sc e = true → ∃ ke ve tg iter ifs scope p, e = .DictComp ke ve [⟨tg, iter, ifs, 0⟩] scope p ∧ dt = false ∧ Γ.g.hot = false ∧ itOkB it tg = true ∧ chk Γ.g it sc iter = true ∧ blkC Γ.g.N sc scope (ownOf Γ.g.N t) = true ∧ tgB Γ.g.N (relS scope sc) (fun x => scope.names.lookup x == some .cell) t tg = true ∧
      chks Γ.g cs (relS scope sc) ifs = true ∧ chk Γ.g k (relS scope sc) ke = true ∧ chk Γ.g x (relS scope sc) ve = true ∧ cs.len ≤ 1 ∧ apartL t (mutXs Γ.g cs ++ (mutX Γ.g k ++ mutX Γ.g x)) = true ∧ apartL (roots it) (mutXs Γ.g cs ++ (mutX Γ.g k ++ mutX Γ.g x)) = true := fun {sc e} h => by
    unfold chk at h
    split at h
    · simp only [Bool.and_eq_true, decide_eq_true_eq, Bool.not_eq_true'] at h
      obtain ⟨⟨⟨⟨⟨⟨⟨⟨⟨⟨⟨h0, h1⟩, h2⟩, h3⟩, h4⟩, h5⟩, h6⟩, h7⟩, h7'⟩, h8⟩, h9⟩, h10⟩ := h
      exact ⟨_, _, _, _, _, _, _, rfl, h0, h1, h2, h3, h4, h5, h6, h7, h7', h8, h9, h10⟩
    · exact ff h
  intro Y sc W e c hc
  obtain ⟨ke, ve, tg, iter, ifs, scope, p, rfl, rfl, hh, h2, h3, h4, h5, h6, h7, h7', h8, h9, h10⟩ := sh hc
  have own : (ownOf Γ.g.N t).map (·.2) = t := tgB_ix h5
  have tM := apartL_of h9
  have rM := apartL_of h10
  have cal := c.calm hh
  have hit' := hii c h3 h2 hh
  have hbl : BlkOk Y.N Y.env.scope scope (ownOf Γ.g.N t) := blkOk_by (by rw [c.N, c.sc]; exact h4)
  have main := pe_dc (g := gTg Y.K t tg) (tt := tT Γ.G WF (mutXs Γ.g cs) (tAndL (dens Γ.C cs))) (tk := tV Γ.G WF none (mutX Γ.g k) (XD.ev (k, den Γ.C k))) (tv := tV Γ.G WF none (mutX Γ.g x) (XD.ev (x, den Γ.C x))) (pos := p) cal (by rw [c.N]; exact c.nd) (hii c h3 h2 hh) (blkOk_by (by rw [c.N, c.sc]; exact h4))
    (fun s H C cl fp => tg_pg (X := Y.blk s H scope (compEnvC scope cl C Y.env) fp) (sc := relS scope sc) cal c.N c.nd (by show relS scope Y.env.scope = _; rw [c.sc]) (fun x _ h => h) h5)
    (fun s H C cl fp => pts_all (c.blk hh scope cl C s H fp) hcs h6 h8) (fun s H C cl fp => xd_ev hk (c.blk hh scope cl C s H fp) h7) (fun s H C cl fp => xd_ev hx (c.blk hh scope cl C s H fp) h7') (fun v => (plain_of (hit.pl h3)).fold Y.env v)
  have main2 := fun (i : Nat) (y : Str) (py spos : Pos) (h1 : Y.N[i]? = some y) (hl : Y.env.scope.names.lookup y = some .local) (hw : swapsWith (.DictComp ke ve [⟨tg, iter, ifs, 0⟩] scope p) (some (.Name y py)) spos.line Y.env = pure true) =>
    ps_putDc (i := i) (y := y) (py := py) (at' := spos) (g := gTg Y.K t tg) (tt := tT Γ.G WF (mutXs Γ.g cs) (tAndL (dens Γ.C cs))) (tk := tV Γ.G WF none (mutX Γ.g k) (XD.ev (k, den Γ.C k))) (tv := tV Γ.G WF none (mutX Γ.g x) (XD.ev (x, den Γ.C x))) (pos := p) cal (by rw [c.N]; exact c.nd) h1 hl hw hit' hbl
    (fun s H C cl fp => tg_pg (X := Y.blk s H scope (compEnvC scope cl C Y.env) fp) (sc := relS scope sc) cal c.N c.nd (by show relS scope Y.env.scope = _; rw [c.sc]) (fun x _ h => h) h5)
    (fun s H C cl fp => pts_all (c.blk hh scope cl C s H fp) hcs h6 h8) (fun s H C cl fp => xd_ev hk (c.blk hh scope cl C s H fp) h7) (fun s H C cl fp => xd_ev hx (c.blk hh scope cl C s H fp) h7') (fun v => (plain_of (hit.pl h3)).fold Y.env v)
  refine ⟨_, main, main2, fun σ H Q ⟨ρ, fs, F, q⟩ => ⟨ρ, fs, F, ?_⟩⟩
  rw [own]
  have q : Run Γ.G W σ H ρ fs (mutX Γ.g (.dc false k x t it cs)) (fun s ρ' H' fs' => ∀ v, VP none Γ.G H fs (mutX Γ.g (.dc false k x t it cs)) H' fs' s v → Q v H') (((den Γ.C it).it ρ).bind fun ds ρ => match dcGo false t (tAndL (dens Γ.C cs)) (XD.ev (k, den Γ.C k)) (XD.ev (x, den Γ.C x)) ds ρ [] with
      | .ok l ρ' => .ok (.dic false l) (unset t ρ ρ')
      | _ => .bad) := q
  refine (Run.bindO (M1 := mutX Γ.g it) q (fun i m => List.mem_append_left _ m)).imp fun ds ρ1 H1 fs1 F1 st1 q1 J S Gd sr g1 pl tr D hD => ?_
  have kD : Keep H1 (upd H1 D (.dK [])) none' := Keep.new hD
  have hK : Y.K = Γ.G.K := c.K
  cases hgo : dcGo false t (tAndL (dens Γ.C cs)) (XD.ev (k, den Γ.C k)) (XD.ev (x, den Γ.C x)) ds ρ1 [] with
  | bad => rw [hgo] at q1; exact q1.elim
  | ex _ _ => rw [hgo] at q1; exact q1.elim
  | ok l ρF =>
    rw [hgo] at q1
    have q1 : Run Γ.G W σ H ρ fs (mutX Γ.g (.dc false k x t it cs)) (fun s ρ' H' fs' => ∀ v, VP none Γ.G H fs (mutX Γ.g (.dc false k x t it cs)) H' fs' s v → Q v H') (.ok (.dic false l) (unset t ρ1 ρF)) := q1
    let M := mutXs Γ.g cs ++ (mutX Γ.g k ++ mutX Γ.g x)
    let st : Nat → Hp → Prop := fun i H => ∃ ρc fsc acc kvs, BS Γ.G σ t M H1 ρ1 fs1 H (wipe σ t) (unsetN t ρc) fsc ∧ (∀ i, ¬ fsc i D) ∧ Gd H ∧ H D = some (.dK kvs) ∧ ((kvs.map fun q => some q.1) = (acc.map (·.1)).map keyD ∧ RepDs Γ.G.K H (acc.map (·.2)) (kvs.map (·.2))) ∧
      dcGo false t (tAndL (dens Γ.C cs)) (XD.ev (k, den Γ.C k)) (XD.ev (x, den Γ.C x)) (ds.drop i) ρc acc = .ok l ρF
    have b0 : BS Γ.G σ t M H1 ρ1 fs1 H1 σ ρ1 fs1 := ⟨F1, .refl, rfl, rfl⟩
    refine ⟨fun i m H => m = ds.length - i ∧ i ≤ ds.length ∧ st i H, ⟨ds.length, by simp, Nat.zero_le _, ρ1, fsU t fs1, [], [], b0.toHead.grow kD (fun _ _ _ z => z) (fun _ z => z.elim), fun i z => ?_, sr.keep _ _ _ g1 kD (fun _ _ z => z), upd_same, ⟨rfl, .nil⟩, hgo⟩, ?_⟩
    · by_cases hi : i ∈ t
      · rw [fsU_in hi] at z; exact z
      · rw [fsU_out hi] at z; exact F1.trk i D z hD
    · rintro i m H2 ⟨rfl, hi, ρc, fsc, acc, kvs, hb, nD, g2, hD2, ra, hg⟩
      by_cases hlt : i < ds.length
      · refine .inr ⟨sr.go i H2 g2 hlt, fun H' => st (i + 1) H', fun H' s' => ⟨ds.length - (i + 1), by omega, rfl, hlt, s'⟩, fun xv H' y => ?_⟩
        obtain ⟨kk0, rx⟩ := sr.yld i H2 xv H' ds[i] g2 (List.getElem?_eq_getElem hlt) y
        rw [List.drop_eq_getElem_cons hlt] at hg
        obtain ⟨ρ2, b, ρ3, e1, e2, hg⟩ := dcGo_cons hg
        have hD' : H' D = some (.dK kvs) := kk0.at' _ _ hD2 (.inr fun z => z)
        have tb := blk_turn (Mc := mutXs Γ.g cs) (Q := fun σ2 H3 fs3 => BS Γ.G σ t M H1 ρ1 fs1 H3 σ2 ρ3 fs3 ∧ (∀ i, ¬ fs3 i D) ∧ Gd H3 ∧ H3 D = some (.dK kvs) ∧ ((kvs.map fun q => some q.1) = (acc.map (·.1)).map keyD ∧ RepDs Γ.G.K H3 (acc.map (·.2)) (kvs.map (·.2))))
          hK hb h5 kk0 rx e1 e2 (fun i m => List.mem_append_left _ m) tM fun σ2 H3 fs3 b3 kk nn => ⟨b3, nn D (by rw [hD']; exact fun z => by cases z) nD,
            sr.keep _ _ _ (sr.keep _ _ _ g2 kk0 fun _ _ z => z) kk (src_stays F1 pl tr rM tM hb), kk.at' _ _ hD' (.inr fun ⟨j, _, z⟩ => nD j z), ra.1, RepDs.keep kk _ _ (RepDs.keep kk0 _ _ ra.2)⟩
        refine gTg_mono (fun σ2 H3 z => ?_) tb
        obtain ⟨z1, ρ0', fs0', F0', z2⟩ := z
        refine ⟨z1, ρ0', fs0', F0', z2.imp fun b' ρ'' H4 fs4 F4 st4 z3 => ?_⟩
        obtain ⟨rfl, fs5, b5, n5, g5, hD5, r5⟩ := z3
        have nu : ∀ {fs6 : Nat → Fp}, (∀ i, ¬ fs6 i D) → ∀ i, ¬ fsU t fs6 i D := fun {fs6} n6 i z => by
          by_cases hi : i ∈ t
          · rw [fsU_in hi] at z; exact z
          · rw [fsU_out hi] at z; exact n6 i z
        rcases hg with ⟨rfl, hg⟩ | ⟨rfl, kd, ρ4, xd, ρ5, e3, ik, il, e4, hg⟩
        · rw [if_neg (by decide)]
          exact ⟨ρ3, fsU t fs5, acc, kvs, b5.toHead, nu n5, g5, hD5, r5, hg⟩
        · rw [if_pos rfl]
          -- a step within the block
          have go : ∀ {H5 H6 : Hp} {ρ5 ρ6 : Fr} {fs5 fs6 : Nat → Fp} {Mx : List Nat}, (∀ i, i ∈ Mx → i ∈ M) → BS Γ.G σ t M H1 ρ1 fs1 H5 σ2 ρ5 fs5 → (∀ i, ¬ fs5 i D) → Gd H5 → H5 D = some (.dK kvs) → RepDs Γ.G.K H5 (acc.map (·.2)) (kvs.map (·.2)) → FR Γ.G H6 σ2 ρ6 fs6 → Step H5 ρ5 fs5 Mx H6 ρ6 fs6 →
              BS Γ.G σ t M H1 ρ1 fs1 H6 σ2 ρ6 fs6 ∧ (∀ i, ¬ fs6 i D) ∧ Gd H6 ∧ H6 D = some (.dK kvs) ∧ RepDs Γ.G.K H6 (acc.map (·.2)) (kvs.map (·.2)) := by
            intro H5 H6 ρ5 ρ6 fs5 fs6 Mx mx b5 n5 g5 hD5 r5 F6 st6
            have hD6 : H6 D = some (.dK kvs) := st6.keep.at' _ _ hD5 (.inr fun ⟨j, _, z⟩ => n5 j z)
            refine ⟨b5.step F6 st6 mx fun i m z => tM i m (mx i z), fun i z => ?_, sr.keep _ _ _ g5 st6.keep fun a sa z => src_stays F1 pl tr rM tM b5 a sa (U.mono mx z), hD6, RepDs.keep st6.keep _ _ r5⟩
            by_cases m : i ∈ Mx
            · rcases st6.sub i D m z with ⟨j, _, y⟩ | y
              · exact n5 j y
              · rw [hD5] at y; cases y
            · rw [(st6.same i m).2] at z; exact n5 i z
          refine ⟨ρ3, fs5, b5.fr, ?_⟩
          rw [e3]
          intro H6 fs6 F6 st6 kv vk
          obtain ⟨b6, n6, g6, hD6, r6⟩ := go (fun i m => List.mem_append_right _ (List.mem_append_left _ m)) b5 n5 g5 hD5 r5.2 F6 st6
          refine ⟨ρ4, fs6, F6, ?_⟩
          rw [e4]
          intro H7 fs7 F7 st7 yv vp
          obtain ⟨b7, n7, g7, hD7, r7⟩ := go (fun i m => List.mem_append_right _ (List.mem_append_right _ m)) b6 n6 g6 hD6 r6 F7 st7
          obtain ⟨κ, ek⟩ := isKey_ft ik
          have rk : RepD Γ.G.K H7 kd kv := RepD.keep st7.keep _ _ vk.toD
          have kS : Keep H7 (upd H7 D (.dK (putK kvs κ yv))) (fun a => a = D) := Keep.set hD7 (fun z => z) rfl
          obtain ⟨p1, p2⟩ := put_same (kd := keyD) ek (fun d κ' hd => same_key hd ek) vp.toD r5.1 r7
          have hn : kvs.length < sizeLine := by
            have := congrArg List.length r5.1
            simp only [List.length_map] at this
            rw [this, ← lineN_eq]; exact il
          exact ⟨kvs, κ, keyD_V rk ek, hD7, hn, ρ5, fsU t fs7, dput acc kd xd, putK kvs κ yv, b7.toHead.grow kS (fun i a z y => nu n7 i (y ▸ z)) (fun a z => .inl (z ▸ hD)), nu n7, sr.keep _ _ _ g7 kS fun a sa z => tr a sa (z ▸ hD), upd_same, ⟨p1, RepDs.keep kS _ _ p2⟩, hg⟩
      · have e : i = ds.length := by omega
        subst e
        refine .inl ⟨sr.stop _ H2 g2 (Nat.le_refl _), ?_⟩
        rw [List.drop_length] at hg
        have hg : (.ok acc ρc : R (List (Vm.D × Vm.D))) = .ok l ρF := hg
        injection hg with e1 e2
        subst e1 e2
        obtain ⟨F2, st2⟩ := BS.done F1 hb tM
        have nF : ∀ i, ¬ finU t fs1 fsc i D := fun i z => by
          unfold finU at z
          by_cases hi : i ∈ t
          · rw [if_pos hi] at z; exact F1.trk i D z hD
          · rw [if_neg hi] at z; exact nD i z
        refine q1 H2 _ F2 ((st1.mono fun i m => List.mem_append_left _ m).trans (st2.mono fun i m => List.mem_append_right _ m)) (.ref D) ⟨fun b => b = D, ?_, fun a z => ?_, fun i a z y => nF i (z ▸ y), fun a z => .inr (st1.keep.dom a (z ▸ hD))⟩
        · rw [RepS]
          exact ⟨D, .dK kvs, kvs.map (·.2), rfl, hD2, rfl, ⟨kvs, rfl, ra.1, rfl⟩, ra.2⟩
        · rw [z, hD2]; exact fun y => by cases y
theorem xok_dc {k x it : X} {dt : Bool} {t : List Nat} {cs : Xs} (hk : XOk Γ k) (hx : XOk Γ x) (hit : XOk Γ it) (hii : IOk Γ it) (hcs : XsOk Γ cs) : XOk Γ (.dc dt k x t it cs) := xok_comp (comp_dc hk hx hit hii hcs) rfl dc_plain
end Vm
/-! Vo7 -/
namespace Vm
open PySem L2

variable {Γ : Gx} {Y : Cx} {sc : Scope} {W : WX} {e : Expr}
def ph (p : Nat) (D : Addr) (fs : Nat → Fp) : Nat → Fp := fun i => if i = p then (fun a => a = D) else fs i
theorem ph_at {p : Nat} {D : Addr} {fs : Nat → Fp} : ph p D fs p = fun a => a = D := if_pos rfl
theorem ph_ne {p i : Nat} {D : Addr} {fs : Nat → Fp} (h : i ≠ p) : ph p D fs i = fs i := if_neg h
theorem FR.ph {G : Pg} {H : Hp} {σ : L2.St} {ρ : Fr} {fs : Nat → Fp} {p : Nat} {D : Addr} (F : FR G H σ ρ fs) (hp : ρ.length ≤ p) (n : ∀ i, ¬ fs i D) (hD : H D ≠ none) : FR G H σ ρ (ph p D fs) := by
  refine ⟨F.len, fun i s e => ?_, fun i j a h1 h2 => ?_, fun i a h => ?_⟩
  · have : i ≠ p := by
      rintro rfl
      rw [List.getElem?_eq_none hp] at e; cases e
    rw [ph_ne this]; exact F.rep i s e
  · by_cases hi : i = p <;> by_cases hj : j = p
    · rw [hi, hj]
    · subst hi; rw [ph_at] at h1; rw [ph_ne hj] at h2; exact absurd (h1 ▸ h2) (n j)
    · subst hj; rw [ph_at] at h2; rw [ph_ne hi] at h1; exact absurd (h2 ▸ h1) (n i)
    · rw [ph_ne hi] at h1; rw [ph_ne hj] at h2; exact F.dis i j a h1 h2
  · by_cases hi : i = p
    · subst hi; rw [ph_at] at h; rw [h]; exact hD
    · rw [ph_ne hi] at h; exact F.trk i a h
theorem fresh_slot (n : Nat) (l : List Nat) : ∃ p, n ≤ p ∧ p ∉ l := by
  refine ⟨n + l.foldr (· + ·) 0 + 1, by omega, fun m => ?_⟩
  have : ∀ (l : List Nat) (x : Nat), x ∈ l → x ≤ l.foldr (· + ·) 0 := by
    intro l
    induction l with
    | nil => intro x h; cases h
    | cons y l ih =>
      intro x h
      rw [List.foldr_cons]
      rcases List.mem_cons.mp h with rfl | h
      · omega
      · have := ih x h; omega
  have := this l _ m
  omega
section
variable {G : Pg} {σ : L2.St} {t M M' : List Nat} {H0 H H' : Hp} {ρ0 ρ ρ' : Fr} {fs0 fs fs' : Nat → Fp} {σ' : L2.St} {p : Nat} {D : Addr}
/-- a step while D is held at p, D made within the block -/
theorem BS.stepPh (b : BS G σ t M H0 ρ0 fs0 H σ' ρ fs) (nD : ∀ i, ¬ fs i D) (h0 : H0 D = none) (hp : ρ.length ≤ p) (F : FR G H' σ' ρ' fs') (st : Step H ρ (ph p D fs) M' H' ρ' fs') (h1 : ∀ i, i ∈ M' → i = p ∨ i ∈ M) (h2 : ∀ i, i ∈ t → i ∉ M) (hpt : p ∉ t) (hpM : p ∉ M) :
    BS G σ t M H0 ρ0 fs0 H' σ' ρ' (fun i => if i = p then fs p else fs' i) := by
  have ln : ρ'.length = ρ.length := by rw [F.len, ← b.fr.len]
  -- where what is reached comes from
  have up : ∀ a, U (ph p D fs) M' a → a = D ∨ ∃ i, i ∈ M ∧ i ∈ M' ∧ fs i a := fun a ⟨i, m, z⟩ => by
    by_cases hi : i = p
    · subst hi; rw [ph_at] at z; exact .inl z
    · rw [ph_ne hi] at z
      rcases h1 i m with y | y
      · exact absurd y hi
      · exact .inr ⟨i, y, m, z⟩
  have upB : ∀ a, U (ph p D fs) M' a → U (fsU t fs0) M a ∨ H0 a = none := fun a h => by
    rcases up a h with rfl | ⟨i, m, _, z⟩
    · exact .inr h0
    · exact b.st.sub i a m (by rw [fsU_out fun y => h2 i y m]; exact z)
  have fsm : ∀ i a, i ≠ p → i ∈ M' → fs' i a → U (ph p D fs) M' a ∨ H a = none := fun i a _ m z => st.sub i a m z
  have fso : ∀ i, i ≠ p → i ∉ M' → fs' i = fs i := fun i h n => by rw [(st.same i n).2, ph_ne h]
  refine ⟨⟨F.len, fun i s e => ?_, fun i j a z1 z2 => ?_, fun i a z => ?_⟩, ⟨b.st.keep.trans st.keep fun a h => upB a h, fun i n => ?_, fun i a m z => ?_⟩, b.wi, b.ln⟩
  · have : i ≠ p := by
      rintro rfl
      rw [List.getElem?_eq_none (by omega)] at e; cases e
    rw [if_neg this]; exact F.rep i s e
  · have cross : ∀ k a, k ≠ p → fs p a → fs' k a → False := fun k a hk y1 y2 => by
      by_cases m : k ∈ M'
      · rcases fsm k a hk m y2 with h | h
        · rcases up a h with rfl | ⟨i, mi, _, z⟩
          · exact nD p y1
          · have := b.fr.dis i p a z y1
            subst this; exact hpM mi
        · exact b.fr.trk p a y1 h
      · rw [fso k hk m] at y2
        exact hk (b.fr.dis k p a y2 y1)
    by_cases hi : i = p <;> by_cases hj : j = p
    · rw [hi, hj]
    · rw [if_pos hi] at z1; rw [if_neg hj] at z2; exact (cross j a hj z1 z2).elim
    · rw [if_neg hi] at z1; rw [if_pos hj] at z2; exact (cross i a hi z2 z1).elim
    · rw [if_neg hi] at z1; rw [if_neg hj] at z2; exact F.dis i j a z1 z2
  · by_cases hi : i = p
    · rw [if_pos hi] at z; exact fun h => b.fr.trk p a z (st.keep.dom a h)
    · rw [if_neg hi] at z; exact F.trk i a z
  · rw [← (b.st.same i n).1, ← (b.st.same i n).2]
    by_cases hit : i ∈ t
    · refine ⟨?_, by rw [fsU_in hit, fsU_in hit]⟩
      by_cases hl : i < ρ.length
      · rw [unsetN_in hit hl, unsetN_in hit (by rw [ln]; exact hl)]
      · rw [List.getElem?_eq_none (by rw [unsetN_len, ln]; omega), List.getElem?_eq_none (by rw [unsetN_len]; omega)]
    · rw [unsetN_out hit, unsetN_out hit, fsU_out hit, fsU_out hit]
      by_cases hi : i = p
      · subst hi
        exact ⟨by rw [List.getElem?_eq_none (by omega), List.getElem?_eq_none (by omega)], by rw [if_pos rfl]⟩
      · have nm : i ∉ M' := fun m => by
          rcases h1 i m with y | y
          · exact hi y
          · exact n y
        exact ⟨(st.same i nm).1, by rw [if_neg hi, fso i hi nm]⟩
  · have hit : i ∉ t := fun y => h2 i y m
    rw [fsU_out hit] at z
    have hi : i ≠ p := fun y => hpM (y ▸ m)
    rw [if_neg hi] at z
    by_cases mm : i ∈ M'
    · rcases fsm i a hi mm z with h | h
      · exact upB a h
      · exact .inr (b.st.keep.dom a h)
    · rw [fso i hi mm] at z
      exact b.st.sub i a m (by rw [fsU_out hit]; exact z)
/-- some of the own slots wiped -/
theorem wipe_wipe {σ : L2.St} {t t2 : List Nat} (h : ∀ i, i ∈ t2 → i ∈ t) : wipe (wipe σ t2) t = wipe σ t := wipe_eq (by rw [wipe_length]) fun j n => wipe_out fun m => n (h j m)
theorem BS.half {t2 : List Nat} (b : BS G σ t M H0 ρ0 fs0 H σ' ρ fs) (h : ∀ i, i ∈ t2 → i ∈ t) : BS G σ t M H0 ρ0 fs0 H (wipe σ' t2) (unsetN t2 ρ) (fsU t2 fs) := by
  refine ⟨b.fr.off, ?_, by rw [wipe_wipe h, b.wi], by rw [wipe_length]; exact b.ln⟩
  have e1 : unsetN t (unsetN t2 ρ) = unsetN t ρ := by
    apply List.ext_getElem?
    intro j
    by_cases hj : j ∈ t
    · by_cases hl : j < ρ.length
      · rw [unsetN_in hj hl, unsetN_in hj (by rw [unsetN_len]; exact hl)]
      · rw [List.getElem?_eq_none (by rw [unsetN_len, unsetN_len]; omega), List.getElem?_eq_none (by rw [unsetN_len]; omega)]
    · rw [unsetN_out hj, unsetN_out hj, unsetN_out fun m => hj (h j m)]
  have e2 : fsU t (fsU t2 fs) = fsU t fs := by
    funext j
    by_cases hj : j ∈ t
    · rw [fsU_in hj, fsU_in hj]
    · rw [fsU_out hj, fsU_out hj, fsU_out fun m => hj (h j m)]
  rw [e1, e2]; exact b.st
end
/-- a turn of a block, general -/
theorem blk_turnG {G : Pg} {σ σh : L2.St} {T is M Mc : List Nat} {H0 H H' : Hp} {ρ0 ρh ρ2 ρ3 : Fr} {fs0 fsc : Nat → Fp} {tg : Expr} {N : List Str} {fn : Str → Bool} {K : PySem.W.Frag} {d : D} {x : V} {b : Bool} {ts : Fr → R Bool} {Q : L2.St → Hp → (Nat → Fp) → Prop}
    (hK : K = G.K) (his : ∀ i, i ∈ is → i ∈ T) (hb : BS G σ T M H0 ρ0 fs0 H σh ρh fsc) (ht : tgB N sc fn is tg = true) (k : Keep H H' none') (r : RepD G.K H' d x) (e : setTg is d ρh = some ρ2) (et : ts ρ2 = .ok b ρ3) (h1 : ∀ i, i ∈ Mc → i ∈ M) (h2 : ∀ i, i ∈ T → i ∉ M)
    (q : ∀ σ2 H3 fs3, BS G σ T M H0 ρ0 fs0 H3 σ2 ρ3 fs3 → Keep H' H3 (U fsc Mc) → (∀ a, H' a ≠ none → (∀ i, ¬ fsc i a) → ∀ i, ¬ fs3 i a) → (∀ i, i ∉ is → i ∉ Mc → fs3 i = fsc i) → (∀ i, i ∈ is → ∀ a, ¬ fs3 i a) → (∀ i a, i ∈ Mc → fs3 i a → U fsc Mc a ∨ H' a = none) → Q σ2 H3 fs3) :
    gTg K is tg x σh H' fun σ2 H2 => (wipe σ2 is = wipe σh is ∧ wipe σ2 T = wipe σ T) ∧ tT G WF Mc ts σ2 H2 fun b' H3 => b' = b ∧ ∃ fs3, Q σ2 H3 fs3 := by
  have b1 := hb.grow k (fun _ _ _ z => z) (fun _ z => z.elim)
  have hw : ∀ {σ2 : L2.St}, gTg K is tg x σh H' (fun σ2 _ => wipe σ2 is = wipe σh is) := by
    intro _
    exact tg_put hK ht b1.fr r e fun σ2 fs2 F p1 p2 p3 => wipe_eq p3 fun j n => (p1 j n).1
  refine tg_put hK ht b1.fr r e fun σ2 fs2 F p1 p2 p3 => ?_
  have b2 : BS G σ T M H0 ρ0 fs0 H' σ2 ρ2 fs2 := by
    refine ⟨F, ?_, by rw [← hb.wi]; exact wipe_eq p3 fun j n => (p1 j fun m => n (his j m)).1, p3.trans hb.ln⟩
    have e1 : unsetN T ρ2 = unsetN T ρh := by
      apply List.ext_getElem?
      intro j
      by_cases hj : j ∈ T
      · by_cases hl : j < ρh.length
        · rw [unsetN_in hj hl, unsetN_in hj (by rw [F.len, p3, ← hb.fr.len]; exact hl)]
        · rw [List.getElem?_eq_none (by rw [unsetN_len, F.len, p3, ← hb.fr.len]; omega), List.getElem?_eq_none (by rw [unsetN_len]; omega)]
      · rw [unsetN_out hj, unsetN_out hj, (p1 j fun m => hj (his j m)).2.1]
    have e2 : fsU T fs2 = fsU T fsc := by
      funext j
      by_cases hj : j ∈ T
      · rw [fsU_in hj, fsU_in hj]
      · rw [fsU_out hj, fsU_out hj, (p1 j fun m => hj (his j m)).2.2]
    rw [e1, e2]; exact b1.st
  refine ⟨⟨wipe_eq p3 fun j n => (p1 j n).1, b2.wi⟩, ρ2, fs2, F, ?_⟩
  rw [et]
  intro H3 fs3 F3 st3
  have nT : ∀ i, i ∈ Mc → i ∉ is := fun i m y => h2 i (his i y) (h1 i m)
  have up : ∀ a, U fs2 Mc a → U fsc Mc a := fun a ⟨i, m, z⟩ => by
    rw [(p1 i (nT i m)).2.2] at z
    exact ⟨i, m, z⟩
  refine ⟨rfl, fs3, q σ2 H3 fs3 (b2.step F3 st3 h1 fun i m z => h2 i m (h1 i z)) (st3.keep.mono up) (fun a ha hn i z => ?_) (fun i n1 n2 => by rw [(st3.same i n2).2, (p1 i n1).2.2]) (fun i m a z => ?_) fun i a m z => (st3.sub i a m z).imp (up a) id⟩
  · by_cases m : i ∈ Mc
    · rcases st3.sub i a m z with y | y
      · obtain ⟨j, _, y⟩ := up a y
        exact hn j y
      · exact ha y
    · rw [(st3.same i m).2] at z
      by_cases hi : i ∈ is
      · exact p2 i hi a z
      · rw [(p1 i hi).2.2] at z; exact hn i z
  · rw [(st3.same i fun y => nT i y m).2] at z
    exact p2 i m a z
end Vm
/-! Vo8 -/
namespace Vm
open PySem L2

variable {Γ : Gx} {Y : Cx} {sc : Scope} {W : WX} {e : Expr}
theorem FR.keepLt {G : Pg} {H H' : Hp} {σ : L2.St} {ρ : Fr} {fs : Nat → Fp} {X : Fp} (F : FR G H σ ρ fs) (k : Keep H H' X) (n : ∀ i, i < ρ.length → ∀ a, fs i a → ¬ X a) : FR G H' σ ρ fs := by
  refine ⟨F.len, fun i s e => ?_, F.dis, fun i a h z => F.trk i a h (k.dom a z)⟩
  obtain ⟨v, ev, r⟩ := F.rep i s e
  have hl := (List.getElem?_eq_some_iff.mp e).1
  exact ⟨v, ev, r.imp (fun r => RepS.keep k _ _ r (n i hl)) (fun r => r.keep k)⟩
theorem lc_inner {G : Pg} {K : PySem.W.Frag} (hK : K = G.K) {σ : L2.St} {t Mi Mc Me rs : List Nat} {p : Nat} {D : Addr} {H1 : Hp} {ρ1 ρF : Fr} {fs1 : Nat → Fp} {tg : Expr} {N : List Str} {fn : Str → Bool} {ts : Fr → R Bool} {el : Fr → R S} {ds l acc0 : List Vm.D} {accV0 : List V} {J : It} {S : Fp} {Gd : Hp → Prop}
    (F1 : FR G H1 σ ρ1 fs1) (hfp : fs1 p = fun a => a = D) (hp : ρ1.length ≤ p) (hpt : p ∉ t) (hpM : p ∉ Mi) (h5 : tgB N sc fn t tg = true) (tM0 : ∀ i, i ∈ t → i ∉ Mi) (mc : ∀ i, i ∈ Mc → i ∈ Mi) (me : ∀ i, i ∈ Me → i ∈ Mi)
    (sr : Src G.K J S ds Gd) (g1 : Gd H1) (pl : ∀ a, S a → (∃ i, i ∈ rs ∧ fs1 i a) ∨ ∀ i, ¬ fs1 i a) (tr : ∀ a, S a → H1 a ≠ none) (rM0 : ∀ i, i ∈ rs → i ∉ Mi) (hpr : p ∉ rs) (hD : H1 D = some (.lst accV0)) (ra : RepDs G.K H1 acc0.reverse accV0) (hll : l.length ≤ lineN)
    (hgo : lcGo t ts el ds ρ1 acc0 = .ok l ρF) (Nx : Hp → Prop) (hN : ∀ H fs' accV, BS G σ t (p :: Mi) H1 ρ1 fs1 H (wipe σ t) (unsetN t ρF) fs' → (fs' p = fun a => a = D) → Gd H → H D = some (.lst accV) → RepDs G.K H l accV → Nx H) :
    ∃ W : Nat → Nat → Hp → Prop, (∃ m, W 0 m H1) ∧ ∀ i m H, W i m H → (J.stop i H ∧ Nx H) ∨ (J.go i H ∧ ∃ Nx1 : Hp → Prop, (∀ H', Nx1 H' → ∃ m', m' < m ∧ W (i + 1) m' H') ∧ ∀ x H', J.yld i H x H' → gTg K t tg x (wipe σ t) H' fun σ2 H2 => wipe σ2 t = wipe σ t ∧ tT G WF Mc ts σ2 H2 fun b H3 =>
      if b = true then tV G WF none Me el σ2 H3 fun y H4 => ∃ acc, H4 D = some (.lst acc) ∧ acc.length < sizeLine ∧ Nx1 (upd H4 D (.lst (acc ++ [y]))) else Nx1 H3) := by
  let M := p :: Mi
  have tM : ∀ i, i ∈ t → i ∉ M := fun i m h => by
    rcases List.mem_cons.mp h with rfl | h
    · exact hpt m
    · exact tM0 i m h
  have rM : ∀ i, i ∈ rs → i ∉ M := fun i m h => by
    rcases List.mem_cons.mp h with rfl | h
    · exact hpr m
    · exact rM0 i m h
  have nSD : ¬ S D := fun z => by
    rcases pl D z with ⟨i, m, y⟩ | y
    · have := F1.dis i p D y (by rw [hfp])
      exact hpr (this ▸ m)
    · exact y p (by rw [hfp])
  let st : Nat → Hp → Prop := fun i H => ∃ ρc fsc acc accV, BS G σ t M H1 ρ1 fs1 H (wipe σ t) (unsetN t ρc) fsc ∧ (fsc p = fun a => a = D) ∧ Gd H ∧ H D = some (.lst accV) ∧ RepDs G.K H acc.reverse accV ∧ lcGo t ts el (ds.drop i) ρc acc = .ok l ρF
  have b0 : BS G σ t M H1 ρ1 fs1 H1 σ ρ1 fs1 := ⟨F1, .refl, rfl, rfl⟩
  refine ⟨fun i m H => m = ds.length - i ∧ i ≤ ds.length ∧ st i H, ⟨ds.length, by simp, Nat.zero_le _, ρ1, fsU t fs1, acc0, accV0, b0.toHead, by rw [fsU_out hpt, hfp], g1, hD, ra, hgo⟩, ?_⟩
  rintro i m H2 ⟨rfl, hi, ρc, fsc, acc, accV, hb, hfc, g2, hD2, ra2, hg⟩
  by_cases hlt : i < ds.length
  · refine .inr ⟨sr.go i H2 g2 hlt, fun H' => st (i + 1) H', fun H' s' => ⟨ds.length - (i + 1), by omega, rfl, hlt, s'⟩, fun xv H' y => ?_⟩
    obtain ⟨k, rx⟩ := sr.yld i H2 xv H' ds[i] g2 (List.getElem?_eq_getElem hlt) y
    rw [List.drop_eq_getElem_cons hlt] at hg
    obtain ⟨ρ2, b, ρ3, e1, e2, hg⟩ := lcGo_cons hg
    have hD' : H' D = some (.lst accV) := k.at' _ _ hD2 (.inr fun z => z)
    have e1' : setTg t ds[i] (unsetN t ρc) = some ρ2 := by rw [← e1]; exact setTg_agree unsetN_len fun j n => unsetN_out n
    have stay := src_stays F1 pl tr rM tM hb
    have mcM : ∀ i, i ∈ Mc → i ∈ M := fun i m => List.mem_cons_of_mem _ (mc i m)
    have tb := blk_turnG (Mc := Mc) (Q := fun σ2 H3 fs3 => BS G σ t M H1 ρ1 fs1 H3 σ2 ρ3 fs3 ∧ (fs3 p = fun a => a = D) ∧ Gd H3 ∧ H3 D = some (.lst accV) ∧ RepDs G.K H3 acc.reverse accV)
      hK (fun _ m => m) hb h5 k rx e1' e2 mcM tM fun σ2 H3 fs3 b3 kk n1 n2 n3 n4 => ⟨b3, by rw [n2 p hpt fun m => hpM (mc p m), hfc], sr.keep _ _ _ (sr.keep _ _ _ g2 k fun _ _ z => z) kk (fun a sa z => stay a sa (U.mono mcM z)),
        kk.at' _ _ hD' (.inr fun ⟨j, jm, z⟩ => by
          have := hb.fr.dis j p D z (by rw [hfc])
          subst this; exact hpM (mc j jm)), RepDs.keep kk _ _ (RepDs.keep k _ _ ra2)⟩
    refine gTg_mono (fun σ2 H3 z => ?_) tb
    obtain ⟨⟨z1, _⟩, ρ0', fs0', F0', z2⟩ := z
    refine ⟨z1.trans (wipe_wipe (fun _ m => m)), ρ0', fs0', F0', z2.imp fun b' ρ'' H4 fs4 F4 st4 z3 => ?_⟩
    obtain ⟨rfl, fs5, b5, f5, g5, hD5, r5⟩ := z3
    rcases hg with ⟨rfl, hg⟩ | ⟨rfl, xv2, ρ4, e3, hg⟩
    · rw [if_neg (by decide)]
      exact ⟨ρ3, fsU t fs5, acc, accV, b5.toHead, by rw [fsU_out hpt, f5], g5, hD5, r5, hg⟩
    · rw [if_pos rfl]
      refine ⟨ρ3, fs5, b5.fr, ?_⟩
      rw [e3]
      intro H6 fs6 F6 st6 yv vp
      have mx : ∀ i, i ∈ Me → i ∈ M := fun i m => List.mem_cons_of_mem _ (me i m)
      have b6 := b5.step F6 st6 mx fun i m z => tM i m (mx i z)
      have nU : ¬ U fs5 Me D := fun ⟨j, jm, z⟩ => by
        have := b5.fr.dis j p D z (by rw [f5])
        subst this; exact hpM (me j jm)
      have hD6 : H6 D = some (.lst accV) := st6.keep.at' _ _ hD5 (.inr nU)
      have f6 : fs6 p = fun a => a = D := by rw [(st6.same p fun m => hpM (me p m)).2, f5]
      have g6 : Gd H6 := sr.keep _ _ _ g5 st6.keep fun a sa z => src_stays F1 pl tr rM tM b5 a sa (U.mono mx z)
      have kS : Keep H6 (upd H6 D (.lst (accV ++ [yv]))) (fun a => a = D) := Keep.set hD6 (fun z => z) rfl
      have ln := lcGo_len hg
      rw [List.length_cons] at ln
      have b7 := b6.toHead
      have len4 : ρ4.length = ρ1.length := by rw [F6.len, b6.ln, ← F1.len]
      have b8 : BS G σ t M H1 ρ1 fs1 (upd H6 D (.lst (accV ++ [yv]))) (wipe σ t) (unsetN t ρ4) (fsU t fs6) := by
        refine ⟨b7.fr.keepLt kS fun i hl a z y => ?_, ⟨⟨fun a o e q => ?_, fun a e => b7.st.keep.dom a (kS.dom a e)⟩, b7.st.same, b7.st.sub⟩, b7.wi, b7.ln⟩
        · have : i = p := b7.fr.dis i p a z (by rw [fsU_out hpt, f6]; exact y)
          subst this
          rw [unsetN_len, len4] at hl
          omega
        · refine kS.at' a o (b7.st.keep.at' a o e q) (q.imp id fun h z => h ⟨p, List.mem_cons_self, ?_⟩)
          rw [fsU_out hpt, hfp]; exact z
      refine ⟨accV, hD6, by have := r5.length; rw [List.length_reverse] at this; rw [← this, ← lineN_eq]; omega, ρ4, fsU t fs6, xv2 :: acc, accV ++ [yv], b8, by rw [fsU_out hpt, f6], sr.keep _ _ _ g6 kS fun a sa z => nSD (z ▸ sa), upd_same, ?_, hg⟩
      rw [List.reverse_cons]
      exact (RepDs.keep kS _ _ (RepDs.keep st6.keep _ _ r5)).append (.single (RepD.keep kS _ _ vp.toD))
  · have e : i = ds.length := by omega
    subst e
    refine .inl ⟨sr.stop _ H2 g2 (Nat.le_refl _), ?_⟩
    rw [List.drop_length] at hg
    have hg : (.ok acc.reverse ρc : R (List Vm.D)) = .ok l ρF := hg
    injection hg with e1 e2
    subst e1 e2
    exact hN H2 fsc accV hb hfc g2 hD2 ra2
theorem lcGo2_cons {t t2 : List Nat} {ts : Fr → R Bool} {inn : Fr → List D → R (List D)} {d : D} {r : List D} {ρ ρF : Fr} {acc l : List D} (h : lcGo2 t t2 ts inn (d :: r) ρ acc = .ok l ρF) :
    ∃ ρ1 b ρ2, setTg t d (unsetN t2 ρ) = some ρ1 ∧ ts ρ1 = .ok b ρ2 ∧ ((b = false ∧ lcGo2 t t2 ts inn r ρ2 acc = .ok l ρF) ∨ (b = true ∧ ∃ m ρ3, inn ρ2 acc = .ok m ρ3 ∧ lcGo2 t t2 ts inn r ρ3 m.reverse = .ok l ρF)) := by
  unfold lcGo2 at h
  split at h
  · cases h
  · rename_i ρ1 e1
    split at h
    · rename_i ρ2 e2
      exact ⟨ρ1, false, ρ2, e1, e2, .inl ⟨rfl, h⟩⟩
    · rename_i ρ2 e2
      split at h
      · rename_i x ρ3 e3
        exact ⟨ρ1, true, ρ2, e1, e2, .inr ⟨rfl, x, ρ3, e3, h⟩⟩
      · cases h
    · cases h
end Vm
/-! Vo9 -/
namespace Vm
open PySem L2

variable {Γ : Gx} {Y : Cx} {sc : Scope} {W : WX} {e : Expr}
theorem lcGo2_len {t t2 : List Nat} {ts : Fr → R Bool} {inn : Fr → List D → R (List D)} (hi : ∀ ρ acc m ρ', inn ρ acc = .ok m ρ' → acc.length ≤ m.length) : ∀ {ds : List D} {ρ ρF : Fr} {acc l : List D}, lcGo2 t t2 ts inn ds ρ acc = .ok l ρF → acc.length ≤ l.length
  | [], ρ, ρF, acc, l, h => by
    unfold lcGo2 at h
    cases h
    rw [List.length_reverse]; exact Nat.le_refl _
  | d :: r, ρ, ρF, acc, l, h => by
    obtain ⟨ρ1, b, ρ2, e1, e2, h⟩ := lcGo2_cons h
    rcases h with ⟨_, h⟩ | ⟨_, m, ρ3, e3, h⟩
    · exact lcGo2_len hi h
    · have := lcGo2_len hi h
      rw [List.length_reverse] at this
      exact Nat.le_trans (hi _ _ _ _ e3) this
/-- what the second for makes -/
def innR (C : Cal) (x it2 : X) (t2 : List Nat) (cs2 : Xs) : Fr → List D → R (List D) := fun ρ1 acc => match (den C it2).it ρ1 with
  | .ok ds2 ρ2 => lcGo t2 (tAndL (dens C cs2)) (XD.ev (x, den C x)) ds2 ρ2 acc
  | _ => .bad
theorem innR_ok {C : Cal} {x it2 : X} {t2 : List Nat} {cs2 : Xs} {ρ ρ' : Fr} {acc m : List D} (h : innR C x it2 t2 cs2 ρ acc = .ok m ρ') : ∃ ds2 ρ2, (den C it2).it ρ = .ok ds2 ρ2 ∧ lcGo t2 (tAndL (dens C cs2)) (XD.ev (x, den C x)) ds2 ρ2 acc = .ok m ρ' := by
  unfold innR at h
  split at h
  · exact ⟨_, _, by assumption, h⟩
  · cases h
theorem unsetN_sub {t t2 : List Nat} {ρ : Fr} (h : ∀ i, i ∈ t2 → i ∈ t) : unsetN t (unsetN t2 ρ) = unsetN t ρ := by
  apply List.ext_getElem?
  intro j
  by_cases hj : j ∈ t
  · by_cases hl : j < ρ.length
    · rw [unsetN_in hj hl, unsetN_in hj (by rw [unsetN_len]; exact hl)]
    · rw [List.getElem?_eq_none (by rw [unsetN_len, unsetN_len]; omega), List.getElem?_eq_none (by rw [unsetN_len]; omega)]
  · rw [unsetN_out hj, unsetN_out hj, unsetN_out fun m => hj (h j m)]
theorem lc2_plain {x it it2 : X} {t t2 : List Nat} {cs cs2 : Xs} {sc : Scope} {e : Expr} (h : chk Γ.g (.lc2 x t it cs t2 it2 cs2) sc e = true) : plainB e = true ∧ testPlainB e = true := by
  unfold chk at h
  split at h
  · exact ⟨rfl, rfl⟩
  · exact ff h
theorem comp_lc2 {x it it2 : X} {t t2 : List Nat} {cs cs2 : Xs} (hx : XOk Γ x) (hit : XOk Γ it) (hii : IOk Γ it) (hcs : XsOk Γ cs) (hit2 : XOk Γ it2) (hii2 : IOk Γ it2) (hcs2 : XsOk Γ cs2) : CompOk Γ (.lc2 x t it cs t2 it2 cs2) := by
  have sh : ∀ {sc e}, chk Γ.g (.lc2 x t it cs t2 it2 cs2) sc e = true → ∃ elt tg iter ifs tg2 iter2 ifs2 scope p, e = .ListComp elt [⟨tg, iter, ifs, 0⟩, ⟨tg2, iter2, ifs2, 0⟩] scope p ∧ Γ.g.hot = false ∧ itOkB it tg = true ∧ itOkB it2 tg2 = true ∧ chk Γ.g it sc iter = true ∧ blkC Γ.g.N sc scope (ownOf Γ.g.N (t ++ t2)) = true ∧
      tgB Γ.g.N (relS scope sc) (fun x => scope.names.lookup x == some .cell) t tg = true ∧ tgB Γ.g.N (relS scope sc) (fun x => scope.names.lookup x == some .cell) t2 tg2 = true ∧ chks Γ.g cs (relS scope sc) ifs = true ∧ chk Γ.g it2 (relS scope sc) iter2 = true ∧ chks Γ.g cs2 (relS scope sc) ifs2 = true ∧ chk Γ.g x (relS scope sc) elt = true ∧
      cs.len = 0 ∧ cs2.len ≤ 1 ∧ apartL (t ++ t2) (mutXs Γ.g cs ++ (mutX Γ.g it2 ++ (mutXs Γ.g cs2 ++ mutX Γ.g x))) = true ∧ apartL (roots it) (mutXs Γ.g cs ++ (mutX Γ.g it2 ++ (mutXs Γ.g cs2 ++ mutX Γ.g x))) = true ∧ apartL (roots it2) (mutXs Γ.g cs2 ++ mutX Γ.g x) = true ∧ apartL (roots it2) t2 = true := fun {sc e} h => by
    unfold chk at h
    split at h
    · simp only [Bool.and_eq_true, decide_eq_true_eq, Bool.not_eq_true'] at h
      obtain ⟨⟨⟨⟨⟨⟨⟨⟨⟨⟨⟨⟨⟨⟨⟨⟨a1, a2⟩, a3⟩, a4⟩, a5⟩, a6⟩, a7⟩, a8⟩, a9⟩, b1⟩, b2⟩, b3⟩, b4⟩, b5⟩, b6⟩, b7⟩, b8⟩ := h
      exact ⟨_, _, _, _, _, _, _, _, _, rfl, a1, a2, a3, a4, a5, a6, a7, a8, a9, b1, b2, b3, b4, b5, b6, b7, b8⟩
    · exact ff h
  intro Y sc W e c hc
  obtain ⟨elt, tg, iter, ifs, tg2, iter2, ifs2, scope, p0, rfl, hh, a2, a3, a4, a5, a6, a7, a8, a9, b1, b2, b3, b4, b5, b6, b7, b8⟩ := sh hc
  have own : (ownOf Γ.g.N (t ++ t2)).map (·.2) = t ++ t2 := by
    have e1 := tgB_ix a6
    have e2 := tgB_ix a7
    unfold ownOf at e1 e2 ⊢
    rw [List.filterMap_append, List.map_append, e1, e2]
  have tM := apartL_of b5
  have rM := apartL_of b6
  have rM2 := apartL_of b7
  have rT2 := apartL_of b8
  have cal := c.calm hh
  have hsc : ∀ (s : Shared) (H : Hp) (C : Addr) (cl : List (Str × Addr)) (fp : List Addr), (Y.blk s H scope (compEnvC scope cl C Y.env) fp).env.scope = relS scope sc := fun s H C cl fp => by show relS scope Y.env.scope = _; rw [c.sc]
  have main := pe_lc2 (vs1 := t2) (g := gTg Y.K t tg) (tt := tT Γ.G WF (mutXs Γ.g cs) (tAndL (dens Γ.C cs))) (g1 := gTg Y.K t2 tg2) (tt1 := tT Γ.G WF (mutXs Γ.g cs2) (tAndL (dens Γ.C cs2))) (te := tV Γ.G WF none (mutX Γ.g x) (XD.ev (x, den Γ.C x))) (wi1 := tI Γ.G WF (roots it2) (mutX Γ.g it2) (den Γ.C it2).it) (pos := p0)
    cal (by rw [c.N]; exact c.nd) (hii c a4 a2 hh) (blkOk_by (by rw [c.N, c.sc]; exact a5)) (fun i m => by rw [own]; exact List.mem_append_right _ m)
    (fun s H C cl fp => tg_pg (X := Y.blk s H scope (compEnvC scope cl C Y.env) fp) (sc := relS scope sc) cal c.N c.nd (hsc s H C cl fp) (fun x _ h => h) a6)
    (fun s H C cl fp => pts_all (c.blk hh scope cl C s H fp) hcs a8 (by omega)) (fun s H C cl fp => hii2 (c.blk hh scope cl C s H fp) a9 a3 hh)
    (fun s H C cl fp => tg_pg (X := Y.blk s H scope (compEnvC scope cl C Y.env) fp) (sc := relS scope sc) cal c.N c.nd (hsc s H C cl fp) (fun x _ h => h) a7)
    (fun s H C cl fp => pts_all (c.blk hh scope cl C s H fp) hcs2 b1 b4) (fun s H C cl fp => xd_ev hx (c.blk hh scope cl C s H fp) b2) (fun v => (plain_of (hit.pl a4)).fold Y.env v) (fun env v => (plain_of (hit2.pl a9)).fold env v)
  have main2 := fun (i : Nat) (y : Str) (py spos : Pos) (h1 : Y.N[i]? = some y) (hl : Y.env.scope.names.lookup y = some .local) (hw : swapsWith (.ListComp elt [⟨tg, iter, ifs, 0⟩, ⟨tg2, iter2, ifs2, 0⟩] scope p0) (some (.Name y py)) spos.line Y.env = pure true) =>
    ps_setLc2 (i := i) (y := y) (py := py) (spos := spos) (vs1 := t2) (g := gTg Y.K t tg) (tt := tT Γ.G WF (mutXs Γ.g cs) (tAndL (dens Γ.C cs))) (g1 := gTg Y.K t2 tg2) (tt1 := tT Γ.G WF (mutXs Γ.g cs2) (tAndL (dens Γ.C cs2))) (te := tV Γ.G WF none (mutX Γ.g x) (XD.ev (x, den Γ.C x))) (wi1 := tI Γ.G WF (roots it2) (mutX Γ.g it2) (den Γ.C it2).it) (pos := p0)
    cal (by rw [c.N]; exact c.nd) h1 hl hw (hii c a4 a2 hh) (blkOk_by (own := ownOf Γ.g.N (t ++ t2)) (by rw [c.N, c.sc]; exact a5)) (fun i m => by rw [own]; exact List.mem_append_right _ m)
    (fun s H C cl fp => tg_pg (X := Y.blk s H scope (compEnvC scope cl C Y.env) fp) (sc := relS scope sc) cal c.N c.nd (hsc s H C cl fp) (fun x _ h => h) a6)
    (fun s H C cl fp => pts_all (c.blk hh scope cl C s H fp) hcs a8 (by omega)) (fun s H C cl fp => hii2 (c.blk hh scope cl C s H fp) a9 a3 hh)
    (fun s H C cl fp => tg_pg (X := Y.blk s H scope (compEnvC scope cl C Y.env) fp) (sc := relS scope sc) cal c.N c.nd (hsc s H C cl fp) (fun x _ h => h) a7)
    (fun s H C cl fp => pts_all (c.blk hh scope cl C s H fp) hcs2 b1 b4) (fun s H C cl fp => xd_ev hx (c.blk hh scope cl C s H fp) b2) (fun v => (plain_of (hit.pl a4)).fold Y.env v) (fun env v => (plain_of (hit2.pl a9)).fold env v)
  refine ⟨_, main, main2, fun σ H Q ⟨ρ, fs, F, q⟩ => ⟨ρ, fs, F, ?_⟩⟩
  rw [own]
  have q : Run Γ.G W σ H ρ fs (mutX Γ.g (.lc2 x t it cs t2 it2 cs2)) (fun s ρ' H' fs' => ∀ v, VP none Γ.G H fs (mutX Γ.g (.lc2 x t it cs t2 it2 cs2)) H' fs' s v → Q v H') (((den Γ.C it).it ρ).bind fun ds ρ => lcR (t ++ t2) ρ (lcGo2 t t2 (tAndL (dens Γ.C cs)) (innR Γ.C x it2 t2 cs2) ds ρ [])) := q
  refine (Run.bindO (M1 := mutX Γ.g it) q (fun i m => List.mem_append_left _ m)).imp fun ds ρ1 H1 fs1 F1 st1 q1 J S Gd sr g1 pl tr D hD => ?_
  have kD : Keep H1 (upd H1 D (.lst [])) none' := Keep.new hD
  have hK : Y.K = Γ.G.K := c.K
  cases hgo : lcGo2 t t2 (tAndL (dens Γ.C cs)) (innR Γ.C x it2 t2 cs2) ds ρ1 [] with
  | bad => rw [hgo] at q1; exact q1.elim
  | ex _ _ => rw [hgo] at q1; exact q1.elim
  | ok l ρF =>
    rw [hgo] at q1
    have q1 : Run Γ.G W σ H ρ fs (mutX Γ.g (.lc2 x t it cs t2 it2 cs2)) (fun s ρ' H' fs' => ∀ v, VP none Γ.G H fs (mutX Γ.g (.lc2 x t it cs t2 it2 cs2)) H' fs' s v → Q v H') (if l.length ≤ lineN then .ok (.lst (l.map Vm.S.v)) (unset (t ++ t2) ρ1 ρF) else .bad) := q1
    by_cases hll : l.length ≤ lineN
    · rw [if_pos hll] at q1
      let T := t ++ t2
      let M := mutXs Γ.g cs ++ (mutX Γ.g it2 ++ (mutXs Γ.g cs2 ++ mutX Γ.g x))
      let Mi := mutXs Γ.g cs2 ++ mutX Γ.g x
      have tT1 : ∀ i, i ∈ t → i ∈ T := fun i m => List.mem_append_left _ m
      have tT2 : ∀ i, i ∈ t2 → i ∈ T := fun i m => List.mem_append_right _ m
      have miM : ∀ i, i ∈ Mi → i ∈ M := fun i m => List.mem_append_right _ (List.mem_append_right _ m)
      let st : Nat → Hp → Prop := fun i H => ∃ ρc fsc acc accV, BS Γ.G σ T M H1 ρ1 fs1 H (wipe σ T) (unsetN T ρc) fsc ∧ (∀ i, ¬ fsc i D) ∧ Gd H ∧ H D = some (.lst accV) ∧ RepDs Γ.G.K H acc.reverse accV ∧ lcGo2 t t2 (tAndL (dens Γ.C cs)) (innR Γ.C x it2 t2 cs2) (ds.drop i) ρc acc = .ok l ρF
      have b0 : BS Γ.G σ T M H1 ρ1 fs1 H1 σ ρ1 fs1 := ⟨F1, .refl, rfl, rfl⟩
      refine ⟨fun i m H => m = ds.length - i ∧ i ≤ ds.length ∧ st i H, ⟨ds.length, by simp, Nat.zero_le _, ρ1, fsU T fs1, [], [], b0.toHead.grow kD (fun _ _ _ z => z) (fun _ z => z.elim), fun i z => ?_, sr.keep _ _ _ g1 kD (fun _ _ z => z), upd_same, .nil, hgo⟩, ?_⟩
      · by_cases hi : i ∈ T
        · rw [fsU_in hi] at z; exact z
        · rw [fsU_out hi] at z; exact F1.trk i D z hD
      · rintro i m H2 ⟨rfl, hi, ρc, fsc, acc, accV, hb, nD, g2, hD2, ra, hg⟩
        by_cases hlt : i < ds.length
        · refine .inr ⟨sr.go i H2 g2 hlt, fun H' => st (i + 1) H', fun H' s' => ⟨ds.length - (i + 1), by omega, rfl, hlt, s'⟩, fun xv H' y => ?_⟩
          obtain ⟨k, rx⟩ := sr.yld i H2 xv H' ds[i] g2 (List.getElem?_eq_getElem hlt) y
          rw [List.drop_eq_getElem_cons hlt] at hg
          obtain ⟨ρ2, b, ρ3, e1, e2, hg⟩ := lcGo2_cons hg
          have hD' : H' D = some (.lst accV) := k.at' _ _ hD2 (.inr fun z => z)
          have e1' : setTg t ds[i] (unsetN T ρc) = some ρ2 := by
            rw [← e1]
            refine setTg_agree (by rw [unsetN_len, unsetN_len]) fun j n => ?_
            by_cases h2 : j ∈ t2
            · by_cases hl : j < ρc.length
              · rw [unsetN_in (tT2 j h2) hl, unsetN_in h2 hl]
              · rw [List.getElem?_eq_none (by rw [unsetN_len]; omega), List.getElem?_eq_none (by rw [unsetN_len]; omega)]
            · rw [unsetN_out (fun m => (List.mem_append.mp m).elim n h2), unsetN_out h2]
          have stay := src_stays F1 pl tr rM tM hb
          have mcM : ∀ i, i ∈ mutXs Γ.g cs → i ∈ M := fun i m => List.mem_append_left _ m
          have tb := blk_turnG (Mc := mutXs Γ.g cs) (Q := fun σ2 H3 fs3 => BS Γ.G σ T M H1 ρ1 fs1 H3 σ2 ρ3 fs3 ∧ (∀ i, ¬ fs3 i D) ∧ Gd H3 ∧ H3 D = some (.lst accV) ∧ RepDs Γ.G.K H3 acc.reverse accV)
            hK tT1 hb a6 k rx e1' e2 mcM tM fun σ2 H3 fs3 b3 kk n1 n2 n3 n4 => ⟨b3, n1 D (by rw [hD']; exact fun z => by cases z) nD, sr.keep _ _ _ (sr.keep _ _ _ g2 k fun _ _ z => z) kk (fun a sa z => stay a sa (U.mono mcM z)),
              kk.at' _ _ hD' (.inr fun ⟨j, _, z⟩ => nD j z), RepDs.keep kk _ _ (RepDs.keep k _ _ ra)⟩
          refine gTg_mono (fun σ2 H3 z => ?_) tb
          obtain ⟨⟨_, z1⟩, ρ0', fs0', F0', z2⟩ := z
          refine ⟨z1, ρ0', fs0', F0', z2.imp fun b' ρ'' H4 fs4 F4 st4 z3 => ?_⟩
          obtain ⟨rfl, fs5, c5, n5, g5, hD5, r5⟩ := z3
          rcases hg with ⟨rfl, hg⟩ | ⟨rfl, macc, ρ9, e3, hg⟩
          · rw [if_neg (by decide)]
            refine ⟨ρ3, fsU T fs5, acc, accV, c5.toHead, fun i z => ?_, g5, hD5, r5, hg⟩
            by_cases hi : i ∈ T
            · rw [fsU_in hi] at z; exact z
            · rw [fsU_out hi] at z; exact n5 i z
          · rw [if_pos rfl]
            obtain ⟨ds2, ρ4, e4, e5⟩ := innR_ok e3
            obtain ⟨p, hp, hpn⟩ := fresh_slot ρ3.length (T ++ (M ++ roots it2))
            have hpT : p ∉ T := fun m => hpn (List.mem_append_left _ m)
            have hpM : p ∉ M := fun m => hpn (List.mem_append_right _ (List.mem_append_left _ m))
            have hpR : p ∉ roots it2 := fun m => hpn (List.mem_append_right _ (List.mem_append_right _ m))
            have i2M : ∀ i, i ∈ mutX Γ.g it2 → i ∈ M := fun i m => List.mem_append_right _ (List.mem_append_left _ m)
            refine ⟨ρ3, ph p D fs5, c5.fr.ph hp n5 (by rw [hD5]; exact fun z => by cases z), ?_⟩
            rw [e4]
            intro H6 fs6 F6 st6 J2 S2 Gd2 sr2 g22 pl2 tr2
            have f6 : fs6 p = fun a => a = D := by rw [(st6.same p fun m => hpM (i2M p m)).2, ph_at]
            have hD6 : H6 D = some (.lst accV) := st6.keep.at' _ _ hD5 (.inr fun ⟨j, jm, z⟩ => by
              have hj : j ≠ p := fun y => hpM (i2M p (y ▸ jm))
              rw [ph_ne hj] at z; exact n5 j z)
            have b6 := c5.stepPh n5 hD hp F6 st6 (fun i m => .inr (i2M i m)) tM hpT hpM
            have l4 : ρ4.length = ρ3.length := by rw [F6.len, ← c5.fr.len]
            have g6 : Gd H6 := sr.keep _ _ _ g5 st6.keep fun a sa ⟨j, jm, z⟩ => by
              have hj : j ≠ p := fun y => hpM (i2M p (y ▸ jm))
              rw [ph_ne hj] at z
              exact src_stays F1 pl tr rM tM c5 a sa ⟨j, i2M j jm, z⟩
            have nb6 : ∀ j, ¬ (fun i => if i = p then fs5 p else fs6 i) j D := fun j z => by
              by_cases hj : j = p
              · simp only [hj, if_true] at z; exact n5 p z
              · simp only [if_neg hj] at z
                exact hj (F6.dis j p D z (by rw [f6]))
            have nSD : ¬ S D := fun z => tr D z hD
            have lm : macc.length ≤ lineN := by
              have := lcGo2_len (fun ρ acc m ρ' h => by obtain ⟨_, _, _, h2⟩ := innR_ok h; exact lcGo_len h2) hg
              rw [List.length_reverse] at this; omega
            refine lc_inner (K := Y.K) hK (Mi := Mi) (Mc := mutXs Γ.g cs2) (Me := mutX Γ.g x) (rs := roots it2) (p := p) (D := D) F6 f6 (by omega) (fun m => hpT (tT2 p m)) (fun m => hpM (miM p m)) a7 (fun i m m2 => tM i (tT2 i m) (miM i m2)) (fun i m => List.mem_append_left _ m) (fun i m => List.mem_append_right _ m)
              sr2 g22 pl2 tr2 rM2 hpR hD6 (RepDs.keep st6.keep _ _ r5) lm e5 _ fun H9 fs9 accV9 b9 f9 g9 hD9 r9 => ?_
            -- the outer block behind the inner loop
            have h7 := b6.half tT2
            have e7 : ph p D (fsU t2 (fun i => if i = p then fs5 p else fs6 i)) = fsU t2 fs6 := by
              funext j
              by_cases hj : j = p
              · subst hj; rw [ph_at, fsU_out fun m => hpT (tT2 j m), f6]
              · rw [ph_ne hj]
                by_cases hj2 : j ∈ t2
                · rw [fsU_in hj2, fsU_in hj2]
                · rw [fsU_out hj2, fsU_out hj2, if_neg hj]
            have nb7 : ∀ j, ¬ fsU t2 (fun i => if i = p then fs5 p else fs6 i) j D := fun j z => by
              by_cases hj2 : j ∈ t2
              · rw [fsU_in hj2] at z; exact z
              · rw [fsU_out hj2] at z; exact nb6 j z
            have st9 := b9.st
            have F9 := b9.fr.off (t := t2)
            rw [wipe_wipe (fun _ m => m), unsetN_idem] at F9
            rw [unsetN_idem] at st9
            have b8 := h7.stepPh (p := p) (D := D) (M' := p :: Mi) (ρ' := unsetN t2 ρ9) (fs' := fsU t2 fs9) nb7 hD (by rw [unsetN_len]; omega) F9 (by rw [e7]; exact st9) (fun i m => (List.mem_cons.mp m).imp id (miM i)) tM hpT hpM
            have h8 := b8.toHead
            rw [show unsetN T (unsetN t2 ρ9) = unsetN T ρ9 from unsetN_sub tT2] at h8
            refine ⟨ρ9, _, macc.reverse, accV9, h8, fun j z => ?_, ?_, hD9, by rw [List.reverse_reverse]; exact r9, hg⟩
            · by_cases hj : j ∈ T
              · rw [fsU_in hj] at z; exact z
              · rw [fsU_out hj] at z
                by_cases hjp : j = p
                · rw [if_pos hjp] at z; exact nb7 p z
                · rw [if_neg hjp, fsU_out fun m => hj (tT2 j m)] at z
                  exact hjp (b9.fr.dis j p D z (by rw [f9]))
            · refine sr.keep _ _ _ g6 b9.st.keep fun a sa ⟨j, jm, z⟩ => ?_
              have hjt : j ∉ t2 := fun m => by
                rcases List.mem_cons.mp jm with h | h
                · exact hpT (tT2 p (h ▸ m))
                · exact tM j (tT2 j m) (miM j h)
              rw [fsU_out hjt] at z
              rcases List.mem_cons.mp jm with h | h
              · subst h; rw [f6] at z; exact nSD (z ▸ sa)
              · refine src_stays F1 pl tr rM tM b6 a sa ⟨j, miM j h, ?_⟩
                have hjp : j ≠ p := fun y => hpM (y ▸ miM j h)
                simp only [if_neg hjp]; exact z
        · have e : i = ds.length := by omega
          subst e
          refine .inl ⟨sr.stop _ H2 g2 (Nat.le_refl _), ?_⟩
          rw [List.drop_length] at hg
          have hg : (.ok acc.reverse ρc : R (List Vm.D)) = .ok l ρF := hg
          injection hg with e1 e2
          subst e1 e2
          obtain ⟨F2, st2⟩ := BS.done F1 hb tM
          have nF : ∀ i, ¬ finU T fs1 fsc i D := fun i z => by
            unfold finU at z
            by_cases hi : i ∈ T
            · rw [if_pos hi] at z; exact F1.trk i D z hD
            · rw [if_neg hi] at z; exact nD i z
          refine q1 H2 _ F2 ((st1.mono fun i m => List.mem_append_left _ m).trans (st2.mono fun i m => List.mem_append_right _ m)) (.ref D) ⟨fun b => b = D, ?_, fun a z => ?_, fun i a z y => nF i (z ▸ y), fun a z => .inr (st1.keep.dom a (z ▸ hD))⟩
          · rw [RepS]
            exact ⟨D, accV, rfl, hD2, rfl, by rw [← ra.length, ← lineN_eq]; exact hll, RepSs.ofD ra⟩
          · rw [z, hD2]; exact fun y => by cases y
    · rw [if_neg hll] at q1; exact q1.elim
theorem xok_lc2 {x it it2 : X} {t t2 : List Nat} {cs cs2 : Xs} (hx : XOk Γ x) (hit : XOk Γ it) (hii : IOk Γ it) (hcs : XsOk Γ cs) (hit2 : XOk Γ it2) (hii2 : IOk Γ it2) (hcs2 : XsOk Γ cs2) : XOk Γ (.lc2 x t it cs t2 it2 cs2) := xok_comp (comp_lc2 hx hit hii hcs hit2 hii2 hcs2) rfl lc2_plain
end Vm
/-! Vp1 -/
namespace Vm
open PySem L2

variable {Γ : Gx} {Y : Cx} {sc : Scope} {W : WX} {e : Expr}
theorem mem_undup {x : Int × Int} : ∀ {l : List (Int × Int)}, x ∈ undup l ↔ x ∈ l
  | [] => Iff.rfl
  | y :: l => by
    unfold undup
    by_cases h : l.contains y = true
    · rw [if_pos h, mem_undup]
      refine ⟨fun m => List.mem_cons_of_mem _ m, fun m => ?_⟩
      rcases List.mem_cons.mp m with rfl | m
      · simpa using h
      · exact m
    · rw [if_neg h, List.mem_cons, mem_undup, List.mem_cons]
theorem nodup_undup : ∀ l : List (Int × Int), (undup l).Nodup
  | [] => List.nodup_nil
  | y :: l => by
    unfold undup
    by_cases h : l.contains y = true
    · rw [if_pos h]; exact nodup_undup l
    · rw [if_neg h, List.nodup_cons]
      exact ⟨fun m => h (by simpa using mem_undup.mp m), nodup_undup l⟩
def prI (l : List Int) : Int × Int := (l[0]?.getD 0, l[1]?.getD 0)
theorem code2 (x y : Int) : TS.code 1048576 [x, y] = x * 1048576 + y := by
  show x * 1048576 ^ 1 + (y * 1048576 ^ 0 + 0) = _
  have e1 : (1048576 : Int) ^ 1 = 1048576 := by decide
  have e0 : (1048576 : Int) ^ 0 = 1 := by decide
  rw [e1, e0]; omega
/-- the pairs of a set, sorted -/
theorem sset_uniq {ps : List (Int × Int)} {ls : List (List Int)} (h1 : ∀ l, l ∈ ls → ∃ p, p ∈ ps ∧ l = [p.1, p.2]) (h2 : ∀ p, p ∈ ps → [p.1, p.2] ∈ ls) (nd : ls.Nodup) (pw : ls.Pairwise fun q r => TS.code 1048576 q ≤ TS.code 1048576 r) (hb : ∀ p, p ∈ ps → 0 ≤ p.1 ∧ p.1 < 1048576 ∧ 0 ≤ p.2 ∧ p.2 < 1048576) : ls.map prI = sortP (undup ps) := by
  have pm : (ls.map prI).Perm (undup ps) := by
    refine (List.perm_ext_iff_of_nodup ?_ (nodup_undup ps)).mpr fun x => ?_
    · refine List.pairwise_map.mpr (nd.imp_of_mem fun {a b} ma mb ne h => ne ?_)
      obtain ⟨p, _, rfl⟩ := h1 a ma
      obtain ⟨q, _, rfl⟩ := h1 b mb
      have : p = q := h
      rw [this]
    · rw [mem_undup, List.mem_map]
      refine ⟨fun ⟨l, m, e⟩ => ?_, fun m => ⟨_, h2 x m, rfl⟩⟩
      obtain ⟨p, mp, rfl⟩ := h1 l m
      rw [← e]; exact mp
  refine sortedP_uniq (pm.trans (sortP_perm _).symm) ?_ (sortP_sorted _)
  refine List.pairwise_map.mpr (pw.imp_of_mem fun {a b} ma mb h => ?_)
  obtain ⟨p, mp, rfl⟩ := h1 a ma
  obtain ⟨q, mq, rfl⟩ := h1 b mb
  rw [code2, code2] at h
  obtain ⟨b1, b2, b3, b4⟩ := hb p mp
  obtain ⟨c1, c2, c3, c4⟩ := hb q mq
  show leP p q = true
  unfold leP
  rw [Bool.or_eq_true, Bool.and_eq_true, decide_eq_true_eq, decide_eq_true_eq, decide_eq_true_eq]
  omega
def adr : V → Addr
  | .ref a => a
  | _ => 0
theorem xok_sset {xs : Xs} (hx : XsOk Γ xs) : XOk Γ (.bi .sset xs) := by
  have sh : ∀ {sc e}, chk Γ.g (.bi .sset xs) sc e = true → ∃ p0 p1 a p2 p, e = .Call (.Name "sorted" p0) [.Call (.Name "set" p1) [a] [] p2] [] p ∧ sc.names.lookup ("sorted" : Str) = some .globalImplicit ∧ sc.names.lookup ("set" : Str) = some .globalImplicit ∧ apartXs Γ.g xs = true ∧ Γ.g.hot = false ∧ chks Γ.g xs sc [a] = true := fun {sc e} h => by
    unfold chk at h
    split at h
    · rename_i f as p
      simp only [Bool.and_eq_true, Bool.or_eq_true, Bool.not_eq_true'] at h
      obtain ⟨⟨⟨h1, hh⟩, h2⟩, h3⟩ := h
      obtain ⟨p0, rfl, h4, h5⟩ := glName_of h1
      split at h3
      · simp only [Bool.and_eq_true, decide_eq_true_eq] at h3
        obtain ⟨⟨k1, k2⟩, k3⟩ := h3
        obtain ⟨p1, rfl, k4, k5⟩ := glName_of k1
        have := chks_len k2
        rename_i as2 p2
        match as2, this with
        | [a], _ => exact ⟨p0, p1, a, _, p, rfl, h4, k4, h2, hh.resolve_right (fun z => ff z), k2⟩
        | [], q => simp at q; omega
        | _ :: _ :: _, q => simp at q; omega
      · exact ff h3
    · exact ff h
  refine XOk.of (p := fun ρ => (pksL (dens Γ.C xs) ρ).bind fun ss ρ => R.of ρ (bi .sset ss)) rfl (fun {Y sc W e} c hc => ?_) fun hc => by obtain ⟨_, _, _, _, _, rfl, _⟩ := sh hc; exact ⟨rfl, rfl⟩
  obtain ⟨p0, p1, a, p2, p, rfl, h1, h2, h3, hh, h4⟩ := sh hc
  have cal := c.calm hh
  have hs := (plain_of (chks_plain hx h4 a List.mem_cons_self)).star [] Y.env
  have p_in : PE Y (.Call (.Name "set" p1) [a] [] p2) (tCB (rSetOfT Y.K Y.prog Y.w) (tPk Γ.G W (mutXs Γ.g xs) (pksL (dens Γ.C xs)))) :=
    pe_callTy (cr_setOfT cal c.un) (c.gl h2) (c.blt "set" (by decide +kernel)) (by decide +kernel) (pa_pk c hx h4 h3) (by decide +kernel) (by decide +kernel) hs (plain_any (fun e m => by cases m) Y.env p2)
  have main := pe_callB (p := p0) (pos := p) (cr_sortedT cal) (c.gl h1) (c.blt "sorted" (by decide +kernel)) (by decide +kernel) (pa_cons p_in pa_nil) (by decide +kernel) (by decide +kernel) rfl rfl
  refine PE.imp main fun σ H Q ⟨ρ, fs, F, q⟩ => ⟨ρ, fs, F, ?_⟩
  refine (Run.bind (M1 := mutXs Γ.g xs) (M2 := []) q (fun i m => m) (fun i m => by cases m)).imp fun ss ρ1 H1 fs1 F1 st1 q1 vs rs => ?_
  obtain ⟨s, e1, k⟩ := Run.nv F1 (fun a z => st1.keep.dom a z) q1
  -- what was walked
  obtain ⟨s0, rfl⟩ : ∃ s0, ss = [s0] := by
    cases ss with
    | nil => cases e1
    | cons s0 r => cases r with
      | nil => exact ⟨s0, rfl⟩
      | cons _ _ => cases e1
  obtain ⟨v0, f0, rfl, r0⟩ := views1 rs
  have e1 : (((lstD s0).bind pairs?).bind fun l => if decide (l.length < 64) && l.all (fun p => decide (0 ≤ p.1) && decide (p.1 < 1048576) && decide (0 ≤ p.2) && decide (p.2 < 1048576)) then some (S.lst (((sortP (undup l)).map dP).map S.v)) else none) = some s := e1
  obtain ⟨ps, e2, e3⟩ := Option.bind_eq_some_iff.mp e1
  obtain ⟨l, e4, e5⟩ := Option.bind_eq_some_iff.mp e2
  split at e3
  · rename_i hc2
    rw [Bool.and_eq_true, decide_eq_true_eq, List.all_eq_true] at hc2
    cases e3
    obtain ⟨a0, ws, rfl, sq, _, rd⟩ := lstD_rep r0 e4
    have el := pairs_of e5
    subst el
    obtain ⟨w1, w2⟩ := dPs_rep rd
    have hb : ∀ p, p ∈ ps → 0 ≤ p.1 ∧ p.1 < 1048576 ∧ 0 ≤ p.2 ∧ p.2 < 1048576 := fun p m => by
      have := hc2.2 p m
      simp only [Bool.and_eq_true, decide_eq_true_eq] at this
      exact ⟨this.1.1.1, this.1.1.2, this.1.2, this.2⟩
    have ekr : (ws.map fun v => (adr v, [(pairV H1 v).1, (pairV H1 v).2])).map (fun p => V.ref p.1) = ws := by
      rw [List.map_map]
      conv => rhs; rw [← List.map_id ws]
      refine List.map_congr_left fun v m => ?_
      obtain ⟨t, rfl, _⟩ := w2 v m
      rfl
    have at1 : ∀ q, q ∈ (ws.map fun v => (adr v, [(pairV H1 v).1, (pairV H1 v).2])) → ∃ p, p ∈ ps ∧ q.2 = [p.1, p.2] ∧ H1 q.1 = some (.tup [.int p.1, .int p.2]) := fun q m => by
      obtain ⟨v, mv, rfl⟩ := List.mem_map.mp m
      obtain ⟨t, rfl, ht⟩ := w2 v mv
      exact ⟨pairV H1 (.ref t), by rw [← w1]; exact List.mem_map.mpr ⟨_, mv, rfl⟩, rfl, ht⟩
    have wl : ws.length = ps.length := by rw [← w1, List.length_map]
    refine ⟨a0, ws.map fun v => (adr v, [(pairV H1 v).1, (pairV H1 v).2]), rfl, by rw [ekr, c.K]; exact sq, fun q m => ?_, by rw [List.length_map, wl]; exact hc2.1, fun a L na s1 s2 => ?_⟩
    · obtain ⟨p, _, e6, e7⟩ := at1 q m
      rw [e6]; exact SqT.of e7
    · have kA : Keep H1 (upd H1 a (SetTO Y.prog Y.w a L)) none' := Keep.new na
      refine ⟨a, L, 2, 1048576, rfl, upd_same, fun q m => ?_, by decide, fun q m => ?_, fun L' p' pm nd few pw np => ?_⟩
      · obtain ⟨p, _, e6, e7⟩ := at1 q (s1 q m)
        rw [e6]; exact SqT.of (kA.at' _ _ e7 (.inl trivial))
      · obtain ⟨p, mp, e6, e7⟩ := at1 q (s1 q m)
        rw [e6]
        obtain ⟨c1, c2, c3, c4⟩ := hb p mp
        refine ⟨rfl, fun n hn => ?_⟩
        rcases List.mem_cons.mp hn with rfl | hn
        · exact ⟨c1, c2⟩
        · rw [List.mem_singleton.mp hn]; exact ⟨c3, c4⟩
      · have kP : Keep (upd H1 a (SetTO Y.prog Y.w a L)) (upd (upd H1 a (SetTO Y.prog Y.w a L)) p' (.lst (L'.map fun q => V.ref q.1))) none' := Keep.new np
        have kB := kA.trans kP fun _ z => z.elim
        have np1 : H1 p' = none := kA.dom _ np
        have at2 : ∀ q, q ∈ L' → ∃ p, p ∈ ps ∧ q.2 = [p.1, p.2] ∧ H1 q.1 = some (.tup [.int p.1, .int p.2]) := fun q m => at1 q (s1 q (pm.mem_iff.mp m))
        have uq : (L'.map (·.2)).map prI = sortP (undup ps) := by
          refine sset_uniq (fun l m => ?_) (fun p m => ?_) nd (List.pairwise_map.mpr pw) hb
          · obtain ⟨q, mq, rfl⟩ := List.mem_map.mp m
            obtain ⟨p, mp, e6, _⟩ := at2 q mq
            exact ⟨p, mp, e6⟩
          · rw [← w1] at m
            obtain ⟨v, mv, rfl⟩ := List.mem_map.mp m
            have := s2 _ (List.mem_map.mpr ⟨v, mv, rfl⟩)
            exact ((pm.map (·.2)).mem_iff).mpr this
        have rep : ∀ {M : List (Addr × List Int)}, (∀ q, q ∈ M → q ∈ L') → RepDs Γ.G.K (upd (upd H1 a (SetTO Y.prog Y.w a L)) p' (.lst (L'.map fun q => V.ref q.1))) (((M.map (·.2)).map prI).map dP) (M.map fun q => V.ref q.1) := by
          intro M
          induction M with
          | nil => exact fun _ => .nil
          | cons q M ih =>
            intro hm
            obtain ⟨p, _, e6, e7⟩ := at2 q (hm q List.mem_cons_self)
            refine .cons ?_ (ih fun r m => hm r (List.mem_cons_of_mem _ m))
            show RepD Γ.G.K _ (dP (prI q.2)) (V.ref q.1)
            rw [e6]
            exact rep_dP (v := .int 0) (i := p.1) (j := p.2) (kB.at' _ _ e7 (.inl trivial))
        have rL := rep (M := L') fun q m => m
        rw [uq] at rL
        refine k _ _ ⟨kB, fun b => b = p', ?_, fun b hb' => ?_⟩
        · rw [RepS]
          exact ⟨p', _, rfl, upd_same, rfl, by rw [List.length_map, sizeLine_eq]; omega, RepSs.ofD rL⟩
        · subst hb'; exact ⟨np1, by rw [upd_same]; exact fun z => by cases z⟩
  · cases e3
end Vm
/-! Vp2 -/
namespace Vm
open PySem L2

variable {Γ : Gx} {Y : Cx} {sc : Scope} {W : WX} {e : Expr} {x : Fx} {pos : Pos}
theorem PIH.imp {X : Cx} {tg it : Expr} {t t' : TI} (h : L2H.PIH X tg it t) (i : ∀ σ H Q, t' σ H Q → t σ H Q) : L2H.PIH X tg it t' := ⟨fun pins s σ H Q I q => h.run pins s σ H Q I (i σ H Q q)⟩
theorem pih_rng {xs : Xs} {tg : Expr} (hxs : XsOk Γ xs) (hl1 : xs.len = 1) (c : Cok Γ.g Γ.G Γ.C Y sc W) (hc : chk Γ.g (.rng xs) sc e = true) : L2H.PIH Y tg e (tI Γ.G W (roots (.rng xs)) (mutX Γ.g (.rng xs)) (den Γ.C (.rng xs)).it) := by
  unfold chk at hc
  split at hc
  · rename_i f as p
    simp only [Bool.and_eq_true, Bool.or_eq_true, decide_eq_true_eq] at hc
    obtain ⟨⟨h1, h2⟩, h3⟩ := hc
    obtain ⟨p0, rfl, h4, _⟩ := glName_of h1
    have hl := chks_len h2
    have pa := pa_fz c hxs h2
    have hp := chks_plain hxs h2
    have hm := c.blt "range" (by decide +kernel)
    match as, hl, pa, hp with
    | [a], _, pa, hp =>
      refine PIH.imp (L2H.pi_range1H (c.gl h4) hm pa ((plain_of (hp a List.mem_cons_self)).star _ _)) fun σ H Z ⟨ρ, fs, F, q⟩ => ⟨ρ, fs, F, ?_⟩
      refine (Run.bind (M1 := mutXs Γ.g xs) (M2 := []) q (fun i m => m) (fun i m => by cases m)).imp' fun ds ρ1 H1 fs1 e1 F1 st1 q1 vs rs => ?_
      have hd : ds.length = 1 := by rw [fzsL_len e1, dens_len, hl1]
      unfold rngR at q1
      split at q1
      · rename_i j
        split at q1
        · rename_i hj
          rw [Bool.and_eq_true, decide_eq_true_eq, decide_eq_true_eq] at hj
          rw [RepDs] at rs
          obtain ⟨v, r, rfl, rv, rn⟩ := rs
          rw [RepDs] at rn; subst rn
          rw [RepD] at rv; subst rv
          refine ⟨j, rfl, hj.1, by have := hj.2; have h : lineN = 16777216 := rfl; omega, ?_⟩
          have := q1 H1 fs1 F1 .refl (Itr 0 (j - 0).toNat) none' (fun _ => True) src_range trivial (fun _ z => z.elim) fun _ z => z.elim
          rwa [Int.sub_zero] at this
        · exact q1.elim
      · simp at hd
      · exact q1.elim
    | [], q, _, _ => simp at q; omega
    | _ :: _ :: _, q, _, _ => simp at q; omega
  · exact ff hc
theorem st_loopH {xs : Xs} {i : Nat} {mb ab : List Nat} {tg iter : Expr} {body : List Stmt} {pb : Fr → RF} (hxs : XsOk Γ xs) (hl1 : xs.len = 1) (hit : XOk Γ (.rng xs)) (c : Cok Γ.g Γ.G Γ.C Y sc W) (hh : Γ.g.hot = true) (hfn : ∀ z, Y.fn z = true) (hpo : PassesOwn (model Y.prog Y.w) Y.A Y.env Y.xe)
    (hc : chk Γ.g (.rng xs) sc iter = true) (ht : tgB Γ.g.N sc (fun _ => true) [i] tg = true) (hM : ∀ j, j ∈ mutX Γ.g (.rng xs) → j ∈ x.mp) (hmb : ∀ j, j ∈ mb → j ∈ x.mp) (hab : ∀ j, j ∈ ab → j ∈ x.as) (hta : i ∈ ab)
    (hb : ∀ y : Fx, inX mb ab y → PSs Y body (tS y Γ.G W pb)) : PS Y (.For tg iter body [] pos) (tS x Γ.G W fun ρ => (Vm.iter Γ.C (.rng xs) ρ).bind fun ds ρ => loopGo [i] pb ds ρ) := by
  have hg : PG Y tg (gTg Y.K [i] tg) := by
    rcases tgB_cases ht with ⟨es, k, p, _, hl, _⟩ | ⟨j, n, p, ej, rfl, hs⟩
    · exact absurd rfl hl
    · obtain rfl : i = j := by simpa using ej
      exact sto_pg c.N c.nd c.sc (fun z _ _ => hfn z) hs
  exact PS.imp (L2H.ps_forH (pos := pos) hpo (c.hotc hh) (pih_rng hxs hl1 c hc) hg (PSs.ex hb) (fun v => (plain_of (hit.pl hc)).fold Y.env v)) fun D σ H h => loop_read c ht hM hmb hab (fun j m => by rw [List.mem_singleton.mp m]; exact hta) rfl h
end Vm
/-! Vp3 -/
namespace Vm
open PySem L2

variable {Γ : Gx}
theorem xok_bad {x : X} (h1 : (den Γ.C x).pk = fun _ => .bad) (h2 : (den Γ.C x).ts = fun _ => .bad) (pl : ∀ {sc e}, chk Γ.g x sc e = true → plainB e = true) : XOk Γ x := by
  refine ⟨fun c h => ?_, fun c h => ?_, pl⟩
  · rw [h1]; exact pe_no fun σ H Q ⟨ρ, fs, F, q⟩ => q
  · rw [h2]; exact ⟨fun pins s σ H Q I ⟨ρ, fs, F, q⟩ => q.elim⟩
theorem call_plain {nm : Expr} {as : List Expr} {ks : List Keyword} {p : Pos} : plainB (.Call nm as ks p) = true := rfl
theorem pl_rng {xs : Xs} {sc : Scope} {e : Expr} (h : chk Γ.g (.rng xs) sc e = true) : plainB e = true := by
  unfold chk at h
  split at h
  · rfl
  · exact ff h
theorem pl_zip {xs : Xs} {sc : Scope} {e : Expr} (h : chk Γ.g (.zip xs) sc e = true) : plainB e = true := by
  unfold chk at h
  split at h
  · rfl
  · exact ff h
theorem pl_enu {x : X} {sc : Scope} {e : Expr} (h : chk Γ.g (.enu x) sc e = true) : plainB e = true := by
  unfold chk at h
  split at h
  · rfl
  · exact ff h
theorem pl_rev {x : X} {sc : Scope} {e : Expr} (h : chk Γ.g (.rev x) sc e = true) : plainB e = true := by
  unfold chk at h
  split at h
  · rfl
  · exact ff h
mutual
theorem xok : ∀ x : X, XOk Γ x
  | .c k => xok_c k
  | .nm i => xok_nm i
  | .mv i => xok_mv i
  | .fz x => xok_fz (xok x)
  | .om => ⟨fun _ h => ff h, fun _ h => ff h, fun h => ff h⟩
  | .att x f => xok_att (xok x)
  | .ix x i => xok_ix (xok x) (xok i)
  | .slc x lo hi => xok_slc (xok x) (xok lo) (xok hi)
  | .bin o a b => xok_bin (xok a) (xok b)
  | .un o a => xok_un (xok a)
  | .cmp o a b => xok_cmp (xok a) (xok b)
  | .cm2 o p a b c => xok_cm2 (xok a) (xok b) (xok c)
  | .not a => xok_not (xok a)
  | .and xs => xok_and (xsok xs)
  | .or xs => xok_or (xsok xs)
  | .ife c a b => xok_ife (xok c) (xok a) (xok b)
  | .tup xs => xok_tup (xsok xs)
  | .lst xs => xok_lst (xsok xs)
  | .dnew t => xok_dnew t
  | .bi b xs => if h : b = .sset then h ▸ xok_sset (xsok xs) else xok_bi0 (xsok xs) h
  | .isi x t => xok_isi (xok x)
  | .exf i f => xok_exf i f
  | .exi i c => xok_exi i c
  | .me m x xs => xok_me (xok x) (xsok xs)
  | .mu m i fs xs => xok_mu (xsok xs)
  | .call f xs => xok_call (xsok xs)
  | .callk f p xs => xok_callk (xsok xs)
  | .mcall f i xs => xok_mcall (xsok xs)
  | .new c xs => xok_new (xsok xs)
  | .lc x t it cs => xok_lc (xok x) (xok it) (iok it) (xsok cs)
  | .lc2 x t it cs t2 it2 cs2 => xok_lc2 (xok x) (xok it) (iok it) (xsok cs) (xok it2) (iok it2) (xsok cs2)
  | .dc dt k v t it cs => xok_dc (xok k) (xok v) (xok it) (iok it) (xsok cs)
  | .rng xs => xok_bad rfl rfl pl_rng
  | .zip xs => xok_bad rfl rfl pl_zip
  | .enu x => xok_bad rfl rfl pl_enu
  | .rev x => xok_bad rfl rfl pl_rev
termination_by x => (sizeOf x, 0)
theorem iok : ∀ x : X, IOk Γ x
  | .rng xs => iok_rng (xsok xs)
  | .zip xs => iok_zip (xsok xs)
  | .enu x => iok_enu (xok x)
  | .rev x => iok_rev (xok x)
  | .om => fun _ h _ _ => ff h
  | .c k => iok_of (xok (.c k)) rfl rfl
  | .nm i => iok_of (xok (.nm i)) rfl rfl
  | .mv i => iok_of (xok (.mv i)) rfl rfl
  | .fz x => iok_of (xok (.fz x)) rfl rfl
  | .att x f => iok_of (xok (.att x f)) rfl rfl
  | .ix x i => iok_of (xok (.ix x i)) rfl rfl
  | .slc x lo hi => iok_of (xok (.slc x lo hi)) rfl rfl
  | .bin o a b => iok_of (xok (.bin o a b)) rfl rfl
  | .un o a => iok_of (xok (.un o a)) rfl rfl
  | .cmp o a b => iok_of (xok (.cmp o a b)) rfl rfl
  | .cm2 o p a b c => iok_of (xok (.cm2 o p a b c)) rfl rfl
  | .not a => iok_of (xok (.not a)) rfl rfl
  | .and xs => iok_of (xok (.and xs)) rfl rfl
  | .or xs => iok_of (xok (.or xs)) rfl rfl
  | .ife c a b => iok_of (xok (.ife c a b)) rfl rfl
  | .tup xs => iok_of (xok (.tup xs)) rfl rfl
  | .lst xs => iok_of (xok (.lst xs)) rfl rfl
  | .dnew t => iok_of (xok (.dnew t)) rfl rfl
  | .bi b xs => iok_of (xok (.bi b xs)) rfl rfl
  | .isi x t => iok_of (xok (.isi x t)) rfl rfl
  | .exf i f => iok_of (xok (.exf i f)) rfl rfl
  | .exi i c => iok_of (xok (.exi i c)) rfl rfl
  | .me m x xs => iok_of (xok (.me m x xs)) rfl rfl
  | .mu m i fs xs => iok_of (xok (.mu m i fs xs)) rfl rfl
  | .call f xs => iok_of (xok (.call f xs)) rfl rfl
  | .callk f p xs => iok_of (xok (.callk f p xs)) rfl rfl
  | .mcall f i xs => iok_of (xok (.mcall f i xs)) rfl rfl
  | .new c xs => iok_of (xok (.new c xs)) rfl rfl
  | .lc x t it cs => iok_of (xok (.lc x t it cs)) rfl rfl
  | .lc2 x t it cs t2 it2 cs2 => iok_of (xok (.lc2 x t it cs t2 it2 cs2)) rfl rfl
  | .dc dt k v t it cs => iok_of (xok (.dc dt k v t it cs)) rfl rfl
termination_by x => (sizeOf x, 1)
theorem xsok : ∀ xs : Xs, XsOk Γ xs
  | .nil => fun x m => by cases m
  | .cons x xs => fun y m => (List.mem_cons.mp (show y ∈ x :: xs.l from m)).elim (fun h => h ▸ xok x) (fun h => xsok xs y h)
termination_by xs => (sizeOf xs, 0)
end
end Vm
/-! Vp4 -/
namespace Vm
open PySem L2

mutual
def mutS (g : Gm) : St → List Nat
  | .set l x => match l with
    | .nm _ => mutX g x
    | .tup _ => mutX g x
    | .att i _ _ => i :: mutX g x
    | .sub i _ k => i :: (mutX g x ++ mutX g k)
  | .par _ xs => mutXs g xs
  | .aug l _ x => match l with
    | .nm _ => mutX g x
    | .tup _ => []
    | .att i _ _ => i :: mutX g x
    | .sub i _ k => i :: (mutX g x ++ mutX g k)
  | .del i _ k => i :: mutX g k
  | .ex x => mutX g x
  | .ret x => mutX g x
  | .retN => []
  | .ife c a b => mutX g c ++ (mutSs g a ++ mutSs g b)
  | .loop _ it b => mutX g it ++ mutSs g b
  | .whl c b => mutX g c ++ mutSs g b
  | .brk => []
  | .cnt => []
  | .pass => []
  | .raise _ xs => mutXs g xs
  | .tryE b hs => mutSs g b ++ mutHs g hs
def mutSs (g : Gm) : Sts → List Nat
  | .nil => []
  | .cons s ss => mutS g s ++ mutSs g ss
def mutHs (g : Gm) : Hs → List Nat
  | .nil => []
  | .cons _ _ h hs => mutSs g.warm h ++ mutHs g hs
end
mutual
def asgS : St → List Nat
  | .set l _ => match l with
    | .nm i => [i]
    | .tup is => is
    | _ => []
  | .par is _ => is
  | .aug l _ _ => match l with
    | .nm i => [i]
    | _ => []
  | .ife _ a b => asgSs a ++ asgSs b
  | .loop t _ b => t ++ asgSs b
  | .whl _ b => asgSs b
  | .tryE b hs => asgSs b ++ asgHs hs
  | _ => []
def asgSs : Sts → List Nat
  | .nil => []
  | .cons s ss => asgS s ++ asgSs ss
def asgHs : Hs → List Nat
  | .nil => []
  | .cons _ i h hs => i.toList ++ (asgSs h ++ asgHs hs)
end
def X.isComp : X → Bool
  | .lc _ _ _ _ => true
  | .lc2 _ _ _ _ _ _ _ => true
  | .dc _ _ _ _ _ _ => true
  | _ => false
/-- is the value stored within the comprehension -/
def swB (sc : Scope) : Expr → Expr → Bool
  | .Name t p, e => match e with
    | .ListComp _ _ s q => sc.names.lookup t == some .local && p.line == q.line && !(s.names.any fun (n, k) => n == t && (k == .local || k == .cell))
    | .DictComp _ _ _ s q => sc.names.lookup t == some .local && p.line == q.line && !(s.names.any fun (n, k) => n == t && (k == .local || k == .cell))
    | .SetComp _ _ _ _ => true
    | _ => false
  | _, _ => false
def notComp : Expr → Bool
  | .ListComp _ _ _ _ => false
  | .DictComp _ _ _ _ _ => false
  | .SetComp _ _ _ _ => false
  | _ => true
def tupB (sc : Scope) : Expr → Expr → Bool
  | .Tuple ts _ _, e => match e with
    | .Tuple vs _ _ => decide (swpd sc ts vs = some none)
    | _ => true
  | _, _ => false
def chkLv (g : Gm) (l : Lv) (x : X) (sc : Scope) (tg e : Expr) : Bool :=
  match l with
  | .nm i => stoB g.N sc (fun _ => true) i tg && (!swB sc tg e || x.isComp)
  | .tup is => !g.hot && tgB g.N sc (fun _ => true) is tg && tupB sc tg e
  | .att i fs f => match tg with
    | .Attribute o nm _ => pathB g.nt g.N sc i fs o && decide (g.nt.flds[f]? = some nm)
    | _ => false
  | .sub i fs k => match tg with
    | .Subscript o ke _ => pathB g.nt g.N sc i fs o && chk g k sc ke && !(mutX g k).contains i
    | _ => false
def parB (N : List Str) (sc : Scope) (is : List Nat) (ts es : List Expr) : Bool :=
  match is, ts, es with
  | [i, j], [.Name n p, .Name m q], [a, b] => decide (N[i]? = some n) && decide (N[j]? = some m) && decide (i ≠ j) && (sc.names.lookup n == some .local) && (sc.names.lookup m == some .local) && decide (swpd sc [.Name n p, .Name m q] [a, b] = some (some [n, m]))
  | [i, j, l], [.Name n p, .Name m q, .Name o r], [a, b, d] => decide (N[i]? = some n) && decide (N[j]? = some m) && decide (N[l]? = some o) && decide (i ≠ j) && decide (i ≠ l) && decide (j ≠ l) && (sc.names.lookup n == some .local) && (sc.names.lookup m == some .local) && (sc.names.lookup o == some .local) && decide (swpd sc [.Name n p, .Name m q, .Name o r] [a, b, d] = some (some [n, m, o]))
  | _, _, _ => false
def chkAug (g : Gm) (l : Lv) (x : X) (sc : Scope) (tg : Expr) : Bool :=
  match l with
  | .nm i => match tg with
    | .Name n _ => decide (g.N[i]? = some n) && locB sc n && !(mutX g x).contains i
    | _ => false
  | .tup _ => false
  | .att i fs f => match tg with
    | .Attribute o nm _ => pathB g.nt g.N sc i fs o && decide (g.nt.flds[f]? = some nm) && !(mutX g x).contains i
    | _ => false
  | .sub i fs k => match tg with
    | .Subscript o ke _ => pathB g.nt g.N sc i fs o && chk g k sc ke && !(mutX g k).contains i && !(mutX g x).contains i
    | _ => false
/-- a class's name -/
def clsB (g : Gm) (sc : Scope) (c : Nat) (nm : Str) : Bool := glB sc nm && decide (nm ≠ "__debug__") && (if c = 1000 then decide (nm = "ValueError") else decide (g.nt.cls[c]? = some nm))
mutual
def chkS (g : Gm) (U : Rules) : St → Scope → Stmt → Bool
  | .set l x, sc, st => match st with
    | .Assign [tg] e _ => chk g x sc e && chkLv g l x sc tg e
    | _ => false
  | .par is xs, sc, st => match st with
    | .Assign [.Tuple ts _ _] (.Tuple es _ _) _ => !g.hot && chks g xs sc es && parB g.N sc is ts es
    | _ => false
  | .aug l o x, sc, st => match st with
    | .AugAssign tg op e _ => opB o op && decide (o ≠ .pow) && chk g x sc e && chkAug g l x sc tg
    | _ => false
  | .del i fs k, sc, st => match st with
    | .Delete [.Subscript o ke _] _ => pathB g.nt g.N sc i fs o && chk g k sc ke && !(mutX g k).contains i
    | _ => false
  | .ex x, sc, st => match st with
    | .Expr e _ => chk g x sc e && notComp e
    | _ => false
  | .ret x, sc, st => match st with
    | .Return (some e) _ => chk g x sc e
    | _ => false
  | .retN, _, st => match st with
    | .Return none _ => true
    | _ => false
  | .ife c a b, sc, st => match st with
    | .If e s1 s2 _ => chk g c sc e && chkSs g U a sc s1 && chkSs g U b sc s2
    | _ => false
  | .loop t it b, sc, st => match st with
    | .For tg iter body [] _ => chk g it sc iter && itOkB it tg && tgB g.N sc (fun _ => true) t tg && apartL (roots it) (mutSs g b) && chkSs g U b sc body && (!g.hot || (match it with
      | .rng xs => decide (xs.len = 1) && decide (t.length = 1)
      | _ => false))
    | _ => false
  | .whl c b, sc, st => match st with
    | .While e body [] _ => chk g c sc e && chkSs g U b sc body
    | _ => false
  | .brk, _, st => match st with
    | .Break _ => true
    | _ => false
  | .cnt, _, st => match st with
    | .Continue _ => true
    | _ => false
  | .pass, _, st => match st with
    | .Pass _ => true
    | _ => false
  | .raise c xs, sc, st => match st with
    | .Raise (some (.Call (.Name nm _) as [] _)) none _ => !g.hot && decide (g.nt.cls[c]? = some nm) && glB sc nm && decide (nm ≠ "__debug__") && decide (U.exF c ≠ []) && decide (xs.len ≠ 0) && decide ((U.exF c).length ≤ 1000) && chks g xs sc as
    | _ => false
  | .tryE b hs, sc, st => match st with
    | .Try body hds [] [] _ => !g.hot && chkSs g U b sc body && (match hs, hds with
      | .cons c (some i) h .nil, [.ExceptHandler (some (.Name nm _)) (some n) su _] => clsB g sc c nm && decide (g.N[i]? = some n) && (sc.names.lookup n == some .local) && !su.isEmpty && chkSs g.warm U h sc su
      | hs, hds => !hds.isEmpty && chkHs g U hs sc hds)
    | _ => false
def chkSs (g : Gm) (U : Rules) : Sts → Scope → List Stmt → Bool
  | .nil, _, st => st.isEmpty
  | .cons s ss, sc, st => match st with
    | a :: r => chkS g U s sc a && chkSs g U ss sc r
    | [] => false
def chkHs (g : Gm) (U : Rules) : Hs → Scope → List ExceptHandler → Bool
  | .nil, _, st => st.isEmpty
  | .cons c i h hs, sc, st => match st with
    | .ExceptHandler (some (.Name nm _)) none su _ :: r => i.isNone && clsB g sc c nm && !su.isEmpty && chkSs g.warm U h sc su && chkHs g U hs sc r
    | _ => false
end
variable {Γ : Gx} {Y : Cx} {sc : Scope} {W : WX} {e : Expr} {x : Fx} {pos : Pos}
theorem comp_of {x : X} (h : x.isComp = true) : CompOk Γ x ∧ root x = none ∧ x.isPath = false := by
  cases x with
  | lc a t it cs => exact ⟨comp_lc (xok a) (xok it) (iok it) (xsok cs), rfl, rfl⟩
  | lc2 a t it cs t2 it2 cs2 => exact ⟨comp_lc2 (xok a) (xok it) (iok it) (xsok cs) (xok it2) (iok it2) (xsok cs2), rfl, rfl⟩
  | dc dt k v t it cs => exact ⟨comp_dc (xok k) (xok v) (xok it) (iok it) (xsok cs), rfl, rfl⟩
  | _ => exact ff h
theorem sw_of {env : Env} {t : Str} {p : Pos} {l : Nat} (hk : env.scope.kind = .function) (hs : env.scope = sc) (hset : ∀ a b c d, e ≠ .SetComp a b c d) : swapsWith e (some (.Name t p)) l env = pure (swB sc (.Name t p) e) := by
  have hb : (env.blockKind == .function) = true := by
    unfold Env.blockKind
    rw [hk]; rfl
  subst hs
  cases e <;> first
    | rfl
    | (exfalso; exact hset _ _ _ _ rfl)
    | (simp only [swapsWith, swB, hb, Bool.true_and]; rfl)
theorem not_contains {i : Nat} {l : List Nat} (h : (!l.contains i) = true) : i ∉ l := fun m => by
  rw [Bool.not_eq_true'] at h
  have : l.contains i = true := by simpa using m
  rw [h] at this; cases this
theorem chk_noset {y : X} (h : chk Γ.g y sc e = true) : ∀ a b c d, e ≠ .SetComp a b c d := fun a b c d z => by
  subst z
  have := (xok (Γ := Γ) y).pl h
  exact ff this
end Vm
/-! Vp5 -/
namespace Vm
open PySem L2

/-- the context of a row of statements -/
structure Sok (Γ : Gx) (U : Rules) (Y : Cx) (sc : Scope) (W : WX) : Prop where
  c : Cok Γ.g Γ.G Γ.C Y sc W
  r : Γ.g.hot = false → Rok Γ U Y
  su : Γ.g.hot = false → SuOk Γ U Y sc
  fn : ∀ z, Y.fn z = true
  hpo : PassesOwn (model Y.prog Y.w) Y.A Y.env Y.xe
  kind : sc.kind = .function
  stk : Y.stack = Y.env :: Y.outer
  frm : Y.env.frame = some Y.env.locals
variable {Γ : Gx} {U : Rules} {Y : Cx} {sc : Scope} {W : WX} {e : Expr} {x : Fx} {pos : Pos}
theorem Cok.tr (c : Cok Γ.g Γ.G Γ.C Y sc W) (hh : Γ.g.hot = false) {W' : WX} {pn : List (Addr × Obj)} {xe : Value → Shared → Prop} (tk : L2N.Takes (Y.tr pn xe) W') : Cok Γ.g Γ.G Γ.C (Y.tr pn xe) sc W' := by
  have no : ∀ {p : Prop}, Γ.g.hot = true → p := fun z => by rw [hh] at z; cases z
  refine ⟨c.K, c.N, c.nd, c.sc, c.calm, tk, c.un, c.un65, c.blt, c.mt, c.ini, fun f nm h => ?_, c.fld, c.inj, c.nam, c.att, fun f cl n h => ?_, fun cl nm h1 h2 => ?_, c.fnI, c.cls, c.curn, fun z => no z, fun z => no z⟩
  · obtain ⟨a, hm, ok⟩ := c.fns f nm h
    exact ⟨a, hm, ok.kp, ok.cool, fun z => no z⟩
  · obtain ⟨m1, m2, m3, a, m4, ok⟩ := c.mth f cl n h
    exact ⟨m1, m2, m3, a, m4, ok.kp, ok.cool, fun z => no z⟩
  · obtain ⟨hm, ok⟩ := c.new cl nm h1 h2
    exact ⟨hm, ok.kp, ok.cool⟩
theorem Sok.tr (s : Sok Γ U Y sc W) (hh : Γ.g.hot = false) {W' : WX} {pn : List (Addr × Obj)} {xe : Value → Shared → Prop} (tk : L2N.Takes (Y.tr pn xe) W') (hp : PassesOwn (model Y.prog Y.w) Y.A Y.env xe) : Sok Γ U (Y.tr pn xe) sc W' :=
  ⟨s.c.tr hh tk, fun z => ⟨(s.r z).rz, (s.r z).hx⟩, fun z => s.su z, s.fn, hp, s.kind, s.stk, s.frm⟩
theorem Sok.suite (s : Sok Γ U Y sc W) {a : Addr} {oe : Obj} {pn : List (Addr × Obj)} {cu : Option (Nat × Addr × Addr × Nat)} (c : Cok (Γ.warm cu).g (Γ.warm cu).G Γ.C (Y.suite a ((a, oe) :: pn)) sc WF) : Sok (Γ.warm cu) U (Y.suite a ((a, oe) :: pn)) sc WF :=
  ⟨c, (fun z => by cases z), (fun z => by cases z), s.fn, PassesOwn.never, s.kind, s.stk, s.frm⟩
theorem clsB_of {c : Nat} {nm : Str} (k : Cok Γ.g Γ.G Γ.C Y sc W) (h : clsB Γ.g sc c nm = true) : Names Y nm (Γ.G.cv c) := by
  unfold clsB at h
  simp only [Bool.and_eq_true, decide_eq_true_eq] at h
  obtain ⟨⟨h1, h2⟩, h3⟩ := h
  refine ⟨k.gl (gl_of h1), beq_eq_false_iff_ne.mpr h2, ?_⟩
  unfold Pg.cv
  by_cases hc : c = 1000
  · rw [if_pos hc] at h3 ⊢
    have := of_decide_eq_true h3
    subst this
    exact .inr ⟨k.blt "ValueError" (by decide +kernel), by decide +kernel, by decide⟩
  · rw [if_neg hc] at h3 ⊢
    exact .inl (k.cls c nm (of_decide_eq_true h3))
theorem assign_sub {o ke : Expr} {tp : Pos} {env : Env} (h : plainB ke = true) : ∀ v, assign (.Subscript o ke tp) env v = (do
      let ov ← holding [v] (eval o env)
      let iv ← holding [v, ov] (eval ke env)
      standAt tp
      holding [v, ov, iv] (setItem ov iv v)
      release [v, ov, iv] []) := by
  intro v
  cases ke <;> first
    | rfl
    | exact ff h
theorem aug_sub {ke : Expr} (h : plainB ke = true) : ∀ ov iv new, augStore ke ov iv new = (do holding [new, ov, iv] (setItem ov iv new); release [new, ov, iv] []; pure .next) := by
  intro ov iv new
  cases ke <;> first
    | rfl
    | exact ff h
/-- clauses without names, as a row -/
def hsL (C : Cal) (U : Rules) : Hs → List (Nat × (Fr → RF))
  | .nil => []
  | .cons c _ h hs => (c, execs C U h) :: hsL C U hs
def unn : Hs → Bool
  | .nil => true
  | .cons _ i _ hs => i.isNone && unn hs
theorem hands_eq (C : Cal) (U : Rules) : ∀ {hs : Hs} {e : Ex} {ρ : Fr}, unn hs = true → hands C U hs e ρ = handM U (hsL C U hs) e ρ
  | .nil, e, ρ, h => rfl
  | .cons c i h hs, e, ρ, hu => by
    have hu : (i.isNone && unn hs) = true := hu
    rw [Bool.and_eq_true, Option.isNone_iff_eq_none] at hu
    obtain ⟨rfl, hu⟩ := hu
    unfold hands hsL handM
    cases U.exm e.c c with
    | none => rfl
    | some b => cases b with
      | true => rfl
      | false => exact hands_eq C U hu
theorem set_sound {l : Lv} {y : X} {tg : Expr} (s : Sok Γ U Y sc W) (hc : chk Γ.g y sc e = true) (hl : chkLv Γ.g l y sc tg e = true) (hM : ∀ i, i ∈ mutS Γ.g (.set l y) → i ∈ x.mp) (hA : ∀ i, i ∈ asgS (.set l y) → i ∈ x.as) : PS Y (.Assign [tg] e pos) (tS x Γ.G W fun ρ => doSet Γ.C l y ρ) := by
  have c := s.c
  have hy := xok (Γ := Γ) y
  cases l with
  | nm i =>
    have hl : (stoB Γ.g.N sc (fun _ => true) i tg && (!swB sc tg e || y.isComp)) = true := hl
    rw [Bool.and_eq_true, Bool.or_eq_true] at hl
    obtain ⟨h1, h2⟩ := hl
    have hM : ∀ i, i ∈ mutX Γ.g y → i ∈ x.mp := hM
    have hi : i ∈ x.as := hA i (List.mem_singleton_self i)
    unfold stoB at h1
    cases tg with
    | Name n p =>
      simp only [Bool.and_eq_true, Bool.or_eq_true, decide_eq_true_eq, Bool.and_true] at h1
      obtain ⟨hN, hk⟩ := h1
      have hloc : Loc sc n := hk
      have hkd : Y.env.scope.kind = .function := by rw [c.sc]; exact s.kind
      have sw := sw_of (t := n) (p := p) (l := pos.line) hkd c.sc (chk_noset hc)
      cases hsw : swB sc (.Name n p) e with
      | false =>
        rw [hsw] at sw
        exact st_asg (ps_set (pos := pos) (pos' := p) (by rw [c.N]; exact c.nd) (by rw [c.N]; exact hN) (by rw [c.sc]; exact hloc) (xd_ev hy c hc) sw (.inl (s.fn n))) hM hi
      | true =>
        rw [hsw] at sw h2
        obtain ⟨cmp, rt, np⟩ := comp_of (Γ := Γ) (h2.resolve_left (by simp))
        obtain ⟨te, _, p2, p3⟩ := cmp c hc
        have hln : Y.env.scope.names.lookup n = some .local := by
          rw [c.sc]
          cases e <;> first
            | exact ff hsw
            | (simp only [swB, Bool.and_eq_true, beq_iff_eq] at hsw; exact hsw.1.1)
            | exact absurd rfl (chk_noset hc _ _ _ _)
        refine st_asg (PS.imp (p2 i n p pos (by rw [c.N]; exact hN) hln sw) fun D σ H q => ?_) hM hi
        rw [rt] at p3
        refine p3 σ H _ ?_
        have e1 : XD.ev (y, den Γ.C y) = (den Γ.C y).pk := by
          funext ρ
          show plain y.isPath ((den Γ.C y).pk ρ) = _
          rw [np]; rfl
        have q : tV Γ.G W none (mutX Γ.g y) (XD.ev (y, den Γ.C y)) σ H (fun v H1 => gName i v σ H1 D.nx) := q
        rw [e1] at q
        exact q
    | _ => exact ff h1
  | tup is =>
    have hl : (!Γ.g.hot && tgB Γ.g.N sc (fun _ => true) is tg && tupB sc tg e) = true := hl
    simp only [Bool.and_eq_true, Bool.not_eq_true'] at hl
    obtain ⟨⟨h1, h2⟩, h3⟩ := hl
    have hkd : Y.env.scope.kind = .function := by rw [c.sc]; exact s.kind
    cases tg with
    | Tuple ts k p =>
      refine st_asgT hy c (c.calm h1) s.fn hc hM hA h2 ?_ ?_ rfl
      · cases e <;> rfl
      · cases e with
        | Tuple vs k2 p2 =>
          have h3 : decide (swpd sc ts vs = some none) = true := h3
          exact swpd_of hkd c.sc (of_decide_eq_true h3)
        | _ => rfl
    | _ => exact ff h3
  | att i fs f =>
    cases tg with
    | Attribute o nm ap =>
      have hl : (pathB Γ.g.nt Γ.g.N sc i fs o && decide (Γ.g.nt.flds[f]? = some nm)) = true := hl
      simp only [Bool.and_eq_true, decide_eq_true_eq] at hl
      exact st_att hy c hc (fun j m => hM j (List.mem_cons_of_mem _ m)) (hM i List.mem_cons_self) hl.1 hl.2
    | _ => exact ff hl
  | sub i fs k =>
    cases tg with
    | Subscript o ke tp =>
      have hl : (pathB Γ.g.nt Γ.g.N sc i fs o && chk Γ.g k sc ke && !(mutX Γ.g k).contains i) = true := hl
      simp only [Bool.and_eq_true] at hl
      obtain ⟨⟨h1, h2⟩, h3⟩ := hl
      have hk := xok (Γ := Γ) k
      exact st_sub hy hk c hc h2 (fun j m => hM j (List.mem_cons_of_mem _ (List.mem_append_left _ m))) (fun j m => hM j (List.mem_cons_of_mem _ (List.mem_append_right _ m))) (hM i List.mem_cons_self) (not_contains h3) h1 (assign_sub (hk.pl h2))
    | _ => exact ff hl
theorem aug_sound {l : Lv} {y : X} {o : Op2} {tg : Expr} (s : Sok Γ U Y sc W) (ho : o ≠ .pow) (hc : chk Γ.g y sc e = true) (hl : chkAug Γ.g l y sc tg = true) (hM : ∀ i, i ∈ mutS Γ.g (.aug l o y) → i ∈ x.mp) (hA : ∀ i, i ∈ asgS (.aug l o y) → i ∈ x.as) : PS Y (.AugAssign tg (pyOp o) e pos) (tS x Γ.G W fun ρ => doAug Γ.C l o y ρ) := by
  have c := s.c
  have hy := xok (Γ := Γ) y
  cases l with
  | nm i =>
    cases tg with
    | Name n p =>
      have hl : (decide (Γ.g.N[i]? = some n) && locB sc n && !(mutX Γ.g y).contains i) = true := hl
      simp only [Bool.and_eq_true, decide_eq_true_eq] at hl
      exact st_augN hy c hc hM (hA i (List.mem_singleton_self i)) (not_contains hl.2) ho (by rw [c.N]; exact hl.1.1) (by rw [c.sc]; exact loc_of hl.1.2) (.inl (s.fn n))
    | _ => exact ff hl
  | tup is => exact ff hl
  | att i fs f =>
    cases tg with
    | Attribute ob nm ap =>
      have hl : (pathB Γ.g.nt Γ.g.N sc i fs ob && decide (Γ.g.nt.flds[f]? = some nm) && !(mutX Γ.g y).contains i) = true := hl
      simp only [Bool.and_eq_true, decide_eq_true_eq] at hl
      exact st_augA hy c hc (fun j m => hM j (List.mem_cons_of_mem _ m)) (hM i List.mem_cons_self) (not_contains hl.2) ho hl.1.1 hl.1.2
    | _ => exact ff hl
  | sub i fs k =>
    cases tg with
    | Subscript ob ke tp =>
      have hl : (pathB Γ.g.nt Γ.g.N sc i fs ob && chk Γ.g k sc ke && !(mutX Γ.g k).contains i && !(mutX Γ.g y).contains i) = true := hl
      simp only [Bool.and_eq_true] at hl
      obtain ⟨⟨⟨h1, h2⟩, h3⟩, h4⟩ := hl
      have hk := xok (Γ := Γ) k
      exact st_augS hy hk c hc h2 (fun j m => hM j (List.mem_cons_of_mem _ (List.mem_append_left _ m))) (fun j m => hM j (List.mem_cons_of_mem _ (List.mem_append_right _ m))) (hM i List.mem_cons_self) (not_contains h3) (not_contains h4) ho h1 (aug_sub (hk.pl h2))
    | _ => exact ff hl
theorem par_sound {is : List Nat} {xs : Xs} {ts es : List Expr} {k k2 : Nat} {p p2 : Pos} (s : Sok Γ U Y sc W) (hh : Γ.g.hot = false) (hc : chks Γ.g xs sc es = true) (hl : parB Γ.g.N sc is ts es = true) (hM : ∀ i, i ∈ mutXs Γ.g xs → i ∈ x.mp) (hA : ∀ i, i ∈ is → i ∈ x.as) :
    PS Y (.Assign [.Tuple ts k p] (.Tuple es k2 p2) pos) (tS x Γ.G W fun ρ => (evsL (dens Γ.C xs) ρ).bind fun ss ρ => match setsS is ss ρ with
      | some ρ => .ok .nx ρ
      | none => .bad) := by
  have c := s.c
  unfold parB at hl
  split at hl
  · simp only [Bool.and_eq_true, decide_eq_true_eq, beq_iff_eq] at hl
    obtain ⟨⟨⟨⟨⟨h1, h2⟩, h3⟩, h4⟩, h5⟩, h6⟩ := hl
    exact st_par2 (xsok xs) c (c.calm hh) hc hM (hA _ (by simp)) (hA _ (by simp)) h3 h1 h2 h4 h5 s.kind h6
  · simp only [Bool.and_eq_true, decide_eq_true_eq, beq_iff_eq] at hl
    obtain ⟨⟨⟨⟨⟨⟨⟨⟨⟨h1, h2⟩, h3⟩, h4⟩, h5⟩, h6⟩, h7⟩, h8⟩, h9⟩, h10⟩ := hl
    exact st_par3 (xsok xs) c (c.calm hh) hc hM (hA _ (by simp)) (hA _ (by simp)) (hA _ (by simp)) h4 h5 h6 h1 h2 h3 h7 h8 h9 s.kind h10
  · exact ff hl
end Vm
/-! Vp6 -/
namespace Vm
open PySem L2

theorem mem_l {a b : List Nat} {P : Nat → Prop} (h : ∀ i, i ∈ a ++ b → P i) : ∀ i, i ∈ a → P i := fun i m => h i (List.mem_append_left _ m)
theorem mem_r {a b : List Nat} {P : Nat → Prop} (h : ∀ i, i ∈ a ++ b → P i) : ∀ i, i ∈ b → P i := fun i m => h i (List.mem_append_right _ m)
theorem tS_congr {x : Fx} {G : Pg} {W : WX} {p q : Fr → RF} (h : ∀ ρ, p ρ = q ρ) {D : Ends} {σ : L2.St} {H : Hp} (t : tS x G W q D σ H) : tS x G W p D σ H := by
  have : p = q := funext h
  rw [this]; exact t
mutual
theorem st_sound : ∀ (s : St) {Γ : Gx} {U : Rules} {Y : Cx} {sc : Scope} {W : WX} {st : Stmt} {x : Fx}, Sok Γ U Y sc W → chkS Γ.g U s sc st = true → (∀ i, i ∈ mutS Γ.g s → i ∈ x.mp) → (∀ i, i ∈ asgS s → i ∈ x.as) → PS Y st (tS x Γ.G W (exec Γ.C U s))
  | .set l y, Γ, U, Y, sc, W, st, x, S, h, hM, hA => by
    unfold chkS at h
    split at h
    · rw [Bool.and_eq_true] at h
      exact set_sound S h.1 h.2 hM hA
    · exact ff h
  | .par is xs, Γ, U, Y, sc, W, st, x, S, h, hM, hA => by
    unfold chkS at h
    split at h
    · simp only [Bool.and_eq_true, Bool.not_eq_true'] at h
      exact par_sound S h.1.1 h.1.2 h.2 hM hA
    · exact ff h
  | .aug l o y, Γ, U, Y, sc, W, st, x, S, h, hM, hA => by
    unfold chkS at h
    split at h
    · simp only [Bool.and_eq_true, decide_eq_true_eq] at h
      obtain ⟨⟨⟨h1, h2⟩, h3⟩, h4⟩ := h
      rw [opB_eq h1]
      exact aug_sound S h2 h3 h4 hM hA
    · exact ff h
  | .del i fs k, Γ, U, Y, sc, W, st, x, S, h, hM, hA => by
    unfold chkS at h
    split at h
    · simp only [Bool.and_eq_true] at h
      obtain ⟨⟨h1, h2⟩, h3⟩ := h
      exact st_del (xok k) S.c h2 (fun j m => hM j (List.mem_cons_of_mem _ m)) (hM i List.mem_cons_self) (not_contains h3) h1
    · exact ff h
  | .ex y, Γ, U, Y, sc, W, st, x, S, h, hM, hA => by
    unfold chkS at h
    split at h
    · rw [Bool.and_eq_true] at h
      rename_i e pos
      refine st_ex (xok y) S.c h.1 hM ?_
      have h2 := h.2
      cases e <;> first
        | rfl
        | exact ff h2
    · exact ff h
  | .ret y, Γ, U, Y, sc, W, st, x, S, h, hM, hA => by
    unfold chkS at h
    split at h
    · exact st_ret (xok y) S.c h hM
    · exact ff h
  | .retN, Γ, U, Y, sc, W, st, x, S, h, hM, hA => by
    unfold chkS at h
    split at h
    · exact st_retN
    · exact ff h
  | .ife c a b, Γ, U, Y, sc, W, st, x, S, h, hM, hA => by
    unfold chkS at h
    split at h
    · simp only [Bool.and_eq_true] at h
      obtain ⟨⟨h1, h2⟩, h3⟩ := h
      exact st_if (xok c) S.c h1 (mem_l hM) (sts_sound a S h2 (mem_l (mem_r hM)) (mem_l hA)) (sts_sound b S h3 (mem_r (mem_r hM)) (mem_r hA))
    · exact ff h
  | .loop t it b, Γ, U, Y, sc, W, st, x, S, h, hM, hA => by
    unfold chkS at h
    split at h
    · simp only [Bool.and_eq_true, Bool.or_eq_true, Bool.not_eq_true'] at h
      obtain ⟨⟨⟨⟨⟨h1, h2⟩, h3⟩, h4⟩, h5⟩, h6⟩ := h
      have body : ∀ y : Fx, inX (mutSs Γ.g b) (t ++ asgSs b) y → PSs Y _ (tS y Γ.G W (execs Γ.C U b)) := fun y hy => sts_sound b S h5 hy.1 (mem_r hy.2)
      cases hh : Γ.g.hot with
      | false => exact st_loop (xok it) (iok it) S.c hh S.fn S.hpo h1 h2 h3 (mem_l hM) (mem_r hM) hA (fun i m => List.mem_append_left _ m) h4 body
      | true =>
        have h6 := h6.resolve_left (by rw [hh]; simp)
        split at h6
        · rename_i xs _
          simp only [Bool.and_eq_true, decide_eq_true_eq] at h6
          obtain ⟨k1, k2⟩ := h6
          match t, k2, h3, hA, body with
          | [i], _, h3, hA, body => exact st_loopH (xsok xs) k1 (xok (.rng xs)) S.c hh S.fn S.hpo h1 h3 (mem_l hM) (mem_r hM) hA (List.mem_append_left _ (List.mem_singleton_self i)) body
          | [], q, _, _, _ => cases q
          | _ :: _ :: _, q, _, _, _ => simp at q
        · exact ff h6
    · exact ff h
  | .whl c b, Γ, U, Y, sc, W, st, x, S, h, hM, hA => by
    unfold chkS at h
    split at h
    · rw [Bool.and_eq_true] at h
      exact st_while (xok c) S.c S.hpo h.1 (mem_l hM) (sts_sound b S h.2 (mem_r hM) hA)
    · exact ff h
  | .brk, Γ, U, Y, sc, W, st, x, S, h, hM, hA => by
    unfold chkS at h
    split at h
    · exact st_brk
    · exact ff h
  | .cnt, Γ, U, Y, sc, W, st, x, S, h, hM, hA => by
    unfold chkS at h
    split at h
    · exact st_cnt
    · exact ff h
  | .pass, Γ, U, Y, sc, W, st, x, S, h, hM, hA => by
    unfold chkS at h
    split at h
    · exact st_pass
    · exact ff h
  | .raise c xs, Γ, U, Y, sc, W, st, x, S, h, hM, hA => by
    unfold chkS at h
    split at h
    · simp only [Bool.and_eq_true, decide_eq_true_eq, Bool.not_eq_true'] at h
      obtain ⟨⟨⟨⟨⟨⟨⟨h1, h2⟩, h3⟩, h4⟩, h5⟩, h6⟩, h7⟩, h8⟩ := h
      exact st_raise (xsok xs) S.c (S.r h1) (S.c.calm h1) h2 (gl_of h3) h4 h5 h6 h7 h8 hM
    · exact ff h
  | .tryE b hs, Γ, U, Y, sc, W, st, x, S, h, hM, hA => by
    unfold chkS at h
    split at h
    · rename_i body hds pos
      simp only [Bool.and_eq_true, Bool.not_eq_true'] at h
      obtain ⟨⟨h1, h2⟩, h3⟩ := h
      have hb : ∀ (W' : WX) (pn : List (Addr × Obj)) (xe : Value → Shared → Prop), L2N.Takes (Y.tr pn xe) W' → PassesOwn (model Y.prog Y.w) Y.A Y.env xe → PSs (Y.tr pn xe) body (tS x Γ.G W' (execs Γ.C U b)) := fun W' pn xe tk hp => sts_sound b (S.tr h1 tk hp) h2 (mem_l hM) (mem_l hA)
      split at h3
      · rename_i c i hsu nm np n su pos'
        simp only [Bool.and_eq_true, decide_eq_true_eq, beq_iff_eq, Bool.not_eq_true'] at h3
        obtain ⟨⟨⟨⟨k1, k2⟩, k3⟩, k4⟩, k5⟩ := h3
        obtain ⟨b0, su', rfl⟩ : ∃ b0 su', su = b0 :: su' := by
          cases su with
          | nil => cases k4
          | cons b0 su' => exact ⟨b0, su', rfl⟩
        have hi : i ∈ x.as := hA i (List.mem_append_right _ (List.mem_cons_self))
        refine PS.imp (st_try1 (U := U) (c := c) (i := i) (nm := nm) (n := n) (np := np) (pos' := pos') (pos := pos) (pb := execs Γ.C U b) (ph := execs Γ.C U hsu) S.c (S.r h1) h1 S.stk S.frm k2 k3 (clsB_of S.c k1) hi hb fun a oe dd ec pn hz hd he => ?_) fun D σ H t => tS_congr (fun ρ => ?_) t
        · have cs := ((S.su h1) a oe dd ec pn hz hd he).1 i
          refine sts_sound hsu (Γ := Γ.warm (some (i, a, dd, ec))) (S.suite cs) k5 (fun j m => ?_) fun j m => ?_
          · exact hM j (List.mem_append_right _ (List.mem_append_left _ m))
          · exact hA j (List.mem_append_right _ (List.mem_append_right _ (List.mem_append_left _ m)))
        · simp only [exec]
          cases execs Γ.C U b ρ with
          | ex e ρ1 =>
            dsimp only
            cases hx : U.exm e.c c with
            | none => simp only [hands, hx]
            | some tf =>
              cases tf with
              | false => simp only [hands, hx]
              | true =>
                simp only [hands, hx]
                try (cases execs Γ.C U hsu (ρ1.set i (some (.exn e.c e.fs e.vs))) <;> rfl)
          | ok f ρ1 => rfl
          | bad => rfl
      · rw [Bool.and_eq_true, Bool.not_eq_true'] at h3
        obtain ⟨k1, k2⟩ := h3
        obtain ⟨hk, hu⟩ := hs_sound hs S h1 k2 (mem_r hM) (mem_r hA)
        cases hds with
        | nil => cases k1
        | cons h0 hds =>
          refine PS.imp (st_tryM (pos := pos) (pb := execs Γ.C U b) (l := hsL Γ.C U hs) S.c (S.r h1) h1 S.stk S.frm hb hk) fun D σ H t => tS_congr (fun ρ => ?_) t
          simp only [exec]
          cases execs Γ.C U b ρ with
          | ex e ρ1 => exact (hands_eq Γ.C U hu).symm
          | ok f ρ1 => rfl
          | bad => rfl
    · exact ff h
theorem sts_sound : ∀ (ss : Sts) {Γ : Gx} {U : Rules} {Y : Cx} {sc : Scope} {W : WX} {st : List Stmt} {x : Fx}, Sok Γ U Y sc W → chkSs Γ.g U ss sc st = true → (∀ i, i ∈ mutSs Γ.g ss → i ∈ x.mp) → (∀ i, i ∈ asgSs ss → i ∈ x.as) → PSs Y st (tS x Γ.G W (execs Γ.C U ss))
  | .nil, Γ, U, Y, sc, W, st, x, S, h, hM, hA => by
    have : st = [] := List.isEmpty_iff.mp h
    subst this
    exact sts_nil
  | .cons s ss, Γ, U, Y, sc, W, st, x, S, h, hM, hA => by
    unfold chkSs at h
    split at h
    · rw [Bool.and_eq_true] at h
      refine PSs.imp (sts_cons (st_sound s S h.1 (mem_l hM) (mem_l hA)) (sts_sound ss S h.2 (mem_r hM) (mem_r hA))) fun D σ H t => tS_congr (fun ρ => ?_) t
      unfold thenR
      simp only [execs]
      try (cases exec Γ.C U s ρ with
        | bad => rfl
        | ex e ρ1 => rfl
        | ok f ρ1 => cases f <;> rfl)
    · exact ff h
theorem hs_sound : ∀ (hs : Hs) {Γ : Gx} {U : Rules} {Y : Cx} {sc : Scope} {W : WX} {hds : List ExceptHandler} {x : Fx}, Sok Γ U Y sc W → Γ.g.hot = false → chkHs Γ.g U hs sc hds = true → (∀ i, i ∈ mutHs Γ.g hs → i ∈ x.mp) → (∀ i, i ∈ asgHs hs → i ∈ x.as) →
    L2N.HdsOk Y hds ((hsL Γ.C U hs).map fun q => (Γ.G.cv q.1, tSu0 x Γ U q.2)) ∧ unn hs = true
  | .nil, Γ, U, Y, sc, W, hds, x, S, hh, h, hM, hA => by
    have : hds = [] := List.isEmpty_iff.mp h
    subst this
    exact ⟨.nil, rfl⟩
  | .cons c i hb hs, Γ, U, Y, sc, W, hds, x, S, hh, h, hM, hA => by
    unfold chkHs at h
    split at h
    · rename_i nm np su pos' r
      simp only [Bool.and_eq_true, Bool.not_eq_true'] at h
      obtain ⟨⟨⟨⟨k1, k2⟩, k3⟩, k4⟩, k5⟩ := h
      obtain ⟨b0, su', rfl⟩ : ∃ b0 su', su = b0 :: su' := by
        cases su with
        | nil => cases k3
        | cons b0 su' => exact ⟨b0, su', rfl⟩
      obtain ⟨i1, i2⟩ := hs_sound hs S hh k5 (mem_r hM) (mem_r (mem_r hA))
      refine ⟨.cons (clsB_of S.c k2) (fun a oe cls d pn hz hd => PSs.ex fun q ⟨e1, e2, e3⟩ => ?_) i1, by show (i.isNone && unn hs) = true; rw [k1, i2]; rfl⟩
      subst e1 e2
      have cs := ((S.su hh) a oe q.1 q.2 pn hz hd e3).2
      exact sts_sound hb (Γ := Γ.warm none) (S.suite cs) k4 (mem_l hM) (mem_l (mem_r hA))
    · exact ff h
end
end Vm
/-! Vp7 -/
namespace Vm
open PySem L2

def putAll (mt : List Nat) (fin : List S) (ρ : Fr) : Fr := (mt.zip fin).foldl (fun ρ p => ρ.set p.1 (some p.2)) ρ
theorem putAll_len : ∀ {mt : List Nat} {l : List S} {ρ : Fr}, (putAll mt l ρ).length = ρ.length
  | [], l, ρ => rfl
  | j :: r, [], ρ => rfl
  | j :: r, s :: l, ρ => by
    show (putAll r l (ρ.set j (some s))).length = _
    rw [putAll_len, List.length_set]
theorem putAll_get {ρ' : Fr} : ∀ {mt : List Nat} {l : List S} {ρ : Fr} {i : Nat}, fin mt ρ' = some l → (∀ j, j ∈ mt → j < ρ.length) → (putAll mt l ρ)[i]? = if i ∈ mt then some (getS ρ' i) else ρ[i]?
  | [], l, ρ, i, h, hl => rfl
  | j :: r, l, ρ, i, h, hl => by
    unfold fin at h
    cases e1 : getS ρ' j with
    | none => rw [e1] at h; cases h
    | some s =>
      rw [e1] at h
      cases e2 : fin r ρ' with
      | none => rw [e2] at h; cases h
      | some l' =>
        rw [e2] at h
        cases h
        show (putAll r l' (ρ.set j (some s)))[i]? = _
        rw [putAll_get e2 fun k m => by rw [List.length_set]; exact hl k (List.mem_cons_of_mem _ m)]
        by_cases m : i ∈ r
        · rw [if_pos m, if_pos (List.mem_cons_of_mem _ m)]
        · rw [if_neg m]
          by_cases hj : i = j
          · subst hj
            rw [if_pos List.mem_cons_self, List.getElem?_set_self (hl i List.mem_cons_self), e1]
          · rw [if_neg fun z => (List.mem_cons.mp z).elim hj m, List.getElem?_set_ne (Ne.symm hj)]
theorem fin_get {ρ' : Fr} : ∀ {mt : List Nat} {l : List S} {i : Nat}, fin mt ρ' = some l → i ∈ mt → ∃ s, getS ρ' i = some s
  | [], l, i, h, m => by cases m
  | j :: r, l, i, h, m => by
    unfold fin at h
    cases e1 : getS ρ' j with
    | none => rw [e1] at h; cases h
    | some s =>
      rw [e1] at h
      cases e2 : fin r ρ' with
      | none => rw [e2] at h; cases h
      | some l' =>
        rcases List.mem_cons.mp m with z | m
        · subst z; exact ⟨s, e1⟩
        · exact fin_get e2 m
/-- the footprints of the parameters alone -/
def cutF (n : Nat) (fs : Nat → Fp) : Nat → Fp := fun j => if j < n then fs j else none'
theorem cutF_sub {n j : Nat} {fs : Nat → Fp} {a : Addr} (h : cutF n fs j a) : j < n ∧ fs j a := by
  unfold cutF at h
  by_cases hj : j < n
  · rw [if_pos hj] at h; exact ⟨hj, h⟩
  · rw [if_neg hj] at h; exact h.elim
def backF (mt : List Nat) (fs fs' : Nat → Fp) : Nat → Fp := fun j => if j ∈ mt then fs' j else fs j
theorem start_fr {G : Pg} {H : Hp} {N : List Str} {vs : List V} {ss : List S} {fs : Nat → Fp} {m : Nat} (F : FR G H (vs.map some) (ss.map some) fs) (hm : m = N.length - vs.length) : FR G H (L2.start N vs) (ss.map some ++ List.replicate m none) (cutF ss.length fs) := by
  subst hm
  have hl : ss.length = vs.length := by have := F.len; simpa using this
  refine ⟨?_, fun i s e => ?_, fun i j a z1 z2 => F.dis i j a (cutF_sub z1).2 (cutF_sub z2).2, fun i a z => F.trk i a (cutF_sub z).2⟩
  · unfold L2.start
    simp only [List.length_append, List.length_map, List.length_replicate, hl]
  · by_cases hi : i < ss.length
    · rw [List.getElem?_append_left (by simpa using hi)] at e
      obtain ⟨v, ev, r⟩ := F.rep i s e
      refine ⟨v, ?_, ?_⟩
      · unfold L2.start
        rw [List.getElem?_append_left (by rw [List.length_map, ← hl]; exact hi)]
        exact ev
      · unfold cutF
        rw [if_pos hi]
        exact r
    · rw [List.getElem?_append_right (by simpa using hi), List.getElem?_replicate] at e
      split at e <;> cases e
theorem fin_law {G : Pg} {H H' : Hp} {N : List Str} {vs : List V} {ss l : List S} {fs fs' : Nat → Fp} {mt mp as : List Nat} {ρ' : Fr} {σ' : L2.St} (gz : G.cur = none) (F : FR G H (vs.map some) (ss.map some) fs) (F' : FR G H' σ' ρ' fs') (b : Big ⟨H, L2.start N vs, cutF ss.length fs, mp, as⟩ H' σ' fs')
    (h1 : ∀ i, i ∈ mt → i ∈ mp) (h2 : ∀ i, i ∈ mp → i < ss.length → i ∈ mt) (h3 : ∀ i, i ∈ mt → i < ss.length) (h4 : ∀ i, i ∈ mt → i ∉ as) (hf : fin mt ρ' = some l) :
    FR G H' (vs.map some) (putAll mt l (ss.map some)) (backF mt fs fs') ∧ Step H (ss.map some) fs mt H' (putAll mt l (ss.map some)) (backF mt fs fs') ∧
      ∀ s v, VP none G H (cutF ss.length fs) mp H' fs' s v → VP none G.z H fs mt H' (backF mt fs fs') s v := by
  have hl : ss.length = vs.length := by have := F.len; simpa using this
  have up : ∀ {a}, U (cutF ss.length fs) mp a → U fs mt a := fun ⟨i, m, z⟩ => ⟨i, h2 i m (cutF_sub z).1, (cutF_sub z).2⟩
  have apart : ∀ {i a}, i ∉ mt → fs i a → ¬ U (cutF ss.length fs) mp a := fun {i a} n z u => by
    obtain ⟨j, m, y⟩ := up u
    exact n (F.dis i j a z y ▸ m)
  have new : ∀ {j a}, j ∈ mt → fs' j a → U (cutF ss.length fs) mp a ∨ H a = none := fun {j a} m z => by
    rcases b.sub j a z with ⟨n, _⟩ | y
    · exact absurd (h1 j m) n
    · exact y
  have geti : ∀ i, (putAll mt l (ss.map some))[i]? = if i ∈ mt then some (getS ρ' i) else (ss.map some)[i]? := fun i => putAll_get hf fun j m => by rw [List.length_map]; exact h3 j m
  have hz : ∀ {s v f}, RepS G H' s v f → RepS G.z H' s v f := fun h => (RepS.z _ _).mp h
  refine ⟨⟨?_, fun i s e => ?_, fun i j a z1 z2 => ?_, fun i a z => ?_⟩, ⟨b.keep.mono fun a => up, fun i n => ⟨?_, ?_⟩, fun i a m z => ?_⟩, fun s v ⟨f, r, tr, x1, x2⟩ => ⟨f, hz r, tr, fun i a fa z => ?_, fun a fa => (x2 a fa).imp up id⟩⟩
  · rw [putAll_len, List.length_map, List.length_map, hl]
  · rw [geti] at e
    by_cases m : i ∈ mt
    · rw [if_pos m] at e
      obtain ⟨v, ev, r⟩ := F'.get (Option.some.inj e)
      have e2 : σ'[i]? = (L2.start N vs)[i]? := b.par i (h4 i m)
      refine ⟨v, ?_, .inl ?_⟩
      · rw [ev] at e2
        unfold L2.start at e2
        rw [List.getElem?_append_left (by rw [List.length_map, ← hl]; exact h3 i m)] at e2
        exact e2.symm
      · unfold backF
        rw [if_pos m]
        exact r
    · rw [if_neg m] at e
      obtain ⟨v, ev, r⟩ := F.rep i s e
      refine ⟨v, ev, .inl ?_⟩
      unfold backF
      rw [if_neg m]
      rcases r with r | ⟨_, _, _, _, _, _, z, _⟩
      · exact RepS.keep' r b.keep fun a z => apart m z
      · rw [gz] at z; cases z
  · unfold backF at z1 z2
    by_cases mi : i ∈ mt <;> by_cases mj : j ∈ mt
    · rw [if_pos mi] at z1; rw [if_pos mj] at z2; exact F'.dis i j a z1 z2
    · rw [if_pos mi] at z1; rw [if_neg mj] at z2
      rcases new mi z1 with y | y
      · exact absurd y (apart mj z2)
      · exact absurd y (F.trk j a z2)
    · rw [if_neg mi] at z1; rw [if_pos mj] at z2
      rcases new mj z2 with y | y
      · exact absurd y (apart mi z1)
      · exact absurd y (F.trk i a z1)
    · rw [if_neg mi] at z1; rw [if_neg mj] at z2; exact F.dis i j a z1 z2
  · unfold backF at z
    by_cases mi : i ∈ mt
    · rw [if_pos mi] at z; exact F'.trk i a z
    · rw [if_neg mi] at z; exact fun y => F.trk i a z (b.keep.dom a y)
  · rw [geti, if_neg n]
  · unfold backF; rw [if_neg n]
  · unfold backF at z
    rw [if_pos m] at z
    exact (new m z).imp up id
  · unfold backF at z
    by_cases mi : i ∈ mt
    · rw [if_pos mi] at z; exact x1 i a fa z
    · rw [if_neg mi] at z
      rcases x2 a fa with y | y
      · exact apart mi z y
      · exact F.trk i a z y
/-- the wish of a body -/
theorem wish {G : Pg} {H : Hp} {N : List Str} {vs : List V} {ss : List S} {fs : Nat → Fp} {mt mp as : List Nat} {Q : VK} {E : XK} {p : RF} (gz : G.cur = none) (F : FR G H (vs.map some) (ss.map some) fs)
    (h1 : ∀ i, i ∈ mt → i ∈ mp) (h2 : ∀ i, i ∈ mp → i < ss.length → i ∈ mt) (h3 : ∀ i, i ∈ mt → i < ss.length) (h4 : ∀ i, i ∈ mt → i ∉ as)
    (h : Run G.z (fun cls d _ H => E cls d H) (vs.map some) H (ss.map some) fs mt (fun s ρ' H' fs' => ∀ v, VP none G.z H fs mt H' fs' s v → Q v H') (outR ss mt (outOf mt p))) :
    SW ⟨H, L2.start N vs, cutF ss.length fs, mp, as⟩ G (fun cls d _ H => E cls d H) { nx := fun _ H' => Q .non H', rt := Q } p := by
  have hzf : ∀ {H' ρ fs'}, FR G H' (vs.map some) ρ fs' → FR G.z H' (vs.map some) ρ fs' := fun {H' ρ fs'} F => by
    refine ⟨F.len, fun i s e => ?_, F.dis, F.trk⟩
    obtain ⟨v, ev, r⟩ := F.rep i s e
    refine ⟨v, ev, .inl ?_⟩
    rcases r with r | ⟨_, _, _, _, _, _, z, _⟩
    · exact (RepS.z _ _).mp r
    · rw [gz] at z; cases z
  cases p with
  | bad => exact h.elim
  | ok f ρ' =>
    cases hf : fin mt ρ' with
    | none => simp only [outOf, hf] at h; exact h.elim
    | some l =>
      simp only [outOf, hf] at h
      intro σ' H' fs' F' b
      obtain ⟨k1, k2, k3⟩ := fin_law gz F F' b h1 h2 h3 h4 hf
      cases f with
      | nx => exact h H' _ (hzf k1) k2 _ (VP.d rep_non)
      | brk => exact h.elim
      | cnt => exact h.elim
      | ret s => exact fun v vp => h H' _ (hzf k1) k2 v (k3 s v vp)
  | ex e ρ' =>
    cases hf : fin mt ρ' with
    | none => simp only [outOf, hf] at h; exact h.elim
    | some l =>
      simp only [outOf, hf] at h
      intro cls d σ' H' fs' F' b ep
      obtain ⟨k1, k2, k3⟩ := fin_law gz F F' b h1 h2 h3 h4 hf
      exact h cls d H' _ (hzf k1) k2 ep
end Vm
/-! Vp8 -/
namespace Vm
open PySem L2
/-- parameters alone, no defaults -/
structure PlainPs (fd : FuncData) (ps : List Str) : Prop where
  po : fd.params.posonlyargs = []
  ar : fd.params.args.map (·.arg) = ps
  va : fd.params.vararg = none
  ko : fd.params.kwonlyargs = []
  kw : fd.params.kwarg = none
  df : fd.defaults = .none
theorem loop_kv {F : Str × Value → List (Str × Value) × List (Str × Value) → Sem (ForInStep (List (Str × Value) × List (Str × Value)))} : ∀ {kv : List (Str × Value)} {l e : List (Str × Value)}, (∀ p, p ∈ kv → ∀ l : List (Str × Value), l.lookup p.1 = none → F p (l, e) = pure (.yield (l ++ [p], e))) →
    (kv.map (·.1)).Nodup → (∀ p ∈ kv, l.lookup p.1 = none) → forIn kv (l, e) F = pure (l ++ kv, e)
  | [], l, e, _, _, _ => by rw [List.append_nil]; rfl
  | p :: kv, l, e, hF, hd, hn => by
    rw [List.forIn_cons, hF p List.mem_cons_self l (hn p List.mem_cons_self)]
    show forIn kv (l ++ [p], e) F = _
    rw [List.map_cons, List.nodup_cons] at hd
    rw [loop_kv (fun q m l' h => hF q (List.mem_cons_of_mem _ m) l' h) hd.2 fun q m => ?_, List.append_assoc]
    · rfl
    · rw [List.lookup_append, hn q (List.mem_cons_of_mem _ m)]
      have : q.1 ≠ p.1 := fun z => hd.1 (List.mem_map.mpr ⟨q, m, z⟩)
      show List.lookup q.1 [(p.1, p.2)] = none
      have hb : (q.1 == p.1) = false := by simpa using this
      rw [List.lookup_cons, hb]
      rfl
theorem pure_bnd {α β : Type} (a : α) (f : α → Sem β) : (pure a >>= f : Sem β) = f a := rfl
theorem filter_nil {α : Type} {l : List α} {p : α → Bool} (h : ∀ x ∈ l, p x = false) : l.filter p = [] := by
  rw [List.filter_eq_nil_iff]
  intro x m z
  rw [h x m] at z; cases z
theorem bind_gen {fd : FuncData} {ps : List Str} {us : List Value} {kv : List (Str × Value)} (h : PlainPs fd ps) (hl : us.length ≤ ps.length) (hk : ∀ p ∈ kv, ps.contains p.1 = true) (hd : (kv.map (·.1)).Nodup) (hn : ∀ p ∈ kv, (ps.zip us).lookup p.1 = none) (ha : ∀ x ∈ ps, ((ps.zip us ++ kv).lookup x).isSome = true) :
    bindArgs fd ⟨us, kv⟩ = pure (ps.filterMap fun n => ((ps.zip us ++ kv).lookup n).map (n, ·)) := by
  unfold bindArgs
  simp only [h.po, h.ar, h.va, h.ko, h.kw, h.df, List.map_nil, List.nil_append, List.append_nil]
  rw [loop_kv (kv := kv) (e := []) (fun p m l e => ?_) hd hn]
  · have e1 : ps.filter (fun n => (List.lookup n (ps.zip us ++ kv)).isNone) = [] := filter_nil fun x m => by
      have := ha x m
      cases q : List.lookup x (ps.zip us ++ kv) with
      | none => rw [q] at this; cases this
      | some _ => rfl
    have e2 : decide (us.length > ps.length) = false := decide_eq_false (by omega)
    have e0 : seqItems? Value.none = pure none := rfl
    simp only [pure_bnd, e0, e2, Bool.false_and, if_neg Bool.false_ne_true, Option.getD_none, List.drop_nil, List.length_nil, Nat.sub_zero, List.take_length, e1, List.isEmpty_nil, Bool.not_true, List.drop_length, List.zip_nil_left, List.forIn_nil]
  · dsimp only
    rw [if_pos (by rw [hk p m]; rfl), e, if_neg (by simp)]
theorem fm_zip {L : List (Str × Value)} : ∀ {ps : List Str} {zs : List Value}, ps.length = zs.length → (∀ (i : Nat) (x : Str) (z : Value), ps[i]? = some x → zs[i]? = some z → L.lookup x = some z) → ps.filterMap (fun n => (L.lookup n).map (n, ·)) = ps.zip zs
  | [], zs, _, _ => rfl
  | p :: ps, [], h, _ => by cases h
  | p :: ps, z :: zs, h, k => by
    rw [List.filterMap_cons, k 0 p z rfl rfl]
    show (p, z) :: _ = (p, z) :: ps.zip zs
    rw [fm_zip (by simpa using h) fun i x y h1 h2 => k (i + 1) x y (by simpa using h1) (by simpa using h2)]
theorem lk_zip {x : Str} : ∀ {ks : List Str} {ws : List Value}, (ks.zip ws).lookup x = (ks.findIdx? (fun k => x == k)).bind fun i => ws[i]?
  | [], ws => by simp
  | k :: ks, [] => by
    rw [List.zip_nil_right]
    cases List.findIdx? (fun k => x == k) (k :: ks) <;> simp
  | k :: ks, w :: ws => by
    rw [List.zip_cons_cons, List.lookup_cons, List.findIdx?_cons]
    cases hb : x == k with
    | true => rfl
    | false =>
      show (ks.zip ws).lookup x = _
      rw [lk_zip]
      cases ks.findIdx? (fun k => x == k) <;> simp
theorem find_at {ps : List Str} (nd : ps.Nodup) {i : Nat} {x : Str} (h : ps[i]? = some x) : ps.findIdx? (fun k => x == k) = some i := by
  rw [List.findIdx?_eq_some_iff_getElem]
  obtain ⟨hi, e⟩ := List.getElem?_eq_some_iff.mp h
  refine ⟨hi, by simp [e], fun j hj => ?_⟩
  have hj2 : j < ps.length := by omega
  have : x ≠ ps[j] := fun z => by
    rw [← e] at z
    exact List.pairwise_iff_getElem.mp nd j i hj2 hi hj z.symm
  simpa using this
theorem binds_all {K : PySem.W.Frag} {fd : FuncData} {ps : List Str} (h : PlainPs fd ps) (nd : ps.Nodup) : Binds K fd ps [] := .all fun us hl => by
  have key : ∀ i x z, ps[i]? = some x → us[i]? = some z → (ps.zip us ++ []).lookup x = some z := fun i x z h1 h2 => by
    rw [List.append_nil, lk_zip, find_at nd h1]
    exact h2
  rw [bind_gen h (by omega) (kv := []) (fun _ m => by cases m) List.nodup_nil (fun _ m => by cases m) fun x m => ?_, fm_zip hl.symm key]
  obtain ⟨i, hi, e⟩ := List.getElem_of_mem m
  rw [key i x us[i] (by rw [List.getElem?_eq_getElem hi, e]) (by rw [List.getElem?_eq_getElem])]
  rfl
def kwsB (ps ks : List Str) : Bool := decide ks.Nodup && ks.all fun k => ps.contains k
theorem kw_bind {K : PySem.W.Frag} {fd : FuncData} {ps : List Str} {kws : List (List Str)} (h : PlainPs fd ps) (hk : kws.all (kwsB ps) = true) : KwB K fd ps kws := fun ks m p s ws zs hp hw hz _ => by
  have hb := List.all_eq_true.mp hk ks m
  unfold kwsB at hb
  rw [Bool.and_eq_true, decide_eq_true_eq, List.all_eq_true] at hb
  obtain ⟨h1, h2⟩ := hb
  have hlen : p.length = ps.length := by
    have := congrArg List.length hp
    simpa [permOf] using this
  have hlz : zs.length = ps.length := by
    have := congrArg List.length hz
    simp only [List.length_map] at this
    omega
  have km : (ks.zip ws).map (·.1) = ks := by rw [List.map_fst_zip (by omega)]
  have key : ∀ i x z, ps[i]? = some x → zs[i]? = some z → (ps.zip ([] : List Value) ++ ks.zip ws).lookup x = some z := fun i x z e1 e2 => by
    have hi : i < p.length := by rw [hlen]; exact (List.getElem?_eq_some_iff.mp e1).1
    have q1 : (permOf ps 0 ks)[i]? = some (some p[i]) := by rw [← hp, List.getElem?_map, List.getElem?_eq_getElem hi]; rfl
    have q2 : (permOf ps 0 ks)[i]? = some ((ks.findIdx? fun k => ps[i]? == some k).map (0 + ·)) := by
      unfold permOf
      rw [List.getElem?_map, List.getElem?_range (by rw [← hlen]; exact hi)]
      show some (if i < 0 then _ else _) = _
      rw [if_neg (Nat.not_lt_zero _)]
    rw [q2] at q1
    have q3 : ks.findIdx? (fun k => x == k) = some p[i] := by
      have := Option.some.inj q1
      rw [e1] at this
      simpa using this
    have q4 : some z = ws[p[i]]? := by
      have : (zs.map some)[i]? = (p.map fun k => ws[k]?)[i]? := by rw [hz]
      rw [List.getElem?_map, List.getElem?_map, e2, List.getElem?_eq_getElem hi] at this
      simpa using this
    rw [List.zip_nil_right, List.nil_append, lk_zip, q3]
    exact q4.symm
  refine .of_eq ?_
  rw [bind_gen h (Nat.zero_le _) (fun q mq => h2 _ (by rw [← km]; exact List.mem_map.mpr ⟨q, mq, rfl⟩)) (by rw [km]; exact h1) (fun q _ => by rw [List.zip_nil_right]; rfl) fun x mx => ?_, fm_zip hlz.symm key]
  obtain ⟨i, hi, e⟩ := List.getElem_of_mem mx
  rw [key i x zs[i] (by rw [List.getElem?_eq_getElem hi, e]) (by rw [List.getElem?_eq_getElem])]
  rfl
end Vm
/-! Vp9 -/
namespace Vm
open PySem L2

def Gm.at (g : Gm) (N : List Str) (hot : Bool) : Gm := { g with N := N, hot := hot }
structure DefAt (T : Tab) (g : Gm) (K : PySem.W.Frag) (N : List Str) (f : Nat) (a : Addr) (fn : Fn) : Prop where
  ex : ∃ (oc : Value) (od : Option Addr) (name qual : Str) (params : Arguments) (body : List Stmt) (scope : Scope) (dV kV doc pm : Value) (an : Option Addr) (cdv ct : Value) (osl : Array (Option Value)),
    K.lookup a = some ⟨oc, od, .func (PySem.W.fnOf name qual params body scope dV kV doc pm an cdv ct), osl⟩ ∧ PySem.W.codeIn K cdv qual = true ∧ PlainPs (PySem.W.fnOf name qual params body scope dV kV doc pm an cdv ct) (g.ps f) ∧ FnScope N (g.ps f) scope ∧
    chkSs (g.at N false) T.U fn.body scope body = true ∧ (g.hl f = true → chkSs (g.at N true) T.U fn.body scope body = true)
  kp : PySem.W.keepIn K (.ref a) = true
  kws : (g.kws f).all (kwsB (g.ps f)) = true
  np : (g.ps f).length = fn.np
  nn : N.length = fn.nn
  mu : ∀ i, i ∈ mutSs (g.at N false) fn.body → i ∈ fn.mt ∨ fn.np ≤ i
  muH : g.hl f = true → ∀ i, i ∈ mutSs (g.at N true) fn.body → i ∈ fn.mt ∨ fn.np ≤ i
  mt : ∀ i, i ∈ fn.mt → i < fn.np ∧ i ∉ asgSs fn.body
structure Glb (T : Tab) (g : Gm) (G : Pg) (ad : Nat → Addr) (nms : Nat → List Str) (mg : Str → Option Value) : Prop where
  cur : G.cur = none
  mt : T.mt = g.mt
  ini : T.in = g.ini
  blt : ∀ b, b ∈ biNames → mg b = none
  fns : ∀ f nm, g.nt.fns[f]? = some nm → mg nm = some (.ref (ad f)) ∧ ∃ fn, T.fns[f]? = some fn
  fld : ∀ c f, G.ok c f → Cls G.K (G.ca c) ∧ NoAttr G.K (G.ca c) (G.fn f)
  fnI : ∀ j k, G.fn j = G.fn k → j = k
  nam : ∀ f n, g.nt.flds[f]? = some n → G.fn f = n
  att : ∀ c f, T.U.at' c f = true → G.ok c f
  mth : ∀ f c n, (g.nt.mth[f]?).join = some (c, n) → (T.mc[f]?).join = some c ∧ Cls G.K (G.ca c) ∧ (∀ k, G.ok c k → G.fn k ≠ n) ∧ Meth G.K (G.ca c) n (ad f) ∧ ∃ fn, T.fns[f]? = some fn
  cls : ∀ c nm, g.nt.cls[c]? = some nm → mg nm = some (.ref (G.ca c))
  new : ∀ c nm, g.nt.cls[c]? = some nm → (g.ps (g.ini c)).length ≠ 0 → PySem.W.keepIn G.K (.ref (G.ca c)) = true ∧ Mk G.K (G.ca c) (ad (g.ini c)) ∧ ∃ fn, T.fns[g.ini c]? = some fn
  exf : ∀ c k b, T.U.exm c k = some b → XfC G.K (G.ca c) ∧ ExcC G.K (G.ca c) ∧ (∀ (f : Nat) (n : Str), g.nt.flds[f]? = some n → PySem.W.findIn G.K (.ref (G.ca c)) n = some none) ∧ PySem.W.kitOne G.K (.ref (G.ca c)) (G.cv k) = some b ∧ PySem.W.exmOne G.K (.ref (G.ca c)) (G.cv k) = some b
  rz : ∀ c nm, g.nt.cls[c]? = some nm → T.U.exF c ≠ [] → ∃ f fd ps, OexC G.K (G.ca c) ∧ PySem.W.findIn G.K (.ref (G.ca c)) "__init__" = some (some (.ref f)) ∧ PySem.W.typeIn G.K (.ref f) = some (.type "function") ∧
    (∀ (P : Program) (w : World) (mg : Str → Option Value) (base : Heap) (CX : CXT), FnOk P w G.K mg base CX 1 f fd ps (spEx (G.ca c) ((T.U.exF c).map G.fn))) ∧ Binds G.K fd ps []
  dfs : ∀ f fn, T.fns[f]? = some fn → DefAt T g G.K (nms f) f (ad f) fn
/-- defs of the table, n calls deep -/
def TabOk (T : Tab) (g : Gm) (G : Pg) (ad : Nat → Addr) (P : Program) (w : World) (mg : Str → Option Value) (base : Heap) (n : Nat) : Prop := ∀ f fn, T.fns[f]? = some fn → ∃ fd, ((∃ oc od osl, G.K.lookup (ad f) = some ⟨oc, od, .func fd, osl⟩) ∧ PlainPs fd (g.ps f)) ∧ Binds G.K fd (g.ps f) [] ∧ KwB G.K fd (g.ps f) (g.kws f) ∧
  FnOk P w G.K mg base (L2N.CX P w) (2 * n + 1) (ad f) fd (g.ps f) (spF G (T.mt f) (run T n f)) ∧ (g.hl f = true → L2H.FnH P w G.K mg base (L2N.CX P w) (2 * n + 1) (ad f) fd (g.ps f) (spF G (T.mt f) (run T n f)))
section
variable {T : Tab} {g : Gm} {G : Pg} {ad : Nat → Addr} {nms : Nat → List Str} {mg : Str → Option Value} {P : Program} {w : World} {base : Heap} {n : Nat}
theorem Glb.cok (B : Glb T g G ad nms mg) (tb : TabOk T g G ad P w mg base n) {X : Cx} {N : List Str} {sc : Scope} {W : WX} {hot : Bool} {cu : Option (Nat × Addr × Addr × Nat)} (hP : X.prog = P) (hw : X.w = w) (hK : X.K = G.K) (hm : X.mg = mg) (hb : X.base = base) (hN : X.N = N) (nd : N.Nodup) (hs : X.env.scope = sc)
    (cal : hot = false → X.calm = true) (tk : L2N.Takes X W) (rm : hot = false → Room (2 * n + 2) X.A) (rh : L2H.RoomH (2 * n + 2) X.A) (hc : hot = true → L2H.HotC X) (hcu : hot = false → cu = none)
    (hex : hot = true → ∀ i a dd c, cu = some (i, a, dd, c) → isE T.U c ∧ ∃ (X0 : Cx) (oe : Obj) (pn : List (Addr × Obj)), X = X0.suite a ((a, oe) :: pn) ∧ Zc (.ref (G.ca c)) (some dd) oe ∧ ∃ vs, oe.data = .fields vs) :
    Cok (g.at N hot) (G.in cu) (T.cal (run T n)) X sc W := by
  subst hP hw hm hb
  have call : ∀ f, (∃ fn, T.fns[f]? = some fn) → CallOk (G.in cu) (g.at N hot) (T.cal (run T n)) X f (ad f) := fun f ⟨fn, hf⟩ => by
    obtain ⟨fd, _, b, kw, F, FH⟩ := tb f fn hf
    refine ⟨by rw [hK]; exact (B.dfs f fn hf).kp, fun z => ⟨fd, 2 * n + 1, (rm z).mono (by omega), by rw [hK]; exact b, by rw [hK]; exact kw, by rw [hK]; exact F⟩, fun z zl => ⟨fd, 2 * n + 1, rh.mono (by omega), hc z, by rw [hK]; exact b, by rw [hK]; exact FH zl⟩⟩
  refine ⟨hK, hN, nd, hs, cal, tk, ?_, ?_, B.blt, B.mt, B.ini, fun f nm h => ?_, fun c f h => ?_, fun c j k _ _ h => B.fnI j k h, B.nam, B.att, fun f c n h => ?_, fun c nm h1 h2 => ?_, B.fnI, B.cls, hcu, hc, fun z i a dd c h => ?_⟩
  · have := rh.un; omega
  · have := rh.un; omega
  · obtain ⟨h1, h2⟩ := B.fns f nm h
    exact ⟨ad f, h1, call f h2⟩
  · rw [hK]; exact B.fld c f h
  · obtain ⟨h1, h2, h3, h4, h5⟩ := B.mth f c n h
    exact ⟨h1, by rw [hK]; exact h2, h3, ad f, by rw [hK]; exact h4, call f h5⟩
  · obtain ⟨h3, h4, fn, h5⟩ := B.new c nm h1 h2
    obtain ⟨fd, _, b, kw, F, FH⟩ := tb _ fn h5
    have e : (T.cal (run T n)).ini c = g.ini c := congrFun B.ini c
    refine ⟨B.cls c nm h1, by rw [hK]; exact h3, fun z => ⟨fd, 2 * n + 1, ad (g.ini c), by rw [hK]; exact h4, rm z, by rw [hK]; exact b, ?_⟩⟩
    rw [e, hK]
    exact F
  · obtain ⟨⟨k, b, hk⟩, X0, oe, pn, e1, e2, e3⟩ := hex z i a dd c h
    obtain ⟨k1, k2, k3, _, _⟩ := B.exf c k b hk
    refine ⟨X0, oe, pn, e1, e2, e3, by rw [hK]; exact k1, by rw [hK]; exact k2, fun f n h => by rw [hK]; exact k3 f n h, fun k b h => by rw [hK]; exact (B.exf c k b h).2.2.2.1⟩
theorem Pg.in_self (h : G.cur = none) : G.in none = G := by unfold Pg.in; rw [← h]
theorem Glb.sok (B : Glb T g G ad nms mg) (tb : TabOk T g G ad P w mg base n) {N : List Str} {scope : Scope} {qual : Str} {f : Addr} {cd : Value} {A : Around} {outer : List Env} {s : Shared} {H : Hp} {E : XK} (nd : N.Nodup) (hk : scope.kind = .function)
    (rm : Room (2 * n + 2) (A.deeper (PyProof.Rows.envOfC qual scope s.heap.objs.size f cd))) :
    Sok ⟨g.at N false, G, T.cal (run T n)⟩ T.U (cxOf (L2N.CX P w) P w G.K mg base N qual scope f cd A outer s H E) scope (fun cls d _ H => E cls d H) := by
  have hG := Pg.in_self B.cur
  refine ⟨?_, fun _ => ⟨fun c nm h1 h2 => ?_, fun e c b h => (B.exf e c b h).2.2.2.2⟩, fun _ a oe dd c pn hz hd he => ?_, fun _ => rfl, PassesOwn.leaving, hk, rfl, rfl⟩
  · have := B.cok tb (cu := none) (hot := false) (X := cxOf (L2N.CX P w) P w G.K mg base N qual scope f cd A outer s H E) (W := fun cls d _ H => E cls d H) rfl rfl rfl rfl rfl rfl nd rfl (fun _ => rfl) (L2N.takes_of rfl rfl rfl rfl) (fun _ => rm) (L2H.roomH_of rm) (fun z => by cases z) (fun _ => rfl) (fun z => by cases z)
    rwa [hG] at this
  · obtain ⟨f, fd, ps, k1, k2, k3, k4, k5⟩ := B.rz c nm h1 h2
    exact ⟨f, fd, 1, ps, k1, k2, k3, k4 _ _ _ _ _, rm.mono (by omega), k5⟩
  · have rh : L2H.RoomH (2 * n + 2) ((A.deeper (PyProof.Rows.envOfC qual scope s.heap.objs.size f cd)).mark (some (.ref a))) := ⟨rm.dp, rm.un⟩
    have hot : ∀ {Y : Cx}, Y = (cxOf (L2N.CX P w) P w G.K mg base N qual scope f cd A outer s H E).suite a ((a, oe) :: pn) → L2H.HotC Y := fun {Y} e => by
      subst e
      obtain ⟨vs, hv⟩ := hd
      exact ⟨(a, oe), ⟨rfl, vs, hv, hz.2.2 vs hv⟩, List.mem_cons_self⟩
    have tk : L2N.Takes ((cxOf (L2N.CX P w) P w G.K mg base N qual scope f cd A outer s H E).suite a ((a, oe) :: pn)) WF := fun u s' ⟨a, B, sI, pins, σ, H, cls, d, _, _, _, _, _, _, _, _, w⟩ => w.elim
    exact ⟨fun i => B.cok tb (cu := some (i, a, dd, c)) (hot := true) rfl rfl rfl rfl rfl rfl nd rfl (fun z => by cases z) tk (fun z => by cases z) rh (fun _ => hot rfl) (fun z => by cases z) (fun _ i' a' dd' c' e => by
      cases e
      exact ⟨he, _, oe, pn, rfl, hz.zc, hd⟩),
      B.cok tb (cu := none) (hot := true) rfl rfl rfl rfl rfl rfl nd rfl (fun z => by cases z) tk (fun z => by cases z) rh (fun _ => hot rfl) (fun z => by cases z) (fun _ i' a' dd' c' e => by cases e)⟩
theorem Glb.sokH (B : Glb T g G ad nms mg) (tb : TabOk T g G ad P w mg base n) {N : List Str} {scope : Scope} {qual : Str} {f : Addr} {cd : Value} {A : Around} {outer : List Env} {s : Shared} {H : Hp} {E : XK} {p : Addr × Obj} (nd : N.Nodup) (hk : scope.kind = .function) (hp : L2H.Hot1 A p)
    (rm : L2H.RoomH (2 * n + 2) (A.deeper (PyProof.Rows.envOfC qual scope s.heap.objs.size f cd))) :
    Sok ⟨g.at N true, G, T.cal (run T n)⟩ T.U (L2H.cxH (L2N.CX P w) P w G.K mg base N qual scope f cd A outer s H E p) scope (fun cls d _ H => E cls d H) := by
  have hG := Pg.in_self B.cur
  refine ⟨?_, (fun z => by cases z), (fun z => by cases z), fun _ => rfl, PassesOwn.leaving, hk, rfl, rfl⟩
  have := B.cok tb (cu := none) (hot := true) (X := L2H.cxH (L2N.CX P w) P w G.K mg base N qual scope f cd A outer s H E p) (W := fun cls d _ H => E cls d H) rfl rfl rfl rfl rfl rfl nd rfl (fun z => by cases z) (L2N.takes_of rfl rfl rfl rfl) (fun z => by cases z) rm (fun _ => ⟨p, hp, List.mem_cons_self⟩) (fun _ => rfl) (fun _ _ _ _ _ z => by cases z)
  rwa [hG] at this
theorem spF_len {m : List Nat} {np : Nat} {cf : List S → Out} (hl : ∀ ss, ss.length ≠ np → cf ss = .bad) {vs : List V} {H : Hp} {Q : VK} {E : XK} (h : spF G m cf vs H Q E) : vs.length = np := by
  obtain ⟨ss, fs, F, r⟩ := h
  have e : ss.length = vs.length := by have := F.len; simpa using this
  by_cases hh : ss.length = np
  · rw [← e, hh]
  · rw [hl ss hh] at r; exact r.elim
theorem run_len {f : Nat} {fn : Fn} (hf : T.fns[f]? = some fn) : ∀ {n : Nat} {ss : List S}, ss.length ≠ fn.np → run T n f ss = .bad
  | 0, ss, h => rfl
  | n + 1, ss, h => by
    show (match T.fns[f]? with
      | none => Out.bad
      | some fn => if ss.length = fn.np then _ else .bad) = .bad
    rw [hf]
    exact if_neg h
/-- what a body is asked -/
theorem body_ask (B : Glb T g G ad nms mg) {f : Nat} {fn : Fn} (hf : T.fns[f]? = some fn) {n : Nat} {N : List Str} {vs : List V} {H : Hp} {Q : VK} {E : XK} {mp : List Nat} (hp : (g.ps f).length = fn.np) (hn : N.length = fn.nn) (h1 : ∀ i, i ∈ fn.mt → i ∈ mp) (h2 : ∀ i, i ∈ mp → i < fn.np → i ∈ fn.mt) (h3 : ∀ i, i ∈ fn.mt → i < fn.np ∧ i ∉ asgSs fn.body)
    (h : spF G (T.mt f) (run T (n + 1) f) vs H Q E) : ∃ fs, tS ⟨H, L2.start N vs, fs, mp, asgSs fn.body⟩ G (fun cls d _ H => E cls d H) (execs (T.cal (run T n)) T.U fn.body) { nx := fun _ H' => Q .non H', rt := Q } (L2.start N vs) H := by
  have hv : vs.length = fn.np := spF_len (fun ss => run_len hf) h
  obtain ⟨ss, fs, F, r⟩ := h
  have e : ss.length = vs.length := by have := F.len; simpa using this
  have hs : ss.length = fn.np := e.trans hv
  have em : T.mt f = fn.mt := by unfold Tab.mt; rw [hf]; rfl
  have er : run T (n + 1) f ss = outOf fn.mt (execs (T.cal (run T n)) T.U fn.body (ss.map some ++ List.replicate (fn.nn - fn.np) none)) := by
    show (match T.fns[f]? with
      | none => Out.bad
      | some fn => if ss.length = fn.np then _ else .bad) = _
    rw [hf]
    exact if_pos hs
  rw [er, em] at r
  have F' : FR G H (vs.map some) (ss.map some) fs := by
    refine ⟨F.len, fun i s e => ?_, F.dis, F.trk⟩
    obtain ⟨v, ev, q⟩ := F.rep i s e
    refine ⟨v, ev, .inl ?_⟩
    rcases q with q | ⟨_, _, _, _, _, _, z, _⟩
    · exact (RepS.z _ _).mpr q
    · cases z
  refine ⟨cutF ss.length fs, _, _, start_fr (N := N) (m := fn.nn - fn.np) F' (by rw [hn, hv]), Big.start, ?_⟩
  exact wish B.cur F' h1 (fun i m z => h2 i m (by rw [← hs]; exact z)) (fun i m => by rw [hs]; exact (h3 i m).1) (fun i m => (h3 i m).2) r
theorem Glb.tab (B : Glb T g G ad nms mg) : ∀ n, TabOk T g G ad P w mg base n
  | 0 => fun f fn hf => by
    obtain ⟨oc, od, name, qual, params, body, scope, dV, kV, doc, pm, an, cdv, ct, osl, l, c, ps, sc, _⟩ := (B.dfs f fn hf).ex
    have hz : ∀ {vs H Q E}, ¬ spF G (T.mt f) (run T 0 f) vs H Q E := fun {vs H Q E} ⟨ss, fs, F, r⟩ => r.elim
    have nd : (g.ps f).Nodup := by rw [← sc.pre]; exact sc.nd.sublist (List.take_sublist _ _)
    exact ⟨PySem.W.fnOf name qual params body scope dV kV doc pm an cdv ct, ⟨⟨oc, od, osl, l⟩, ps⟩, binds_all ps nd, kw_bind ps (B.dfs f fn hf).kws, ⟨fun _ _ _ _ h => (hz h).elim, fun _ _ _ _ _ _ _ _ _ _ _ _ _ h => (hz h).elim⟩, fun _ => ⟨fun _ _ _ _ h => (hz h).elim, fun _ _ _ _ _ _ _ _ _ _ _ _ _ _ _ _ h => (hz h).elim⟩⟩
  | n + 1 => fun f fn hf => by
    have tb := Glb.tab B n
    have D := B.dfs f fn hf
    obtain ⟨oc, od, name, qual, params, body, scope, dV, kV, doc, pm, an, cdv, ct, osl, l, c, ps, sc, ck, ckH⟩ := D.ex
    have nd : (g.ps f).Nodup := by rw [← sc.pre]; exact sc.nd.sublist (List.take_sublist _ _)
    have len : ∀ vs H Q E, spF G (T.mt f) (run T (n + 1) f) vs H Q E → vs.length = (g.ps f).length := fun vs H Q E h => by rw [D.np]; exact spF_len (fun ss => run_len hf) h
    refine ⟨PySem.W.fnOf name qual params body scope dV kV doc pm an cdv ct, ⟨⟨oc, od, osl, l⟩, ps⟩, binds_all ps nd, kw_bind ps D.kws, ?_, fun hl => ?_⟩
    · refine fn_of (k := 2 * n + 2) l c sc len fun A outer s H vs Q E hr h => ?_
      obtain ⟨fs, q⟩ := body_ask B hf (mp := fn.mt ++ mutSs (g.at (nms f) false) fn.body) D.np D.nn (fun i m => List.mem_append_left _ m) (fun i m hi => (List.mem_append.mp m).elim id fun m => (D.mu i m).elim id fun z => absurd hi (by omega)) D.mt h
      exact ⟨_, sts_sound fn.body (B.sok tb sc.nd sc.kind hr) ck (fun i m => List.mem_append_right _ m) (fun i m => m), q⟩
    · refine L2H.fn_ofH (k := 2 * n + 2) l c sc len fun A outer s H vs Q E p hp hr h => ?_
      obtain ⟨fs, q⟩ := body_ask B hf (mp := fn.mt ++ mutSs (g.at (nms f) true) fn.body) D.np D.nn (fun i m => List.mem_append_left _ m) (fun i m hi => (List.mem_append.mp m).elim id fun m => (D.muH hl i m).elim id fun z => absurd hi (by omega)) D.mt h
      exact ⟨_, sts_sound fn.body (B.sokH tb sc.nd sc.kind hp hr) (ckH hl) (fun i m => List.mem_append_right _ m) (fun i m => m), q⟩
end
end Vm
/-! Vq1 -/
namespace Vm
open PySem L2

structure Raw where
  fns : List Fn
  fnn : List Str
  nms : List (List Str)
  cls : List Str
  ini : List Nat
  mth : List (Option (Nat × Str))
  flds : List Str
  exF : List (List Nat)
  exm : List (Nat × Nat × Bool)
  atl : List (Nat × Nat)
  hl : List Nat
  kws : List (Nat × List Str)
  wf : Nat
def Raw.tab (r : Raw) : Tab := ⟨r.fns, r.ini, r.mth.map fun o => o.map (·.1), ⟨fun c => (r.exF[c]?).getD [], fun e c => (r.exm.find? fun p => p.1 == e && p.2.1 == c).map (·.2.2), fun c f => r.atl.contains (c, f), r.wf⟩⟩
def Raw.np (r : Raw) (f : Nat) : Nat := ((r.fns[f]?).map (·.np)).getD 0
def Raw.nm (r : Raw) (f : Nat) : List Str := (r.nms[f]?).getD []
def Raw.gm (r : Raw) : Gm where
  nt := ⟨r.fnn, r.cls, r.flds, r.mth⟩
  N := []
  mt := r.tab.mt
  ini := r.tab.in
  ps := fun f => (r.nm f).take (r.np f)
  hot := false
  hl := fun f => r.hl.contains f
  kws := fun f => (r.kws.filter fun p => p.1 == f).map (·.2)
/-- a name for every number -/
def fnL (l : List Str) (f : Nat) : Str := match l[f]? with
  | some n => n
  | none => ⟨Array.replicate (f + 100) 32⟩
def adL (l : List Addr) (f : Nat) : Addr := (l[f]?).getD 0
def Raw.pg (r : Raw) (K : PySem.W.Frag) (cas : List Addr) : Pg := ⟨K, adL cas, fnL r.flds, fun c f => r.atl.contains (c, f) = true, none⟩

def refIs (o : Option (Option Value)) (a : Addr) : Bool := match o with
  | some (some (.ref b)) => b == a
  | _ => false
def noIs (o : Option (Option Value)) : Bool := match o with
  | some none => true
  | _ => false
def biIs (o : Option (Option Value)) (s : String) : Bool := match o with
  | some (some (.builtin t)) => t == s
  | _ => false
def tyIs (o : Option Value) (s : String) : Bool := match o with
  | some (.type t) => t == s
  | _ => false
def yesIs (o : Option Bool) (b : Bool) : Bool := match o with
  | some c => c == b
  | none => false
theorem refIs_ok {o : Option (Option Value)} {a : Addr} (h : refIs o a = true) : o = some (some (.ref a)) := by
  unfold refIs at h
  split at h
  · rw [beq_iff_eq.mp h]
  · cases h
theorem noIs_ok {o : Option (Option Value)} (h : noIs o = true) : o = some none := by
  unfold noIs at h
  split at h
  · rfl
  · cases h
theorem biIs_ok {o : Option (Option Value)} {s : String} (h : biIs o s = true) : o = some (some (.builtin s)) := by
  unfold biIs at h
  split at h
  · rw [beq_iff_eq.mp h]
  · cases h
theorem tyIs_ok {o : Option Value} {s : String} (h : tyIs o s = true) : o = some (.type s) := by
  unfold tyIs at h
  split at h
  · rw [beq_iff_eq.mp h]
  · cases h
theorem yesIs_ok {o : Option Bool} {b : Bool} (h : yesIs o b = true) : o = some b := by
  unfold yesIs at h
  split at h
  · rw [beq_iff_eq.mp h]
  · cases h
def plainPsB (fd : FuncData) (ps : List Str) : Bool := fd.params.posonlyargs.isEmpty && decide (fd.params.args.map (·.arg) = ps) && fd.params.vararg.isNone && fd.params.kwonlyargs.isEmpty && fd.params.kwarg.isNone && (match fd.defaults with
  | .none => true
  | _ => false)
theorem plainPs_ok {fd : FuncData} {ps : List Str} (h : plainPsB fd ps = true) : PlainPs fd ps := by
  unfold plainPsB at h
  simp only [Bool.and_eq_true, List.isEmpty_iff, decide_eq_true_eq, Option.isNone_iff_eq_none] at h
  obtain ⟨⟨⟨⟨⟨h1, h2⟩, h3⟩, h4⟩, h5⟩, h6⟩ := h
  refine ⟨h1, h2, h3, h4, h5, ?_⟩
  split at h6
  · assumption
  · cases h6
def scopeB (N P : List Str) (sc : Scope) : Bool := (match sc.kind with
  | .function => true
  | _ => false) && !sc.isCoroutine && !sc.isGenerator && decide N.Nodup && decide (N.take P.length = P) && P.all (locB sc) && sc.names.all fun y => match y.2 with
  | .free => false
  | _ => true
theorem scope_ok {N P : List Str} {sc : Scope} (h : scopeB N P sc = true) : FnScope N P sc := by
  unfold scopeB at h
  simp only [Bool.and_eq_true, Bool.not_eq_true', decide_eq_true_eq, List.all_eq_true] at h
  obtain ⟨⟨⟨⟨⟨⟨h1, h2⟩, h3⟩, h4⟩, h5⟩, h6⟩, h7⟩ := h
  refine ⟨?_, h2, h3, h4, h5, fun x m => loc_of (h6 x m), fun y m z => ?_⟩
  · split at h1
    · assumption
    · cases h1
  · have := h7 y m
    rw [z] at this
    cases this
/-- a def as the top leaves it -/
def fdB (K : PySem.W.Frag) (fd : FuncData) (ps : List Str) (go : Scope → List Stmt → Bool) : Bool := match fd.body with
  | .stmts body => decide (fd.globals = mainGlobals) && fd.closure.isEmpty && decide (fd.builtins = builtinsNs) && PySem.W.codeIn K fd.code fd.qualname && plainPsB fd ps && go fd.scope body
  | .expr _ => false
def atFd (K : PySem.W.Frag) (a : Addr) (go : FuncData → Bool) : Bool := match K.lookup a with
  | some ⟨_, _, .func fd, _⟩ => go fd
  | _ => false
theorem atFd_ok {K : PySem.W.Frag} {a : Addr} {ps : List Str} {go : Scope → List Stmt → Bool} (h : atFd K a (fun fd => fdB K fd ps go) = true) : ∃ (oc : Value) (od : Option Addr) (name qual : Str) (params : Arguments) (body : List Stmt) (scope : Scope) (dV kV doc pm : Value) (an : Option Addr) (cdv ct : Value) (osl : Array (Option Value)),
    K.lookup a = some ⟨oc, od, .func (PySem.W.fnOf name qual params body scope dV kV doc pm an cdv ct), osl⟩ ∧ PySem.W.codeIn K cdv qual = true ∧ PlainPs (PySem.W.fnOf name qual params body scope dV kV doc pm an cdv ct) ps ∧ go scope body = true := by
  unfold atFd at h
  split at h
  · rename_i oc od fd osl hl
    obtain ⟨name, qual, params, body, scope, gl, cl, dV, kV, doc, pm, an, cdv, ct, bt⟩ := fd
    unfold fdB at h
    cases body with
    | expr _ => cases h
    | stmts body =>
      simp only [Bool.and_eq_true, decide_eq_true_eq, List.isEmpty_iff] at h
      obtain ⟨⟨⟨⟨⟨h1, h2⟩, h3⟩, h4⟩, h5⟩, h6⟩ := h
      subst h1 h2 h3
      exact ⟨oc, od, name, qual, params, body, scope, dV, kV, doc, pm, an, cdv, ct, osl, hl, h4, plainPs_ok h5, h6⟩
  · cases h
def Raw.defB (r : Raw) (K : PySem.W.Frag) (f : Nat) (a : Addr) (fn : Fn) : Bool :=
  atFd K a (fun fd => fdB K fd (r.gm.ps f) fun sc body => scopeB (r.nm f) (r.gm.ps f) sc && chkSs (r.gm.at (r.nm f) false) r.tab.U fn.body sc body && (!r.gm.hl f || chkSs (r.gm.at (r.nm f) true) r.tab.U fn.body sc body)) &&
  PySem.W.keepIn K (.ref a) && (r.gm.kws f).all (kwsB (r.gm.ps f)) && decide ((r.gm.ps f).length = fn.np) && decide ((r.nm f).length = fn.nn) && (mutSs (r.gm.at (r.nm f) false) fn.body).all (fun i => fn.mt.contains i || decide (fn.np ≤ i)) &&
  (!r.gm.hl f || (mutSs (r.gm.at (r.nm f) true) fn.body).all fun i => fn.mt.contains i || decide (fn.np ≤ i)) && fn.mt.all fun i => decide (i < fn.np) && !(asgSs fn.body).contains i
theorem def_ok {r : Raw} {K : PySem.W.Frag} {f : Nat} {a : Addr} {fn : Fn} (h : r.defB K f a fn = true) : DefAt r.tab r.gm K (r.nm f) f a fn := by
  unfold Raw.defB at h
  simp only [Bool.and_eq_true, decide_eq_true_eq] at h
  obtain ⟨⟨⟨⟨⟨⟨⟨h1, h2⟩, h3⟩, h4⟩, h5⟩, h6⟩, h7⟩, h8⟩ := h
  obtain ⟨oc, od, name, qual, params, body, scope, dV, kV, doc, pm, an, cdv, ct, osl, k1, k2, k3, k4⟩ := atFd_ok h1
  simp only [Bool.and_eq_true] at k4
  obtain ⟨⟨k4, k5⟩, k6⟩ := k4
  have mem : ∀ {l : List Nat}, (l.all fun i => fn.mt.contains i || decide (fn.np ≤ i)) = true → ∀ i, i ∈ l → i ∈ fn.mt ∨ fn.np ≤ i := fun {l} h i m => by
    have := List.all_eq_true.mp h i m
    rw [Bool.or_eq_true, decide_eq_true_eq] at this
    exact this.imp (fun z => by simpa using z) id
  refine ⟨⟨oc, od, name, qual, params, body, scope, dV, kV, doc, pm, an, cdv, ct, osl, k1, k2, k3, scope_ok k4, k5, fun z => ?_⟩, h2, h3, h4, h5, mem h6, fun z => ?_, fun i m => ?_⟩
  · rw [z] at k6; simpa using k6
  · rw [z] at h7; exact mem (by simpa using h7)
  · have := List.all_eq_true.mp h8 i m
    rw [Bool.and_eq_true, decide_eq_true_eq] at this
    exact ⟨this.1, not_contains this.2⟩
def clsK (K : PySem.W.Frag) (C : Addr) : Bool := PySem.W.plainGet K C Str.empty && PySem.W.hasDictIn K C && PySem.W.plainOver K C && biIs (PySem.W.findIn K (.ref C) "__setattr__") "object.__setattr__"
theorem clsK_ok {K : PySem.W.Frag} {C : Addr} (h : clsK K C = true) : Cls K C := by
  unfold clsK at h
  simp only [Bool.and_eq_true] at h
  obtain ⟨⟨⟨h1, h2⟩, h3⟩, h4⟩ := h
  exact ⟨h1, h2, h3, biIs_ok h4⟩
def excK (K : PySem.W.Frag) (C : Addr) : Bool := biIs (PySem.W.findIn K (.ref C) "__getattribute__") "BaseException.__getattribute__" && noIs (PySem.W.findIn K (.ref C) "__getattr__") && yesIs (PySem.W.subIn K (.ref C) (.type "BaseException")) true && PySem.W.hasDictIn K C &&
  biIs (PySem.W.findIn K (.ref C) "__class__") "object.__class__" && biIs (PySem.W.specialIn K (.builtin "object.__class__") "__get__") "getset_descriptor.__get__" && yesIs (PySem.W.takesIn K (.builtin "object.__class__")) true && yesIs (PySem.W.mroIn K C (.type "object")) true
theorem excK_ok {K : PySem.W.Frag} {C : Addr} (h : excK K C = true) : XfC K C ∧ ExcC K C := by
  unfold excK at h
  simp only [Bool.and_eq_true] at h
  obtain ⟨⟨⟨⟨⟨⟨⟨h1, h2⟩, h3⟩, h4⟩, h5⟩, h6⟩, h7⟩, h8⟩ := h
  exact ⟨⟨biIs_ok h1, noIs_ok h2, yesIs_ok h3, h4⟩, ⟨biIs_ok h1, noIs_ok h2, yesIs_ok h3, h4, biIs_ok h5, biIs_ok h6, yesIs_ok h7, yesIs_ok h8⟩⟩
/-- a class of exceptions -/
def oexK (K : PySem.W.Frag) (C : Addr) : Bool := (match K.lookup C with
  | some ⟨.type t, _, .cls cd, sl⟩ => t == "type" && cd.hasDict && !cd.hasDel && (match cd.mro with
    | .ref D :: bm => D == C && PySem.HandSPX.refsVE bm
    | _ => false) && (match sl.toList with
    | [_, _, _, _, some (.builtin n), _] => n == "ValueError.__new__"
    | _ => false)
  | _ => false) && biIs (PySem.W.findIn K (.ref C) "__setattr__") "object.__setattr__" && yesIs (PySem.W.subIn K (.ref C) (.type "BaseException")) true && tyIs (PySem.W.typeIn K (.ref C)) "type" && PySem.W.keepIn K (.ref C)
theorem oexK_ok {K : PySem.W.Frag} {C : Addr} (h : oexK K C = true) : OexC K C := by
  unfold oexK at h
  simp only [Bool.and_eq_true] at h
  obtain ⟨⟨⟨⟨h1, h2⟩, h3⟩, h4⟩, h5⟩ := h
  refine ⟨?_, biIs_ok h2, yesIs_ok h3, tyIs_ok h4, h5⟩
  split at h1
  · rename_i t dd cd sl hl
    simp only [Bool.and_eq_true, Bool.not_eq_true'] at h1
    obtain ⟨⟨⟨⟨k1, k2⟩, k3⟩, k4⟩, k5⟩ := h1
    have e1 := beq_iff_eq.mp k1
    subst e1
    obtain ⟨nm, bs, mro, ns, qn, hd, sn, sb, ab, col, del⟩ := cd
    dsimp only at k2 k3 k4
    subst k2 k3
    split at k4
    · rename_i D bm
      rw [Bool.and_eq_true, beq_iff_eq] at k4
      obtain ⟨rfl, k4⟩ := k4
      split at k5
      · rename_i s0 s1 s2 s3 n s5 hs
        rw [beq_iff_eq] at k5
        subst k5
        obtain ⟨sl⟩ := sl
        have hs : sl = [s0, s1, s2, s3, some (.builtin "ValueError.__new__"), s5] := hs
        subst hs
        exact ⟨nm, qn, ns, bs, bm, sn, sb, ab, col, dd, s0, s1, s2, s3, s5, hl, k4⟩
      · cases k5
    · cases k4
  · cases h1
/-- its __init__ -/
def Raw.rzB (r : Raw) (K : PySem.W.Frag) (C : Addr) (fs : List Nat) : Bool := oexK K C && (match PySem.W.findIn K (.ref C) "__init__" with
  | some (some (.ref f)) => tyIs (PySem.W.typeIn K (.ref f)) "function" && atFd K f (fun fd => fdB K fd (fd.params.args.map (·.arg)) fun sc body => scopeB (fd.params.args.map (·.arg)) (fd.params.args.map (·.arg)) sc && decide ((fd.params.args.map (·.arg)).length = fs.length + 1) && iniB (fd.params.args.map (·.arg)) sc 1 (fs.map (fnL r.flds)) body)
  | _ => false) && decide (fs ≠ []) && decide (fs.length ≤ 900) && fs.all fun f => noIs (PySem.W.findIn K (.ref C) (fnL r.flds f))
theorem rz_ok {r : Raw} {K : PySem.W.Frag} {C : Addr} {fs : List Nat} (h : r.rzB K C fs = true) : ∃ f fd ps, OexC K C ∧ PySem.W.findIn K (.ref C) "__init__" = some (some (.ref f)) ∧ PySem.W.typeIn K (.ref f) = some (.type "function") ∧
    (∀ (P : Program) (w : World) (mg : Str → Option Value) (base : Heap) (CX : CXT), FnOk P w K mg base CX 1 f fd ps (spEx C (fs.map (fnL r.flds)))) ∧ Binds K fd ps [] := by
  unfold Raw.rzB at h
  simp only [Bool.and_eq_true, decide_eq_true_eq] at h
  obtain ⟨⟨⟨⟨h1, h2⟩, h3⟩, h4⟩, h5⟩ := h
  split at h2
  · rename_i f hf
    rw [Bool.and_eq_true] at h2
    obtain ⟨k1, k2⟩ := h2
    unfold atFd at k2
    split at k2
    · rename_i oc od fd osl hl
      have k2 : atFd K f (fun fd' => fdB K fd' (fd.params.args.map (·.arg)) fun sc body => scopeB (fd.params.args.map (·.arg)) (fd.params.args.map (·.arg)) sc && decide ((fd.params.args.map (·.arg)).length = fs.length + 1) && iniB (fd.params.args.map (·.arg)) sc 1 (fs.map (fnL r.flds)) body) = true := by
        unfold atFd
        rw [hl]
        exact k2
      obtain ⟨oc, od, name, qual, params, body, scope, dV, kV, doc, pm, an, cdv, ct, osl, l1, l2, l3, l4⟩ := atFd_ok k2
      simp only [Bool.and_eq_true, decide_eq_true_eq] at l4
      obtain ⟨⟨m1, m2⟩, m3⟩ := l4
      have S := scope_ok m1
      refine ⟨f, _, _, oexK_ok h1, hf, tyIs_ok k1, fun P w mg base CX => ex_init (names := fs.map (fnL r.flds)) l1 l2 S (oexK_ok h1) (fun n m => ?_) (by simpa using m2) (by simpa using h3) (by rw [List.length_map]; exact h4) m3, binds_all l3 S.nd⟩
      obtain ⟨i, mi, rfl⟩ := List.mem_map.mp m
      exact noIs_ok (List.all_eq_true.mp h5 i mi)
    · cases k2
  · cases h2
/-- the number of every item -/
def eachB {α : Type} (go : Nat → α → Bool) : Nat → List α → Bool
  | _, [] => true
  | n, a :: l => go n a && eachB go (n + 1) l
theorem each_ok {α : Type} {go : Nat → α → Bool} : ∀ {l : List α} {n : Nat}, eachB go n l = true → ∀ i a, l[i]? = some a → go (n + i) a = true
  | [], n, h, i, a, e => by simp at e
  | b :: l, n, h, 0, a, e => by
    unfold eachB at h
    rw [Bool.and_eq_true] at h
    cases e
    exact h.1
  | b :: l, n, h, i + 1, a, e => by
    unfold eachB at h
    rw [Bool.and_eq_true] at h
    have := each_ok h.2 i a (by simpa using e)
    rwa [show n + (i + 1) = n + 1 + i by omega]
theorem fnL_inj {l : List Str} (nd : l.Nodup) (hl : (l.all fun x => decide (x.cps.size < 100)) = true) (j k : Nat) (h : fnL l j = fnL l k) : j = k := by
  have big : ∀ i, l[i]? = none → (fnL l i).cps.size = i + 100 := fun i e => by
    unfold fnL
    rw [e]
    exact Array.size_replicate
  have small : ∀ i n, l[i]? = some n → fnL l i = n ∧ n.cps.size < 100 := fun i n e => by
    refine ⟨?_, ?_⟩
    · unfold fnL; rw [e]
    · have := List.all_eq_true.mp hl n (List.mem_of_getElem? e)
      simpa using this
  cases ej : l[j]? with
  | none => cases ek : l[k]? with
    | none =>
      have := congrArg (fun x : Str => x.cps.size) h
      simp only [big j ej, big k ek] at this
      omega
    | some n =>
      obtain ⟨e1, e2⟩ := small k n ek
      have := congrArg (fun x : Str => x.cps.size) h
      simp only [big j ej, e1] at this
      omega
  | some m =>
    obtain ⟨e1, e2⟩ := small j m ej
    cases ek : l[k]? with
    | none =>
      have := congrArg (fun x : Str => x.cps.size) h
      simp only [big k ek, e1] at this
      omega
    | some n =>
      obtain ⟨e3, e4⟩ := small k n ek
      rw [e1, e3] at h
      subst h
      obtain ⟨hj, ej⟩ := List.getElem?_eq_some_iff.mp ej
      obtain ⟨hk, ek⟩ := List.getElem?_eq_some_iff.mp ek
      rcases Nat.lt_trichotomy j k with z | z | z
      · exact absurd (ej.trans ek.symm) (List.pairwise_iff_getElem.mp nd j k hj hk z)
      · exact z
      · exact absurd (ek.trans ej.symm) (List.pairwise_iff_getElem.mp nd k j hk hj z)
end Vm
/-! Vq2 -/
namespace Vm
open PySem L2

def methK (K : PySem.W.Frag) (C : Addr) (n : Str) (a : Addr) : Bool := refIs (PySem.W.findIn K (.ref C) n) a && PySem.W.isFn K (.ref a) && PySem.W.keepIn K (.ref a)
theorem methK_ok {K : PySem.W.Frag} {C : Addr} {n : Str} {a : Addr} (h : methK K C n a = true) : Meth K C n a := by
  unfold methK at h
  simp only [Bool.and_eq_true] at h
  exact ⟨refIs_ok h.1.1, h.1.2, h.2⟩
def mkK (K : PySem.W.Frag) (C f : Addr) : Bool := PySem.W.makesIn K C && refIs (PySem.W.findIn K (.ref C) "__init__") f && PySem.W.isFn K (.ref f) && PySem.W.keepIn K (.ref C)
theorem mkK_ok {K : PySem.W.Frag} {C f : Addr} (h : mkK K C f = true) : Mk K C f := by
  unfold mkK at h
  simp only [Bool.and_eq_true] at h
  exact ⟨h.1.1.1, refIs_ok h.1.1.2, h.1.2, h.2⟩
def Raw.methB (r : Raw) (K : PySem.W.Frag) (ads cas : List Addr) (f : Nat) (o : Option (Nat × Str)) : Bool := match o with
  | none => true
  | some (c, n) => clsK K (adL cas c) && r.atl.all (fun p => p.1 != c || decide (fnL r.flds p.2 ≠ n)) && methK K (adL cas c) n (adL ads f) && decide (f < r.fns.length)
def Raw.cvL (cas : List Addr) (c : Nat) : Value := if c = 1000 then .type "ValueError" else .ref (adL cas c)
/-- what the top has left, but the defs -/
def Raw.facts (r : Raw) (K : PySem.W.Frag) (ads cas : List Addr) : Bool :=
  biNames.all (fun b => noIs (PySem.W.nsIn K mainGlobals b)) &&
  eachB (fun f nm => refIs (PySem.W.nsIn K mainGlobals nm) (adL ads f) && decide (f < r.fns.length)) 0 r.fnn &&
  r.atl.all (fun p => clsK K (adL cas p.1) && noIs (PySem.W.findIn K (.ref (adL cas p.1)) (fnL r.flds p.2))) &&
  decide r.flds.Nodup && r.flds.all (fun x => decide (x.cps.size < 100)) &&
  eachB (r.methB K ads cas) 0 r.mth &&
  eachB (fun c nm => refIs (PySem.W.nsIn K mainGlobals nm) (adL cas c)) 0 r.cls &&
  eachB (fun c _ => (r.gm.ps (r.gm.ini c)).isEmpty || (PySem.W.keepIn K (.ref (adL cas c)) && mkK K (adL cas c) (adL ads (r.gm.ini c)) && decide (r.gm.ini c < r.fns.length))) 0 r.cls &&
  r.exm.all (fun p => excK K (adL cas p.1) && r.flds.all (fun n => noIs (PySem.W.findIn K (.ref (adL cas p.1)) n)) && yesIs (PySem.W.kitOne K (.ref (adL cas p.1)) (Raw.cvL cas p.2.1)) p.2.2 && yesIs (PySem.W.exmOne K (.ref (adL cas p.1)) (Raw.cvL cas p.2.1)) p.2.2) &&
  eachB (fun c _ => (r.tab.U.exF c).isEmpty || r.rzB K (adL cas c) (r.tab.U.exF c)) 0 r.cls
def Raw.defs (r : Raw) (K : PySem.W.Frag) (ads : List Addr) : Bool := eachB (fun f fn => r.defB K f (adL ads f) fn) 0 r.fns
theorem Raw.glb {r : Raw} {K : PySem.W.Frag} {ads cas : List Addr} {h : Heap} {mg : Str → Option Value} (X : K.In h) (G : h.Ns mainGlobals mg) (hf : r.facts K ads cas = true) (hd : r.defs K ads = true) : Glb r.tab r.gm (r.pg K cas) (adL ads) r.nm mg := by
  unfold Raw.facts at hf
  simp only [Bool.and_eq_true] at hf
  obtain ⟨⟨⟨⟨⟨⟨⟨⟨⟨h1, h2⟩, h3⟩, h4⟩, h5⟩, h6⟩, h7⟩, h8⟩, h9⟩, h10⟩ := hf
  have get : ∀ {f : Nat}, f < r.fns.length → ∃ fn, r.tab.fns[f]? = some fn := fun {f} z => ⟨r.fns[f], List.getElem?_eq_getElem z⟩
  refine ⟨rfl, rfl, rfl, fun b m => PySem.W.mg_none_of X G (noIs_ok (List.all_eq_true.mp h1 b m)), fun f nm e => ?_, fun c f e => ?_, fnL_inj (of_decide_eq_true h4) h5, fun f n e => ?_, fun c f e => e, fun f c n e => ?_, fun c nm e => ?_, fun c nm e hp => ?_, fun c k b e => ?_, fun c nm e hp => ?_, fun f fn e => ?_⟩
  · have := each_ok h2 f nm e
    rw [Nat.zero_add, Bool.and_eq_true, decide_eq_true_eq] at this
    exact ⟨PySem.W.mg_of X G (refIs_ok this.1), get this.2⟩
  · have m : (c, f) ∈ r.atl := by simpa using (show r.atl.contains (c, f) = true from e)
    have := List.all_eq_true.mp h3 _ m
    rw [Bool.and_eq_true] at this
    exact ⟨clsK_ok this.1, noIs_ok this.2⟩
  · show fnL r.flds f = n
    unfold fnL
    rw [show r.flds[f]? = some n from e]
  · have e : (r.mth[f]?).join = some (c, n) := e
    cases q : r.mth[f]? with
    | none => rw [q] at e; cases e
    | some o =>
      rw [q] at e
      have e : o = some (c, n) := e
      subst e
      have := each_ok h6 f _ q
      rw [Nat.zero_add] at this
      unfold Raw.methB at this
      simp only [Bool.and_eq_true, decide_eq_true_eq] at this
      obtain ⟨⟨⟨k1, k2⟩, k3⟩, k4⟩ := this
      refine ⟨?_, clsK_ok k1, fun k hk => ?_, methK_ok k3, get k4⟩
      · show ((r.mth.map fun o => o.map (·.1))[f]?).join = some c
        rw [List.getElem?_map, q]
        rfl
      · have m : (c, k) ∈ r.atl := by simpa using (show r.atl.contains (c, k) = true from hk)
        have := List.all_eq_true.mp k2 _ m
        rw [Bool.or_eq_true, decide_eq_true_eq] at this
        exact this.elim (fun z => by simp at z) id
  · have := each_ok h7 c nm e
    rw [Nat.zero_add] at this
    exact PySem.W.mg_of X G (refIs_ok this)
  · have := each_ok h8 c nm e
    rw [Nat.zero_add, Bool.or_eq_true, List.isEmpty_iff] at this
    rcases this with z | this
    · rw [z] at hp; exact absurd rfl hp
    · simp only [Bool.and_eq_true, decide_eq_true_eq] at this
      exact ⟨this.1.1, mkK_ok this.1.2, get this.2⟩
  · have e : (r.exm.find? fun p => p.1 == c && p.2.1 == k).map (·.2.2) = some b := e
    cases q : r.exm.find? fun p => p.1 == c && p.2.1 == k with
    | none => rw [q] at e; cases e
    | some p =>
      rw [q] at e
      have eb : p.2.2 = b := Option.some.inj e
      have hp := List.find?_some q
      have m := List.mem_of_find?_eq_some q
      rw [Bool.and_eq_true, beq_iff_eq, beq_iff_eq] at hp
      obtain ⟨rfl, rfl⟩ := hp
      subst eb
      have := List.all_eq_true.mp h9 _ m
      simp only [Bool.and_eq_true] at this
      obtain ⟨⟨⟨k1, k2⟩, k3⟩, k4⟩ := this
      exact ⟨(excK_ok k1).1, (excK_ok k1).2, fun f n e => noIs_ok (List.all_eq_true.mp k2 n (List.mem_of_getElem? e)), yesIs_ok k3, yesIs_ok k4⟩
  · have := each_ok h10 c nm e
    rw [Nat.zero_add, Bool.or_eq_true, List.isEmpty_iff] at this
    rcases this with z | this
    · exact absurd z hp
    · exact rz_ok this
  · have := each_ok hd f fn e
    rw [Nat.zero_add] at this
    exact def_ok this
/-- no list is one of the module's own objects -/
def noLists (K : PySem.W.Frag) : Bool := K.all fun p => match p.2.cls, p.2.data with
  | .type t, .seq _ _ => t != "list"
  | _, _ => true
theorem noLists_ok : ∀ {K : PySem.W.Frag} {a : Addr} {o : Obj} {its : Array Value} {n : Nat}, noLists K = true → K.lookup a = some o → o.cls = .type "list" → o.data = .seq its n → False
  | [], a, o, its, n, h, e, hc, hd => by cases e
  | (b, u) :: K, a, o, its, n, h, e, hc, hd => by
    unfold noLists at h
    rw [List.all_cons, Bool.and_eq_true] at h
    rw [List.lookup_cons] at e
    split at e
    · cases e
      have := h.1
      dsimp only at this
      rw [hc, hd] at this
      simp at this
    · exact noLists_ok (K := K) h.2 e hc hd
theorem ints_repD {K : PySem.W.Frag} {H : Hp} : ∀ {ns : List Int}, RepDs K H (ns.map D.int) (ns.map V.int)
  | [] => by rw [List.map_nil, RepDs]; rfl
  | i :: ns => by
    rw [List.map_cons, List.map_cons, RepDs]
    exact ⟨_, _, rfl, by rw [RepD], ints_repD⟩
theorem walk {l : PySem.W.OpenLaw} {q : Program} {loose : List Str} {XP : (Str → Option Value) → Heap → Prop} {YP : World → Heap → Prop} {d : DefRec} {K : Params → PySem.W.Frag} {r : Raw} {ads cas : List Addr} {n m law : Nat} {x : Str} (hn : l.most = some n) (hn2 : n ≤ sizeLine) (hdf : d.params.defaults = []) (hr : Room (2 * m + 1) callerA)
    (hY : ∀ (w : World) (h : Heap), YP w h → (K w.params).In h) (hf : ∀ w : World, r.facts (K w.params) ads cas = true) (hd : ∀ w : World, r.defs (K w.params) ads = true) (hk : ∀ w : World, noLists (K w.params) = true) (hl : r.fnn[law]? = some d.name) (hp : r.gm.ps law = [x]) (hm : r.tab.mt law = [])
    (hrun : ∀ ns : List Int, ns.length ≤ n → run r.tab m law [.v (.fls (ns.map D.int))] = .ok (.v (.bl true)) []) : PySem.W.WalkO q loose XP YP l.row.toRowW d [] (fun f vs => PySem.call f vs) := by
  refine walk_of (n := n) (k := 2 * m + 1) (x := x) (K := K) (CX := fun w => L2N.CX l.prog w) (sp := fun w => spF (r.pg (K w.params) cas) (r.tab.mt law) (run r.tab m law)) hn hn2 hdf hr hY (fun w mg fa h X G hmg => ?_) (fun w H a ns hl' hO hS => ?_) fun w H s e s' z => ?_
  · have B0 := Raw.glb X G (hf w) (hd w)
    obtain ⟨e1, fn, e2⟩ := B0.fns law _ hl
    have ea : fa = adL ads law := by
      rw [hmg] at e1
      cases e1; rfl
    subst ea
    obtain ⟨oc, od, name, qual, params, body, scope, dV, kV, doc, pm, an, cdv, ct, osl, l1, l2, l3, _⟩ := (B0.dfs law fn e2).ex
    refine ⟨PySem.W.fnOf name qual params body scope dV kV doc pm an cdv ct, fun s u => ?_, fun base Xb Gb => ?_⟩
    · rw [hp] at l3
      refine .of_eq ?_
      rw [bind_gen l3 (Nat.le_refl _) (fun _ z => by cases z) (by exact List.nodup_nil) (fun _ z => by cases z) fun y my => ?_]
      · simp
      · have : y = x := by simpa using my
        subst this
        simp
    · obtain ⟨fd, ⟨⟨oc', od', osl', k1⟩, _⟩, _, _, F, _⟩ := (Raw.glb Xb Gb (hf w) (hd w)).tab (P := l.prog) (w := w) (base := base) m law fn e2
      have k1 : (K w.params).lookup (adL ads law) = _ := k1
      have k1 := (show (K w.params).lookup (adL ads law) = _ from l1).symm.trans k1
      cases k1
      rw [hp] at F
      exact F
  · rcases hS with (z | ⟨o, z⟩) | ⟨o, its, k, h1, h2, _, h4, _⟩
    · rcases hO a with y | ⟨_, _, y⟩
      · rw [z] at y; cases y
      · rw [z] at y; cases y
    · refine ⟨[.v (.fls (ns.map D.int))], fun _ => none', ⟨rfl, fun i s e => ?_, fun _ _ _ z => z.elim, fun _ _ z => z.elim⟩, ?_⟩
      · cases i with
        | zero =>
          cases e
          refine ⟨_, rfl, .inl ?_⟩
          rw [RepS, RepD]
          exact ⟨a, _, o, rfl, z, by rw [List.length_map]; exact Nat.le_trans hl' hn2, ints_repD⟩
        | succ i => simp at e
      · rw [hrun ns hl']
        intro H' fs' F' st v vp
        have := vp.toD
        rw [RepD] at this
        exact this
    · exact (noLists_ok (hk w) h1 h2 h4).elim
  · obtain ⟨_, _, _, _, _, _, _, _, _, _, _, _, w⟩ := z
    exact w
end Vm
/-! VK0 -/
namespace K46
open PySem Vm
-- classes [(0, 'LookError'), (1, 'PaperError'), (2, 'WebError'), (3, 'NotUsable'), (4, 'CommandWalk')]
-- fields [(0, 'dots'), (1, 'ties'), (2, 'angles'), (3, 'waits'), (4, 'seen'), (5, 'flipped'), (6, 'signed'), (7, 'names'), (8, 'word'), (9, 'at')]
-- 0: is_integer(thing); slots ['thing']
def b0 : Sts := .cons (.ret (.and (.cons (.isi (.nm 0) .int) (.cons (.not (.isi (.nm 0) .bool)) .nil)))) .nil
def f0 : Fn := ⟨1, 1, [], b0⟩
-- 1: is_number(thing); slots ['thing']
def b1 : Sts := .cons (.ret (.and (.cons (.call 0 (.cons (.nm 0) .nil)) (.cons (.cmp .ge (.nm 0) (.c (.int 0))) .nil)))) .nil
def f1 : Fn := ⟨1, 1, [], b1⟩
-- 2: account_of(program); slots ['program', 'walk', 'dots', 'web', 'dot', 'out']
def b2 : Sts := .cons (.set (.nm 1) (.new 4 (.cons (.nm 0) .nil))) (.cons (.set (.nm 2) (.bi .tuple (.cons (.bi .sorted (.cons (.att (.nm 1) 0) .nil)) .nil))) (.cons (.set (.nm 3) (.tup (.cons (.nm 2) (.cons (.bi .tuple (.cons (.bi .sorted (.cons (.att (.nm 1) 1) .nil)) .nil)) (.cons (.ix (.nm 0) (.c (.int 0))) (.cons (.ix (.nm 0) (.c (.int 1))) .nil)))))) (.cons (.ret (.tup (.cons (.mv 3) (.cons (.bi .tuple (.cons (.lc (.ix (.att (.nm 1) 2) (.nm 4)) [4] (.nm 2) (.nil)) .nil)) (.cons (.bi .tuple (.cons (.lc (.mcall 25 1 (.cons (.ix (.att (.nm 1) 3) (.nm 4)) .nil)) [4] (.bi .sorted (.cons (.att (.nm 1) 4) .nil)) (.nil)) .nil)) (.cons (.bi .tuple (.cons (.lc (.mcall 25 1 (.cons (.ix (.att (.nm 1) 5) (.nm 5)) .nil)) [5] (.ix (.nm 0) (.c (.int 1))) (.nil)) .nil)) (.cons (.bi .tuple (.cons (.lc (.mcall 25 1 (.cons (.ix (.att (.nm 1) 6) (.nm 5)) .nil)) [5] (.ix (.nm 0) (.c (.int 1))) (.nil)) .nil)) .nil))))))) .nil)))
def f2 : Fn := ⟨1, 6, [], b2⟩
-- 3: names_of(program); slots ['program', 'walk', 'dot']
def b3 : Sts := .cons (.set (.nm 1) (.new 4 (.cons (.nm 0) .nil))) (.cons (.ret (.bi .tuple (.cons (.lc (.tup (.cons (.nm 2) (.cons (.mcall 25 1 (.cons (.ix (.att (.nm 1) 7) (.nm 2)) .nil)) .nil))) [2] (.bi .sorted (.cons (.att (.nm 1) 4) .nil)) (.nil)) .nil))) .nil)
def f3 : Fn := ⟨1, 3, [], b3⟩
-- 4: looked_of(web); slots ['web', 'dot']
def b4 : Sts := .cons (.ret (.bi .tuple (.cons (.lc (.nm 1) [1] (.ix (.nm 0) (.c (.int 0))) (.cons (.cmp .nin (.nm 1) (.ix (.nm 0) (.c (.int 3)))) .nil)) .nil))) .nil
def f4 : Fn := ⟨1, 2, [], b4⟩
-- 5: plan_in(account); slots ['account']
def b5 : Sts := .cons (.ret (.tup (.cons (.ix (.nm 0) (.c (.int 0))) (.cons (.ix (.nm 0) (.c (.int 1))) .nil)))) .nil
def f5 : Fn := ⟨1, 1, [], b5⟩
-- 6: waits_at(account, dot); slots ['account', 'dot', 'looked']
def b6 : Sts := .cons (.set (.nm 2) (.call 4 (.cons (.ix (.nm 0) (.c (.int 0))) .nil))) (.cons (.ife (.or (.cons (.not (.call 1 (.cons (.nm 1) .nil))) (.cons (.cmp .nin (.nm 1) (.nm 2)) .nil))) (.cons (.raise 3 (.cons (.c (.str "dot")) (.cons (.un .neg (.c (.int 1))) .nil))) .nil) (.nil)) (.cons (.ret (.ix (.ix (.nm 0) (.c (.int 2))) (.me .index (.nm 2) (.cons (.nm 1) .nil)))) .nil))
def f6 : Fn := ⟨2, 3, [], b6⟩
-- 7: arrows_in(account); slots ['account', 'looked', 'other', 'lot', 'one']
def b7 : Sts := .cons (.set (.nm 1) (.call 4 (.cons (.ix (.nm 0) (.c (.int 0))) .nil))) (.cons (.ret (.bi .tuple (.cons (.bi .sorted (.cons (.lc2 (.tup (.cons (.nm 4) (.cons (.nm 2) .nil))) [2, 3] (.zip (.cons (.nm 1) (.cons (.ix (.nm 0) (.c (.int 2))) .nil))) (.nil) [4] (.nm 3) (.nil)) .nil)) .nil))) .nil)
def f7 : Fn := ⟨1, 5, [], b7⟩
-- 8: _law_pick(tape, many); slots ['tape', 'many', 'cell', 'got']
def b8 : Sts := .cons (.ife (.cmp .lt (.nm 1) (.c (.int 2))) (.cons (.ret (.c (.int 0))) .nil) (.nil)) (.cons (.ife (.and (.cons (.cmp .eq (.ix (.nm 0) (.c (.int 0))) (.c (.int 0))) (.cons (.cmp .lt (.ix (.nm 0) (.c (.int 2))) (.bi .len (.cons (.ix (.nm 0) (.c (.int 3))) .nil))) .nil))) (.cons (.set (.nm 2) (.ix (.ix (.nm 0) (.c (.int 3))) (.ix (.nm 0) (.c (.int 2))))) (.cons (.set (.sub 0 [] (.c (.int 2))) (.bin .add (.ix (.nm 0) (.c (.int 2))) (.c (.int 1)))) (.cons (.ife (.cmp .ge (.bi .abs (.cons (.nm 2) .nil)) (.bin .pow (.c (.int 10)) (.c (.int 18)))) (.cons (.set (.sub 0 [] (.c (.int 0))) (.bin .add (.bin .mul (.c (.int 2)) (.bi .abs (.cons (.nm 2) .nil))) (.bi .int (.cons (.cmp .lt (.nm 2) (.c (.int 0))) .nil)))) .nil) (.cons (.set (.sub 0 [] (.c (.int 1))) (.bin .mod (.bi .int (.cons (.bin .add (.bin .add (.bin .mul (.ix (.nm 0) (.c (.int 1))) (.c (.int 40692))) (.bin .mod (.bi .int (.cons (.nm 2) .nil)) (.c (.int 2147483399)))) (.c (.int 461))) .nil)) (.c (.int 2147483399)))) .nil)) .nil))) (.nil)) (.cons (.ife (.cmp .gt (.ix (.nm 0) (.c (.int 0))) (.c (.int 0))) (.cons (.set (.nm 3) (.bin .mod (.bi .int (.cons (.ix (.nm 0) (.c (.int 0))) .nil)) (.nm 1))) (.cons (.set (.sub 0 [] (.c (.int 0))) (.bin .fdiv (.ix (.nm 0) (.c (.int 0))) (.nm 1))) (.cons (.ret (.mv 3)) .nil))) (.nil)) (.cons (.set (.sub 0 [] (.c (.int 1))) (.bin .mod (.bi .int (.cons (.bin .add (.bin .mul (.ix (.nm 0) (.c (.int 1))) (.c (.int 40014))) (.c (.int 4603))) .nil)) (.c (.int 2147483563)))) (.cons (.ret (.bin .mod (.bi .int (.cons (.bin .fdiv (.bin .mod (.bi .int (.cons (.bin .add (.bin .mul (.ix (.nm 0) (.c (.int 1))) (.c (.int 69621))) (.c (.int 461))) .nil)) (.c (.int 2147483647))) (.c (.int 13))) .nil)) (.nm 1))) .nil))))
def f8 : Fn := ⟨2, 4, [0], b8⟩
-- 9: _law_same(got, due); slots ['got', 'due', 'k']
def b9 : Sts := .cons (.ife (.cmp .is (.nm 1) (.c (.non))) (.cons (.ret (.cmp .is (.nm 0) (.c (.non)))) .nil) (.nil)) (.cons (.ife (.cmp .is (.nm 1) (.c (.bl true))) (.cons (.ret (.cmp .is (.nm 0) (.c (.bl true)))) .nil) (.nil)) (.cons (.ife (.cmp .is (.nm 1) (.c (.bl false))) (.cons (.ret (.cmp .is (.nm 0) (.c (.bl false)))) .nil) (.nil)) (.cons (.ife (.isi (.nm 1) .int) (.cons (.ret (.and (.cons (.isi (.nm 0) .int) (.cons (.not (.isi (.nm 0) .bool)) (.cons (.cmp .eq (.nm 0) (.nm 1)) .nil))))) .nil) (.nil)) (.cons (.ife (.isi (.nm 1) .str) (.cons (.ret (.and (.cons (.isi (.nm 0) .str) (.cons (.cmp .eq (.nm 0) (.nm 1)) .nil)))) .nil) (.nil)) (.cons (.ife (.or (.cons (.not (.isi (.nm 0) .tuple)) (.cons (.cmp .ne (.bi .len (.cons (.nm 0) .nil)) (.bi .len (.cons (.nm 1) .nil))) .nil))) (.cons (.ret (.c (.bl false))) .nil) (.nil)) (.cons (.loop [2] (.rng (.cons (.bi .len (.cons (.nm 1) .nil)) .nil)) (.cons (.ife (.not (.call 9 (.cons (.ix (.nm 0) (.nm 2)) (.cons (.ix (.nm 1) (.nm 2)) .nil)))) (.cons (.ret (.c (.bl false))) .nil) (.nil)) .nil)) (.cons (.ret (.c (.bl true))) .nil)))))))
def f9 : Fn := ⟨2, 3, [], b9⟩
-- 10: _law_names(tape, many); slots ['tape', 'many', 'kind', 'few', 'names', 'k', 'one', 'lap']
def b10 : Sts := .cons (.set (.nm 2) (.call 8 (.cons (.nm 0) (.cons (.c (.int 3)) .nil)))) (.cons (.set (.nm 3) (.lst (.cons (.c (.int 0)) (.cons (.c (.int 9)) (.cons (.c (.int 10)) (.cons (.c (.int 99)) (.cons (.c (.int 100)) (.cons (.c (.int 101)) (.cons (.c (.int 999)) (.cons (.c (.int 1000)) (.cons (.c (.int 9998)) (.cons (.c (.int 9999)) (.cons (.c (.int 2)) (.cons (.c (.int 12)) .nil)))))))))))))) (.cons (.set (.nm 4) (.lst (.nil))) (.cons (.loop [5] (.rng (.cons (.nm 1) .nil)) (.cons (.ife (.cmp .eq (.nm 2) (.c (.int 0))) (.cons (.set (.nm 6) (.call 8 (.cons (.nm 0) (.cons (.bin .add (.nm 1) (.c (.int 2))) .nil)))) .nil) (.cons (.ife (.cmp .eq (.nm 2) (.c (.int 1))) (.cons (.set (.nm 6) (.ix (.nm 3) (.call 8 (.cons (.nm 0) (.cons (.bi .len (.cons (.nm 3) .nil)) .nil))))) .nil) (.cons (.set (.nm 6) (.call 8 (.cons (.nm 0) (.cons (.c (.int 10000)) .nil)))) .nil)) .nil)) (.cons (.loop [7] (.rng (.cons (.nm 1) .nil)) (.cons (.ife (.cmp .inn (.nm 6) (.nm 4)) (.cons (.set (.nm 6) (.bin .mod (.bi .int (.cons (.bin .add (.nm 6) (.c (.int 1))) .nil)) (.c (.int 10000)))) .nil) (.nil)) .nil)) (.cons (.ex (.mu .append 4 [] (.cons (.nm 6) .nil))) .nil)))) (.cons (.ret (.mv 4)) .nil))))
def f10 : Fn := ⟨2, 8, [0], b10⟩
-- 11: _law_odd(olds, lot); slots ['olds', 'lot', 'dot']
def b11 : Sts := .cons (.ret (.bin .mod (.bi .int (.cons (.bi .sum (.cons (.lc (.ix (.nm 0) (.nm 2)) [2] (.nm 1) (.nil)) .nil)) .nil)) (.c (.int 2)))) .nil
def f11 : Fn := ⟨2, 3, [], b11⟩
-- 12: _law_trace(program, alone); slots ['program', 'alone', 'olds', 'about', 'flip', 'sign', 'dot', 'row']
def b12 : Sts := .cons (.set (.nm 2) (.dnew false)) (.cons (.set (.nm 3) (.dnew false)) (.cons (.set (.nm 4) (.dnew false)) (.cons (.set (.nm 5) (.dnew false)) (.cons (.loop [6] (.ix (.nm 0) (.c (.int 0))) (.cons (.set (.sub 4 [] (.nm 6)) (.c (.int 0))) (.cons (.set (.sub 5 [] (.nm 6)) (.c (.int 0))) .nil))) (.cons (.loop [7] (.ix (.nm 0) (.c (.int 2))) (.cons (.set (.nm 6) (.ix (.nm 7) (.c (.int 1)))) (.cons (.ife (.cmp .eq (.ix (.nm 7) (.c (.int 0))) (.c (.str "new"))) (.cons (.set (.sub 4 [] (.nm 6)) (.c (.int 0))) (.cons (.set (.sub 5 [] (.nm 6)) (.c (.int 0))) .nil)) (.cons (.ife (.cmp .eq (.ix (.nm 7) (.c (.int 0))) (.c (.str "tie"))) (.cons (.set (.sub 5 [] (.nm 6)) (.bin .bxor (.ix (.nm 5) (.nm 6)) (.ix (.nm 4) (.ix (.nm 7) (.c (.int 2)))))) (.cons (.set (.sub 5 [] (.ix (.nm 7) (.c (.int 2)))) (.bin .bxor (.ix (.nm 5) (.ix (.nm 7) (.c (.int 2)))) (.ix (.nm 4) (.nm 6)))) .nil)) (.cons (.ife (.cmp .eq (.ix (.nm 7) (.c (.int 0))) (.c (.str "flip"))) (.cons (.set (.sub 4 [] (.nm 6)) (.bin .bxor (.ix (.nm 4) (.nm 6)) (.call 11 (.cons (.nm 2) (.cons (.ix (.nm 7) (.c (.int 2))) .nil))))) .nil) (.cons (.ife (.cmp .eq (.ix (.nm 7) (.c (.int 0))) (.c (.str "sign"))) (.cons (.set (.sub 5 [] (.nm 6)) (.bin .bxor (.ix (.nm 5) (.nm 6)) (.call 11 (.cons (.nm 2) (.cons (.ix (.nm 7) (.c (.int 2))) .nil))))) .nil) (.cons (.set (.sub 3 [] (.nm 6)) (.bin .bxor (.ix (.nm 4) (.nm 6)) (.call 11 (.cons (.nm 2) (.cons (.ix (.nm 7) (.c (.int 3))) .nil))))) (.cons (.set (.sub 2 [] (.nm 6)) (.bin .bxor (.bin .bxor (.bi .int (.cons (.cmp .eq (.nm 6) (.nm 1)) .nil)) (.ix (.nm 5) (.nm 6))) (.call 11 (.cons (.nm 2) (.cons (.ix (.nm 7) (.c (.int 4))) .nil))))) .nil))) .nil)) .nil)) .nil)) .nil))) (.cons (.ret (.tup (.cons (.mv 2) (.cons (.mv 3) (.cons (.mv 4) (.cons (.mv 5) .nil)))))) .nil))))))
def f12 : Fn := ⟨2, 8, [], b12⟩
-- 13: _law_whose(looked, told, part, dot); slots ['looked', 'told', 'part', 'dot', 'one']
def b13 : Sts := .cons (.ret (.bi .tuple (.cons (.lc (.nm 4) [4] (.nm 0) (.cons (.cmp .eq (.ix (.ix (.ix (.nm 1) (.nm 4)) (.nm 2)) (.nm 3)) (.c (.int 1))) .nil)) .nil))) .nil
def f13 : Fn := ⟨4, 5, [], b13⟩
-- 14: _law_due(program); slots ['program', 'looks', 'looked', 'dots', 'laid', 'ties', 'turn', 'row', 'outs', 'k', 'told', 'one', 'web', 'waits', 'flips', 'signs', 'names', 'pair', 'dot']
def b14 : Sts := .cons (.set (.nm 1) (.lc (.nm 7) [7] (.ix (.nm 0) (.c (.int 2))) (.cons (.cmp .eq (.ix (.nm 7) (.c (.int 0))) (.c (.str "look"))) .nil))) (.cons (.set (.nm 2) (.bi .sorted (.cons (.lc (.ix (.nm 7) (.c (.int 1))) [7] (.nm 1) (.nil)) .nil))) (.cons (.set (.nm 3) (.bi .sorted (.cons (.bin .add (.bi .list (.cons (.ix (.nm 0) (.c (.int 0))) .nil)) (.lc (.ix (.nm 7) (.c (.int 1))) [7] (.ix (.nm 0) (.c (.int 2))) (.cons (.cmp .eq (.ix (.nm 7) (.c (.int 0))) (.c (.str "new"))) .nil))) .nil))) (.cons (.set (.nm 4) (.lc (.tup (.cons (.ix (.nm 7) (.c (.int 1))) (.cons (.ix (.nm 7) (.c (.int 2))) .nil))) [7] (.ix (.nm 0) (.c (.int 2))) (.cons (.cmp .eq (.ix (.nm 7) (.c (.int 0))) (.c (.str "tie"))) .nil))) (.cons (.set (.nm 5) (.bi .tuple (.cons (.lc (.nm 17) [17] (.bi .sset (.cons (.nm 4) .nil)) (.cons (.cmp .eq (.bin .mod (.bi .int (.cons (.me .count (.nm 4) (.cons (.nm 17) .nil)) .nil)) (.c (.int 2))) (.c (.int 1))) .nil)) .nil))) (.cons (.set (.nm 6) (.dnew false)) (.cons (.loop [7] (.nm 1) (.cons (.set (.sub 6 [] (.ix (.nm 7) (.c (.int 1)))) (.ix (.nm 7) (.c (.int 2)))) .nil)) (.cons (.set (.nm 8) (.ix (.nm 0) (.c (.int 1)))) (.cons (.loop [9] (.rng (.cons (.bi .len (.cons (.nm 8) .nil)) .nil)) (.cons (.set (.sub 6 [] (.ix (.nm 8) (.nm 9))) (.bin .mod (.bi .int (.cons (.bin .sub (.c (.int 8)) (.ix (.ix (.nm 0) (.c (.int 3))) (.nm 9))) .nil)) (.c (.int 8)))) .nil)) (.cons (.set (.nm 10) (.dnew false)) (.cons (.loop [11] (.nm 2) (.cons (.set (.sub 10 [] (.nm 11)) (.call 12 (.cons (.nm 0) (.cons (.nm 11) .nil)))) .nil)) (.cons (.set (.nm 12) (.tup (.cons (.bi .tuple (.cons (.nm 3) .nil)) (.cons (.nm 5) (.cons (.ix (.nm 0) (.c (.int 0))) (.cons (.nm 8) .nil)))))) (.cons (.set (.nm 13) (.bi .tuple (.cons (.lc (.call 13 (.cons (.nm 2) (.cons (.nm 10) (.cons (.c (.int 1)) (.cons (.nm 18) .nil))))) [18] (.nm 2) (.nil)) .nil))) (.cons (.set (.nm 14) (.bi .tuple (.cons (.lc (.call 13 (.cons (.nm 2) (.cons (.nm 10) (.cons (.c (.int 2)) (.cons (.nm 18) .nil))))) [18] (.nm 8) (.nil)) .nil))) (.cons (.set (.nm 15) (.bi .tuple (.cons (.lc (.call 13 (.cons (.nm 2) (.cons (.nm 10) (.cons (.c (.int 3)) (.cons (.nm 18) .nil))))) [18] (.nm 8) (.nil)) .nil))) (.cons (.set (.nm 16) (.bi .tuple (.cons (.lc (.tup (.cons (.nm 18) (.cons (.call 13 (.cons (.nm 2) (.cons (.nm 10) (.cons (.c (.int 0)) (.cons (.nm 18) .nil))))) .nil))) [18] (.nm 2) (.nil)) .nil))) (.cons (.ret (.tup (.cons (.tup (.cons (.nm 12) (.cons (.bi .tuple (.cons (.lc (.ix (.nm 6) (.nm 18)) [18] (.nm 3) (.nil)) .nil)) (.cons (.nm 13) (.cons (.nm 14) (.cons (.nm 15) .nil)))))) (.cons (.mv 16) .nil)))) .nil))))))))))))))))
def f14 : Fn := ⟨1, 19, [], b14⟩
-- 15: _law_lot(tape, seen); slots ['tape', 'seen', 'kind', 'dot']
def b15 : Sts := .cons (.set (.nm 2) (.call 8 (.cons (.nm 0) (.cons (.c (.int 4)) .nil)))) (.cons (.ife (.cmp .eq (.nm 2) (.c (.int 0))) (.cons (.ret (.tup (.nil))) .nil) (.nil)) (.cons (.ife (.cmp .eq (.nm 2) (.c (.int 1))) (.cons (.ret (.bi .tuple (.cons (.slc (.nm 1) (.un .neg (.c (.int 1))) (.om)) .nil))) .nil) (.nil)) (.cons (.ret (.bi .tuple (.cons (.bi .sorted (.cons (.lc (.nm 3) [3] (.nm 1) (.cons (.cmp .eq (.call 8 (.cons (.nm 0) (.cons (.c (.int 2)) .nil))) (.c (.int 1))) .nil)) .nil)) .nil))) .nil)))
def f15 : Fn := ⟨2, 4, [0], b15⟩
-- 16: _law_command(tape, rows, live, seen, names, used); slots ['tape', 'rows', 'live', 'seen', 'names', 'used', 'kind', 'more', 'dot', 'others', 'other', 'fresh', 'one']
def b16 : Sts := .cons (.set (.nm 6) (.call 8 (.cons (.nm 0) (.cons (.c (.int 10)) .nil)))) (.cons (.set (.nm 7) (.cmp .lt (.nm 5) (.bi .len (.cons (.nm 4) .nil)))) (.cons (.ife (.and (.cons (.or (.cons (.cmp .lt (.nm 6) (.c (.int 2))) (.cons (.cmp .eq (.bi .len (.cons (.nm 2) .nil)) (.c (.int 0))) .nil))) (.cons (.nm 7) (.cons (.cmp .lt (.bi .len (.cons (.nm 2) .nil)) (.c (.int 6))) .nil)))) (.cons (.ex (.mu .append 1 [] (.cons (.tup (.cons (.c (.str "new")) (.cons (.ix (.nm 4) (.nm 5)) .nil))) .nil))) (.cons (.ex (.mu .append 2 [] (.cons (.ix (.nm 4) (.nm 5)) .nil))) (.cons (.ret (.bin .add (.nm 5) (.c (.int 1)))) .nil))) (.nil)) (.cons (.ife (.cmp .eq (.bi .len (.cons (.nm 2) .nil)) (.c (.int 0))) (.cons (.ret (.nm 5)) .nil) (.nil)) (.cons (.set (.nm 8) (.ix (.nm 2) (.call 8 (.cons (.nm 0) (.cons (.bi .len (.cons (.nm 2) .nil)) .nil))))) (.cons (.ife (.and (.cons (.cmp .lt (.nm 6) (.c (.int 4))) (.cons (.cmp .gt (.bi .len (.cons (.nm 2) .nil)) (.c (.int 1))) .nil))) (.cons (.set (.nm 9) (.lc (.nm 12) [12] (.nm 2) (.cons (.cmp .ne (.nm 12) (.nm 8)) .nil))) (.cons (.set (.nm 10) (.ix (.nm 9) (.call 8 (.cons (.nm 0) (.cons (.bi .len (.cons (.nm 9) .nil)) .nil))))) (.cons (.ex (.mu .append 1 [] (.cons (.tup (.cons (.c (.str "tie")) (.cons (.bi .min2 (.cons (.nm 8) (.cons (.nm 10) .nil))) (.cons (.bi .max2 (.cons (.nm 8) (.cons (.nm 10) .nil))) .nil)))) .nil))) .nil))) (.cons (.ife (.cmp .lt (.nm 6) (.c (.int 6))) (.cons (.ex (.mu .append 1 [] (.cons (.tup (.cons (.c (.str "flip")) (.cons (.nm 8) (.cons (.call 15 (.cons (.nm 0) (.cons (.nm 3) .nil))) .nil)))) .nil))) .nil) (.cons (.ife (.cmp .lt (.nm 6) (.c (.int 7))) (.cons (.ex (.mu .append 1 [] (.cons (.tup (.cons (.c (.str "sign")) (.cons (.nm 8) (.cons (.call 15 (.cons (.nm 0) (.cons (.nm 3) .nil))) .nil)))) .nil))) .nil) (.cons (.ife (.cmp .lt (.nm 6) (.c (.int 8))) (.cons (.ex (.mu .append 1 [] (.cons (.tup (.cons (.c (.str "look")) (.cons (.nm 8) (.cons (.call 8 (.cons (.nm 0) (.cons (.c (.int 8)) .nil))) (.cons (.call 15 (.cons (.nm 0) (.cons (.nm 3) .nil))) (.cons (.call 15 (.cons (.nm 0) (.cons (.nm 3) .nil))) .nil)))))) .nil))) (.cons (.ex (.mu .remove 2 [] (.cons (.nm 8) .nil))) (.cons (.ex (.mu .append 3 [] (.cons (.nm 8) .nil))) .nil))) (.cons (.ife (.nm 7) (.cons (.set (.nm 11) (.ix (.nm 4) (.nm 5))) (.cons (.ex (.mu .append 1 [] (.cons (.tup (.cons (.c (.str "new")) (.cons (.nm 11) .nil))) .nil))) (.cons (.ex (.mu .append 1 [] (.cons (.tup (.cons (.c (.str "tie")) (.cons (.bi .min2 (.cons (.nm 8) (.cons (.nm 11) .nil))) (.cons (.bi .max2 (.cons (.nm 8) (.cons (.nm 11) .nil))) .nil)))) .nil))) (.cons (.ex (.mu .append 1 [] (.cons (.tup (.cons (.c (.str "look")) (.cons (.nm 8) (.cons (.call 8 (.cons (.nm 0) (.cons (.c (.int 8)) .nil))) (.cons (.call 15 (.cons (.nm 0) (.cons (.nm 3) .nil))) (.cons (.call 15 (.cons (.nm 0) (.cons (.nm 3) .nil))) .nil)))))) .nil))) (.cons (.ex (.mu .append 1 [] (.cons (.tup (.cons (.c (.str "flip")) (.cons (.nm 11) (.cons (.tup (.cons (.nm 8) .nil)) .nil)))) .nil))) (.cons (.set (.sub 2 [] (.me .index (.nm 2) (.cons (.nm 8) .nil))) (.nm 11)) (.cons (.ex (.mu .append 3 [] (.cons (.nm 8) .nil))) (.cons (.ret (.bin .add (.nm 5) (.c (.int 1)))) .nil)))))))) (.nil)) .nil)) .nil)) .nil)) .nil)) (.cons (.ret (.nm 5)) .nil))))))
def f16 : Fn := ⟨6, 13, [0, 1, 2, 3], b16⟩
-- 17: _law_program(tape, most, wide); slots ['tape', 'most', 'wide', 'names', 'live', 'ins', 'used', 'seen', 'rows', 'least', 'lap', 'outs', 'k', 'dot']
def b17 : Sts := .cons (.set (.nm 3) (.call 10 (.cons (.nm 0) (.cons (.nm 2) .nil)))) (.cons (.set (.nm 4) (.slc (.nm 3) (.om) (.call 8 (.cons (.nm 0) (.cons (.c (.int 4)) .nil))))) (.cons (.set (.nm 5) (.bi .tuple (.cons (.nm 4) .nil))) (.cons (.set (.nm 6) (.bi .len (.cons (.nm 4) .nil))) (.cons (.set (.nm 7) (.lst (.nil))) (.cons (.set (.nm 8) (.lst (.nil))) (.cons (.set (.nm 9) (.ix (.lst (.cons (.c (.int 0)) (.cons (.bin .fdiv (.nm 1) (.c (.int 2))) (.cons (.bin .fdiv (.nm 1) (.c (.int 2))) (.cons (.bin .sub (.nm 1) (.bin .fdiv (.nm 1) (.c (.int 4)))) .nil))))) (.call 8 (.cons (.nm 0) (.cons (.c (.int 4)) .nil))))) (.cons (.loop [10] (.rng (.cons (.bin .add (.nm 9) (.call 8 (.cons (.nm 0) (.cons (.bin .add (.bin .sub (.nm 1) (.nm 9)) (.c (.int 1))) .nil)))) .nil)) (.cons (.ife (.cmp .le (.bin .add (.bi .len (.cons (.nm 8) .nil)) (.c (.int 4))) (.nm 1)) (.cons (.set (.nm 6) (.call 16 (.cons (.nm 0) (.cons (.nm 8) (.cons (.nm 4) (.cons (.nm 7) (.cons (.nm 3) (.cons (.nm 6) .nil)))))))) .nil) (.nil)) .nil)) (.cons (.set (.nm 11) (.lst (.nil))) (.cons (.loop [12] (.rng (.cons (.bi .len (.cons (.nm 4) .nil)) .nil)) (.cons (.ex (.mu .append 11 [] (.cons (.mu .popAt 4 [] (.cons (.call 8 (.cons (.nm 0) (.cons (.bi .len (.cons (.nm 4) .nil)) .nil))) .nil)) .nil))) .nil)) (.cons (.ret (.tup (.cons (.mv 5) (.cons (.bi .tuple (.cons (.nm 11) .nil)) (.cons (.bi .tuple (.cons (.nm 8) .nil)) (.cons (.bi .tuple (.cons (.lc (.call 8 (.cons (.nm 0) (.cons (.c (.int 8)) .nil))) [13] (.nm 11) (.nil)) .nil)) .nil)))))) .nil))))))))))
def f17 : Fn := ⟨3, 14, [0], b17⟩
-- 18: _law_refused(account, dot); slots ['account', 'dot', 'e']
def b18 : Sts := .cons (.tryE (.cons (.ex (.call 6 (.cons (.nm 0) (.cons (.nm 1) .nil)))) .nil) (.cons 3 (some 2) (.cons (.ife (.or (.cons (.not (.exi 2 2)) (.cons (.not (.exi 2 0)) (.cons (.exi 2 1) .nil)))) (.cons (.ret (.c (.bl false))) .nil) (.nil)) (.cons (.ret (.call 9 (.cons (.tup (.cons (.exf 2 8) (.cons (.exf 2 9) .nil))) (.cons (.tup (.cons (.c (.str "dot")) (.cons (.un .neg (.c (.int 1))) .nil))) .nil)))) .nil)) (.nil))) (.cons (.ret (.c (.bl false))) .nil)
def f18 : Fn := ⟨2, 3, [], b18⟩
-- 19: _law_parts(account); slots ['account', 'web', 'looked', 'arrows', 'k', 'plan', 'absent', 'odd', 'dot', 'one']
def b19 : Sts := .cons (.set (.nm 1) (.ix (.nm 0) (.c (.int 0)))) (.cons (.set (.nm 2) (.lc (.nm 8) [8] (.ix (.nm 1) (.c (.int 0))) (.cons (.cmp .nin (.nm 8) (.ix (.nm 1) (.c (.int 3)))) .nil))) (.cons (.set (.nm 3) (.lst (.nil))) (.cons (.loop [4] (.rng (.cons (.bi .len (.cons (.nm 2) .nil)) .nil)) (.cons (.ife (.not (.call 9 (.cons (.call 6 (.cons (.nm 0) (.cons (.ix (.nm 2) (.nm 4)) .nil))) (.cons (.ix (.ix (.nm 0) (.c (.int 2))) (.nm 4)) .nil)))) (.cons (.ret (.c (.bl false))) .nil) (.nil)) (.cons (.ife (.not (.call 9 (.cons (.callk 6 [1, 0] (.cons (.ix (.nm 2) (.nm 4)) (.cons (.nm 0) .nil))) (.cons (.ix (.ix (.nm 0) (.c (.int 2))) (.nm 4)) .nil)))) (.cons (.ret (.c (.bl false))) .nil) (.nil)) (.cons (.set (.nm 3) (.bin .add (.nm 3) (.lc (.tup (.cons (.nm 9) (.cons (.ix (.nm 2) (.nm 4)) .nil))) [9] (.ix (.ix (.nm 0) (.c (.int 2))) (.nm 4)) (.nil)))) .nil)))) (.cons (.set (.nm 5) (.tup (.cons (.nm 1) (.cons (.ix (.nm 0) (.c (.int 1))) .nil)))) (.cons (.ife (.or (.cons (.not (.call 9 (.cons (.call 5 (.cons (.nm 0) .nil)) (.cons (.nm 5) .nil)))) (.cons (.not (.call 9 (.cons (.callk 5 [0] (.cons (.nm 0) .nil)) (.cons (.nm 5) .nil)))) .nil))) (.cons (.ret (.c (.bl false))) .nil) (.nil)) (.cons (.ife (.not (.call 9 (.cons (.call 7 (.cons (.nm 0) .nil)) (.cons (.bi .tuple (.cons (.bi .sorted (.cons (.nm 3) .nil)) .nil)) .nil)))) (.cons (.ret (.c (.bl false))) .nil) (.nil)) (.cons (.set (.nm 6) (.lc (.nm 8) [8] (.rng (.cons (.c (.int 20)) .nil)) (.cons (.cmp .nin (.nm 8) (.ix (.nm 1) (.c (.int 0)))) .nil))) (.cons (.set (.nm 7) (.lst (.cons (.c (.non)) (.cons (.c (.bl true)) (.cons (.c (.bl false)) (.cons (.c (.str "0")) (.cons (.un .neg (.c (.int 1))) (.cons (.c (.int 10000)) (.cons (.ix (.nm 6) (.c (.int 0))) (.cons (.bi .tuple (.cons (.slc (.nm 2) (.om) (.c (.int 1))) .nil)) (.cons (.fz (.bi .list (.cons (.slc (.nm 2) (.om) (.c (.int 1))) .nil))) .nil))))))))))) (.cons (.loop [8] (.bin .add (.nm 7) (.bi .list (.cons (.ix (.nm 1) (.c (.int 3))) .nil))) (.cons (.ife (.not (.call 18 (.cons (.nm 0) (.cons (.nm 8) .nil)))) (.cons (.ret (.c (.bl false))) .nil) (.nil)) .nil)) (.cons (.ret (.call 9 (.cons (.callk 7 [0] (.cons (.nm 0) .nil)) (.cons (.bi .tuple (.cons (.bi .sorted (.cons (.nm 3) .nil)) .nil)) .nil)))) .nil))))))))))
def f19 : Fn := ⟨1, 10, [], b19⟩
-- 20: law(script); slots ['script', 'tape', 'most', 'one', 'other', 'due', 'also', 'again']
def b20 : Sts := .cons (.set (.nm 1) (.lst (.cons (.c (.int 0)) (.cons (.c (.int 46)) (.cons (.c (.int 0)) (.cons (.bi .list (.cons (.nm 0) .nil)) .nil)))))) (.cons (.set (.nm 2) (.ix (.lst (.cons (.c (.int 16)) (.cons (.c (.int 24)) (.cons (.c (.int 36)) (.cons (.c (.int 56)) .nil))))) (.call 8 (.cons (.nm 1) (.cons (.c (.int 4)) .nil))))) (.cons (.set (.nm 3) (.call 17 (.cons (.nm 1) (.cons (.nm 2) (.cons (.ix (.lst (.cons (.c (.int 5)) (.cons (.c (.int 8)) (.cons (.c (.int 10)) (.cons (.c (.int 16)) .nil))))) (.call 8 (.cons (.nm 1) (.cons (.c (.int 4)) .nil)))) .nil))))) (.cons (.set (.nm 4) (.call 17 (.cons (.nm 1) (.cons (.c (.int 20)) (.cons (.c (.int 6)) .nil))))) (.cons (.set (.nm 5) (.call 14 (.cons (.nm 3) .nil))) (.cons (.set (.nm 6) (.call 14 (.cons (.nm 4) .nil))) (.cons (.ife (.or (.cons (.not (.call 9 (.cons (.call 2 (.cons (.nm 3) .nil)) (.cons (.ix (.nm 5) (.c (.int 0))) .nil)))) (.cons (.not (.call 9 (.cons (.call 3 (.cons (.nm 3) .nil)) (.cons (.ix (.nm 5) (.c (.int 1))) .nil)))) .nil))) (.cons (.ret (.c (.bl false))) .nil) (.nil)) (.cons (.ife (.or (.cons (.not (.call 9 (.cons (.call 2 (.cons (.nm 4) .nil)) (.cons (.ix (.nm 6) (.c (.int 0))) .nil)))) (.cons (.not (.call 9 (.cons (.callk 3 [0] (.cons (.nm 4) .nil)) (.cons (.ix (.nm 6) (.c (.int 1))) .nil)))) .nil))) (.cons (.ret (.c (.bl false))) .nil) (.nil)) (.cons (.ife (.or (.cons (.not (.call 19 (.cons (.ix (.nm 5) (.c (.int 0))) .nil))) (.cons (.not (.call 19 (.cons (.ix (.nm 6) (.c (.int 0))) .nil))) .nil))) (.cons (.ret (.c (.bl false))) .nil) (.nil)) (.cons (.ife (.or (.cons (.not (.call 9 (.cons (.callk 2 [0] (.cons (.nm 3) .nil)) (.cons (.ix (.nm 5) (.c (.int 0))) .nil)))) (.cons (.not (.call 9 (.cons (.call 3 (.cons (.nm 3) .nil)) (.cons (.ix (.nm 5) (.c (.int 1))) .nil)))) .nil))) (.cons (.ret (.c (.bl false))) .nil) (.nil)) (.cons (.set (.nm 7) (.call 2 (.cons (.nm 4) .nil))) (.cons (.ife (.or (.cons (.not (.call 9 (.cons (.nm 7) (.cons (.ix (.nm 6) (.c (.int 0))) .nil)))) (.cons (.not (.call 9 (.cons (.call 3 (.cons (.nm 4) .nil)) (.cons (.ix (.nm 6) (.c (.int 1))) .nil)))) .nil))) (.cons (.ret (.c (.bl false))) .nil) (.nil)) (.cons (.ret (.call 19 (.cons (.nm 7) .nil))) .nil))))))))))))
def f20 : Fn := ⟨1, 8, [], b20⟩
-- 21: CommandWalk.__init__(self, program); slots ['self', 'program', 'command', 'out', 'turn', 'dot']
def b21 : Sts := .cons (.set (.att 0 [] 0) (.bi .list (.cons (.ix (.nm 1) (.c (.int 0))) .nil))) (.cons (.set (.att 0 [] 1) (.dnew true)) (.cons (.set (.att 0 [] 2) (.dnew false)) (.cons (.set (.att 0 [] 3) (.dnew false)) (.cons (.set (.att 0 [] 7) (.dnew false)) (.cons (.set (.att 0 [] 4) (.lst (.nil))) (.cons (.set (.att 0 [] 5) (.dc false (.nm 5) (.c (.int 0)) [5] (.ix (.nm 1) (.c (.int 0))) (.nil))) (.cons (.set (.att 0 [] 6) (.dc false (.nm 5) (.c (.int 0)) [5] (.ix (.nm 1) (.c (.int 0))) (.nil))) (.cons (.loop [2] (.ix (.nm 1) (.c (.int 2))) (.cons (.ex (.mcall 22 0 (.cons (.nm 2) .nil))) .nil)) (.cons (.loop [3, 4] (.zip (.cons (.ix (.nm 1) (.c (.int 1))) (.cons (.ix (.nm 1) (.c (.int 3))) .nil))) (.cons (.set (.sub 0 [2] (.nm 3)) (.bin .mod (.bin .sub (.c (.int 8)) (.nm 4)) (.c (.int 8)))) .nil)) .nil)))))))))
def f21 : Fn := ⟨2, 6, [0], b21⟩
-- 22: CommandWalk.follow(self, command); slots ['self', 'command', 'word', 'dot']
def b22 : Sts := .cons (.par [2, 3] (.cons (.ix (.nm 1) (.c (.int 0))) (.cons (.ix (.nm 1) (.c (.int 1))) .nil))) (.cons (.ife (.cmp .eq (.nm 2) (.c (.str "new"))) (.cons (.ex (.mu .append 0 [0] (.cons (.nm 3) .nil))) (.cons (.set (.sub 0 [5] (.nm 3)) (.c (.int 0))) (.cons (.set (.sub 0 [6] (.nm 3)) (.c (.int 0))) .nil))) (.cons (.ife (.cmp .eq (.nm 2) (.c (.str "tie"))) (.cons (.ex (.mcall 23 0 (.cons (.nm 3) (.cons (.ix (.nm 1) (.c (.int 2))) .nil)))) .nil) (.cons (.ife (.cmp .eq (.nm 2) (.c (.str "flip"))) (.cons (.aug (.sub 0 [5] (.nm 3)) .bxor (.mcall 24 0 (.cons (.ix (.nm 1) (.c (.int 2))) .nil))) .nil) (.cons (.ife (.cmp .eq (.nm 2) (.c (.str "sign"))) (.cons (.aug (.sub 0 [6] (.nm 3)) .bxor (.mcall 24 0 (.cons (.ix (.nm 1) (.c (.int 2))) .nil))) .nil) (.cons (.set (.sub 0 [2] (.nm 3)) (.ix (.nm 1) (.c (.int 2)))) (.cons (.set (.sub 0 [3] (.nm 3)) (.bin .bxor (.mcall 24 0 (.cons (.ix (.nm 1) (.c (.int 3))) .nil)) (.ix (.att (.nm 0) 5) (.nm 3)))) (.cons (.set (.sub 0 [7] (.nm 3)) (.bin .bxor (.bin .bxor (.bin .shl (.c (.int 1)) (.bi .len (.cons (.att (.nm 0) 4) .nil))) (.mcall 24 0 (.cons (.ix (.nm 1) (.c (.int 4))) .nil))) (.ix (.att (.nm 0) 6) (.nm 3)))) (.cons (.ex (.mu .append 0 [4] (.cons (.nm 3) .nil))) .nil))))) .nil)) .nil)) .nil)) .nil)
def f22 : Fn := ⟨2, 4, [0], b22⟩
-- 23: CommandWalk.toggle(self, one, other); slots ['self', 'one', 'other']
def b23 : Sts := .cons (.ife (.cmp .inn (.tup (.cons (.nm 1) (.cons (.nm 2) .nil))) (.att (.nm 0) 1)) (.cons (.del 0 [1] (.tup (.cons (.nm 1) (.cons (.nm 2) .nil)))) .nil) (.cons (.set (.sub 0 [1] (.tup (.cons (.nm 1) (.cons (.nm 2) .nil)))) (.c (.bl true))) .nil)) (.cons (.aug (.sub 0 [6] (.nm 2)) .bxor (.ix (.att (.nm 0) 5) (.nm 1))) (.cons (.aug (.sub 0 [6] (.nm 1)) .bxor (.ix (.att (.nm 0) 5) (.nm 2))) .nil))
def f23 : Fn := ⟨3, 3, [0], b23⟩
-- 24: CommandWalk.by_names(self, lot); slots ['self', 'lot', 'number', 'dot']
def b24 : Sts := .cons (.set (.nm 2) (.c (.int 0))) (.cons (.loop [3] (.nm 1) (.cons (.aug (.nm 2) .bxor (.ix (.att (.nm 0) 7) (.nm 3))) .nil)) (.cons (.ret (.mv 2)) .nil))
def f24 : Fn := ⟨2, 4, [], b24⟩
-- 25: CommandWalk.lot_by(self, number); slots ['self', 'number', 'k', 'dot']
def b25 : Sts := .cons (.ret (.bi .tuple (.cons (.bi .sorted (.cons (.lc (.nm 3) [2, 3] (.enu (.att (.nm 0) 4)) (.cons (.bin .band (.bin .shr (.nm 1) (.nm 2)) (.c (.int 1))) .nil)) .nil)) .nil))) .nil
def f25 : Fn := ⟨2, 4, [], b25⟩
def raw : Raw where
  fns := [f0, f1, f2, f3, f4, f5, f6, f7, f8, f9, f10, f11, f12, f13, f14, f15, f16, f17, f18, f19, f20, f21, f22, f23, f24, f25]
  fnn := ["is_integer", "is_number", "account_of", "names_of", "looked_of", "plan_in", "waits_at", "arrows_in", "_law_pick", "_law_same", "_law_names", "_law_odd", "_law_trace", "_law_whose", "_law_due", "_law_lot", "_law_command", "_law_program", "_law_refused", "_law_parts", "law"]
  nms := [["thing"],
    ["thing"],
    ["program", "walk", "dots", "web", "dot", "out"],
    ["program", "walk", "dot"],
    ["web", "dot"],
    ["account"],
    ["account", "dot", "looked"],
    ["account", "looked", "other", "lot", "one"],
    ["tape", "many", "cell", "got"],
    ["got", "due", "k"],
    ["tape", "many", "kind", "few", "names", "k", "one", "lap"],
    ["olds", "lot", "dot"],
    ["program", "alone", "olds", "about", "flip", "sign", "dot", "row"],
    ["looked", "told", "part", "dot", "one"],
    ["program", "looks", "looked", "dots", "laid", "ties", "turn", "row", "outs", "k", "told", "one", "web", "waits", "flips", "signs", "names", "pair", "dot"],
    ["tape", "seen", "kind", "dot"],
    ["tape", "rows", "live", "seen", "names", "used", "kind", "more", "dot", "others", "other", "fresh", "one"],
    ["tape", "most", "wide", "names", "live", "ins", "used", "seen", "rows", "least", "lap", "outs", "k", "dot"],
    ["account", "dot", "e"],
    ["account", "web", "looked", "arrows", "k", "plan", "absent", "odd", "dot", "one"],
    ["script", "tape", "most", "one", "other", "due", "also", "again"],
    ["self", "program", "command", "out", "turn", "dot"],
    ["self", "command", "word", "dot"],
    ["self", "one", "other"],
    ["self", "lot", "number", "dot"],
    ["self", "number", "k", "dot"]]
  cls := ["LookError", "PaperError", "WebError", "NotUsable", "CommandWalk"]
  ini := [1000000, 1000000, 1000000, 1000000, 21]
  mth := [none, none, none, none, none, none, none, none, none, none, none, none, none, none, none, none, none, none, none, none, none, none, some (4, "follow"), some (4, "toggle"), some (4, "by_names"), some (4, "lot_by")]
  flds := ["dots", "ties", "angles", "waits", "seen", "flipped", "signed", "names", "word", "at"]
  exF := [[], [], [], [8, 9], []]
  exm := [(3, 0, true), (3, 1, false), (3, 2, true), (3, 3, true), (3, 1000, true)]
  atl := [(4, 0), (4, 1), (4, 2), (4, 3), (4, 7), (4, 4), (4, 5), (4, 6)]
  hl := [9]
  kws := [(7, ["account"]), (6, ["dot", "account"]), (5, ["account"]), (3, ["program"]), (2, ["program"])]
  wf := 1000000
-- law is 20
end K46
/-! Vs1 -/
namespace Vm
variable {C : Cal} {U : Rules} {ρ : Fr} {α β : Type}
/-- it ends so -/
def Wp (r : R α) (P : α → Fr → Prop) (E : Ex → Fr → Prop) : Prop :=
  match r with
  | .bad => False
  | .ok a ρ => P a ρ
  | .ex e ρ => E e ρ
theorem wp_ok {a : α} {P : α → Fr → Prop} {E : Ex → Fr → Prop} : Wp (.ok a ρ) P E = P a ρ := rfl
theorem wp_ex {e : Ex} {P : α → Fr → Prop} {E : Ex → Fr → Prop} : Wp (.ex e ρ) P E = E e ρ := rfl
theorem wp_of {o : Option α} {P : α → Fr → Prop} {E : Ex → Fr → Prop} : Wp (R.of ρ o) P E = (∃ a, o = some a ∧ P a ρ) := by
  cases o with
  | none => simp [R.of, Wp]
  | some a => simp [R.of, Wp]
theorem wp_of_some {a : α} {P : α → Fr → Prop} {E : Ex → Fr → Prop} : Wp (R.of ρ (some a)) P E = P a ρ := rfl
theorem wp_bind {r : R α} {k : α → Fr → R β} {P : β → Fr → Prop} {E : Ex → Fr → Prop} : Wp (r.bind k) P E = Wp r (fun a ρ => Wp (k a ρ) P E) E := by cases r <;> rfl
theorem Wp.imp {r : R α} {P Q : α → Fr → Prop} {E F : Ex → Fr → Prop} (h : Wp r P E) (i : ∀ a ρ, P a ρ → Q a ρ) (j : ∀ e ρ, E e ρ → F e ρ) : Wp r Q F := by
  cases r with
  | bad => exact h
  | ok a ρ => exact i a ρ h
  | ex e ρ => exact j e ρ h
theorem wp_ite {c : Prop} [Decidable c] {a b : R α} {P : α → Fr → Prop} {E : Ex → Fr → Prop} : Wp (if c then a else b) P E = if c then Wp a P E else Wp b P E := by by_cases h : c <;> simp [h]
theorem pk_c {k : Cst} : (den C (.c k)).pk ρ = .ok (.v k.d) ρ := rfl
theorem pk_nm {i : Nat} : (den C (.nm i)).pk ρ = R.of ρ (getS ρ i) := rfl
theorem pk_mv {i : Nat} : (den C (.mv i)).pk ρ = (R.of ρ (getS ρ i)).bind fun s ρ => .ok s (ρ.set i none) := by
  show (match getS ρ i with
    | some s => R.ok s (ρ.set i none)
    | none => .bad) = _
  cases getS ρ i <;> rfl
theorem pk_fz {x : X} : (den C (.fz x)).pk ρ = (fzR (x, den C x) ρ).bind fun d ρ => .ok (.v d) ρ := rfl
theorem pk_att {x : X} {f : Nat} : (den C (.att x f)).pk ρ = ((den C x).pk ρ).bind fun s ρ => R.of ρ (fldGet s f) := rfl
theorem pk_ix {x i : X} : (den C (.ix x i)).pk ρ = ((den C x).pk ρ).bind fun s ρ => (XD.ev (i, den C i) ρ).bind fun k ρ => R.of ρ (getIx s k) := rfl
theorem pk_slc {x lo hi : X} : (den C (.slc x lo hi)).pk ρ = ((den C x).pk ρ).bind fun s ρ => ((den C lo).eo ρ).bind fun l ρ => ((den C hi).eo ρ).bind fun h ρ => R.of ρ (getSl s l h) := rfl
theorem pk_bin {o : Op2} {a b : X} : (den C (.bin o a b)).pk ρ = ((den C a).pk ρ).bind fun x ρ => ((den C b).pk ρ).bind fun y ρ => R.of ρ (op2 o x y) := rfl
theorem pk_un {o : Op1} {a : X} : (den C (.un o a)).pk ρ = ((den C a).pk ρ).bind fun x ρ => R.of ρ (op1 o x) := rfl
theorem pk_cmp {o : Cm} {a b : X} : (den C (.cmp o a b)).pk ρ = (XD.ev (a, den C a) ρ).bind fun x ρ => ((den C b).pk ρ).bind fun y ρ => R.of ρ ((cmpV o x y).map b01) := rfl
theorem pk_not {a : X} : (den C (.not a)).pk ρ = ((den C a).pk ρ).bind fun s ρ => (R.of ρ (truth s)).bind fun b ρ => .ok (b01 (!b)) ρ := rfl
theorem pk_and {xs : Xs} : (den C (.and xs)).pk ρ = vAndL (dens C xs) ρ := rfl
theorem pk_or {xs : Xs} : (den C (.or xs)).pk ρ = vOrL (dens C xs) ρ := rfl
theorem pk_ife {c a b : X} : (den C (.ife c a b)).pk ρ = ((den C c).ts ρ).bind fun t ρ => if t then XD.ev (a, den C a) ρ else XD.ev (b, den C b) ρ := rfl
theorem pk_tup {xs : Xs} : (den C (.tup xs)).pk ρ = (fzsL (dens C xs) ρ).bind fun ds ρ => .ok (.v (.tup true ds)) ρ := rfl
theorem pk_lst {xs : Xs} : (den C (.lst xs)).pk ρ = (evsL (dens C xs) ρ).bind fun ss ρ => .ok (.lst ss) ρ := rfl
theorem pk_dnew {t : Bool} : (den C (.dnew t)).pk ρ = .ok (.dic t []) ρ := rfl
theorem pk_bi {b : Bi} {xs : Xs} : (den C (.bi b xs)).pk ρ = (pksL (dens C xs) ρ).bind fun ss ρ => R.of ρ (bi b ss) := rfl
theorem pk_isi {x : X} {t : Ty} : (den C (.isi x t)).pk ρ = ((den C x).pk ρ).bind fun s ρ => R.of ρ ((isTy s t).map b01) := rfl
theorem pk_exf {i f : Nat} : (den C (.exf i f)).pk ρ = R.of ρ ((getX ρ i).bind fun x => fget x.2.1 (x.2.2.map S.v) f) := rfl
theorem pk_exi {i c : Nat} : (den C (.exi i c)).pk ρ = R.of ρ ((getX ρ i).bind fun x => (C.exm x.1 c).map b01) := rfl
theorem pk_me {m : Me} {x : X} {xs : Xs} : (den C (.me m x xs)).pk ρ = ((den C x).pk ρ).bind fun s ρ => if meOk m s then (fzsL (dens C xs) ρ).bind fun ds ρ => R.of ρ (me m s ds) else .bad := rfl
theorem pk_mu {m : Mu} {i : Nat} {fs : List Nat} {xs : Xs} : (den C (.mu m i fs xs)).pk ρ = if muOk ((getS ρ i).bind fun s => pget s fs) then (evsL (dens C xs) ρ).bind fun ss ρ => muR m i fs ss ρ else .bad := rfl
theorem pk_call {f : Nat} {xs : Xs} : (den C (.call f xs)).pk ρ = (argsL (dens C xs) ρ).bind fun as ρ => doCall C f as ρ := rfl
theorem pk_callk {f : Nat} {p : List Nat} {xs : Xs} : (den C (.callk f p xs)).pk ρ = (argsL (dens C xs) ρ).bind fun as ρ => match p.mapM fun k => as[k]? with
    | some as => doCall C f as ρ
    | none => .bad := rfl
theorem pk_mcall {f i : Nat} {xs : Xs} : (den C (.mcall f i xs)).pk ρ = if isObj (getS ρ i) (C.mc f) then (argsL (dens C xs) ρ).bind fun as ρ => doCall C f (.l i :: as) ρ else .bad := rfl
theorem pk_new {c : Nat} {xs : Xs} : (den C (.new c xs)).pk ρ = (argsL (dens C xs) ρ).bind fun as ρ => newR C c as ρ := rfl
theorem pk_lc {e : X} {t : List Nat} {it : X} {cs : Xs} : (den C (.lc e t it cs)).pk ρ = ((den C it).it ρ).bind fun ds ρ => lcR t ρ (lcGo t (tAndL (dens C cs)) (XD.ev (e, den C e)) ds ρ []) := rfl
theorem dens_nil : dens C .nil = [] := rfl
theorem dens_cons {x : X} {xs : Xs} : dens C (.cons x xs) = (x, den C x) :: dens C xs := rfl
/-- a truth -/
theorem ts_nm {i : Nat} : (den C (.nm i)).ts ρ = ((den C (.nm i)).pk ρ).bind fun s ρ => R.of ρ (truth s) := rfl
theorem ts_att {x : X} {f : Nat} : (den C (.att x f)).ts ρ = ((den C (.att x f)).pk ρ).bind fun s ρ => R.of ρ (truth s) := rfl
theorem ts_ix {x i : X} : (den C (.ix x i)).ts ρ = ((den C (.ix x i)).pk ρ).bind fun s ρ => R.of ρ (truth s) := rfl
theorem ts_bin {o : Op2} {a b : X} : (den C (.bin o a b)).ts ρ = ((den C (.bin o a b)).pk ρ).bind fun s ρ => R.of ρ (truth s) := rfl
theorem ts_cmp {o : Cm} {a b : X} : (den C (.cmp o a b)).ts ρ = ((den C (.cmp o a b)).pk ρ).bind fun s ρ => R.of ρ (truth s) := rfl
theorem ts_isi {x : X} {t : Ty} : (den C (.isi x t)).ts ρ = ((den C (.isi x t)).pk ρ).bind fun s ρ => R.of ρ (truth s) := rfl
theorem ts_exi {i c : Nat} : (den C (.exi i c)).ts ρ = ((den C (.exi i c)).pk ρ).bind fun s ρ => R.of ρ (truth s) := rfl
theorem ts_call {f : Nat} {xs : Xs} : (den C (.call f xs)).ts ρ = ((den C (.call f xs)).pk ρ).bind fun s ρ => R.of ρ (truth s) := rfl
theorem ts_not {a : X} : (den C (.not a)).ts ρ = ((den C a).ts ρ).bind fun b ρ => .ok (!b) ρ := rfl
theorem ts_and {xs : Xs} : (den C (.and xs)).ts ρ = tAndL (dens C xs) ρ := rfl
theorem ts_or {xs : Xs} : (den C (.or xs)).ts ρ = tOrL (dens C xs) ρ := rfl
theorem it_nm {i : Nat} : (den C (.nm i)).it ρ = ((den C (.nm i)).pk ρ).bind fun s ρ => R.of ρ (seqD s) := rfl
theorem it_att {x : X} {f : Nat} : (den C (.att x f)).it ρ = ((den C (.att x f)).pk ρ).bind fun s ρ => R.of ρ (seqD s) := rfl
theorem it_ix {x i : X} : (den C (.ix x i)).it ρ = ((den C (.ix x i)).pk ρ).bind fun s ρ => R.of ρ (seqD s) := rfl
theorem it_bin {o : Op2} {a b : X} : (den C (.bin o a b)).it ρ = ((den C (.bin o a b)).pk ρ).bind fun s ρ => R.of ρ (seqD s) := rfl
theorem it_bi {b : Bi} {xs : Xs} : (den C (.bi b xs)).it ρ = ((den C (.bi b xs)).pk ρ).bind fun s ρ => R.of ρ (seqD s) := rfl
theorem it_slc {x lo hi : X} : (den C (.slc x lo hi)).it ρ = ((den C (.slc x lo hi)).pk ρ).bind fun s ρ => R.of ρ (seqD s) := rfl
theorem it_rng {xs : Xs} : (den C (.rng xs)).it ρ = (fzsL (dens C xs) ρ).bind rngR := rfl
theorem it_zip {xs : Xs} : (den C (.zip xs)).it ρ = (pksL (dens C xs) ρ).bind fun ss ρ => R.of ρ (zipS ss) := rfl
theorem it_enu {x : X} : (den C (.enu x)).it ρ = ((den C x).pk ρ).bind fun s ρ => R.of ρ ((lstD s).map enuD) := rfl
theorem eo_om : (den C .om).eo ρ = .ok none ρ := rfl
theorem eo_nm {i : Nat} : (den C (.nm i)).eo ρ = ((den C (.nm i)).pk ρ).bind fun s ρ => R.of ρ (s.i?.map some) := rfl
theorem eo_c {k : Cst} : (den C (.c k)).eo ρ = ((den C (.c k)).pk ρ).bind fun s ρ => R.of ρ (s.i?.map some) := rfl
theorem eo_un {o : Op1} {a : X} : (den C (.un o a)).eo ρ = ((den C (.un o a)).pk ρ).bind fun s ρ => R.of ρ (s.i?.map some) := rfl
theorem eo_bin {o : Op2} {a b : X} : (den C (.bin o a b)).eo ρ = ((den C (.bin o a b)).pk ρ).bind fun s ρ => R.of ρ (s.i?.map some) := rfl
theorem eo_call {f : Nat} {xs : Xs} : (den C (.call f xs)).eo ρ = ((den C (.call f xs)).pk ρ).bind fun s ρ => R.of ρ (s.i?.map some) := rfl
theorem ev_path {x : X} (h : x.isPath = true) : XD.ev (x, den C x) ρ = ((den C x).pk ρ).bind fun s ρ => match s with
    | .v d => .ok (.v d) ρ
    | _ => .bad := by
  show plain x.isPath ((den C x).pk ρ) = _
  rw [h]
  cases (den C x).pk ρ with
  | bad => rfl
  | ok s ρ => cases s <;> rfl
  | ex e ρ => rfl
theorem ev_np {x : X} (h : x.isPath = false) : XD.ev (x, den C x) ρ = (den C x).pk ρ := by
  show plain x.isPath ((den C x).pk ρ) = _
  rw [h]
  rfl
theorem ev_d {x : X} {d : D} {ρ' : Fr} (h : (den C x).pk ρ = .ok (.v d) ρ') : XD.ev (x, den C x) ρ = .ok (.v d) ρ' := by
  show plain x.isPath ((den C x).pk ρ) = _
  rw [h]
  unfold plain
  split <;> rfl
theorem ex_set_nm {i : Nat} {x : X} : Vm.exec C U (.set (.nm i) x) ρ = (XD.ev (x, den C x) ρ).bind fun s ρ => if i < ρ.length then .ok .nx (ρ.set i (some s)) else .bad := rfl
theorem ex_set_tup {is : List Nat} {x : X} : Vm.exec C U (.set (.tup is) x) ρ = (XD.ev (x, den C x) ρ).bind fun s ρ => match s with
    | .v d => match setTg is d ρ with
      | some ρ => .ok .nx ρ
      | none => .bad
    | _ => .bad := rfl
theorem ex_set_att {i : Nat} {fs : List Nat} {f : Nat} {x : X} : Vm.exec C U (.set (.att i fs f) x) ρ = (XD.ev (x, den C x) ρ).bind fun s ρ => match pathUpd ρ i fs fun o => fldPut C.at' o f s with
    | some ρ => .ok .nx ρ
    | none => .bad := rfl
theorem ex_set_sub {i : Nat} {fs : List Nat} {k x : X} : Vm.exec C U (.set (.sub i fs k) x) ρ = (XD.ev (x, den C x) ρ).bind fun s ρ => if hasP ρ i fs then (XD.ev (k, den C k) ρ).bind fun k ρ => match pathUpd ρ i fs fun o => subSet o k s with
      | some ρ => .ok .nx ρ
      | none => .bad
    else .bad := rfl
theorem ex_ret {x : X} : Vm.exec C U (.ret x) ρ = (XD.ev (x, den C x) ρ).bind fun s ρ => .ok (.ret s) ρ := rfl
theorem ex_ex {x : X} : Vm.exec C U (.ex x) ρ = ((den C x).pk ρ).bind fun _ ρ => .ok .nx ρ := rfl
theorem ex_ife {c : X} {a b : Sts} : Vm.exec C U (.ife c a b) ρ = ((den C c).ts ρ).bind fun t ρ => if t then Vm.execs C U a ρ else Vm.execs C U b ρ := rfl
theorem ex_loop {t : List Nat} {it : X} {b : Sts} : Vm.exec C U (.loop t it b) ρ = ((den C it).it ρ).bind fun ds ρ => loopGo t (Vm.execs C U b) ds ρ := rfl
theorem ex_raise {c : Nat} {xs : Xs} : Vm.exec C U (.raise c xs) ρ = (fzsL (dens C xs) ρ).bind fun ds ρ => if ds.length = (U.exF c).length then .ex ⟨c, (U.exF c).reverse, ds.reverse⟩ ρ else .bad := rfl
theorem exs_nil : Vm.execs C U .nil ρ = .ok .nx ρ := rfl
/-- one statement, then the rest -/
theorem wp_cons {s : St} {ss : Sts} {P : Fl → Fr → Prop} {E : Ex → Fr → Prop} : Wp (Vm.execs C U (.cons s ss) ρ) P E = Wp (Vm.exec C U s ρ) (fun f ρ => match f with
    | .nx => Wp (Vm.execs C U ss ρ) P E
    | f => P f ρ) E := by
  simp only [Vm.execs]
  cases Vm.exec C U s ρ with
  | bad => rfl
  | ex e ρ => rfl
  | ok f ρ => cases f <;> rfl
theorem getS_v {d : D} {r : Fr} : getS (some (.v d) :: r) 0 = some (.v d) := rfl
theorem getS_lst {l : List S} {r : Fr} : getS (some (.lst l) :: r) 0 = some (.lst l) := rfl
theorem getS_dic {t : Bool} {l : List (D × D)} {r : Fr} : getS (some (.dic t l) :: r) 0 = some (.dic t l) := rfl
theorem getS_obj {c : Nat} {fs : List Nat} {l : List S} {r : Fr} : getS (some (.obj c fs l) :: r) 0 = some (.obj c fs l) := rfl
theorem getS_none {r : Fr} : getS (none :: r) 0 = none := rfl
theorem getS_s {o : Option S} {r : Fr} {n : Nat} : getS (o :: r) (n + 1) = getS r n := by
  unfold getS
  rw [List.getElem?_cons_succ]
end Vm
/-! Vs2 -/
namespace Vm
variable {C : Cal} {U : Rules} {ρ : Fr} {i j : Int} {a b : Bool} {d e : D} {l m : List D} {ss : List S} {s t : S}
def absI (i : Int) : Int := if i < 0 then -i else i
def mnI (i j : Int) : Int := if j < i then j else i
def mxI (i j : Int) : Int := if j > i then j else i
def boI (a : Bool) : Int := if a then 1 else 0
theorem ev_nm {n : Nat} : XD.ev (.nm n, den C (.nm n)) ρ = ((den C (.nm n)).pk ρ).bind fun s ρ => match s with
    | .v d => .ok (.v d) ρ
    | _ => .bad := ev_path rfl
theorem ev_att {x : X} {f : Nat} : XD.ev (.att x f, den C (.att x f)) ρ = ((den C (.att x f)).pk ρ).bind fun s ρ => match s with
    | .v d => .ok (.v d) ρ
    | _ => .bad := ev_path rfl
theorem ev_ix {x i : X} : XD.ev (.ix x i, den C (.ix x i)) ρ = ((den C (.ix x i)).pk ρ).bind fun s ρ => match s with
    | .v d => .ok (.v d) ρ
    | _ => .bad := ev_path rfl
theorem ev_c {k : Cst} : XD.ev (.c k, den C (.c k)) ρ = (den C (.c k)).pk ρ := ev_np rfl
theorem ev_mv {n : Nat} : XD.ev (.mv n, den C (.mv n)) ρ = (den C (.mv n)).pk ρ := ev_np rfl
theorem ev_fz {x : X} : XD.ev (.fz x, den C (.fz x)) ρ = (den C (.fz x)).pk ρ := ev_np rfl
theorem ev_slc {x lo hi : X} : XD.ev (.slc x lo hi, den C (.slc x lo hi)) ρ = (den C (.slc x lo hi)).pk ρ := ev_np rfl
theorem ev_bin {o : Op2} {x y : X} : XD.ev (.bin o x y, den C (.bin o x y)) ρ = (den C (.bin o x y)).pk ρ := ev_np rfl
theorem ev_un {o : Op1} {x : X} : XD.ev (.un o x, den C (.un o x)) ρ = (den C (.un o x)).pk ρ := ev_np rfl
theorem ev_cmp {o : Cm} {x y : X} : XD.ev (.cmp o x y, den C (.cmp o x y)) ρ = (den C (.cmp o x y)).pk ρ := ev_np rfl
theorem ev_not {x : X} : XD.ev (.not x, den C (.not x)) ρ = (den C (.not x)).pk ρ := ev_np rfl
theorem ev_and {xs : Xs} : XD.ev (.and xs, den C (.and xs)) ρ = (den C (.and xs)).pk ρ := ev_np rfl
theorem ev_or {xs : Xs} : XD.ev (.or xs, den C (.or xs)) ρ = (den C (.or xs)).pk ρ := ev_np rfl
theorem ev_ife {c x y : X} : XD.ev (.ife c x y, den C (.ife c x y)) ρ = (den C (.ife c x y)).pk ρ := ev_np rfl
theorem ev_tup {xs : Xs} : XD.ev (.tup xs, den C (.tup xs)) ρ = (den C (.tup xs)).pk ρ := ev_np rfl
theorem ev_lst {xs : Xs} : XD.ev (.lst xs, den C (.lst xs)) ρ = (den C (.lst xs)).pk ρ := ev_np rfl
theorem ev_dnew {t : Bool} : XD.ev (.dnew t, den C (.dnew t)) ρ = (den C (.dnew t)).pk ρ := ev_np rfl
theorem ev_bi {o : Bi} {xs : Xs} : XD.ev (.bi o xs, den C (.bi o xs)) ρ = (den C (.bi o xs)).pk ρ := ev_np rfl
theorem ev_isi {x : X} {t : Ty} : XD.ev (.isi x t, den C (.isi x t)) ρ = (den C (.isi x t)).pk ρ := ev_np rfl
theorem ev_exf {n f : Nat} : XD.ev (.exf n f, den C (.exf n f)) ρ = (den C (.exf n f)).pk ρ := ev_np rfl
theorem ev_exi {n f : Nat} : XD.ev (.exi n f, den C (.exi n f)) ρ = (den C (.exi n f)).pk ρ := ev_np rfl
theorem ev_me {m : Me} {x : X} {xs : Xs} : XD.ev (.me m x xs, den C (.me m x xs)) ρ = (den C (.me m x xs)).pk ρ := ev_np rfl
theorem ev_mu {m : Mu} {n : Nat} {fs : List Nat} {xs : Xs} : XD.ev (.mu m n fs xs, den C (.mu m n fs xs)) ρ = (den C (.mu m n fs xs)).pk ρ := ev_np rfl
theorem ev_call {f : Nat} {xs : Xs} : XD.ev (.call f xs, den C (.call f xs)) ρ = (den C (.call f xs)).pk ρ := ev_np rfl
theorem ev_callk {f : Nat} {p : List Nat} {xs : Xs} : XD.ev (.callk f p xs, den C (.callk f p xs)) ρ = (den C (.callk f p xs)).pk ρ := ev_np rfl
theorem ev_mcall {f n : Nat} {xs : Xs} : XD.ev (.mcall f n xs, den C (.mcall f n xs)) ρ = (den C (.mcall f n xs)).pk ρ := ev_np rfl
theorem ev_new {c : Nat} {xs : Xs} : XD.ev (.new c xs, den C (.new c xs)) ρ = (den C (.new c xs)).pk ρ := ev_np rfl
theorem ev_lc {e : X} {t : List Nat} {it : X} {cs : Xs} : XD.ev (.lc e t it cs, den C (.lc e t it cs)) ρ = (den C (.lc e t it cs)).pk ρ := ev_np rfl
theorem tr_bl : truth (.v (.bl a)) = some a := rfl
theorem tr_int : truth (.v (.int i)) = some (i != 0) := rfl
theorem tr_non : truth (.v .non) = some false := rfl
theorem op_add : op2 .add (.v (.int i)) (.v (.int j)) = some (.v (.int (i + j))) := rfl
theorem op_sub : op2 .sub (.v (.int i)) (.v (.int j)) = some (.v (.int (i - j))) := rfl
theorem op_mul : op2 .mul (.v (.int i)) (.v (.int j)) = if (B64 i || B64 j) = true then some (.v (.int (i * j))) else none := by
  show Option.map _ (if B64 i || B64 j then some (i * j) else none) = _
  split <;> rfl
theorem op_mod (h : 0 < j) : op2 .mod (.v (.int i)) (.v (.int j)) = some (.v (.int (i % j))) := by
  show Option.map _ (if decide (0 < j) then some (i % j) else none) = _
  rw [decide_eq_true h]
  rfl
theorem op_fdiv (h : 0 < j) (h2 : j < 1073741824) : op2 .fdiv (.v (.int i)) (.v (.int j)) = some (.v (.int (i / j))) := by
  show Option.map _ (if decide (0 < j) && decide (j < 1073741824) then some (i / j) else none) = _
  rw [decide_eq_true h, decide_eq_true h2]
  rfl
theorem op_pow (h : (decide (0 ≤ j) && decide (j ≤ 1000000) && B64 i) = true) : op2 .pow (.v (.int i)) (.v (.int j)) = some (.v (.int (i ^ j.toNat))) := by
  show Option.map _ (if decide (0 ≤ j) && decide (j ≤ 1000000) && B64 i then some (i ^ j.toNat) else none) = _
  rw [h]
  rfl
theorem op_shl (h : (decide (0 ≤ j) && decide (j ≤ 1000000) && B64 i) = true) : op2 .shl (.v (.int i)) (.v (.int j)) = some (.v (.int (i * 2 ^ j.toNat))) := by
  show Option.map _ (if decide (0 ≤ j) && decide (j ≤ 1000000) && B64 i then some (i * 2 ^ j.toNat) else none) = _
  rw [h]
  rfl
theorem op_shr (h : 0 ≤ j) : op2 .shr (.v (.int i)) (.v (.int j)) = some (.v (.int (i / 2 ^ j.toNat))) := by
  show Option.map _ (if decide (0 ≤ j) then some (i / 2 ^ j.toNat) else none) = _
  rw [decide_eq_true h]
  rfl
theorem op_and : op2 .band (.v (.int i)) (.v (.int j)) = some (.v (.int (PySem.Builtin.bitAnd i j))) := rfl
theorem op_or : op2 .bor (.v (.int i)) (.v (.int j)) = some (.v (.int (PySem.Builtin.bitOr i j))) := rfl
theorem op_xor : op2 .bxor (.v (.int i)) (.v (.int j)) = some (.v (.int (PySem.Builtin.bitXor i j))) := rfl
theorem op_neg : op1 .neg (.v (.int i)) = some (.v (.int (-i))) := rfl
theorem au_add : augV .add (.v (.int i)) (.v (.int j)) = some (.v (.int (i + j))) := rfl
theorem au_xor : augV .bxor (.v (.int i)) (.v (.int j)) = some (.v (.int (PySem.Builtin.bitXor i j))) := rfl
theorem cm_lt : cmpV .lt (.v (.int i)) (.v (.int j)) = some (decide (i < j)) := rfl
theorem cm_le : cmpV .le (.v (.int i)) (.v (.int j)) = some (decide (i ≤ j)) := rfl
theorem cm_gt : cmpV .gt (.v (.int i)) (.v (.int j)) = some (decide (j < i)) := rfl
theorem cm_ge : cmpV .ge (.v (.int i)) (.v (.int j)) = some (decide (j ≤ i)) := rfl
theorem cm_eqI : cmpV .eq (.v (.int i)) (.v (.int j)) = some (decide (i = j)) := by
  show some (i == j) = _
  rfl
theorem cm_neI : cmpV .ne (.v (.int i)) (.v (.int j)) = some (!decide (i = j)) := by
  show some (!(i == j)) = _
  rfl
theorem cm_eqS {x y : PySem.Str} : cmpV .eq (.v (.str x)) (.v (.str y)) = some (decide (x = y)) := by
  show some (x == y) = _
  congr 1
theorem cm_isN : cmpV .is (.v d) (.v .non) = some d.isNon := rfl
theorem cm_isB : cmpV .is (.v d) (.v (.bl b)) = some (d.isBl b) := rfl
theorem cm_in : cmpV .inn (.v d) s = inD d s := rfl
theorem cm_nin : cmpV .nin (.v d) s = (inD d s).map Bool.not := rfl
theorem bi_int : bi .int [.v (.int i)] = some (.v (.int i)) := rfl
theorem bi_intB : bi .int [.v (.bl a)] = some (.v (.int (boI a))) := rfl
theorem bi_abs : bi .abs [.v (.int i)] = some (.v (.int (absI i))) := rfl
theorem bi_min : bi .min2 [.v (.int i), .v (.int j)] = some (.v (.int (mnI i j))) := rfl
theorem bi_max : bi .max2 [.v (.int i), .v (.int j)] = some (.v (.int (mxI i j))) := rfl
theorem bi_lenL : bi .len [.lst ss] = some (.v (.int (ss.length : Nat))) := rfl
theorem bi_lenT : bi .len [.v (.tup a l)] = some (.v (.int (l.length : Nat))) := rfl
theorem bi_lenF : bi .len [.v (.fls l)] = some (.v (.int (l.length : Nat))) := rfl
theorem ty_int {t : Ty} : isTy0 (.v (.int i)) t = some (decide (t = .int)) := rfl
theorem at_nat {α : Type} {l : List α} {k : Nat} : atIx l (k : Int) = l[k]? := by
  show L2.atI l _ = _
  unfold L2.atI L2.ixN
  by_cases h : k < l.length
  · simp [h]
  · have : l.length ≤ k := by omega
    simp [h, this]
theorem ix_l : getIx (.lst ss) (.v (.int i)) = atIx ss i := rfl
theorem ix_t : getIx (.v (.tup a l)) (.v (.int i)) = (atIx l i).map S.v := rfl
theorem ix_f : getIx (.v (.fls l)) (.v (.int i)) = (atIx l i).map S.v := rfl
theorem ds_v : ds? (l.map S.v) = some l := by
  induction l with
  | nil => rfl
  | cons d l ih => simp [ds?, ih]
theorem seq_l : seqD (.lst (l.map S.v)) = some l := ds_v
theorem seq_t : seqD (.v (.tup a l)) = some l := rfl
theorem seq_f : seqD (.v (.fls l)) = some l := rfl
theorem lst_l : lstD (.lst (l.map S.v)) = some l := ds_v
theorem ints_v {l : List Int} : ints? (l.map D.int) = some l := by
  induction l with
  | nil => rfl
  | cons d l ih => simp [ints?, ih]
end Vm
namespace Vm
/-- a statement, then the rest from what it leaves -/
theorem wp_mid {C : Cal} {U : Rules} {ρ : Fr} {s : St} {ss : Sts} {P : Fl → Fr → Prop} {E : Ex → Fr → Prop} (J : Fr → Prop) (h : Wp (Vm.exec C U s ρ) (fun f ρ => match f with
    | .nx => J ρ
    | f => P f ρ) E) (k : ∀ ρ, J ρ → Wp (Vm.execs C U ss ρ) P E) : Wp (Vm.execs C U (.cons s ss) ρ) P E := by
  rw [wp_cons]
  refine h.imp (fun f ρ q => ?_) fun _ _ q => q
  cases f with
  | nx => exact k ρ q
  | brk => exact q
  | cnt => exact q
  | ret s => exact q
theorem at_int {α : Type} {l : List α} {i : Int} (h0 : 0 ≤ i) (h : i < l.length) : ∃ a, l[i.toNat]? = some a ∧ atIx l i = some a := by
  have e : ((i.toNat : Nat) : Int) = i := Int.toNat_of_nonneg h0
  have hl : i.toNat < l.length := by omega
  refine ⟨l[i.toNat], List.getElem?_eq_getElem hl, ?_⟩
  have := at_nat (l := l) (k := i.toNat)
  rw [e] at this
  rw [this]
  exact List.getElem?_eq_getElem hl
end Vm
/-! Vs3 -/
namespace Vm
variable {C : Cal} {U : Rules} {ρ : Fr} {α β : Type}
structure Rn (o : Out) (P : S → List S → Prop) (E : Ex → List S → Prop) : Prop where
  out : match o with
    | .bad => False
    | .ok r fin => P r fin
    | .ex e fin => E e fin
theorem Rn.imp {o : Out} {P Q : S → List S → Prop} {E F : Ex → List S → Prop} (h : Rn o P E) (i : ∀ r l, P r l → Q r l) (j : ∀ e l, E e l → F e l) : Rn o Q F := by
  obtain ⟨h⟩ := h
  cases o with
  | bad => exact h.elim
  | ok r l => exact ⟨i r l h⟩
  | ex e l => exact ⟨j e l h⟩
def NoX : Ex → List S → Prop := fun _ _ => False
def NoE : Ex → Fr → Prop := fun _ _ => False
/-- a def, from its body -/
theorem run_wp {T : Tab} {n f : Nat} {fn : Fn} {ss : List S} {P : S → List S → Prop} {E : Ex → List S → Prop} (hf : T.fns[f]? = some fn) (hl : ss.length = fn.np) (h : Wp (Vm.execs (T.cal (Vm.run T n)) T.U fn.body (ss.map some ++ List.replicate (fn.nn - fn.np) none)) (fun fl ρ => match fl with
      | .nx => ∃ l, fin fn.mt ρ = some l ∧ P (.v .non) l
      | .ret s => ∃ l, fin fn.mt ρ = some l ∧ P s l
      | _ => False) fun e ρ => ∃ l, fin fn.mt ρ = some l ∧ E e l) : Rn (Vm.run T (n + 1) f ss) P E := by
  have e : Vm.run T (n + 1) f ss = outOf fn.mt (Vm.execs (T.cal (Vm.run T n)) T.U fn.body (ss.map some ++ List.replicate (fn.nn - fn.np) none)) := by
    show (match T.fns[f]? with
      | none => Out.bad
      | some fn => if ss.length = fn.np then _ else .bad) = _
    rw [hf]
    exact if_pos hl
  rw [e]
  revert h
  cases Vm.execs (T.cal (Vm.run T n)) T.U fn.body (ss.map some ++ List.replicate (fn.nn - fn.np) none) with
  | bad => exact fun h => h.elim
  | ok f ρ =>
    intro h
    cases f with
    | nx =>
      obtain ⟨l, e, q⟩ := h
      simp only [outOf, e]
      exact ⟨q⟩
    | ret s =>
      obtain ⟨l, e, q⟩ := h
      simp only [outOf, e]
      exact ⟨q⟩
    | brk => exact h.elim
    | cnt => exact h.elim
  | ex e ρ =>
    rintro ⟨l, e1, q⟩
    simp only [outOf, e1]
    exact ⟨q⟩
def argOf (x : X) (s : S) : Option Arg :=
  match x with
  | .nm i => match s with
    | .v d => some (.t (.v d))
    | _ => some (.l i)
  | x => if x.isPath then match s with
      | .v d => some (.t (.v d))
      | _ => none
    else some (.t s)
theorem wp_args_nil {P : List Arg → Fr → Prop} {E : Ex → Fr → Prop} : Wp (argsL [] ρ) P E = P [] ρ := rfl
theorem wp_args_cons {x : X} {d : Den} {xs : List XD} {P : List Arg → Fr → Prop} {E : Ex → Fr → Prop} : Wp (argsL ((x, d) :: xs) ρ) P E = Wp (d.pk ρ) (fun s ρ => ∃ a, argOf x s = some a ∧ Wp (argsL xs ρ) (fun as ρ => P (a :: as) ρ) E) E := by
  show Wp ((toArg x (d.pk ρ)).bind _) P E = _
  rw [wp_bind]
  cases d.pk ρ with
  | bad => rfl
  | ex e ρ => rfl
  | ok s ρ =>
    show Wp (toArg x (.ok s ρ)) _ _ = ∃ a, argOf x s = some a ∧ _
    have e : toArg x (.ok s ρ) = match argOf x s with
        | some a => .ok a ρ
        | none => .bad := by
      unfold toArg argOf
      cases x <;> cases s <;> rfl
    rw [e]
    cases argOf x s with
    | none => simp [Wp]
    | some a =>
      dsimp only
      rw [wp_ok, wp_bind]
      simp only [Option.some.injEq, exists_eq_left', wp_ok]
theorem ao_d {i : Nat} {d : D} : argOf (.nm i) (.v d) = some (.t (.v d)) := rfl
theorem ao_l {i : Nat} {l : List S} : argOf (.nm i) (.lst l) = some (.l i) := rfl
theorem ao_dic {i : Nat} {t : Bool} {l : List (D × D)} : argOf (.nm i) (.dic t l) = some (.l i) := rfl
theorem ao_obj {i c : Nat} {fs : List Nat} {l : List S} : argOf (.nm i) (.obj c fs l) = some (.l i) := rfl
theorem ao_ix {x y : X} {d : D} : argOf (.ix x y) (.v d) = some (.t (.v d)) := rfl
theorem ao_att {x : X} {f : Nat} {d : D} : argOf (.att x f) (.v d) = some (.t (.v d)) := rfl
theorem ao_c {k : Cst} {s : S} : argOf (.c k) s = some (.t s) := rfl
theorem ao_bin {o : Op2} {a b : X} {s : S} : argOf (.bin o a b) s = some (.t s) := rfl
theorem ao_bi {o : Bi} {a : Xs} {s : S} : argOf (.bi o a) s = some (.t s) := rfl
theorem ao_tup {a : Xs} {s : S} : argOf (.tup a) s = some (.t s) := rfl
theorem ao_lst {a : Xs} {s : S} : argOf (.lst a) s = some (.t s) := rfl
theorem ao_call {f : Nat} {a : Xs} {s : S} : argOf (.call f a) s = some (.t s) := rfl
theorem ao_callk {f : Nat} {p : List Nat} {a : Xs} {s : S} : argOf (.callk f p a) s = some (.t s) := rfl
theorem ao_slc {a b c : X} {s : S} : argOf (.slc a b c) s = some (.t s) := rfl
theorem ao_un {o : Op1} {a : X} {s : S} : argOf (.un o a) s = some (.t s) := rfl
theorem as_nil : argS ρ [] = some [] := rfl
theorem as_t {s : S} {r : List Arg} : argS ρ (.t s :: r) = (argS ρ r).map (s :: ·) := by
  show (match some s, argS ρ r with
    | some s, some l => some (s :: l)
    | _, _ => none) = _
  cases argS ρ r <;> rfl
theorem as_l {i : Nat} {r : List Arg} : argS ρ (.l i :: r) = (getS ρ i).bind fun s => (argS ρ r).map (s :: ·) := by
  show (match getS ρ i, argS ρ r with
    | some s, some l => some (s :: l)
    | _, _ => none) = _
  cases getS ρ i <;> cases argS ρ r <;> rfl
theorem wp_call {f : Nat} {as : List Arg} {ss : List S} {P : S → Fr → Prop} {E : Ex → Fr → Prop} (h1 : argS ρ as = some ss) (h2 : distinct (lends as) = true) (h : Rn (C.cf f ss) (fun r fin => P r (putBack as (C.mt f) fin ρ)) fun e fin => E e (putBack as (C.mt f) fin ρ)) : Wp (doCall C f as ρ) P E := by
  unfold doCall
  rw [h1]
  dsimp only
  rw [if_pos h2]
  obtain ⟨h⟩ := h
  revert h
  cases C.cf f ss <;> exact fun h => h
theorem pb_nil {as : List Arg} {l : List S} : putBack as [] l ρ = ρ := by
  cases l <;> rfl
theorem pb_0 {i : Nat} {r : List Arg} {js : List Nat} {s : S} {ss : List S} : putBack (.l i :: r) (0 :: js) (s :: ss) ρ = putBack (.l i :: r) js ss (ρ.set i (some s)) := rfl
theorem pb_t0 {t : S} {r : List Arg} {js : List Nat} {s : S} {ss : List S} : putBack (.t t :: r) (0 :: js) (s :: ss) ρ = putBack (.t t :: r) js ss ρ := rfl
theorem wp_for {t : List Nat} {body : Fr → RF} {ds : List D} {P : Fl → Fr → Prop} {E : Ex → Fr → Prop} (I : List D → Fr → Prop) (h0 : I ds ρ)
    (step : ∀ d r ρ, I (d :: r) ρ → ∃ ρ1, setTg t d ρ = some ρ1 ∧ Wp (body ρ1) (fun f ρ => match f with
      | .nx => I r ρ
      | .cnt => I r ρ
      | .brk => P .nx ρ
      | .ret s => P (.ret s) ρ) E) (done : ∀ ρ, I [] ρ → P .nx ρ) : Wp (loopGo t body ds ρ) P E := by
  induction ds generalizing ρ with
  | nil => exact done ρ h0
  | cons d r ih =>
    obtain ⟨ρ1, e, h⟩ := step d r ρ h0
    show Wp (match setTg t d ρ with
      | none => R.bad
      | some ρ1 => _) P E
    rw [e]
    dsimp only
    revert h
    cases body ρ1 with
    | bad => exact fun h => h
    | ex e ρ => exact fun h => h
    | ok f ρ2 =>
      intro h
      cases f with
      | nx => exact ih h
      | cnt => exact ih h
      | brk => exact h
      | ret s => exact h
theorem tg_1 {i : Nat} {d : D} (h : i < ρ.length) : setTg [i] d ρ = some (ρ.set i (some (.v d))) := by
  show (if i < ρ.length then some (ρ.set i (some (.v d))) else none) = _
  rw [if_pos h]
theorem wp_lcGo {t : List Nat} {tst : Fr → R Bool} {el : Fr → R S} {Q : List D → Fr → Prop} {E : Ex → Fr → Prop} (I : List D → List D → Fr → Prop)
    (step : ∀ d r acc ρ, I (d :: r) acc ρ → ∃ ρ1, setTg t d ρ = some ρ1 ∧ Wp (tst ρ1) (fun b ρ2 => if b = true then Wp (el ρ2) (fun s ρ3 => ∃ x, s = .v x ∧ I r (acc ++ [x]) ρ3) NoE else I r acc ρ2) NoE) (done : ∀ acc ρ, I [] acc ρ → Q acc ρ) : ∀ {ds : List D} {acc : List D} {ρ : Fr}, I ds acc.reverse ρ → Wp (lcGo t tst el ds ρ acc) Q E
  | [], acc, ρ, h => done _ ρ h
  | d :: r, acc, ρ, h => by
    obtain ⟨ρ1, e, h⟩ := step d r _ ρ h
    show Wp (match setTg t d ρ with
      | none => R.bad
      | some ρ1 => _) Q E
    rw [e]
    dsimp only
    revert h
    cases tst ρ1 with
    | bad => exact fun h => h
    | ex e ρ => exact fun h => h.elim
    | ok b ρ2 =>
      intro h
      have h : (if b = true then Wp (el ρ2) (fun s ρ3 => ∃ x, s = .v x ∧ I r (acc.reverse ++ [x]) ρ3) NoE else I r acc.reverse ρ2) := h
      cases b with
      | false => exact wp_lcGo I step done (by simpa using h)
      | true =>
        rw [if_pos rfl] at h
        dsimp only
        revert h
        cases el ρ2 with
        | bad => exact fun h => h
        | ex e ρ => exact fun h => h.elim
        | ok s ρ3 =>
          rintro ⟨x, rfl, h⟩
          exact wp_lcGo I step done (by rw [List.reverse_cons]; exact h)
theorem wp_lcR {t : List Nat} {r : R (List D)} {P : S → Fr → Prop} {E : Ex → Fr → Prop} (h : Wp r (fun l ρ' => l.length ≤ lineN ∧ P (.lst (l.map S.v)) (unset t ρ ρ')) NoE) : Wp (lcR t ρ r) P E := by
  cases r with
  | bad => exact h
  | ex e ρ => exact h.elim
  | ok l ρ' =>
    obtain ⟨h1, h2⟩ := h
    show Wp (if l.length ≤ lineN then R.ok (.lst (l.map S.v)) (unset t ρ ρ') else .bad) P E
    rw [if_pos h1]
    exact h2
/-- a comprehension that changes nothing: filter, map -/
theorem wp_lcP {i : Nat} {tst : Fr → R Bool} {el : Fr → R S} {ds : List D} {P : S → Fr → Prop} {E : Ex → Fr → Prop} (p : D → Bool) (g : D → D) (hi : i < ρ.length) (h1 : ∀ d, d ∈ ds → tst (ρ.set i (some (.v d))) = .ok (p d) (ρ.set i (some (.v d)))) (h2 : ∀ d, d ∈ ds → p d = true → el (ρ.set i (some (.v d))) = .ok (.v (g d)) (ρ.set i (some (.v d))))
    (hn : ds.length ≤ lineN) (h : P (.lst (((ds.filter p).map g).map S.v)) ρ) : Wp (lcR [i] ρ (lcGo [i] tst el ds ρ [])) P E := by
  have un : ∀ x, unset [i] ρ (ρ.set i x) = ρ := fun x => by
    show (ρ.set i x).set i (ρ[i]?).join = ρ
    rw [List.set_set, List.getElem?_eq_getElem hi]
    exact List.set_getElem_self hi
  have un0 : unset [i] ρ ρ = ρ := by
    have := un ρ[i]
    rwa [List.set_getElem_self hi] at this
  refine wp_lcR (wp_lcGo (fun r acc ρ' => (∃ a, ds = a ++ r ∧ acc = (a.filter p).map g) ∧ (ρ' = ρ ∨ ∃ x, ρ' = ρ.set i x)) (fun d r acc ρ' ⟨⟨a, e1, e2⟩, e3⟩ => ?_) (fun acc ρ' ⟨⟨a, e1, e2⟩, e3⟩ => ?_) ⟨⟨[], rfl, rfl⟩, .inl rfl⟩)
  · have m : d ∈ ds := by rw [e1]; simp
    have hl : i < ρ'.length := by
      rcases e3 with e | ⟨x, e⟩
      · rw [e]; exact hi
      · rw [e, List.length_set]; exact hi
    have hs : ρ'.set i (some (.v d)) = ρ.set i (some (.v d)) := by
      rcases e3 with e | ⟨x, e⟩
      · rw [e]
      · rw [e, List.set_set]
    refine ⟨_, tg_1 hl, ?_⟩
    rw [hs, h1 d m, wp_ok]
    cases q : p d with
    | false =>
      rw [if_neg Bool.false_ne_true]
      exact ⟨⟨a ++ [d], by rw [e1]; simp, by rw [e2]; simp [q]⟩, .inr ⟨_, rfl⟩⟩
    | true =>
      rw [if_pos rfl, h2 d m q, wp_ok]
      exact ⟨g d, rfl, ⟨a ++ [d], by rw [e1]; simp, by rw [e2]; simp [q]⟩, .inr ⟨_, rfl⟩⟩
  · rw [List.append_nil] at e1
    subst e1
    refine ⟨?_, ?_⟩
    · rw [e2, List.length_map]
      exact Nat.le_trans (List.length_filter_le _ _) hn
    · rw [e2]
      rcases e3 with e | ⟨x, e⟩
      · rw [e, un0]; exact h
      · rw [e, un]; exact h
end Vm
/-! Vs4 -/
namespace Vm
variable {C : Cal} {U : Rules} {ρ : Fr} {α β : Type}
theorem path_up {i : Nat} {fs : List Nat} {g : S → Option S} {s t t' s' : S} (h1 : getS ρ i = some s) (h2 : pget s fs = some t) (h3 : g t = some t') (h4 : pput s fs t' = some s') : pathUpd ρ i fs g = some (ρ.set i (some s')) := by
  unfold pathUpd
  rw [h1]
  dsimp only
  rw [h2]
  dsimp only
  rw [h3]
  dsimp only
  rw [h4]
  rfl
theorem has_p {i : Nat} {fs : List Nat} {s t : S} (h1 : getS ρ i = some s) (h2 : pget s fs = some t) : hasP ρ i fs = true := by
  unfold hasP
  rw [h1, Option.bind_some, h2]
  rfl
theorem pk_mcl {f i : Nat} {xs : Xs} (h : isObj (getS ρ i) (C.mc f) = true) : (den C (.mcall f i xs)).pk ρ = (argsL (dens C xs) ρ).bind fun as ρ => doCall C f (.l i :: as) ρ := by
  show (if isObj (getS ρ i) (C.mc f) then _ else R.bad) = _
  rw [h, if_pos rfl]
theorem pk_mum {m : Mu} {i : Nat} {fs : List Nat} {xs : Xs} (h : muOk ((getS ρ i).bind fun s => pget s fs) = true) : (den C (.mu m i fs xs)).pk ρ = (evsL (dens C xs) ρ).bind fun ss ρ => muR m i fs ss ρ := by
  show (if muOk ((getS ρ i).bind fun s => pget s fs) then _ else R.bad) = _
  rw [h, if_pos rfl]
theorem ex_par {is : List Nat} {xs : Xs} : Vm.exec C U (.par is xs) ρ = (evsL (dens C xs) ρ).bind fun ss ρ => match setsS is ss ρ with
    | some ρ => .ok .nx ρ
    | none => .bad := rfl
theorem ex_retN : Vm.exec C U .retN ρ = .ok (.ret (.v .non)) ρ := rfl
/-- o[k] = v, o by a path -/
theorem wp_set_sub {i : Nat} {fs : List Nat} {k x : X} {P : Fl → Fr → Prop} {E : Ex → Fr → Prop} (h : Wp (XD.ev (x, den C x) ρ) (fun s ρ => hasP ρ i fs = true ∧ Wp (XD.ev (k, den C k) ρ) (fun k ρ => ∃ o t t' o', getS ρ i = some o ∧ pget o fs = some t ∧ subSet t k s = some t' ∧ pput o fs t' = some o' ∧ P .nx (ρ.set i (some o'))) E) E) : Wp (Vm.exec C U (.set (.sub i fs k) x) ρ) P E := by
  rw [ex_set_sub, wp_bind]
  refine h.imp (fun s ρ ⟨h1, h2⟩ => ?_) fun _ _ h => h
  rw [h1, if_pos rfl, wp_bind]
  refine h2.imp (fun k ρ ⟨o, t, t', o', e1, e2, e3, e4, h⟩ => ?_) fun _ _ h => h
  rw [path_up (g := fun o => subSet o k s) e1 e2 e3 e4]
  exact h
/-- o.f = v -/
theorem wp_set_att {i : Nat} {fs : List Nat} {f : Nat} {x : X} {P : Fl → Fr → Prop} {E : Ex → Fr → Prop} (h : Wp (XD.ev (x, den C x) ρ) (fun s ρ => ∃ o t t' o', getS ρ i = some o ∧ pget o fs = some t ∧ fldPut C.at' t f s = some t' ∧ pput o fs t' = some o' ∧ P .nx (ρ.set i (some o'))) E) : Wp (Vm.exec C U (.set (.att i fs f) x) ρ) P E := by
  rw [ex_set_att, wp_bind]
  refine h.imp (fun s ρ ⟨o, t, t', o', e1, e2, e3, e4, h⟩ => ?_) fun _ _ h => h
  rw [path_up (g := fun o => fldPut C.at' o f s) e1 e2 e3 e4]
  exact h
/-- x op= v -/
theorem wp_aug_nm {i : Nat} {o : Op2} {x : X} {a : S} {P : Fl → Fr → Prop} {E : Ex → Fr → Prop} (ha : getS ρ i = some a) (h : Wp (XD.ev (x, den C x) ρ) (fun b ρ => ∃ s, augV o a b = some s ∧ i < ρ.length ∧ P .nx (ρ.set i (some s))) E) : Wp (Vm.exec C U (.aug (.nm i) o x) ρ) P E := by
  show Wp (match getS ρ i with
    | some a => _
    | none => R.bad) P E
  rw [ha]
  dsimp only
  show Wp ((XD.ev (x, den C x) ρ).bind _) P E
  rw [wp_bind]
  refine h.imp (fun b ρ ⟨s, e1, e2, h⟩ => ?_) fun _ _ h => h
  rw [e1]
  dsimp only
  rw [if_pos e2]
  exact h
/-- o[k] op= v -/
theorem wp_aug_sub {i : Nat} {fs : List Nat} {o : Op2} {k x : X} {P : Fl → Fr → Prop} {E : Ex → Fr → Prop} (hp : hasP ρ i fs = true) (h : Wp (XD.ev (k, den C k) ρ) (fun k ρ => ∃ q t a, getS ρ i = some q ∧ pget q fs = some t ∧ getI t k = some a ∧ Wp (XD.ev (x, den C x) ρ) (fun b ρ => ∃ s q t t' q', augV o (.v (.int a)) b = some s ∧ getS ρ i = some q ∧ pget q fs = some t ∧ subSet t k s = some t' ∧ pput q fs t' = some q' ∧ P .nx (ρ.set i (some q'))) E) E) : Wp (Vm.exec C U (.aug (.sub i fs k) o x) ρ) P E := by
  show Wp (if hasP ρ i fs then _ else R.bad) P E
  rw [hp, if_pos rfl]
  show Wp ((XD.ev (k, den C k) ρ).bind _) P E
  rw [wp_bind]
  refine h.imp (fun k ρ ⟨q, t, a, e1, e2, e3, h⟩ => ?_) fun _ _ h => h
  rw [e1, Option.bind_some, e2, Option.bind_some, e3]
  dsimp only
  show Wp ((XD.ev (x, den C x) ρ).bind _) P E
  rw [wp_bind]
  refine h.imp (fun b ρ ⟨s, q, t, t', q', f0, f1, f2, f3, f4, h⟩ => ?_) fun _ _ h => h
  rw [f0]
  dsimp only
  rw [path_up (g := fun o => subSet o k s) f1 f2 f3 f4]
  exact h
/-- del o[k] -/
theorem wp_del {i : Nat} {fs : List Nat} {k : X} {P : Fl → Fr → Prop} {E : Ex → Fr → Prop} (hp : hasP ρ i fs = true) (h : Wp (XD.ev (k, den C k) ρ) (fun k ρ => ∃ d q t t' q', k = .v d ∧ getS ρ i = some q ∧ pget q fs = some t ∧ subDel t d = some t' ∧ pput q fs t' = some q' ∧ P .nx (ρ.set i (some q'))) E) : Wp (Vm.exec C U (.del i fs k) ρ) P E := by
  show Wp (if hasP ρ i fs then _ else R.bad) P E
  rw [hp, if_pos rfl]
  show Wp ((XD.ev (k, den C k) ρ).bind _) P E
  rw [wp_bind]
  refine h.imp (fun k ρ ⟨d, q, t, t', q', e0, e1, e2, e3, e4, h⟩ => ?_) fun _ _ h => h
  subst e0
  dsimp only
  rw [path_up (g := fun o => subDel o d) e1 e2 e3 e4]
  exact h
def dI (l : List (Int × Int)) : List (D × D) := l.map fun p => (.int p.1, .int p.2)
def aput (l : List (Int × Int)) (k v : Int) : List (Int × Int) := if l.any fun p => p.1 == k then l.map fun p => if p.1 == k then (p.1, v) else p else l ++ [(k, v)]
theorem dI_get {l : List (Int × Int)} {k : Int} : dget (dI l) (.int k) = (l.lookup k).map D.int := by
  unfold dget dI
  induction l with
  | nil => rfl
  | cons p l ih =>
    rw [List.map_cons, List.find?_cons, List.lookup_cons]
    have e : D.same (.int p.1) (.int k) = (p.1 == k) := rfl
    rw [show (D.int p.1, D.int p.2).1.same (.int k) = (p.1 == k) from e]
    by_cases h : p.1 = k
    · subst h
      simp
    · have h1 : (p.1 == k) = false := by simpa using h
      have h2 : (k == p.1) = false := by simpa using Ne.symm h
      rw [h1, h2]
      exact ih
theorem dI_put {l : List (Int × Int)} {k v : Int} : dput (dI l) (.int k) (.int v) = dI (aput l k v) := by
  unfold dput aput dI
  have e : ∀ p : Int × Int, D.same (.int p.1) (.int k) = (p.1 == k) := fun _ => rfl
  have e1 : ((l.map fun p => (D.int p.1, D.int p.2)).any fun p => D.same p.1 (.int k)) = l.any fun p => p.1 == k := by
    rw [List.any_map]
    rfl
  rw [e1]
  cases l.any fun p => p.1 == k with
  | true =>
    simp only [if_true, List.map_map]
    apply List.map_congr_left
    intro p _
    show (if D.same (.int p.1) (.int k) = true then _ else _) = (fun p : Int × Int => (D.int p.1, D.int p.2)) (if (p.1 == k) = true then (p.1, v) else p)
    rw [e]
    by_cases h : (p.1 == k) = true
    · rw [if_pos h, if_pos h]
    · rw [if_neg h, if_neg h]
  | false => simp
theorem map_ne {k v j : Int} (hj : j ≠ k) : ∀ {l : List (Int × Int)}, (l.map fun p => if p.1 == k then (p.1, v) else p).lookup j = l.lookup j
  | [] => rfl
  | p :: l => by
    rw [List.map_cons, List.lookup_cons, List.lookup_cons]
    by_cases hp : p.1 = k
    · have e : (j == p.1) = false := by rw [hp]; simpa using hj
      rw [if_pos (by simpa using hp), e]
      exact map_ne hj
    · rw [if_neg (by simpa using hp), map_ne hj]
theorem map_eq {k v : Int} : ∀ {l : List (Int × Int)}, (l.any fun p => p.1 == k) = true → (l.map fun p => if p.1 == k then (p.1, v) else p).lookup k = some v
  | [], h => by simp at h
  | p :: l, h => by
    rw [List.map_cons, List.lookup_cons]
    by_cases hp : p.1 = k
    · rw [if_pos (by simpa using hp)]
      show (match k == p.1 with
        | true => some v
        | false => _) = _
      rw [show (k == p.1) = true by simpa using hp.symm]
    · have e : (p.1 == k) = false := by simpa using hp
      rw [List.any_cons, e, Bool.false_or] at h
      rw [if_neg (by rw [e]; simp), show (k == p.1) = false by simpa using Ne.symm hp]
      exact map_eq h
theorem any_look {k : Int} : ∀ {l : List (Int × Int)}, (l.any fun p => p.1 == k) = false → l.lookup k = none
  | [], _ => rfl
  | p :: l, h => by
    rw [List.any_cons, Bool.or_eq_false_iff] at h
    have hp : ¬ p.1 = k := by simpa using h.1
    rw [List.lookup_cons, show (k == p.1) = false by simpa using Ne.symm hp]
    exact any_look h.2
theorem aput_look {l : List (Int × Int)} {k v j : Int} : (aput l k v).lookup j = if j = k then some v else l.lookup j := by
  unfold aput
  cases h : l.any fun p => p.1 == k with
  | true =>
    rw [if_pos rfl]
    by_cases hj : j = k
    · subst hj; rw [if_pos rfl, map_eq h]
    · rw [if_neg hj, map_ne hj]
  | false =>
    rw [if_neg Bool.false_ne_true, List.lookup_append]
    by_cases hj : j = k
    · subst hj
      rw [any_look h, if_pos rfl]
      simp
    · rw [if_neg hj]
      have : (j == k) = false := by simpa using hj
      cases l.lookup j with
      | none => simp [List.lookup_cons, this]
      | some _ => rfl
theorem aput_len {l : List (Int × Int)} {k v : Int} : (aput l k v).length ≤ l.length + 1 := by
  unfold aput
  split
  · rw [List.length_map]; omega
  · simp
end Vm
namespace Vm
theorem wp_tand_nil {ρ : Fr} {P : Bool → Fr → Prop} {E : Ex → Fr → Prop} : Wp (tAndL [] ρ) P E = P true ρ := rfl
theorem wp_tand_cons {x : XD} {xs : List XD} {ρ : Fr} {P : Bool → Fr → Prop} {E : Ex → Fr → Prop} : Wp (tAndL (x :: xs) ρ) P E = Wp (x.2.ts ρ) (fun b ρ => if b = true then Wp (tAndL xs ρ) P E else P false ρ) E := by
  show Wp ((x.2.ts ρ).bind _) P E = _
  rw [wp_bind]
  congr 1
  funext b ρ
  cases b <;> rfl
theorem wp_tor_nil {ρ : Fr} {P : Bool → Fr → Prop} {E : Ex → Fr → Prop} : Wp (tOrL [] ρ) P E = P false ρ := rfl
theorem wp_tor_cons {x : XD} {xs : List XD} {ρ : Fr} {P : Bool → Fr → Prop} {E : Ex → Fr → Prop} : Wp (tOrL (x :: xs) ρ) P E = Wp (x.2.ts ρ) (fun b ρ => if b = true then P true ρ else Wp (tOrL xs ρ) P E) E := by
  show Wp ((x.2.ts ρ).bind _) P E = _
  rw [wp_bind]
  congr 1
  funext b ρ
  cases b <;> rfl
end Vm
section VsSec
open PySem Vm
local macro_rules
  | `(tactic| simp_arith! [$xs,*]) => `(tactic| simp (config := { implicitDefEqProofs := false }) only [wp_ok, wp_ex, wp_of, wp_of_some, wp_bind, wp_ite, pk_c, pk_nm, pk_mv, pk_fz, pk_att, pk_ix, pk_slc, pk_bin, pk_un, pk_cmp, pk_not, pk_and, pk_or, pk_ife, pk_tup, pk_lst, pk_dnew, pk_bi, pk_isi, pk_exf, pk_exi, pk_me, pk_mum, pk_call, pk_callk, pk_mcl, pk_new, pk_lc, dens_nil, dens_cons, ts_nm, ts_att, ts_ix, ts_bin, ts_cmp, ts_isi, ts_exi, ts_call, ts_not, ts_and, ts_or, it_nm, it_att, it_ix, it_bin, it_bi, it_slc, it_rng, it_zip, it_enu, eo_om, eo_nm, eo_c, eo_un, eo_bin, eo_call, ex_set_nm, ex_set_tup, ex_set_att, ex_set_sub, ex_ret, ex_ex, ex_ife, ex_loop, ex_raise, exs_nil, getS_v, getS_lst, getS_dic, getS_obj, getS_none, getS_s, wp_tand_nil, wp_tand_cons, wp_tor_nil, wp_tor_cons, vAndL, vOrL, evsL, fzsL, fzR, pksL, Cst.d, ev_nm, ev_att, ev_ix, ev_c, ev_mv, ev_fz, ev_slc, ev_bin, ev_un, ev_cmp, ev_not, ev_and, ev_or, ev_ife, ev_tup, ev_lst, ev_dnew, ev_bi, ev_isi, ev_exf, ev_exi, ev_me, ev_mu, ev_call, ev_callk, ev_mcall, ev_new, ev_lc, tr_bl, tr_int, tr_non, op_add, op_sub, op_mul, op_mod, op_fdiv, op_pow, op_shl, op_shr, op_and, op_or, op_xor, op_neg, cm_lt, cm_le, cm_gt, cm_ge, cm_eqI, cm_neI, cm_eqS, cm_isN, cm_isB, cm_in, cm_nin, bi_int, bi_intB, bi_abs, bi_min, bi_max, bi_lenL, bi_lenT, bi_lenF, List.set_cons_zero, List.set_cons_succ, List.length_cons, List.length_nil, List.map_cons, List.map_nil, Option.map_some, Option.map_none, Option.some.injEq, exists_eq_left', S.v.injEq, D.int.injEq, D.bl.injEq, b01, if_true, if_false, Bool.false_eq_true, decide_true, decide_false, R.of_some, R.bind_ok, decide_eq_true_eq, eq_self, wp_args_nil, wp_args_cons, ao_d, ao_l, ao_dic, ao_obj, ao_ix, ao_att, ao_c, ao_bin, ao_bi, ao_tup, ao_lst, ao_call, ao_callk, ao_slc, ao_un, as_nil, as_t, as_l, pb_nil, pb_0, pb_t0, Option.bind_some, Nat.reduceLT, Nat.reduceAdd, Nat.reduceLeDiff, Int.reduceLT, Int.reduceLE, Int.reducePow, Int.reduceNeg, B64, Bool.or_true, Bool.and_true, Bool.true_and, Bool.true_or, Int.reduceToNat, Int.reduceMul, $xs,*])
/-! Km1 -/
namespace K46
open PySem Vm
/-- the tape -/
def tp (a b c : Int) (l : List Int) : S := .lst [.v (.int a), .v (.int b), .v (.int c), .lst (l.map fun i => .v (.int i))]
section
variable {a b c x : Int} {l : List Int} {r : Fr}
theorem gs_tp : getS (some (tp a b c l) :: r) 0 = some (tp a b c l) := rfl
theorem ix_tp0 : getIx (tp a b c l) (.v (.int 0)) = some (.v (.int a)) := rfl
theorem ix_tp1 : getIx (tp a b c l) (.v (.int 1)) = some (.v (.int b)) := rfl
theorem ix_tp2 : getIx (tp a b c l) (.v (.int 2)) = some (.v (.int c)) := rfl
theorem ix_tp3 : getIx (tp a b c l) (.v (.int 3)) = some (.lst (l.map fun i => .v (.int i))) := rfl
theorem up_tp0 : pathUpd (some (tp a b c l) :: r) 0 [] (fun o => subSet o (.v (.int 0)) (.v (.int x))) = some (some (tp x b c l) :: r) := rfl
theorem up_tp1 : pathUpd (some (tp a b c l) :: r) 0 [] (fun o => subSet o (.v (.int 1)) (.v (.int x))) = some (some (tp a x c l) :: r) := rfl
theorem up_tp2 : pathUpd (some (tp a b c l) :: r) 0 [] (fun o => subSet o (.v (.int 2)) (.v (.int x))) = some (some (tp a b x l) :: r) := rfl
theorem hp_tp : hasP (some (tp a b c l) :: r) 0 [] = true := rfl
end
abbrev T : Tab := raw.tab
theorem r8 (n : Nat) (s t : S) : run T (n + 1) 8 [s, t] = outOf [0] (Vm.execs (T.cal (run T n)) T.U b8 [some s, some t, none, none]) := rfl
theorem pick_w {C : Cal} {U : Rules} {a b c m : Int} {l : List Int} (ha : 0 ≤ a) (hb : 0 ≤ b) (hb2 : b < 2147483647) (hc : 0 ≤ c) (hm : m < 1000000) :
    Wp (Vm.execs C U b8 [some (tp a b c l), some (.v (.int m)), none, none]) (fun f ρ => ∃ k a' b' c' r, f = .ret (.v (.int k)) ∧ ρ = some (tp a' b' c' l) :: r ∧ 0 ≤ k ∧ (k = 0 ∨ k < m) ∧ 0 ≤ a' ∧ 0 ≤ b' ∧ b' < 2147483647 ∧ 0 ≤ c') fun _ _ => False := by
  unfold b8
  rw [wp_cons]
  simp_arith! [eq_self]
  split
  · rw [wp_cons]
    simp_arith! [eq_self]
    exact ⟨0, a, b, c, _, rfl, rfl, by omega, .inl rfl, ha, hb, hb2, hc⟩
  rename_i h2
  refine wp_mid (fun ρ => ∃ a' b' c' x, ρ = [some (tp a' b' c' l), some (.v (.int m)), x, none] ∧ 0 ≤ a' ∧ 0 ≤ b' ∧ b' < 2147483647 ∧ 0 ≤ c') ?_ ?_
  · simp_arith! [gs_tp, ix_tp0, ix_tp1, ix_tp2, ix_tp3]
    split
    · split
      · rename_i h4
        obtain ⟨y, hy, hy2⟩ := at_int hc h4
        rw [List.getElem?_map] at hy
        obtain ⟨cell, hcell, rfl⟩ := Option.map_eq_some_iff.mp hy
        rw [wp_cons]
        simp_arith! [gs_tp, ix_tp0, ix_tp1, ix_tp2, ix_tp3, ix_l, hy2]
        rw [wp_cons]
        simp_arith! [gs_tp, ix_tp0, ix_tp1, ix_tp2, ix_tp3, up_tp2, hp_tp]
        rw [wp_cons]
        simp_arith! [gs_tp, ix_tp0, ix_tp1, ix_tp2, ix_tp3, up_tp2, hp_tp]
        split
        · rw [wp_cons]
          simp_arith! [gs_tp, ix_tp0, ix_tp1, ix_tp2, ix_tp3, up_tp0, hp_tp]
          refine ⟨_, b, c + 1, _, rfl, ?_, hb, hb2, by omega⟩
          unfold absI boI
          split <;> split <;> omega
        · rw [wp_cons]
          simp_arith! [gs_tp, ix_tp0, ix_tp1, ix_tp2, ix_tp3, up_tp1, hp_tp]
          refine ⟨a, _, c + 1, _, rfl, ha, Int.emod_nonneg _ (by omega), ?_, by omega⟩
          exact Int.lt_of_lt_of_le (Int.emod_lt_of_pos _ (by omega)) (by omega)
      · exact ⟨a, b, c, none, rfl, ha, hb, hb2, hc⟩
    · exact ⟨a, b, c, none, rfl, ha, hb, hb2, hc⟩
  · rintro ρ ⟨a', b', c', x, rfl, ha, hb, hb2, hc⟩
    refine wp_mid (fun ρ => ρ = [some (tp a' b' c' l), some (.v (.int m)), x, none] ∧ a' = 0) ?_ ?_
    · simp_arith! [gs_tp, ix_tp0, ix_tp1, ix_tp2, ix_tp3]
      split
      · rw [wp_cons]
        simp_arith! [gs_tp, ix_tp0, ix_tp1, ix_tp2, ix_tp3, up_tp2, hp_tp, show (0:Int) < m by omega, show m < 1073741824 by omega]
        rw [wp_cons]
        simp_arith! [gs_tp, ix_tp0, ix_tp1, ix_tp2, ix_tp3, up_tp0, hp_tp, show (0:Int) < m by omega, show m < 1073741824 by omega]
        rw [wp_cons]
        simp_arith! [eq_self]
        exact ⟨_, _, _, _, _, rfl, rfl, Int.emod_nonneg _ (by omega), .inr (Int.emod_lt_of_pos _ (by omega)), Int.ediv_nonneg ha (by omega), hb, hb2, hc⟩
      · exact ⟨trivial, by omega⟩
    · rintro ρ ⟨rfl, rfl⟩
      rw [wp_cons]
      simp_arith! [gs_tp, ix_tp0, ix_tp1, ix_tp2, ix_tp3, up_tp1, hp_tp]
      rw [wp_cons]
      simp_arith! [gs_tp, ix_tp0, ix_tp1, ix_tp2, ix_tp3, up_tp0, hp_tp, show (0:Int) < m by omega, show m < 1073741824 by omega]
      exact ⟨_, _, _, _, _, rfl, rfl, Int.emod_nonneg _ (by omega), .inr (Int.emod_lt_of_pos _ (by omega)), by omega, Int.emod_nonneg _ (by omega), Int.lt_of_lt_of_le (Int.emod_lt_of_pos _ (by omega)) (by omega), hc⟩
/-- a drawn number -/
theorem pick_ok {n : Nat} {a b c m : Int} {l : List Int} (ha : 0 ≤ a) (hb : 0 ≤ b) (hb2 : b < 2147483647) (hc : 0 ≤ c) (hm : m < 1000000) : Rn (run T (n + 1) 8 [tp a b c l, .v (.int m)]) (fun r f => ∃ k a' b' c', r = .v (.int k) ∧ f = [tp a' b' c' l] ∧ 0 ≤ k ∧ (k = 0 ∨ k < m) ∧ 0 ≤ a' ∧ 0 ≤ b' ∧ b' < 2147483647 ∧ 0 ≤ c') NoX := by
  refine run_wp (fn := f8) rfl rfl ((pick_w (l := l) ha hb hb2 hc hm).imp (fun f ρ h => ?_) fun _ _ h => h.elim)
  obtain ⟨k, a', b', c', r, rfl, rfl, h⟩ := h
  exact ⟨_, rfl, k, a', b', c', rfl, rfl, h⟩
/-- tapes -/
def Tape (s : S) : Prop := ∃ a b c l, s = tp a b c l ∧ 0 ≤ a ∧ 0 ≤ b ∧ b < 2147483647 ∧ 0 ≤ c
theorem pick_t {n : Nat} {s : S} {m : Int} (h : Tape s) (hm : m < 1000000) : Rn (run T (n + 1) 8 [s, .v (.int m)]) (fun r f => ∃ k t, r = .v (.int k) ∧ f = [t] ∧ Tape t ∧ 0 ≤ k ∧ (k = 0 ∨ k < m)) NoX := by
  obtain ⟨a, b, c, l, rfl, ha, hb, hb2, hc⟩ := h
  refine (pick_ok ha hb hb2 hc hm).imp (fun r f h => ?_) fun _ _ h => h
  obtain ⟨k, a', b', c', rfl, rfl, h1, h2, h3⟩ := h
  exact ⟨k, _, rfl, rfl, ⟨a', b', c', l, rfl, h3⟩, h1, h2⟩
def OkD : Nat → D → Prop
  | _, .int _ => True
  | _, .str _ => True
  | n + 1, .tup _ l => l.length ≤ 1000 ∧ ∀ d, d ∈ l → OkD n d
  | _, _ => False
theorem same_at : ∀ {l m : List D}, D.sames l m = true → l.length = m.length ∧ ∀ (k : Nat) (d e : D), l[k]? = some d → m[k]? = some e → D.same d e = true
  | [], m, h => by
    have : m = [] := List.isEmpty_iff.mp h
    subst this
    exact ⟨rfl, fun k d e z => by simp at z⟩
  | d :: l, [], h => by cases h
  | d :: l, e :: m, h => by
    have h : (D.same d e && D.sames l m) = true := h
    rw [Bool.and_eq_true] at h
    obtain ⟨h1, h2⟩ := same_at h.2
    refine ⟨by simp [h1], fun k x y e1 e2 => ?_⟩
    cases k with
    | zero => cases e1; cases e2; exact h.1
    | succ k => exact h2 k x y (by simpa using e1) (by simpa using e2)
theorem ty_ii {i : Int} : isTy (.v (.int i)) .int = some true := rfl
theorem ty_ib {i : Int} : isTy (.v (.int i)) .bool = some false := rfl
theorem ty_si {x : Str} : isTy (.v (.str x)) .int = some false := rfl
theorem ty_ss {x : Str} : isTy (.v (.str x)) .str = some true := rfl
theorem ty_ti {k : Bool} {l : List D} : isTy (.v (.tup k l)) .int = some false := rfl
theorem ty_ts {k : Bool} {l : List D} : isTy (.v (.tup k l)) .str = some false := rfl
theorem ty_tt {k : Bool} {l : List D} : isTy (.v (.tup k l)) .tuple = some true := rfl
theorem same_int {n : Nat} {j : Int} : Rn (run T (n + 1) 9 [.v (.int j), .v (.int j)]) (fun r f => r = .v (.bl true) ∧ f = []) NoX := by
  refine run_wp (fn := f9) rfl rfl ?_
  show Wp (Vm.execs _ _ b9 [some (.v (.int j)), some (.v (.int j)), none]) _ _
  unfold b9
  rw [wp_cons]
  simp_arith! [D.isNon, D.isBl]
  rw [wp_cons]
  simp_arith! [D.isNon, D.isBl]
  rw [wp_cons]
  simp_arith! [D.isNon, D.isBl]
  rw [wp_cons]
  simp_arith! [ty_ii, ty_ib]
  rw [wp_cons]
  simp_arith! [ty_ii, ty_ib, Bool.not_false, fin, and_self]
  exact ⟨_, rfl, trivial, rfl⟩
theorem same_str {n : Nat} {j : Str} : Rn (run T (n + 1) 9 [.v (.str j), .v (.str j)]) (fun r f => r = .v (.bl true) ∧ f = []) NoX := by
  refine run_wp (fn := f9) rfl rfl ?_
  show Wp (Vm.execs _ _ b9 [some (.v (.str j)), some (.v (.str j)), none]) _ _
  unfold b9
  rw [wp_cons]
  simp_arith! [D.isNon, D.isBl]
  rw [wp_cons]
  simp_arith! [D.isNon, D.isBl]
  rw [wp_cons]
  simp_arith! [D.isNon, D.isBl]
  rw [wp_cons]
  simp_arith! [ty_si]
  rw [wp_cons]
  simp_arith! [ty_ss]
  rw [wp_cons]
  simp_arith! [ty_ss, fin, and_self]
  exact ⟨_, rfl, trivial, rfl⟩
/-- a range -/
theorem rng_1 {k : Nat} {ρ : Fr} (h : k ≤ lineN) : rngR [.int (k : Int)] ρ = .ok ((List.range k).map fun j => D.int (j : Nat)) ρ := by
  show (if decide (-(2 ^ 62) ≤ (k : Int)) && decide ((k : Int) ≤ lineN) then R.ok (rngD 0 k) ρ else .bad) = _
  rw [if_pos]
  · unfold rngD
    congr 1
    simp
  · rw [Bool.and_eq_true, decide_eq_true_eq, decide_eq_true_eq]
    constructor <;> omega
theorem fz_i {i : Int} : fzD (.v (.int i)) = some (.int i) := rfl
theorem same_ok : ∀ {n : Nat} {got due : D}, OkD n due → D.same got due = true → Rn (run T (n + 1) 9 [.v got, .v due]) (fun r f => r = .v (.bl true) ∧ f = []) NoX := by
  intro n
  induction n with
  | zero =>
    intro got due ok h
    cases due with
    | int i =>
      cases got with
      | int j =>
        have e : j = i := by simpa [D.same] using h
        subst e
        exact same_int
      | _ => cases h
    | str x =>
      cases got with
      | str j =>
        have e : j = x := by simpa [D.same] using h
        subst e
        exact same_str
      | _ => cases h
    | _ => exact ok.elim
  | succ n ih =>
    intro got due ok h
    cases due with
    | int i =>
      cases got with
      | int j =>
        have e : j = i := by simpa [D.same] using h
        subst e
        exact same_int
      | _ => cases h
    | str x =>
      cases got with
      | str j =>
        have e : j = x := by simpa [D.same] using h
        subst e
        exact same_str
      | _ => cases h
    | tup kd m =>
      cases got with
      | tup kg l =>
        obtain ⟨hl, hk⟩ := same_at (show D.sames l m = true from h)
        obtain ⟨hm, hok⟩ := ok
        refine run_wp (fn := f9) rfl rfl ?_
        show Wp (Vm.execs _ _ b9 [some (.v (.tup kg l)), some (.v (.tup kd m)), none]) _ _
        unfold b9
        rw [wp_cons]
        simp_arith! [D.isNon, D.isBl]
        rw [wp_cons]
        simp_arith! [D.isNon, D.isBl]
        rw [wp_cons]
        simp_arith! [D.isNon, D.isBl]
        rw [wp_cons]
        simp_arith! [ty_ti]
        rw [wp_cons]
        simp_arith! [ty_ts]
        rw [wp_cons]
        simp_arith! [ty_tt, hl, Bool.not_true, not_true_eq_false]
        rw [wp_cons]
        simp_arith! [fz_i]
        rw [rng_1 (by unfold lineN; omega)]
        simp_arith! [eq_self]
        refine wp_for (fun r ρ => (∀ d ∈ r, ∃ k : Nat, d = .int k ∧ k < m.length) ∧ ∃ x, ρ = [some (.v (.tup kg l)), some (.v (.tup kd m)), x]) ⟨fun d md => ?_, _, rfl⟩ ?_ ?_
        · obtain ⟨k, hk, rfl⟩ := List.mem_map.mp md
          exact ⟨k, rfl, List.mem_range.mp hk⟩
        · rintro d r ρ ⟨hr, x, rfl⟩
          obtain ⟨k, rfl, hkl⟩ := hr d List.mem_cons_self
          refine ⟨_, tg_1 (by show 2 < 3; omega), ?_⟩
          have g1 : atIx l (k : Int) = some l[k] := by rw [at_nat]; exact List.getElem?_eq_getElem (by omega)
          have g2 : atIx m (k : Int) = some m[k] := by rw [at_nat]; exact List.getElem?_eq_getElem hkl
          rw [wp_cons]
          simp_arith! [ix_t, g1, g2]
          refine wp_call rfl rfl ((ih (hok _ (List.getElem_mem hkl)) (hk k _ _ (List.getElem?_eq_getElem (by omega)) (List.getElem?_eq_getElem hkl))).imp (fun r f h => ?_) fun _ _ h => h.elim)
          obtain ⟨rfl, rfl⟩ := h
          simp_arith! [Bool.not_true]
          exact ⟨fun d md => hr d (List.mem_cons_of_mem _ md), _, rfl⟩
        · rintro ρ ⟨_, x, rfl⟩
          dsimp only
          rw [wp_cons]
          simp_arith! [eq_self]
          exact ⟨_, rfl, trivial, rfl⟩
      | _ => cases h
    | _ => exact ok.elim
end K46
/-! Km2 -/
namespace K46
open PySem Vm
/-- lots: made how, of what -/
abbrev Lot := Bool × List Int
inductive Cmd where
  | new (d : Int)
  | tie (a b : Int)
  | flip (d : Int) (l : Lot)
  | sign (d : Int) (l : Lot)
  | look (d g : Int) (w a : Lot)
abbrev iD (l : List Int) : List D := l.map D.int
def lotD (l : Lot) : D := .tup l.1 (iD l.2)
def cmdD : Cmd → D
  | .new d => .tup true [.str "new", .int d]
  | .tie a b => .tup true [.str "tie", .int a, .int b]
  | .flip d l => .tup true [.str "flip", .int d, lotD l]
  | .sign d l => .tup true [.str "sign", .int d, lotD l]
  | .look d g w a => .tup true [.str "look", .int d, .int g, lotD w, lotD a]
structure WS where
  dots : List Int
  ties : List (Int × Int)
  angles : List (Int × Int)
  waits : List (Int × Int)
  names : List (Int × Int)
  seen : List Int
  flipped : List (Int × Int)
  signed : List (Int × Int)
def prD (p : Int × Int) : D := .tup true [.int p.1, .int p.2]
def dT (l : List (Int × Int)) : List (D × D) := l.map fun p => (prD p, .bl true)
def iL (l : List Int) : S := .lst ((iD l).map S.v)
def WS.s (w : WS) : S := .obj 4 [0, 1, 2, 3, 7, 4, 5, 6] [iL w.dots, .dic true (dT w.ties), .dic false (dI w.angles), .dic false (dI w.waits), .dic false (dI w.names), iL w.seen, .dic false (dI w.flipped), .dic false (dI w.signed)]
section
variable {w : WS} {r : Fr} {l : List Int} {m : List (Int × Int)} {k v : Int} {i : Nat} {C : Cal} {b : Bool}
theorem gs_ws : getS (some w.s :: r) 0 = some w.s := rfl
theorem ao_ws : argOf (.nm i) w.s = some (.l i) := rfl
theorem io_ws : isObj (some w.s) (some 4) = true := rfl
theorem fg0 : fldGet w.s 0 = some (iL w.dots) := rfl
theorem fg1 : fldGet w.s 1 = some (.dic true (dT w.ties)) := rfl
theorem fg2 : fldGet w.s 2 = some (.dic false (dI w.angles)) := rfl
theorem fg3 : fldGet w.s 3 = some (.dic false (dI w.waits)) := rfl
theorem fg4 : fldGet w.s 4 = some (iL w.seen) := rfl
theorem fg5 : fldGet w.s 5 = some (.dic false (dI w.flipped)) := rfl
theorem fg6 : fldGet w.s 6 = some (.dic false (dI w.signed)) := rfl
theorem fg7 : fldGet w.s 7 = some (.dic false (dI w.names)) := rfl
theorem ix_dI : getIx (.dic false (dI m)) (.v (.int k)) = (m.lookup k).map fun i => .v (.int i) := by
  show (if (D.int k).isKey false then (dget (dI m) (.int k)).map S.v else none) = _
  rw [if_pos (show D.isKey false (D.int k) = true from rfl), dI_get, Option.map_map]
  rfl
theorem gi_dI : getI (.dic false (dI m)) (.v (.int k)) = m.lookup k := by
  show (if (D.int k).isKey false then (match dget (dI m) (.int k) with
    | some (.int j) => some j
    | _ => none) else none) = _
  rw [if_pos (show D.isKey false (D.int k) = true from rfl), dI_get]
  cases m.lookup k <;> rfl
theorem ss_dI (h : m.length < lineN) : subSet (.dic false (dI m)) (.v (.int k)) (.v (.int v)) = some (.dic false (dI (aput m k v))) := by
  show (if (D.int k).isKey false && decide ((dI m).length < lineN) then some (S.dic false (dput (dI m) (.int k) (.int v))) else none) = _
  rw [dI_put, if_pos]
  rw [Bool.and_eq_true, decide_eq_true_eq]
  exact ⟨rfl, by unfold dI; rw [List.length_map]; exact h⟩
theorem lt_v : lotD (b, l) = .tup b (iD l) := rfl
end
/-- the names of a lot, added -/
def byn (m : List (Int × Int)) (l : List Int) : Int := l.foldl (fun x d => Builtin.bitXor x ((m.lookup d).getD 0)) 0
theorem byn_ok {n : Nat} {w : WS} {l : Lot} (h : ∀ d ∈ l.2, (w.names.lookup d).isSome = true) : Rn (run T (n + 1) 24 [w.s, .v (lotD l)]) (fun r f => r = .v (.int (byn w.names l.2)) ∧ f = []) NoX := by
  refine run_wp (fn := f24) rfl rfl ?_
  show Wp (Vm.execs _ _ b24 [some w.s, some (.v (lotD l)), none, none]) _ _
  unfold b24
  rw [wp_cons]
  simp_arith! [eq_self]
  rw [wp_cons]
  simp_arith! [lotD, seq_t]
  refine wp_for (fun r ρ => ∃ a x, l.2 = a ++ x ∧ r = iD x ∧ ∃ y, ρ = [some w.s, some (.v (lotD l)), some (.v (.int (byn w.names a))), y]) ⟨[], l.2, rfl, rfl, _, rfl⟩ ?_ ?_
  · rintro d r ρ ⟨a, x, e1, e2, y, rfl⟩
    obtain ⟨k, x, rfl⟩ : ∃ k x', x = k :: x' := by
      cases x with
      | nil => cases e2
      | cons k x' => exact ⟨k, x', rfl⟩
    have e2' : d = .int k ∧ r = iD x := by simpa [iD] using e2
    obtain ⟨rfl, rfl⟩ := e2'
    refine ⟨_, tg_1 (by show 3 < 4; omega), ?_⟩
    obtain ⟨v, hv⟩ := Option.isSome_iff_exists.mp (h k (by rw [e1]; simp))
    rw [wp_cons]
    refine wp_aug_nm (a := .v (.int (byn w.names a))) rfl ?_
    simp_arith! [gs_ws, fg7, ix_dI, hv, au_xor]
    refine ⟨trivial, a ++ [k], x, by rw [e1]; simp, rfl, some (.v (.int k)), ?_⟩
    have : byn w.names (a ++ [k]) = Builtin.bitXor (byn w.names a) v := by
      unfold byn
      rw [List.foldl_append]
      show Builtin.bitXor _ ((w.names.lookup k).getD 0) = _
      rw [hv]
      rfl
    rw [this]
  · rintro ρ ⟨a, x, e1, e2, y, rfl⟩
    have : x = [] := by cases x with
      | nil => rfl
      | cons _ _ => cases e2
    subst this
    rw [List.append_nil] at e1
    subst e1
    dsimp only
    rw [wp_cons]
    simp_arith! [eq_self]
    exact ⟨_, rfl, trivial, rfl⟩
section
variable {α : Type} {a b c d e : α} {l : List α}
theorem at_0 : atIx (a :: l) 0 = some a := at_nat (k := 0)
theorem at_1 : atIx (a :: b :: l) 1 = some b := at_nat (k := 1)
theorem at_2 : atIx (a :: b :: c :: l) 2 = some c := at_nat (k := 2)
theorem at_3 : atIx (a :: b :: c :: d :: l) 3 = some d := at_nat (k := 3)
theorem at_4 : atIx (a :: b :: c :: d :: e :: l) 4 = some e := at_nat (k := 4)
end
def tog (l : List (Int × Int)) (p : Int × Int) : List (Int × Int) := if l.contains p then l.filter fun q => q != p else l ++ [p]
theorem same_pr {p q : Int × Int} : D.same (prD p) (prD q) = (p == q) := by
  show (p.1 == q.1 && (p.2 == q.2 && true)) = _
  rw [Bool.and_true]
  rfl
theorem dT_any {l : List (Int × Int)} {p : Int × Int} : ((dT l).any fun q => D.same q.1 (prD p)) = l.contains p := by
  unfold dT
  rw [List.any_map]
  induction l with
  | nil => rfl
  | cons q l ih =>
    rw [List.any_cons, ih, List.contains_cons]
    show (D.same (prD q) (prD p) || _) = _
    rw [same_pr, Bool.beq_comm]
theorem dT_get {l : List (Int × Int)} {p : Int × Int} : (dget (dT l) (prD p)).isSome = l.contains p := by
  rw [← dT_any]
  unfold dget
  rw [Option.isSome_map, Bool.eq_iff_iff, List.find?_isSome, List.any_eq_true]
theorem in_dT {l : List (Int × Int)} {p : Int × Int} : inD (prD p) (.dic true (dT l)) = some (l.contains p) := by
  show (if (prD p).isKey true then some (dget (dT l) (prD p)).isSome else none) = _
  rw [if_pos (show (prD p).isKey true = true from rfl), dT_get]
theorem sd_dT {l : List (Int × Int)} {p : Int × Int} (h : l.contains p = true) : subDel (.dic true (dT l)) (prD p) = some (.dic true (dT (tog l p))) := by
  show (if (prD p).isKey true && (dget (dT l) (prD p)).isSome then some (S.dic true (ddel (dT l) (prD p))) else none) = _
  rw [dT_get, h, if_pos (show ((prD p).isKey true && true) = true from rfl)]
  unfold tog ddel
  rw [if_pos h]
  congr 2
  unfold dT
  rw [List.filter_map]
  congr 1
  apply List.filter_congr
  intro q _
  show (!D.same (prD q) (prD p)) = _
  rw [same_pr]
  rfl
theorem ss_dT {l : List (Int × Int)} {p : Int × Int} (h : l.contains p = false) (hl : l.length < lineN) : subSet (.dic true (dT l)) (.v (prD p)) (.v (.bl true)) = some (.dic true (dT (tog l p))) := by
  show (if (prD p).isKey true && decide ((dT l).length < lineN) then some (S.dic true (dput (dT l) (prD p) (.bl true))) else none) = _
  rw [if_pos]
  · unfold dput tog
    rw [dT_any, h, if_neg Bool.false_ne_true, if_neg Bool.false_ne_true]
    unfold dT
    rw [List.map_append]
    rfl
  · rw [Bool.and_eq_true, decide_eq_true_eq]
    exact ⟨rfl, by unfold dT; rw [List.length_map]; exact hl⟩
/-- a dict's value -/
def at0 (m : List (Int × Int)) (k : Int) : Int := (m.lookup k).getD 0
theorem at0_of {m : List (Int × Int)} {k v : Int} (h : m.lookup k = some v) : at0 m k = v := by unfold at0; rw [h]; rfl
def WS.tie (w : WS) (a b : Int) : WS :=
  let s1 := aput w.signed b (Builtin.bitXor (at0 w.signed b) (at0 w.flipped a))
  { w with ties := tog w.ties (a, b), signed := aput s1 a (Builtin.bitXor (at0 s1 a) (at0 w.flipped b)) }
def Has (m : List (Int × Int)) (k : Int) : Prop := (m.lookup k).isSome = true
theorem has_at {m : List (Int × Int)} {k : Int} (h : Has m k) : m.lookup k = some (at0 m k) := by
  unfold Has at *
  unfold at0
  cases e : m.lookup k with
  | none => rw [e] at h; cases h
  | some v => rfl
theorem has_put {m : List (Int × Int)} {k v j : Int} (h : Has m j) : Has (aput m k v) j := by
  unfold Has at *
  rw [aput_look]
  split
  · rfl
  · exact h
theorem has_new {m : List (Int × Int)} {k v : Int} : Has (aput m k v) k := by
  unfold Has
  rw [aput_look, if_pos rfl]
  rfl
section
variable {w : WS} {l : List Int} {m : List (Int × Int)}
theorem pg1 : pget w.s [1] = some (.dic true (dT w.ties)) := rfl
theorem pg2 : pget w.s [2] = some (.dic false (dI w.angles)) := rfl
theorem pg3 : pget w.s [3] = some (.dic false (dI w.waits)) := rfl
theorem pg5 : pget w.s [5] = some (.dic false (dI w.flipped)) := rfl
theorem pg6 : pget w.s [6] = some (.dic false (dI w.signed)) := rfl
theorem pg7 : pget w.s [7] = some (.dic false (dI w.names)) := rfl
theorem pg0 : pget w.s [0] = some (iL w.dots) := rfl
theorem pg4 : pget w.s [4] = some (iL w.seen) := rfl
theorem pp0 : pput w.s [0] (iL l) = some ({ w with dots := l } : WS).s := rfl
theorem pp1 : pput w.s [1] (.dic true (dT m)) = some ({ w with ties := m } : WS).s := rfl
theorem pp2 : pput w.s [2] (.dic false (dI m)) = some ({ w with angles := m } : WS).s := rfl
theorem pp3 : pput w.s [3] (.dic false (dI m)) = some ({ w with waits := m } : WS).s := rfl
theorem pp4 : pput w.s [4] (iL l) = some ({ w with seen := l } : WS).s := rfl
theorem pp5 : pput w.s [5] (.dic false (dI m)) = some ({ w with flipped := m } : WS).s := rfl
theorem pp6 : pput w.s [6] (.dic false (dI m)) = some ({ w with signed := m } : WS).s := rfl
theorem pp7 : pput w.s [7] (.dic false (dI m)) = some ({ w with names := m } : WS).s := rfl
end
/-- all dicts are small -/
def WS.sm (w : WS) (N : Nat) : Prop := w.ties.length ≤ N ∧ w.angles.length ≤ N ∧ w.waits.length ≤ N ∧ w.names.length ≤ N ∧ w.flipped.length ≤ N ∧ w.signed.length ≤ N ∧ w.dots.length ≤ N ∧ w.seen.length ≤ N
theorem tie_ok {n : Nat} {w : WS} {a b : Int} (h1 : Has w.flipped a) (h2 : Has w.flipped b) (h3 : Has w.signed a) (h4 : Has w.signed b) (hs : w.sm 1000) : Rn (run T (n + 1) 23 [w.s, .v (.int a), .v (.int b)]) (fun r f => r = .v .non ∧ f = [(w.tie a b).s]) NoX := by
  obtain ⟨l1, l2, l3, l4, l5, l6, l7, l8⟩ := hs
  refine run_wp (fn := f23) rfl rfl ?_
  show Wp (Vm.execs _ _ b23 [some w.s, some (.v (.int a)), some (.v (.int b))]) _ _
  unfold b23
  have key : (S.v (.tup true [.int a, .int b])) = .v (prD (a, b)) := rfl
  refine wp_mid (fun ρ => ρ = [some ({ w with ties := tog w.ties (a, b) } : WS).s, some (.v (.int a)), some (.v (.int b))]) ?_ ?_
  · simp_arith! [gs_ws, fg1, fz_i]
    rw [show D.tup true [.int a, .int b] = prD (a, b) from rfl, in_dT]
    simp_arith! [eq_self]
    split
    · rename_i hc
      rw [wp_cons]
      refine wp_del (has_p gs_ws pg1) ?_
      simp_arith! [fz_i]
      exact ⟨_, _, _, _, _, rfl, gs_ws, pg1, sd_dT hc, pp1, rfl⟩
    · rename_i hc
      rw [wp_cons]
      refine wp_set_sub ?_
      simp_arith! [fz_i]
      exact ⟨has_p gs_ws pg1, _, _, _, _, gs_ws, pg1, ss_dT (by simpa using hc) (by unfold lineN; omega), pp1, rfl⟩
  · rintro ρ rfl
    rw [wp_cons]
    refine wp_aug_sub (has_p gs_ws pg6) ?_
    simp_arith! [eq_self]
    refine ⟨_, _, _, gs_ws, pg6, by rw [gi_dI]; exact has_at h4, ?_⟩
    simp_arith! [gs_ws, fg5, ix_dI, has_at h1, au_xor]
    refine ⟨_, _, _, _, _, rfl, rfl, pg6, ss_dI (by show w.signed.length < lineN; unfold lineN; omega), pp6, ?_⟩
    rw [wp_cons]
    refine wp_aug_sub (has_p gs_ws pg6) ?_
    simp_arith! [eq_self]
    refine ⟨_, _, _, gs_ws, pg6, by rw [gi_dI]; exact has_at (has_put h3), ?_⟩
    simp_arith! [gs_ws, fg5, ix_dI, has_at h2, au_xor]
    refine ⟨_, _, _, _, _, rfl, rfl, pg6, ss_dI (Nat.lt_of_le_of_lt aput_len (by show w.signed.length + 1 < lineN; unfold lineN; omega)), pp6, ?_⟩
    simp_arith! [eq_self]
    exact ⟨_, rfl, trivial, rfl⟩
def stepW (c : Cmd) (w : WS) : WS :=
  match c with
  | .new d => { w with dots := w.dots ++ [d], flipped := aput w.flipped d 0, signed := aput w.signed d 0 }
  | .tie a b => w.tie a b
  | .flip d l => { w with flipped := aput w.flipped d (Builtin.bitXor (at0 w.flipped d) (byn w.names l.2)) }
  | .sign d l => { w with signed := aput w.signed d (Builtin.bitXor (at0 w.signed d) (byn w.names l.2)) }
  | .look d g l a => { w with angles := aput w.angles d g, waits := aput w.waits d (Builtin.bitXor (byn w.names l.2) (at0 w.flipped d)), names := aput w.names d (Builtin.bitXor (Builtin.bitXor (2 ^ w.seen.length) (byn w.names a.2)) (at0 w.signed d)), seen := w.seen ++ [d] }
def Pre (c : Cmd) (w : WS) : Prop :=
  match c with
  | .new d => True
  | .tie a b => Has w.flipped a ∧ Has w.flipped b ∧ Has w.signed a ∧ Has w.signed b
  | .flip d l => Has w.flipped d ∧ ∀ k ∈ l.2, Has w.names k
  | .sign d l => Has w.signed d ∧ ∀ k ∈ l.2, Has w.names k
  | .look d g l a => Has w.flipped d ∧ Has w.signed d ∧ (∀ k ∈ l.2, Has w.names k) ∧ ∀ k ∈ a.2, Has w.names k
theorem w_nt : (("new" : Str) = "tie") = False := by decide +kernel
theorem w_nf : (("new" : Str) = "flip") = False := by decide +kernel
theorem w_ns : (("new" : Str) = "sign") = False := by decide +kernel
theorem w_tn : (("tie" : Str) = "new") = False := by decide +kernel
theorem w_fn : (("flip" : Str) = "new") = False := by decide +kernel
theorem w_ft : (("flip" : Str) = "tie") = False := by decide +kernel
theorem w_sn : (("sign" : Str) = "new") = False := by decide +kernel
theorem w_st : (("sign" : Str) = "tie") = False := by decide +kernel
theorem w_sf : (("sign" : Str) = "flip") = False := by decide +kernel
theorem w_ln : (("look" : Str) = "new") = False := by decide +kernel
theorem w_lt : (("look" : Str) = "tie") = False := by decide +kernel
theorem w_lf : (("look" : Str) = "flip") = False := by decide +kernel
theorem w_ls : (("look" : Str) = "sign") = False := by decide +kernel
theorem ap_i {l : List Int} {d : Int} (h : l.length < lineN) : mu .append (iL l) [.v (.int d)] = some (iL (l ++ [d]), .v .non) := by
  unfold iL
  show (if ((iD l).map S.v).length < lineN then some (S.lst ((iD l).map S.v ++ [.v (.int d)]), S.v .non) else none) = _
  rw [if_pos (by simpa using h)]
  simp
theorem mo_i {l : List Int} : muOk (some (iL l)) = true := rfl
theorem mu_r {i : Nat} {m : Mu} {fs : List Nat} {ss : List S} {ρ : Fr} {s t t' s' r : S} (h1 : getS ρ i = some s) (h2 : pget s fs = some t) (h3 : mu m t ss = some (t', r)) (h4 : pput s fs t' = some s') : muR m i fs ss ρ = .ok r (ρ.set i (some s')) := by
  unfold muR
  rw [h1]
  dsimp only
  rw [h2]
  dsimp only
  rw [h3]
  dsimp only
  rw [h4]
section
variable {cf : Nat → List S → Out} {w : WS}
theorem io22 : isObj (some w.s) ((T.cal cf).mc 22) = true := rfl
theorem io23 : isObj (some w.s) ((T.cal cf).mc 23) = true := rfl
theorem io24 : isObj (some w.s) ((T.cal cf).mc 24) = true := rfl
theorem io25 : isObj (some w.s) ((T.cal cf).mc 25) = true := rfl
theorem mt8 : (T.cal cf).mt 8 = [0] := rfl
theorem mt22 : (T.cal cf).mt 22 = [0] := rfl
theorem mt23 : (T.cal cf).mt 23 = [0] := rfl
theorem mt24 : (T.cal cf).mt 24 = [] := rfl
theorem mt25 : (T.cal cf).mt 25 = [] := rfl
end
theorem bl_i {l : List Int} : bi .len [iL l] = some (.v (.int (l.length : Nat))) := by
  unfold iL
  rw [bi_lenL, List.length_map, List.length_map]
theorem sh_1 {k : Nat} (h : k ≤ 1000) : op2 .shl (.v (.int 1)) (.v (.int (k : Int))) = some (.v (.int (2 ^ k))) := by
  rw [op_shl, Int.toNat_natCast, Int.one_mul]
  rw [Bool.and_eq_true, Bool.and_eq_true, decide_eq_true_eq, decide_eq_true_eq]
  exact ⟨⟨by omega, by omega⟩, by decide⟩
theorem follow_ok {n : Nat} {w : WS} {c : Cmd} (hp : Pre c w) (hs : w.sm 1000) : Rn (run T (n + 2) 22 [w.s, .v (cmdD c)]) (fun r f => r = .v .non ∧ f = [(stepW c w).s]) NoX := by
  obtain ⟨l1, l2, l3, l4, l5, l6, l7, l8⟩ := id hs
  refine run_wp (fn := f22) rfl rfl ?_
  show Wp (Vm.execs _ _ b22 [some w.s, some (.v (cmdD c)), none, none]) _ _
  unfold b22
  cases c with
  | new d =>
    rw [wp_cons]
    simp_arith! [cmdD, ex_par, ix_t, at_0, at_1, setsS]
    rw [wp_cons]
    simp_arith! [eq_self]
    rw [wp_cons]
    simp_arith! [gs_ws, pg0, mo_i]
    rw [mu_r gs_ws pg0 (ap_i (by unfold lineN; omega)) pp0]
    simp_arith! [eq_self]
    rw [wp_cons]
    refine wp_set_sub ?_
    simp_arith! [eq_self]
    refine ⟨has_p gs_ws pg5, _, _, _, _, gs_ws, pg5, ss_dI (by show w.flipped.length < lineN; unfold lineN; omega), pp5, ?_⟩
    rw [wp_cons]
    refine wp_set_sub ?_
    simp_arith! [eq_self]
    refine ⟨has_p gs_ws pg6, _, _, _, _, gs_ws, pg6, ss_dI (by show w.signed.length < lineN; unfold lineN; omega), pp6, ?_⟩
    simp_arith! [eq_self]
    exact ⟨_, rfl, trivial, rfl⟩
  | tie a b =>
    obtain ⟨p1, p2, p3, p4⟩ := hp
    rw [wp_cons]
    simp_arith! [cmdD, ex_par, ix_t, at_0, at_1, setsS]
    rw [wp_cons]
    simp_arith! [w_tn]
    rw [wp_cons]
    simp_arith! [eq_self]
    rw [wp_cons]
    simp_arith! [gs_ws, ix_t, at_2, io23]
    refine wp_call (ss := [w.s, .v (.int a), .v (.int b)]) rfl rfl ((tie_ok p1 p2 p3 p4 hs).imp (fun r f h => ?_) fun _ _ h => h.elim)
    obtain ⟨rfl, rfl⟩ := h
    simp_arith! [mt23]
    exact ⟨_, rfl, trivial, rfl⟩
  | flip d l =>
    obtain ⟨p1, p2⟩ := hp
    rw [wp_cons]
    simp_arith! [cmdD, ex_par, ix_t, at_0, at_1, setsS]
    rw [wp_cons]
    simp_arith! [w_fn]
    rw [wp_cons]
    simp_arith! [w_ft]
    rw [wp_cons]
    simp_arith! [eq_self]
    rw [wp_cons]
    refine wp_aug_sub (has_p gs_ws pg5) ?_
    simp_arith! [eq_self]
    refine ⟨_, _, _, gs_ws, pg5, by rw [gi_dI]; exact has_at p1, ?_⟩
    simp_arith! [gs_ws, ix_t, at_2, io24, lotD]
    refine wp_call (ss := [w.s, .v (lotD l)]) rfl rfl ((byn_ok p2).imp (fun r f h => ?_) fun _ _ h => h.elim)
    obtain ⟨rfl, rfl⟩ := h
    simp_arith! [mt24, au_xor, gs_ws]
    refine ⟨_, _, _, _, _, rfl, rfl, pg5, ss_dI (by show w.flipped.length < lineN; unfold lineN; omega), pp5, ?_⟩
    exact ⟨_, rfl, trivial, rfl⟩
  | sign d l =>
    obtain ⟨p1, p2⟩ := hp
    rw [wp_cons]
    simp_arith! [cmdD, ex_par, ix_t, at_0, at_1, setsS]
    rw [wp_cons]
    simp_arith! [w_sn]
    rw [wp_cons]
    simp_arith! [w_st]
    rw [wp_cons]
    simp_arith! [w_sf]
    rw [wp_cons]
    simp_arith! [eq_self]
    rw [wp_cons]
    refine wp_aug_sub (has_p gs_ws pg6) ?_
    simp_arith! [eq_self]
    refine ⟨_, _, _, gs_ws, pg6, by rw [gi_dI]; exact has_at p1, ?_⟩
    simp_arith! [gs_ws, ix_t, at_2, io24, lotD]
    refine wp_call (ss := [w.s, .v (lotD l)]) rfl rfl ((byn_ok p2).imp (fun r f h => ?_) fun _ _ h => h.elim)
    obtain ⟨rfl, rfl⟩ := h
    simp_arith! [mt24, au_xor, gs_ws]
    refine ⟨_, _, _, _, _, rfl, rfl, pg6, ss_dI (by show w.signed.length < lineN; unfold lineN; omega), pp6, ?_⟩
    exact ⟨_, rfl, trivial, rfl⟩
  | look d g l a =>
    obtain ⟨p1, p2, p3, p4⟩ := hp
    rw [wp_cons]
    simp_arith! [cmdD, ex_par, ix_t, at_0, at_1, setsS]
    rw [wp_cons]
    simp_arith! [w_ln]
    rw [wp_cons]
    simp_arith! [w_lt]
    rw [wp_cons]
    simp_arith! [w_lf]
    rw [wp_cons]
    simp_arith! [w_ls]
    rw [wp_cons]
    refine wp_set_sub ?_
    simp_arith! [ix_t, at_2]
    refine ⟨has_p gs_ws pg2, _, _, _, _, gs_ws, pg2, ss_dI (by show w.angles.length < lineN; unfold lineN; omega), pp2, ?_⟩
    rw [wp_cons]
    refine wp_set_sub ?_
    simp_arith! [gs_ws, ix_t, at_3, io24, lotD]
    refine wp_call (ss := [_, .v (lotD l)]) rfl rfl ((byn_ok (w := { w with angles := aput w.angles d g }) p3).imp (fun r f h => ?_) fun _ _ h => h.elim)
    obtain ⟨rfl, rfl⟩ := h
    simp_arith! [mt24, gs_ws, fg5, ix_dI, has_at p1]
    refine ⟨has_p gs_ws pg3, _, _, _, _, rfl, pg3, ss_dI (by show w.waits.length < lineN; unfold lineN; omega), pp3, ?_⟩
    rw [wp_cons]
    refine wp_set_sub ?_
    simp_arith! [gs_ws, fg4, bl_i, sh_1 l8, ix_t, at_4, io24, lotD]
    refine wp_call (ss := [_, .v (lotD a)]) rfl rfl ((byn_ok (w := { w with angles := aput w.angles d g, waits := aput w.waits d (Builtin.bitXor (byn w.names l.2) (at0 w.flipped d)) }) p4).imp (fun r f h => ?_) fun _ _ h => h.elim)
    obtain ⟨rfl, rfl⟩ := h
    simp_arith! [mt24, gs_ws, fg6, ix_dI, has_at p2]
    refine ⟨has_p gs_ws pg7, _, _, _, _, rfl, pg7, ss_dI (by show w.names.length < lineN; unfold lineN; omega), pp7, ?_⟩
    rw [wp_cons]
    simp_arith! [gs_ws, pg4, mo_i]
    rw [mu_r gs_ws pg4 (ap_i (by show w.seen.length < lineN; unfold lineN; omega)) pp4]
    exact ⟨_, rfl, trivial, rfl⟩
end K46
/-! Vs5 -/
namespace Vm
variable {C : Cal} {U : Rules} {ρ : Fr} {α β : Type}
theorem pk_dc {dt : Bool} {k v : X} {t : List Nat} {it : X} {cs : Xs} : (den C (.dc dt k v t it cs)).pk ρ = ((den C it).it ρ).bind fun ds ρ => match dcGo dt t (tAndL (dens C cs)) (XD.ev (k, den C k)) (XD.ev (v, den C v)) ds ρ [] with
    | .ok l ρ' => .ok (.dic dt l) (unset t ρ ρ')
    | _ => .bad := rfl
theorem ev_dc {dt : Bool} {k v : X} {t : List Nat} {it : X} {cs : Xs} : XD.ev (.dc dt k v t it cs, den C (.dc dt k v t it cs)) ρ = (den C (.dc dt k v t it cs)).pk ρ := ev_np rfl
theorem un_set {i : Nat} (hi : i < ρ.length) (x : Option S) : unset [i] ρ (ρ.set i x) = ρ := by
  show (ρ.set i x).set i (ρ[i]?).join = ρ
  rw [List.set_set, List.getElem?_eq_getElem hi]
  exact List.set_getElem_self hi
theorem dput_len {l : List (D × D)} {k v : D} : (dput l k v).length ≤ l.length + 1 := by
  unfold dput
  split
  · rw [List.length_map]; omega
  · simp
theorem dcGo_pure {dt : Bool} {i : Nat} {tst : Fr → R Bool} {ek ev : Fr → R S} (kf vf : D → D) (hi : i < ρ.length) : ∀ {ds : List D} {ρ' : Fr} {acc : List (D × D)}, (ρ' = ρ ∨ ∃ x, ρ' = ρ.set i x) → (∀ d, d ∈ ds → tst (ρ.set i (some (.v d))) = .ok true (ρ.set i (some (.v d))) ∧ ek (ρ.set i (some (.v d))) = .ok (.v (kf d)) (ρ.set i (some (.v d))) ∧ ev (ρ.set i (some (.v d))) = .ok (.v (vf d)) (ρ.set i (some (.v d))) ∧ (kf d).isKey dt = true) →
    acc.length + ds.length < lineN → ∃ ρ2, dcGo dt [i] tst ek ev ds ρ' acc = .ok (ds.foldl (fun a d => dput a (kf d) (vf d)) acc) ρ2 ∧ (ρ2 = ρ ∨ ∃ x, ρ2 = ρ.set i x)
  | [], ρ', acc, hr, h, hl => ⟨ρ', rfl, hr⟩
  | d :: r, ρ', acc, hr, h, hl => by
    have hlen : i < ρ'.length := by
      rcases hr with e | ⟨x, e⟩
      · rw [e]; exact hi
      · rw [e, List.length_set]; exact hi
    have hs : ρ'.set i (some (.v d)) = ρ.set i (some (.v d)) := by
      rcases hr with e | ⟨x, e⟩
      · rw [e]
      · rw [e, List.set_set]
    obtain ⟨h1, h2, h3, h4⟩ := h d List.mem_cons_self
    rw [List.length_cons] at hl
    obtain ⟨ρ2, e, hr2⟩ := dcGo_pure (dt := dt) (tst := tst) (ek := ek) (ev := ev) kf vf hi (ds := r) (ρ' := ρ.set i (some (.v d))) (acc := dput acc (kf d) (vf d)) (.inr ⟨_, rfl⟩) (fun d m => h d (List.mem_cons_of_mem _ m)) (by have := dput_len (l := acc) (k := kf d) (v := vf d); omega)
    refine ⟨ρ2, ?_, hr2⟩
    show (match setTg [i] d ρ' with
      | none => R.bad
      | some ρ1 => _) = _
    rw [tg_1 hlen, hs]
    dsimp only
    rw [h1]
    dsimp only
    rw [h2]
    dsimp only
    rw [if_pos (by rw [h4, decide_eq_true (by omega : acc.length < lineN)]; rfl), h3]
    exact e
theorem wp_dcP {dt : Bool} {i : Nat} {k v : X} {cs : Xs} {ds : List D} {P : S → Fr → Prop} {E : Ex → Fr → Prop} (kf vf : D → D) (hi : i < ρ.length) (h : ∀ d, d ∈ ds → tAndL (dens C cs) (ρ.set i (some (.v d))) = .ok true (ρ.set i (some (.v d))) ∧ XD.ev (k, den C k) (ρ.set i (some (.v d))) = .ok (.v (kf d)) (ρ.set i (some (.v d))) ∧ XD.ev (v, den C v) (ρ.set i (some (.v d))) = .ok (.v (vf d)) (ρ.set i (some (.v d))) ∧ (kf d).isKey dt = true)
    (hl : ds.length < lineN) (hq : P (.dic dt (ds.foldl (fun a d => dput a (kf d) (vf d)) [])) ρ) : Wp (match dcGo dt [i] (tAndL (dens C cs)) (XD.ev (k, den C k)) (XD.ev (v, den C v)) ds ρ [] with
    | .ok l ρ' => R.ok (.dic dt l) (unset [i] ρ ρ')
    | _ => .bad) P E := by
  obtain ⟨ρ2, e, hr⟩ := dcGo_pure (dt := dt) (tst := tAndL (dens C cs)) (ek := XD.ev (k, den C k)) (ev := XD.ev (v, den C v)) kf vf hi (ds := ds) (ρ' := ρ) (acc := []) (.inl rfl) h (by simpa using hl)
  rw [e]
  show P _ (unset [i] ρ ρ2)
  rcases hr with e | ⟨x, e⟩
  · have := un_set hi ρ[i]
    rw [List.set_getElem_self hi] at this
    rw [e, this]; exact hq
  · rw [e, un_set hi]; exact hq
theorem sd_i {l : List Int} : sortD (l.map D.int) = some ((sortI l).map D.int) := by
  unfold sortD
  rw [ints_v]
theorem sorted_eq {l m : List Int} (hl : l.Pairwise (· ≤ ·)) (hm : m.Pairwise (· ≤ ·)) (p : l.Perm m) : l = m := p.eq_of_pairwise (fun a b _ _ h1 h2 => Int.le_antisymm h1 h2) hl hm
/-- sorting, then picking out -/
theorem sortI_filter {p : Int → Bool} {l : List Int} : sortI (l.filter p) = (sortI l).filter p :=
  sorted_eq (sortI_sorted _) ((sortI_sorted _).sublist List.filter_sublist) ((sortI_perm _).trans ((sortI_perm _).symm.filter p))
end Vm
namespace Vm
variable {C : Cal} {U : Rules} {ρ : Fr} {α β : Type}
theorem wp_eq {r : R α} {x : α} {y : Fr} (h : Wp r (fun a ρ => a = x ∧ ρ = y) NoE) : r = .ok x y := by
  cases r with
  | bad => exact h.elim
  | ex e ρ => exact h.elim
  | ok a ρ =>
    obtain ⟨rfl, rfl⟩ := h
    rfl
/-- a comprehension without tests -/
theorem wp_lcM {i : Nat} {el : Fr → R S} {ds : List D} {P : S → Fr → Prop} {E : Ex → Fr → Prop} (g : D → D) (hi : i < ρ.length) (h1 : ∀ d, d ∈ ds → Wp (el (ρ.set i (some (.v d)))) (fun s ρ' => s = .v (g d) ∧ ρ' = ρ.set i (some (.v d))) NoE) (hn : ds.length ≤ lineN) (h : P (.lst ((ds.map g).map S.v)) ρ) : Wp (lcR [i] ρ (lcGo [i] (tAndL []) el ds ρ [])) P E := by
  refine wp_lcP (fun _ => true) g hi (fun d m => rfl) (fun d m _ => wp_eq (h1 d m)) hn ?_
  rw [List.filter_eq_self.mpr fun _ _ => rfl]
  exact h
/-- .. with tests -/
theorem wp_lcF {i : Nat} {ts : List XD} {el : Fr → R S} {ds : List D} {P : S → Fr → Prop} {E : Ex → Fr → Prop} (p : D → Bool) (g : D → D) (hi : i < ρ.length) (h0 : ∀ d, d ∈ ds → Wp (tAndL ts (ρ.set i (some (.v d)))) (fun b ρ' => b = p d ∧ ρ' = ρ.set i (some (.v d))) NoE) (h1 : ∀ d, d ∈ ds → p d = true → Wp (el (ρ.set i (some (.v d)))) (fun s ρ' => s = .v (g d) ∧ ρ' = ρ.set i (some (.v d))) NoE) (hn : ds.length ≤ lineN) (h : P (.lst (((ds.filter p).map g).map S.v)) ρ) : Wp (lcR [i] ρ (lcGo [i] (tAndL ts) el ds ρ [])) P E :=
  wp_lcP p g hi (fun d m => wp_eq (h0 d m)) (fun d m q => wp_eq (h1 d m q)) hn h
theorem wp_new {c : Nat} {as : List Arg} {ss : List S} {P : S → Fr → Prop} {E : Ex → Fr → Prop} (h1 : argS ρ as = some ss) (h2 : distinct (lends as) = true) (h : Rn (C.cf (C.ini c) (.obj c [] [] :: ss)) (fun r fin => r = .v .non ∧ ∃ o l, fin = o :: l ∧ P o (putBack (.t (.obj c [] []) :: as) ((C.mt (C.ini c)).drop 1) l ρ)) NoX) : Wp (newR C c as ρ) P E := by
  unfold newR
  rw [h1]
  dsimp only
  rw [if_pos h2]
  obtain ⟨h⟩ := h
  revert h
  cases C.cf (C.ini c) (.obj c [] [] :: ss) with
  | bad => exact fun h => h
  | ex e l => exact fun h => h.elim
  | ok r l =>
    rintro ⟨rfl, o, l', rfl, h⟩
    exact h
theorem fz_v {d : D} : fzD (.v d) = some d := rfl
end Vm
/-! Km3 -/
namespace K46
open PySem Vm
structure Prog where
  ins : List Int
  outs : List Int
  rows : List Cmd
  turns : List Int
def progD (p : Prog) : D := .tup true [.tup false (iD p.ins), .tup false (iD p.outs), .tup false (p.rows.map cmdD), .tup false (iD p.turns)]
def zeros (l : List Int) : List (Int × Int) := l.foldl (fun m d => aput m d 0) []
def w0 (p : Prog) : WS := ⟨p.ins, [], [], [], [], [], zeros p.ins, zeros p.ins⟩
def runW (l : List Cmd) (w : WS) : WS := l.foldl (fun w c => stepW c w) w
def Runs : List Cmd → WS → Prop
  | [], w => True
  | c :: cs, w => Pre c w ∧ w.sm 1000 ∧ Runs cs (stepW c w)
def ends (p : Prog) (m : List (Int × Int)) : List (Int × Int) := (p.outs.zip p.turns).foldl (fun m q => aput m q.1 ((8 - q.2) % 8)) m
def walkW (p : Prog) : WS := let w := runW p.rows (w0 p); { w with angles := ends p w.angles }
theorem zeros_dI {l : List Int} : (iD l).foldl (fun a d => dput a d (.int 0)) [] = dI (zeros l) := by
  have : ∀ (l : List Int) (m : List (Int × Int)), (iD l).foldl (fun a d => dput a d (.int 0)) (dI m) = dI (l.foldl (fun m d => aput m d 0) m) := by
    intro l
    induction l with
    | nil => intro m; rfl
    | cons d l ih =>
      intro m
      show (iD l).foldl _ (dput (dI m) (.int d) (.int 0)) = _
      rw [dI_put, ih]
      rfl
  exact this l []
theorem fp_len {m : List (Int × Int)} {l : List Int} : (zeros l).length ≤ l.length := by
  have : ∀ (l : List Int) (m : List (Int × Int)), (l.foldl (fun m d => aput m d 0) m).length ≤ m.length + l.length := by
    intro l
    induction l with
    | nil => intro m; exact Nat.le_refl _
    | cons d l ih =>
      intro m
      refine Nat.le_trans (ih (aput m d 0)) ?_
      have := aput_len (l := m) (k := d) (v := 0)
      rw [List.length_cons]; omega
  have := this l []
  rw [List.length_nil, Nat.zero_add] at this
  exact this
theorem dc_0 {n : Nat} {a b c d e : Option S} {l : List Int} {P : S → Fr → Prop} {E : Ex → Fr → Prop} (hl : l.length < lineN) (h : P (.dic false (dI (zeros l))) [a, b, c, d, e, none]) : Wp (match dcGo false [5] (tAndL (dens (T.cal (run T n)) .nil)) (XD.ev (.nm 5, den (T.cal (run T n)) (.nm 5))) (XD.ev (.c (.int 0), den (T.cal (run T n)) (.c (.int 0)))) (iD l) [a, b, c, d, e, none] [] with
    | .ok l ρ' => R.ok (.dic false l) (unset [5] [a, b, c, d, e, none] ρ')
    | _ => .bad) P E := by
  refine wp_dcP (fun d => d) (fun _ => .int 0) (by show 5 < 6; omega) (fun d m => ?_) (by rw [List.length_map]; exact hl) (by rw [zeros_dI]; exact h)
  obtain ⟨i, _, rfl⟩ := List.mem_map.mp m
  exact ⟨rfl, rfl, rfl, rfl⟩
theorem zip_i {a b : List Int} : zipS [.v (.tup false (iD a)), .v (.tup false (iD b))] = some ((a.zip b).map prD) := by
  show some (zip2 (iD a) (iD b)) = _
  unfold zip2
  rw [List.zip_map, List.map_map]
  rfl
theorem init_ok {n : Nat} {p : Prog} (h : Runs p.rows (w0 p)) (hl : p.ins.length ≤ 1000) (ha : (runW p.rows (w0 p)).angles.length + p.outs.length ≤ 1000) (ht : p.turns.length = p.outs.length) : Rn (run T (n + 3) 21 [.obj 4 [] [], .v (progD p)]) (fun r f => r = .v .non ∧ f = [(walkW p).s]) NoX := by
  refine run_wp (fn := f21) rfl rfl ?_
  show Wp (Vm.execs _ _ b21 [some (.obj 4 [] []), some (.v (progD p)), none, none, none, none]) _ _
  unfold b21
  rw [wp_cons]
  refine wp_set_att ?_
  simp_arith! [progD, ix_t, at_0, show bi .list [.v (.tup false (iD p.ins))] = some (iL p.ins) from rfl]
  refine ⟨_, _, _, _, rfl, rfl, rfl, rfl, ?_⟩
  rw [wp_cons]
  refine wp_set_att ?_
  simp_arith! [eq_self]
  refine ⟨_, _, _, _, rfl, rfl, rfl, rfl, ?_⟩
  rw [wp_cons]
  refine wp_set_att ?_
  simp_arith! [eq_self]
  refine ⟨_, _, _, _, rfl, rfl, rfl, rfl, ?_⟩
  rw [wp_cons]
  refine wp_set_att ?_
  simp_arith! [eq_self]
  refine ⟨_, _, _, _, rfl, rfl, rfl, rfl, ?_⟩
  rw [wp_cons]
  refine wp_set_att ?_
  simp_arith! [eq_self]
  refine ⟨_, _, _, _, rfl, rfl, rfl, rfl, ?_⟩
  rw [wp_cons]
  refine wp_set_att ?_
  simp_arith! [eq_self]
  refine ⟨_, _, _, _, rfl, rfl, rfl, rfl, ?_⟩
  rw [wp_cons]
  refine wp_set_att ?_
  simp_arith! [ev_dc, pk_dc, ix_t, at_0, seq_t]
  refine dc_0 (by unfold lineN; omega) ?_
  refine ⟨_, _, _, _, rfl, rfl, rfl, rfl, ?_⟩
  rw [wp_cons]
  refine wp_set_att ?_
  simp_arith! [ev_dc, pk_dc, ix_t, at_0, seq_t]
  refine dc_0 (by unfold lineN; omega) ?_
  refine ⟨_, _, _, _, rfl, rfl, rfl, rfl, ?_⟩
  refine wp_mid (fun ρ => ∃ x, ρ = [some (runW p.rows (w0 p)).s, some (.v (progD p)), x, none, none, none]) ?_ ?_
  · simp_arith! [ix_t, at_2, seq_t]
    refine wp_for (fun r ρ => ∃ x w c, r = x.map cmdD ∧ Runs x w ∧ runW x w = runW p.rows (w0 p) ∧ ρ = [some w.s, some (.v (progD p)), c, none, none, none]) ⟨p.rows, w0 p, none, rfl, h, rfl, rfl⟩ ?_ ?_
    · rintro d r ρ ⟨x, w, c, e1, hr, e2, rfl⟩
      obtain ⟨k, x, rfl⟩ : ∃ k x', x = k :: x' := by
        cases x with
        | nil => cases e1
        | cons k x' => exact ⟨k, x', rfl⟩
      have e1' : d = cmdD k ∧ r = x.map cmdD := by simpa using e1
      obtain ⟨rfl, rfl⟩ := e1'
      obtain ⟨q1, q2, q3⟩ := hr
      refine ⟨_, tg_1 (by show 2 < 6; omega), ?_⟩
      rw [wp_cons]
      simp_arith! [gs_ws, io22]
      refine wp_call (ss := [w.s, .v (cmdD k)]) rfl rfl ((follow_ok q1 q2).imp (fun r f h => ?_) fun _ _ h => h.elim)
      obtain ⟨rfl, rfl⟩ := h
      simp_arith! [mt22]
      exact ⟨x, _, _, rfl, q3, e2, rfl⟩
    · rintro ρ ⟨x, w, c, e1, hr, e2, rfl⟩
      have : x = [] := by cases x with
        | nil => rfl
        | cons _ _ => cases e1
      subst this
      have e2 : w = _ := e2
      subst e2
      exact ⟨_, rfl⟩
  · rintro ρ ⟨c, rfl⟩
    refine wp_mid (fun ρ => ∃ x y z v u, ρ = [some (walkW p).s, x, y, z, v, u]) ?_ ?_
    · simp_arith! [progD, ix_t, at_1, at_3, seq_t, zip_i]
      refine wp_for (fun r ρ => ∃ x m y z, r = x.map prD ∧ x.foldl (fun m q => aput m q.1 ((8 - q.2) % 8)) m = ends p (runW p.rows (w0 p)).angles ∧ m.length + x.length ≤ 1000 ∧ ρ = [some ({ runW p.rows (w0 p) with angles := m } : WS).s, some (.v (progD p)), c, y, z, none]) ⟨p.outs.zip p.turns, _, none, none, rfl, rfl, ?_, rfl⟩ ?_ ?_
      · rw [List.length_zip, ht, Nat.min_self]; exact ha
      · rintro d r ρ ⟨x, m, y, z, e1, e2, e3, rfl⟩
        obtain ⟨k, x, rfl⟩ : ∃ k x', x = k :: x' := by
          cases x with
          | nil => cases e1
          | cons k x' => exact ⟨k, x', rfl⟩
        have e1' : d = prD k ∧ r = x.map prD := by simpa using e1
        obtain ⟨rfl, rfl⟩ := e1'
        rw [List.length_cons] at e3
        refine ⟨[some _, some (.v (progD p)), c, some (.v (.int k.1)), some (.v (.int k.2)), none], rfl, ?_⟩
        rw [wp_cons]
        refine wp_set_sub ?_
        simp_arith! [eq_self]
        refine ⟨has_p gs_ws pg2, _, _, _, _, gs_ws, pg2, ss_dI (by show m.length < lineN; unfold lineN; omega), pp2, ?_⟩
        exact ⟨x, _, _, _, rfl, e2, by show (aput m k.1 ((8 - k.2) % 8)).length + x.length ≤ 1000; have := aput_len (l := m) (k := k.1) (v := (8 - k.2) % 8); omega, rfl⟩
      · rintro ρ ⟨x, m, y, z, e1, e2, e3, rfl⟩
        have : x = [] := by cases x with
          | nil => rfl
          | cons _ _ => cases e1
        subst this
        have e2 : m = _ := e2
        subst e2
        exact ⟨_, _, _, _, _, rfl⟩
    · rintro ρ ⟨_, _, _, _, _, rfl⟩
      exact ⟨_, rfl, trivial, rfl⟩
end K46
/-! Km4 -/
namespace K46
open PySem Vm
/-- bit k of a mask -/
def bitO (m : Int) (k : Nat) : Bool := Builtin.bitAnd (m / 2 ^ k) 1 != 0
/-- the dots whose bits stand in the mask, from the n-th -/
def sel (m : Int) : Nat → List Int → List Int
  | _, [] => []
  | n, d :: l => if bitO m n then d :: sel m (n + 1) l else sel m (n + 1) l
theorem sel_app {m : Int} : ∀ {l : List Int} {n : Nat} {d : Int}, sel m n (l ++ [d]) = sel m n l ++ if bitO m (n + l.length) then [d] else []
  | [], n, d => by
    show (if bitO m n then d :: sel m (n + 1) [] else sel m (n + 1) []) = _
    show (if bitO m n then [d] else []) = [] ++ (if bitO m n then [d] else [])
    rw [List.nil_append]
  | e :: l, n, d => by
    show (if bitO m n then e :: sel m (n + 1) (l ++ [d]) else sel m (n + 1) (l ++ [d])) = (if bitO m n then e :: sel m (n + 1) l else sel m (n + 1) l) ++ _
    rw [sel_app, List.length_cons, show n + 1 + l.length = n + (l.length + 1) by omega]
    split <;> rfl
theorem sel_len {m : Int} : ∀ {l : List Int} {n : Nat}, (sel m n l).length ≤ l.length
  | [], n => Nat.le_refl _
  | d :: l, n => by
    unfold sel
    have := @sel_len m l (n + 1)
    split
    · rw [List.length_cons, List.length_cons]; omega
    · rw [List.length_cons]; omega
def lotBy (seen : List Int) (m : Int) : List Int := sortI (sel m 0 seen)
theorem so_i {l : List Int} : bi .sorted [iL l] = some (iL (sortI l)) := by
  show (((ds? ((iD l).map S.v)).bind sortD).map fun l => S.lst (l.map S.v)) = _
  rw [ds_v, Option.bind_some, sd_i]
  rfl
theorem tu_i {l : List Int} : bi .tuple [iL l] = some (.v (.tup false (iD l))) := by
  show ((lstD (iL l)).map fun l => S.v (.tup false l)) = _
  unfold iL
  rw [lst_l]
  rfl
theorem tu_d {l : List D} : bi .tuple [.lst (l.map S.v)] = some (.v (.tup false l)) := by
  show ((lstD (.lst (l.map S.v))).map fun l => S.v (.tup false l)) = _
  rw [lst_l]
  rfl
/-- numbered -/
def numb : Nat → List Int → List D
  | _, [] => []
  | n, d :: l => .tup true [.int n, .int d] :: numb (n + 1) l
theorem enu_i {l : List Int} : (lstD (iL l)).map enuD = some (numb 0 l) := by
  unfold iL
  rw [lst_l, Option.map_some]
  congr 1
  unfold enuD
  rw [List.length_map]
  have : ∀ (l : List Int) (n : Nat), ((List.range' n l.length).zip (iD l)).map (fun p => D.tup true [.int (p.1 : Nat), p.2]) = numb n l := by
    intro l
    induction l with
    | nil => intro n; rfl
    | cons d l ih =>
      intro n
      show D.tup true [.int (n : Nat), .int d] :: _ = _ :: numb (n + 1) l
      rw [← ih (n + 1)]
      rfl
  rw [List.range_eq_range']
  exact this l 0
theorem lotby_ok {n : Nat} {w : WS} {m : Int} (hl : w.seen.length ≤ 1000) : Rn (run T (n + 1) 25 [w.s, .v (.int m)]) (fun r f => r = .v (.tup false (iD (lotBy w.seen m))) ∧ f = []) NoX := by
  refine run_wp (fn := f25) rfl rfl ?_
  show Wp (Vm.execs _ _ b25 [some w.s, some (.v (.int m)), none, none]) _ _
  unfold b25
  rw [wp_cons]
  simp_arith! [gs_ws, fg4, enu_i]
  refine wp_lcR (wp_lcGo (fun r acc ρ => ∃ a x y z, w.seen = a ++ x ∧ r = numb a.length x ∧ acc = iD (sel m 0 a) ∧ ρ = [some w.s, some (.v (.int m)), y, z]) ?_ ?_ ⟨[], w.seen, none, none, rfl, rfl, rfl, rfl⟩)
  · rintro d r acc ρ ⟨a, x, y, z, e1, e2, rfl, rfl⟩
    obtain ⟨k, x, rfl⟩ : ∃ k x', x = k :: x' := by
      cases x with
      | nil => cases e2
      | cons k x' => exact ⟨k, x', rfl⟩
    have e2' : d = .tup true [.int (a.length : Nat), .int k] ∧ r = numb (a.length + 1) x := by
      have : d :: r = D.tup true [.int (a.length : Nat), .int k] :: numb (a.length + 1) x := e2
      exact ⟨(List.cons.inj this).1, (List.cons.inj this).2⟩
    obtain ⟨rfl, rfl⟩ := e2'
    refine ⟨[some w.s, some (.v (.int m)), some (.v (.int (a.length : Nat))), some (.v (.int k))], rfl, ?_⟩
    simp_arith! [op_shr (Int.natCast_nonneg a.length), Int.toNat_natCast]
    have hb : (Builtin.bitAnd (m / 2 ^ a.length) 1 != 0) = bitO m (0 + a.length) := by rw [Nat.zero_add]; rfl
    rw [hb]
    have e3 : w.seen = (a ++ [k]) ++ x := by rw [e1]; simp
    cases q : bitO m (0 + a.length) with
    | true =>
      rw [if_pos rfl]
      refine ⟨a ++ [k], x, _, _, e3, by rw [List.length_append]; rfl, ?_, rfl⟩
      rw [sel_app, if_pos q]
      unfold iD
      rw [List.map_append]
      rfl
    | false =>
      rw [if_neg Bool.false_ne_true]
      refine ⟨a ++ [k], x, _, _, e3, by rw [List.length_append]; rfl, ?_, rfl⟩
      rw [sel_app, if_neg (by rw [q]; simp), List.append_nil]
  · rintro acc ρ ⟨a, x, y, z, e1, e2, rfl, rfl⟩
    have : x = [] := by cases x with
      | nil => rfl
      | cons _ _ => cases e2
    subst this
    rw [List.append_nil] at e1
    subst e1
    refine ⟨by rw [List.length_map]; have := @sel_len m w.seen 0; unfold lineN; omega, ?_⟩
    rw [show (S.lst ((iD (sel m 0 w.seen)).map S.v)) = iL (sel m 0 w.seen) from rfl]
    simp_arith! [so_i, tu_i]
    exact ⟨_, rfl, rfl, rfl⟩
end K46
/-! Km5 -/
namespace K46
open PySem Vm
theorem pairs_pr : ∀ {l : List (Int × Int)}, pairs? (l.map prD) = some l
  | [] => rfl
  | p :: l => by
    show (match prD p, pairs? (l.map prD) with
      | .tup true [.int i, .int j], some l => some ((i, j) :: l)
      | _, _ => none) = _
    rw [pairs_pr]
    rfl
theorem so_t {l : List (Int × Int)} : bi .sorted [.dic true (dT l)] = some (.lst (((sortP l).map prD).map S.v)) := by
  show ((pairs? ((dT l).map (·.1))).map fun ps => S.lst (((sortP ps).map dP).map S.v)) = _
  have : (dT l).map (·.1) = l.map prD := by
    unfold dT
    rw [List.map_map]
    rfl
  rw [this, pairs_pr]
  rfl
structure AccOk (p : Prog) (w : WS) : Prop where
  an : ∀ k ∈ w.dots, Has w.angles k
  wa : ∀ k ∈ w.seen, Has w.waits k
  na : ∀ k ∈ w.seen, Has w.names k
  fl : ∀ k ∈ p.outs, Has w.flipped k
  si : ∀ k ∈ p.outs, Has w.signed k
  ds : w.dots.length ≤ 1000
  se : w.seen.length ≤ 1000
  ou : p.outs.length ≤ 1000
def lotsBy (seen : List Int) (m : List (Int × Int)) (l : List Int) : List D := l.map fun k => .tup false (iD (lotBy seen (at0 m k)))
def webW (p : Prog) (w : WS) : D := .tup true [.tup false (iD (sortI w.dots)), .tup false ((sortP w.ties).map prD), .tup false (iD p.ins), .tup false (iD p.outs)]
def accW (p : Prog) (w : WS) : D := .tup true [webW p w, .tup false (iD ((sortI w.dots).map (at0 w.angles))), .tup false (lotsBy w.seen w.waits (sortI w.seen)), .tup false (lotsBy w.seen w.flipped p.outs), .tup false (lotsBy w.seen w.signed p.outs)]
def namW (w : WS) : D := .tup false ((sortI w.seen).map fun k => .tup true [.int k, .tup false (iD (lotBy w.seen (at0 w.names k)))])
theorem len_sort {l : List Int} : (sortI l).length = l.length := (sortI_perm l).length_eq
theorem gs1 {w : WS} {a : Option S} {r : Fr} : getS (a :: some w.s :: r) 1 = some w.s := by
  rw [getS_s]; rfl
/-- lots of a row of dots -/
theorem lots_w {n i : Nat} {w : WS} {f : Nat} {m : List (Int × Int)} {ρ : Fr} {l : List Int} {P : S → Fr → Prop} {E : Ex → Fr → Prop} (hi : i < ρ.length) (hi2 : i = 4 ∨ i = 5) (hf : fldGet w.s f = some (.dic false (dI m))) (hr : ∃ a r, ρ = a :: some w.s :: r) (h : ∀ k ∈ l, Has m k) (hl : l.length ≤ 1000) (hs : w.seen.length ≤ 1000)
    (hq : P (.lst ((lotsBy w.seen m l).map S.v)) ρ) : Wp (lcR [i] ρ (lcGo [i] (tAndL []) (XD.ev (.mcall 25 1 (.cons (.ix (.att (.nm 1) f) (.nm i)) .nil), den (T.cal (run T (n + 1))) (.mcall 25 1 (.cons (.ix (.att (.nm 1) f) (.nm i)) .nil)))) (iD l) ρ [])) P E := by
  obtain ⟨a, r, rfl⟩ := hr
  refine wp_lcM (fun d => match d with
    | .int k => .tup false (iD (lotBy w.seen (at0 m k)))
    | d => d) hi (fun d md => ?_) (by rw [List.length_map]; unfold lineN; omega) (by
      have : (iD l).map (fun d => match d with
        | .int k => D.tup false (iD (lotBy w.seen (at0 m k)))
        | d => d) = lotsBy w.seen m l := by
        unfold lotsBy
        rw [List.map_map]
        rfl
      rw [this]
      exact hq)
  obtain ⟨k, mk, rfl⟩ := List.mem_map.mp md
  have e1 : (a :: some w.s :: r).set i (some (.v (.int k))) = a :: some w.s :: (r.set (i - 2) (some (.v (.int k)))) := by
    rcases hi2 with rfl | rfl <;> rfl
  have e2 : getS (a :: some w.s :: (r.set (i - 2) (some (.v (.int k))))) i = some (.v (.int k)) := by
    rw [← e1]
    unfold getS
    rw [List.getElem?_set_self hi]
  rw [e1]
  simp_arith! [gs_ws, io25, hf, ix_dI, e2, has_at (h k mk)]
  refine wp_call (ss := [w.s, .v (.int (at0 m k))]) ?_ rfl ((lotby_ok hs).imp (fun r f h => ?_) fun _ _ h => h.elim)
  · simp_arith! [gs_ws]
  · obtain ⟨rfl, rfl⟩ := h
    simp_arith! [mt25]
    exact ⟨trivial, trivial⟩
theorem sq_i {l : List Int} : seqD (iL l) = some (iD l) := by
  unfold iL
  exact seq_l
theorem acc_ok {n : Nat} {p : Prog} (h : Runs p.rows (w0 p)) (hl : p.ins.length ≤ 1000) (ha : (runW p.rows (w0 p)).angles.length + p.outs.length ≤ 1000) (ht : p.turns.length = p.outs.length) (ok : AccOk p (walkW p)) : Rn (run T (n + 4) 2 [.v (progD p)]) (fun r f => r = .v (accW p (walkW p)) ∧ f = []) NoX := by
  obtain ⟨o1, o2, o3, o4, o5, o6, o7, o8⟩ := ok
  refine run_wp (fn := f2) rfl rfl ?_
  show Wp (Vm.execs _ _ b2 [some (.v (progD p)), none, none, none, none, none]) _ _
  unfold b2
  rw [wp_cons]
  simp_arith! [ev_new]
  refine wp_new (ss := [.v (progD p)]) rfl rfl ((init_ok h hl ha ht).imp (fun r f h => ?_) fun _ _ h => h)
  obtain ⟨rfl, rfl⟩ := h
  refine ⟨rfl, _, _, rfl, ?_⟩
  rw [show ((T.cal (run T (n + 3))).mt ((T.cal (run T (n + 3))).ini 4)).drop 1 = [] from rfl]
  simp_arith! [eq_self]
  rw [wp_cons]
  simp_arith! [gs_ws, fg0, so_i, tu_i]
  rw [wp_cons]
  simp_arith! [gs_ws, fg1, so_t, tu_d, fz_v, progD, ix_t, at_0, at_1]
  rw [wp_cons]
  simp_arith! [gs_ws, fz_v, fg2, seq_t]
  have m4 : ∀ {k}, k ∈ sortI (walkW p).dots → Has (walkW p).angles k := fun m => o1 _ ((sortI_perm _).mem_iff.mp m)
  refine wp_lcM (fun d => match d with
    | .int k => .int (at0 (walkW p).angles k)
    | d => d) (by show 4 < 6; omega) (fun d md => ?_) (by rw [List.length_map, len_sort]; unfold lineN; omega) ?_
  · obtain ⟨k, mk, rfl⟩ := List.mem_map.mp md
    simp_arith! [gs_ws, fg2, ix_dI, has_at (m4 mk)]
    exact ⟨trivial, trivial⟩
  rw [show (iD (sortI (walkW p).dots)).map (fun d => match d with
    | .int k => D.int (at0 (walkW p).angles k)
    | d => d) = iD ((sortI (walkW p).dots).map (at0 (walkW p).angles)) by unfold iD; rw [List.map_map, List.map_map]; rfl]
  simp_arith! [tu_d, fz_v, gs_ws, fg4, so_i, sq_i]
  refine lots_w (m := (walkW p).waits) (by show 4 < 6; omega) (.inl rfl) rfl ⟨_, _, rfl⟩ (fun k m => o2 k ((sortI_perm _).mem_iff.mp m)) (by rw [len_sort]; exact o7) o7 ?_
  simp_arith! [tu_d, fz_v, gs_ws, ix_t, at_1, seq_t]
  refine lots_w (m := (walkW p).flipped) (by show 5 < 6; omega) (.inr rfl) rfl ⟨_, _, rfl⟩ o4 o8 o7 ?_
  simp_arith! [tu_d, fz_v, gs_ws, ix_t, at_1, seq_t]
  refine lots_w (m := (walkW p).signed) (by show 5 < 6; omega) (.inr rfl) rfl ⟨_, _, rfl⟩ o5 o8 o7 ?_
  simp_arith! [tu_d, fz_v, gs_ws, ix_t, at_1, seq_t]
  exact ⟨_, rfl, rfl, rfl⟩
theorem nam_ok {n : Nat} {p : Prog} (h : Runs p.rows (w0 p)) (hl : p.ins.length ≤ 1000) (ha : (runW p.rows (w0 p)).angles.length + p.outs.length ≤ 1000) (ht : p.turns.length = p.outs.length) (ok : AccOk p (walkW p)) : Rn (run T (n + 4) 3 [.v (progD p)]) (fun r f => r = .v (namW (walkW p)) ∧ f = []) NoX := by
  obtain ⟨o1, o2, o3, o4, o5, o6, o7, o8⟩ := ok
  refine run_wp (fn := f3) rfl rfl ?_
  show Wp (Vm.execs _ _ b3 [some (.v (progD p)), none, none]) _ _
  unfold b3
  rw [wp_cons]
  simp_arith! [ev_new]
  refine wp_new (ss := [.v (progD p)]) rfl rfl ((init_ok h hl ha ht).imp (fun r f h => ?_) fun _ _ h => h)
  obtain ⟨rfl, rfl⟩ := h
  refine ⟨rfl, _, _, rfl, ?_⟩
  rw [show ((T.cal (run T (n + 3))).mt ((T.cal (run T (n + 3))).ini 4)).drop 1 = [] from rfl]
  simp_arith! [eq_self]
  rw [wp_cons]
  simp_arith! [gs_ws, fg4, so_i, sq_i]
  have m4 : ∀ {k}, k ∈ sortI (walkW p).seen → Has (walkW p).names k := fun m => o3 _ ((sortI_perm _).mem_iff.mp m)
  refine wp_lcM (fun d => match d with
    | .int k => .tup true [.int k, .tup false (iD (lotBy (walkW p).seen (at0 (walkW p).names k)))]
    | d => d) (by show 2 < 3; omega) (fun d md => ?_) (by rw [List.length_map, len_sort]; unfold lineN; omega) ?_
  · obtain ⟨k, mk, rfl⟩ := List.mem_map.mp md
    simp_arith! [gs_ws, fg7, ix_dI, has_at (m4 mk), fz_v, io25]
    refine wp_call (ss := [(walkW p).s, .v (.int (at0 (walkW p).names k))]) ?_ rfl ((lotby_ok o7).imp (fun r f h => ?_) fun _ _ h => h.elim)
    · simp_arith! [gs_ws]
    · obtain ⟨rfl, rfl⟩ := h
      simp_arith! [mt25, fz_v]
      exact ⟨trivial, trivial⟩
  rw [show (iD (sortI (walkW p).seen)).map (fun d => match d with
    | .int k => D.tup true [.int k, .tup false (iD (lotBy (walkW p).seen (at0 (walkW p).names k)))]
    | d => d) = (sortI (walkW p).seen).map fun k => D.tup true [.int k, .tup false (iD (lotBy (walkW p).seen (at0 (walkW p).names k)))] by unfold iD; rw [List.map_map]; rfl]
  simp_arith! [tu_d]
  exact ⟨_, rfl, rfl, rfl⟩
end K46
/-! Km6 -/
namespace K46
open PySem Vm
structure TS where
  olds : List (Int × Int)
  about : List (Int × Int)
  flip : List (Int × Int)
  sign : List (Int × Int)
def odd (m : List (Int × Int)) (l : List Int) : Int := (l.map (at0 m)).sum % 2
def stepT (alone : Int) (c : Cmd) (t : TS) : TS :=
  match c with
  | .new d => { t with flip := aput t.flip d 0, sign := aput t.sign d 0 }
  | .tie a b =>
    let s1 := aput t.sign a (Builtin.bitXor (at0 t.sign a) (at0 t.flip b))
    { t with sign := aput s1 b (Builtin.bitXor (at0 s1 b) (at0 t.flip a)) }
  | .flip d l => { t with flip := aput t.flip d (Builtin.bitXor (at0 t.flip d) (odd t.olds l.2)) }
  | .sign d l => { t with sign := aput t.sign d (Builtin.bitXor (at0 t.sign d) (odd t.olds l.2)) }
  | .look d g l a => { t with about := aput t.about d (Builtin.bitXor (at0 t.flip d) (odd t.olds l.2)), olds := aput t.olds d (Builtin.bitXor (Builtin.bitXor (boI (decide (d = alone))) (at0 t.sign d)) (odd t.olds a.2)) }
def PreT (c : Cmd) (t : TS) : Prop :=
  match c with
  | .new d => True
  | .tie a b => Has t.flip a ∧ Has t.flip b ∧ Has t.sign a ∧ Has t.sign b
  | .flip d l => Has t.flip d ∧ ∀ k ∈ l.2, Has t.olds k
  | .sign d l => Has t.sign d ∧ ∀ k ∈ l.2, Has t.olds k
  | .look d g l a => Has t.flip d ∧ Has t.sign d ∧ (∀ k ∈ l.2, Has t.olds k) ∧ ∀ k ∈ a.2, Has t.olds k
def TS.sm (t : TS) (N : Nat) : Prop := t.olds.length ≤ N ∧ t.about.length ≤ N ∧ t.flip.length ≤ N ∧ t.sign.length ≤ N
def RunsT (alone : Int) : List Cmd → TS → Prop
  | [], t => True
  | c :: cs, t => PreT c t ∧ t.sm 1000 ∧ RunsT alone cs (stepT alone c t)
def runT (alone : Int) (l : List Cmd) (t : TS) : TS := l.foldl (fun t c => stepT alone c t) t
def t0 (p : Prog) : TS := ⟨[], [], zeros p.ins, zeros p.ins⟩
def lotOk (l : Lot) : Prop := l.2.length ≤ 1000
def cmdOk : Cmd → Prop
  | .flip d l => lotOk l
  | .sign d l => lotOk l
  | .look d g l a => lotOk l ∧ lotOk a
  | _ => True
theorem su_i {l : List Int} : bi .sum [iL l] = some (.v (.int l.sum)) := by
  show (((lstD (iL l)).bind ints?).map fun l => S.v (.int l.sum)) = _
  unfold iL
  rw [lst_l, Option.bind_some, ints_v]
  rfl
theorem odd_ok {n : Nat} {m : List (Int × Int)} {l : Lot} (h : ∀ k ∈ l.2, Has m k) (hl : lotOk l) : Rn (run T (n + 1) 11 [.dic false (dI m), .v (lotD l)]) (fun r f => r = .v (.int (odd m l.2)) ∧ f = []) NoX := by
  refine run_wp (fn := f11) rfl rfl ?_
  show Wp (Vm.execs _ _ b11 [some (.dic false (dI m)), some (.v (lotD l)), none]) _ _
  unfold b11
  rw [wp_cons]
  simp_arith! [lotD, seq_t]
  refine wp_lcM (fun d => match d with
    | .int k => .int (at0 m k)
    | d => d) (by show 2 < 3; omega) (fun d md => ?_) (by rw [List.length_map]; unfold lotOk at hl; unfold lineN; omega) ?_
  · obtain ⟨k, mk, rfl⟩ := List.mem_map.mp md
    simp_arith! [ix_dI, has_at (h k mk)]
    exact ⟨trivial, trivial⟩
  rw [show (iD l.2).map (fun d => match d with
    | .int k => D.int (at0 m k)
    | d => d) = iD (l.2.map (at0 m)) by unfold iD; rw [List.map_map, List.map_map]; rfl]
  rw [show S.lst ((iD (l.2.map (at0 m))).map S.v) = iL (l.2.map (at0 m)) from rfl]
  simp_arith! [su_i]
  exact ⟨_, rfl, rfl, rfl⟩
theorem mt11 {cf : Nat → List S → Out} : (T.cal cf).mt 11 = [] := rfl
theorem wp_put {C : Cal} {U : Rules} {ρ : Fr} {i : Nat} {k x : X} {m : List (Int × Int)} {P : Fl → Fr → Prop} {E : Ex → Fr → Prop} (hl : m.length < lineN) (h : Wp (XD.ev (x, den C x) ρ) (fun s ρ => getS ρ i = some (.dic false (dI m)) ∧ Wp (XD.ev (k, den C k) ρ) (fun k ρ => ∃ j v, k = .v (.int j) ∧ s = .v (.int v) ∧ getS ρ i = some (.dic false (dI m)) ∧ P .nx (ρ.set i (some (.dic false (dI (aput m j v)))))) E) E) : Wp (Vm.exec C U (.set (.sub i [] k) x) ρ) P E := by
  refine wp_set_sub (h.imp (fun s ρ ⟨h1, h2⟩ => ⟨has_p h1 rfl, h2.imp (fun k ρ ⟨j, v, e1, e2, e3, q⟩ => ?_) fun _ _ q => q⟩) fun _ _ q => q)
  subst e1 e2
  exact ⟨_, _, _, _, e3, rfl, ss_dI hl, rfl, q⟩
def frT (p : Prog) (alone : Int) (t : TS) (x y : Option S) : Fr := [some (.v (progD p)), some (.v (.int alone)), some (.dic false (dI t.olds)), some (.dic false (dI t.about)), some (.dic false (dI t.flip)), some (.dic false (dI t.sign)), x, y]
theorem step_t {n : Nat} {p : Prog} {alone : Int} {t : TS} {c : Cmd} {x : Option S} (h : PreT c t) (hs : t.sm 1000) (hc : cmdOk c) {P : Fl → Fr → Prop} {E : Ex → Fr → Prop} (hq : ∀ x, P .nx (frT p alone (stepT alone c t) x (some (.v (cmdD c))))) {ss : Sts} (hss : match b12 with
    | .cons _ (.cons _ (.cons _ (.cons _ (.cons _ (.cons (.loop _ _ b) _))))) => ss = b
    | _ => False) : Wp (Vm.execs (T.cal (run T (n + 1))) T.U ss (frT p alone t x (some (.v (cmdD c))))) P E := by
  obtain ⟨l1, l2, l3, l4⟩ := hs
  have hss : ss = _ := hss
  subst hss
  unfold frT
  cases c with
  | new d =>
    rw [wp_cons]
    simp_arith! [cmdD, ix_t, at_0, at_1]
    rw [wp_cons]
    simp_arith! [ix_t, at_0]
    rw [wp_cons]
    refine wp_put (m := t.flip) (by unfold lineN; omega) ?_
    simp_arith! [eq_self]
    refine ⟨trivial, _, _, rfl, rfl, trivial, ?_⟩
    rw [wp_cons]
    refine wp_put (m := t.sign) (by unfold lineN; omega) ?_
    simp_arith! [eq_self]
    refine ⟨trivial, _, _, rfl, rfl, trivial, ?_⟩
    exact hq _
  | tie a b =>
    obtain ⟨p1, p2, p3, p4⟩ := h
    rw [wp_cons]
    simp_arith! [cmdD, ix_t, at_0, at_1]
    rw [wp_cons]
    simp_arith! [ix_t, at_0, w_tn]
    rw [wp_cons]
    simp_arith! [ix_t, at_0]
    rw [wp_cons]
    refine wp_put (m := t.sign) (by unfold lineN; omega) ?_
    simp_arith! [ix_dI, has_at p3, has_at p2, ix_t, at_2]
    refine ⟨trivial, _, _, rfl, rfl, trivial, ?_⟩
    rw [wp_cons]
    refine wp_put (m := aput t.sign a (Builtin.bitXor (at0 t.sign a) (at0 t.flip b))) (Nat.lt_of_le_of_lt aput_len (by unfold lineN; omega)) ?_
    simp_arith! [ix_dI, has_at (has_put p4), has_at p1, ix_t, at_2]
    refine ⟨trivial, _, _, rfl, rfl, trivial, ?_⟩
    exact hq _
  | flip d l =>
    obtain ⟨p1, p2⟩ := h
    rw [wp_cons]
    simp_arith! [cmdD, ix_t, at_0, at_1]
    rw [wp_cons]
    simp_arith! [ix_t, at_0, w_fn]
    rw [wp_cons]
    simp_arith! [ix_t, at_0, w_ft]
    rw [wp_cons]
    simp_arith! [ix_t, at_0]
    rw [wp_cons]
    refine wp_put (m := t.flip) (by unfold lineN; omega) ?_
    simp_arith! [ix_dI, has_at p1, ix_t, at_2, lotD]
    refine wp_call (ss := [.dic false (dI t.olds), .v (lotD l)]) rfl rfl ((odd_ok p2 hc).imp (fun r f h => ?_) fun _ _ h => h.elim)
    obtain ⟨rfl, rfl⟩ := h
    simp_arith! [mt11]
    refine ⟨trivial, _, _, rfl, rfl, trivial, ?_⟩
    exact hq _
  | sign d l =>
    obtain ⟨p1, p2⟩ := h
    rw [wp_cons]
    simp_arith! [cmdD, ix_t, at_0, at_1]
    rw [wp_cons]
    simp_arith! [ix_t, at_0, w_sn]
    rw [wp_cons]
    simp_arith! [ix_t, at_0, w_st]
    rw [wp_cons]
    simp_arith! [ix_t, at_0, w_sf]
    rw [wp_cons]
    simp_arith! [ix_t, at_0]
    rw [wp_cons]
    refine wp_put (m := t.sign) (by unfold lineN; omega) ?_
    simp_arith! [ix_dI, has_at p1, ix_t, at_2, lotD]
    refine wp_call (ss := [.dic false (dI t.olds), .v (lotD l)]) rfl rfl ((odd_ok p2 hc).imp (fun r f h => ?_) fun _ _ h => h.elim)
    obtain ⟨rfl, rfl⟩ := h
    simp_arith! [mt11]
    refine ⟨trivial, _, _, rfl, rfl, trivial, ?_⟩
    exact hq _
  | look d g l a =>
    obtain ⟨p1, p2, p3, p4⟩ := h
    obtain ⟨c1, c2⟩ := hc
    rw [wp_cons]
    simp_arith! [cmdD, ix_t, at_0, at_1]
    rw [wp_cons]
    simp_arith! [ix_t, at_0, w_ln]
    rw [wp_cons]
    simp_arith! [ix_t, at_0, w_lt]
    rw [wp_cons]
    simp_arith! [ix_t, at_0, w_lf]
    rw [wp_cons]
    simp_arith! [ix_t, at_0, w_ls]
    rw [wp_cons]
    refine wp_put (m := t.about) (by unfold lineN; omega) ?_
    simp_arith! [ix_dI, has_at p1, ix_t, at_3, lotD]
    refine wp_call (ss := [.dic false (dI t.olds), .v (lotD l)]) rfl rfl ((odd_ok p3 c1).imp (fun r f h => ?_) fun _ _ h => h.elim)
    obtain ⟨rfl, rfl⟩ := h
    simp_arith! [mt11]
    refine ⟨trivial, _, _, rfl, rfl, trivial, ?_⟩
    rw [wp_cons]
    refine wp_put (m := t.olds) (by unfold lineN; omega) ?_
    simp_arith! [ix_dI, has_at p2, ix_t, at_4, lotD]
    refine wp_call (ss := [.dic false (dI t.olds), .v (lotD a)]) rfl rfl ((odd_ok p4 c2).imp (fun r f h => ?_) fun _ _ h => h.elim)
    obtain ⟨rfl, rfl⟩ := h
    simp_arith! [mt11]
    refine ⟨trivial, _, _, rfl, rfl, trivial, ?_⟩
    exact hq _
def fdI (m : List (Int × Int)) : D := .fdc false ((dI m).map (·.1)) ((dI m).map (·.2))
def trD (t : TS) : D := .tup true [fdI t.olds, fdI t.about, fdI t.flip, fdI t.sign]
theorem fz_dI {m : List (Int × Int)} : fzD (.dic false (dI m)) = some (fdI m) := rfl
theorem trace_ok {n : Nat} {p : Prog} {alone : Int} (h : RunsT alone p.rows (t0 p)) (hl : p.ins.length ≤ 1000) (hc : ∀ c ∈ p.rows, cmdOk c) : Rn (run T (n + 2) 12 [.v (progD p), .v (.int alone)]) (fun r f => r = .v (trD (runT alone p.rows (t0 p))) ∧ f = []) NoX := by
  refine run_wp (fn := f12) rfl rfl ?_
  show Wp (Vm.execs _ _ b12 [some (.v (progD p)), some (.v (.int alone)), none, none, none, none, none, none]) _ _
  unfold b12
  rw [wp_cons]
  simp_arith! [eq_self]
  rw [wp_cons]
  simp_arith! [eq_self]
  rw [wp_cons]
  simp_arith! [eq_self]
  rw [wp_cons]
  simp_arith! [eq_self]
  refine wp_mid (fun ρ => ∃ x, ρ = frT p alone (t0 p) x none) ?_ ?_
  · simp_arith! [progD, ix_t, at_0, seq_t]
    refine wp_for (fun r ρ => ∃ a x y, p.ins = a ++ x ∧ r = iD x ∧ ρ = frT p alone ⟨[], [], zeros a, zeros a⟩ y none) ⟨[], p.ins, none, rfl, rfl, rfl⟩ ?_ ?_
    · rintro d r ρ ⟨a, x, y, e1, e2, rfl⟩
      obtain ⟨k, x, rfl⟩ : ∃ k x', x = k :: x' := by
        cases x with
        | nil => cases e2
        | cons k x' => exact ⟨k, x', rfl⟩
      have e2' : d = .int k ∧ r = iD x := by simpa [iD] using e2
      obtain ⟨rfl, rfl⟩ := e2'
      have hz : (zeros a).length ≤ 1000 := by
        have := fp_len (m := []) (l := a)
        have : a.length ≤ p.ins.length := by rw [e1, List.length_append]; omega
        omega
      have hz2 : aput (zeros a) k 0 = zeros (a ++ [k]) := by
        unfold zeros
        rw [List.foldl_append]
        rfl
      refine ⟨_, tg_1 (by show 6 < 8; omega), ?_⟩
      unfold frT
      simp_arith! [eq_self]
      rw [wp_cons]
      refine wp_put (m := zeros a) (by unfold lineN; omega) ?_
      simp_arith! [eq_self]
      refine ⟨trivial, _, _, rfl, rfl, trivial, ?_⟩
      rw [wp_cons]
      refine wp_put (m := zeros a) (by unfold lineN; omega) ?_
      simp_arith! [eq_self]
      refine ⟨trivial, _, _, rfl, rfl, trivial, ?_⟩
      refine ⟨a ++ [k], x, some (.v (.int k)), by rw [e1]; simp, rfl, ?_⟩
      rw [hz2]
    · rintro ρ ⟨a, x, y, e1, e2, rfl⟩
      have : x = [] := by cases x with
        | nil => rfl
        | cons _ _ => cases e2
      subst this
      rw [List.append_nil] at e1
      subst e1
      exact ⟨y, rfl⟩
  · rintro ρ ⟨x0, rfl⟩
    refine wp_mid (fun ρ => ∃ x y, ρ = frT p alone (runT alone p.rows (t0 p)) x y) ?_ ?_
    · unfold frT
      simp_arith! [progD, ix_t, at_2, seq_t]
      refine wp_for (fun r ρ => ∃ x t y z, r = x.map cmdD ∧ (∀ c ∈ x, cmdOk c) ∧ RunsT alone x t ∧ runT alone x t = runT alone p.rows (t0 p) ∧ ρ = frT p alone t y z) ⟨p.rows, t0 p, x0, none, rfl, hc, h, rfl, rfl⟩ ?_ ?_
      · rintro d r ρ ⟨x, t, y, z, e1, hx, hr, e2, rfl⟩
        obtain ⟨k, x, rfl⟩ : ∃ k x', x = k :: x' := by
          cases x with
          | nil => cases e1
          | cons k x' => exact ⟨k, x', rfl⟩
        have e1' : d = cmdD k ∧ r = x.map cmdD := by simpa using e1
        obtain ⟨rfl, rfl⟩ := e1'
        obtain ⟨q1, q2, q3⟩ := hr
        refine ⟨frT p alone t y (some (.v (cmdD k))), rfl, ?_⟩
        refine step_t q1 q2 (hx k List.mem_cons_self) (fun y => ?_) rfl
        exact ⟨x, _, y, _, rfl, fun c m => hx c (List.mem_cons_of_mem _ m), q3, e2, rfl⟩
      · rintro ρ ⟨x, t, y, z, e1, hx, hr, e2, rfl⟩
        have : x = [] := by cases x with
          | nil => rfl
          | cons _ _ => cases e1
        subst this
        have e2 : t = _ := e2
        subst e2
        exact ⟨_, _, rfl⟩
    · rintro ρ ⟨y, z, rfl⟩
      unfold frT
      rw [wp_cons]
      simp_arith! [fz_dI]
      exact ⟨_, rfl, rfl, rfl⟩
def partT : Nat → TS → List (Int × Int)
  | 0, t => t.olds
  | 1, t => t.about
  | 2, t => t.flip
  | _, t => t.sign
/-- dicts by ints -/
def dX (l : List (Int × D)) : List (D × D) := l.map fun p => (.int p.1, p.2)
theorem dX_get {l : List (Int × D)} {k : Int} : dget (dX l) (.int k) = l.lookup k := by
  unfold dget dX
  induction l with
  | nil => rfl
  | cons p l ih =>
    rw [List.map_cons, List.find?_cons, List.lookup_cons]
    rw [show (D.int p.1, p.2).1.same (.int k) = (p.1 == k) from rfl]
    by_cases h : p.1 = k
    · subst h
      simp
    · have h1 : (p.1 == k) = false := by simpa using h
      have h2 : (k == p.1) = false := by simpa using Ne.symm h
      rw [h1, h2]
      exact ih
theorem zip_dI {m : List (Int × Int)} : ((dI m).map (·.1)).zip ((dI m).map (·.2)) = dI m := by
  rw [List.zip_map']
  exact List.map_id' _
theorem ix_fdI {m : List (Int × Int)} {k : Int} : getIx (.v (fdI m)) (.v (.int k)) = (m.lookup k).map fun i => .v (.int i) := by
  show (if (D.int k).isKey false then (dget (((dI m).map (·.1)).zip ((dI m).map (·.2))) (.int k)).map S.v else none) = _
  rw [if_pos (show (D.int k).isKey false = true from rfl), zip_dI, dI_get, Option.map_map]
  rfl
theorem ix_dX {l : List (Int × D)} {k : Int} : getIx (.dic false (dX l)) (.v (.int k)) = (l.lookup k).map S.v := by
  show (if (D.int k).isKey false then (dget (dX l) (.int k)).map S.v else none) = _
  rw [if_pos (show (D.int k).isKey false = true from rfl), dX_get]
theorem tr_part {t : TS} {q : Nat} (h : q ≤ 3) : getIx (.v (trD t)) (.v (.int (q : Int))) = some (.v (fdI (partT q t))) := by
  match q, h with
  | 0, _ => rfl
  | 1, _ => rfl
  | 2, _ => rfl
  | 3, _ => rfl
/-- told: each looked dot's trace -/
structure Told (looked : List Int) (l : List (Int × D)) (tr : Int → TS) : Prop where
  at' : ∀ k ∈ looked, l.lookup k = some (trD (tr k))
theorem who_ok {n : Nat} {looked : List Int} {l : List (Int × D)} {tr : Int → TS} {q : Nat} {dot : Int} (h : Told looked l tr) (hq : q ≤ 3) (hd : ∀ k ∈ looked, Has (partT q (tr k)) dot) (hl : looked.length ≤ 1000) : Rn (run T (n + 1) 13 [iL looked, .dic false (dX l), .v (.int (q : Int)), .v (.int dot)]) (fun r f => r = .v (.tup false (iD (looked.filter fun k => decide (at0 (partT q (tr k)) dot = 1)))) ∧ f = []) NoX := by
  refine run_wp (fn := f13) rfl rfl ?_
  show Wp (Vm.execs _ _ b13 [some (iL looked), some (.dic false (dX l)), some (.v (.int (q : Int))), some (.v (.int dot)), none]) _ _
  unfold b13
  rw [wp_cons]
  simp_arith! [show getS [some (iL looked), some (.dic false (dX l)), some (.v (.int (q : Int))), some (.v (.int dot)), none] 0 = some (iL looked) from rfl, sq_i]
  refine wp_lcF (ts := [(_, _)]) (fun d => match d with
    | .int k => decide (at0 (partT q (tr k)) dot = 1)
    | d => false) (fun d => d) (by show 4 < 5; omega) (fun d md => ?_) (fun d md _ => ?_) (by rw [List.length_map]; unfold lineN; omega) ?_
  · obtain ⟨k, mk, rfl⟩ := List.mem_map.mp md
    simp_arith! [ix_dX, h.at' k mk, tr_part hq, ix_fdI, has_at (hd k mk)]
    by_cases hb : at0 (partT q (tr k)) dot = 1
    · rw [if_pos hb]
      exact ⟨(decide_eq_true hb).symm, trivial⟩
    · rw [if_neg hb]
      exact ⟨(decide_eq_false hb).symm, trivial⟩
  · simp_arith! [eq_self]
    exact ⟨trivial, trivial⟩
  · rw [List.map_id']
    have e : (iD looked).filter (fun d => match d with
      | .int k => decide (at0 (partT q (tr k)) dot = 1)
      | d => false) = iD (looked.filter fun k => decide (at0 (partT q (tr k)) dot = 1)) := by
      unfold iD
      rw [List.filter_map]
      rfl
    rw [e]
    simp_arith! [tu_d]
    exact ⟨_, rfl, trivial, rfl⟩
end K46
/-! Km7 -/
namespace K46
open PySem Vm
def wordC : Cmd → Str
  | .new _ => "new"
  | .tie _ _ => "tie"
  | .flip _ _ => "flip"
  | .sign _ _ => "sign"
  | .look _ _ _ _ => "look"
def dotC : Cmd → Int
  | .new d => d
  | .tie a _ => a
  | .flip d _ => d
  | .sign d _ => d
  | .look d _ _ _ => d
def restC : Cmd → List D
  | .new _ => []
  | .tie _ b => [.int b]
  | .flip _ l => [lotD l]
  | .sign _ l => [lotD l]
  | .look _ g w a => [.int g, lotD w, lotD a]
theorem cmd_eq {c : Cmd} : cmdD c = .tup true (.str (wordC c) :: .int (dotC c) :: restC c) := by cases c <;> rfl
def pW (w : Str) (d : D) : Bool := match d with
  | .tup _ (.str x :: _) => decide (x = w)
  | _ => false
theorem pW_cmd {w : Str} {c : Cmd} : pW w (cmdD c) = decide (wordC c = w) := by rw [cmd_eq]; rfl
def ofW (w : Str) (l : List Cmd) : List Cmd := l.filter fun c => decide (wordC c = w)
theorem fil_W {w : Str} {l : List Cmd} : (l.map cmdD).filter (pW w) = (ofW w l).map cmdD := by
  unfold ofW
  rw [List.filter_map]
  congr 1
  apply List.filter_congr
  intro c _
  exact pW_cmd
def g1 (d : D) : D := match d with
  | .tup _ (_ :: y :: _) => y
  | d => d
theorem g1_cmd {c : Cmd} : g1 (cmdD c) = .int (dotC c) := by rw [cmd_eq]; rfl
def g12 (d : D) : D := match d with
  | .tup _ (_ :: y :: z :: _) => .tup true [y, z]
  | d => d
def pairC : Cmd → Int × Int
  | .tie a b => (a, b)
  | c => (dotC c, 0)
theorem is_tie {c : Cmd} (h : wordC c = "tie") : ∃ a b, c = .tie a b := by
  cases c with
  | tie a b => exact ⟨a, b, rfl⟩
  | new _ => exact (w_nt.mp h).elim
  | flip _ _ => exact (w_ft.mp h).elim
  | sign _ _ => exact (w_st.mp h).elim
  | look _ _ _ _ => exact (w_lt.mp h).elim
theorem is_look {c : Cmd} (h : wordC c = "look") : ∃ d g w a, c = .look d g w a := by
  cases c with
  | look d g w a => exact ⟨d, g, w, a, rfl⟩
  | new _ => exact (w_ln.mp h.symm).elim
  | flip _ _ => exact (w_lf.mp h.symm).elim
  | sign _ _ => exact (w_ls.mp h.symm).elim
  | tie _ _ => exact (w_lt.mp h.symm).elim
theorem gs_i {l : List Int} {r : Fr} : getS (some (iL l) :: r) 0 = some (iL l) := rfl
theorem ao_i {i : Nat} {l : List Int} : argOf (.nm i) (iL l) = some (.l i) := rfl
theorem ad_i {l m : List Int} (h : l.length + m.length ≤ lineN) : op2 .add (iL l) (iL m) = some (iL (l ++ m)) := by
  unfold iL
  show (if decide ((Op2.add = Op2.add)) && decide (((iD l).map S.v).length + ((iD m).map S.v).length ≤ lineN) then (match ds? ((iD l).map S.v), ds? ((iD m).map S.v) with
    | some l, some m => some (S.lst ((l ++ m).map S.v))
    | _, _ => none) else none) = _
  rw [ds_v, ds_v, if_pos]
  · unfold iD
    rw [List.map_append]
  · simpa using h
theorem li_t {k : Bool} {l : List Int} : bi .list [.v (.tup k (iD l))] = some (iL l) := rfl
theorem ss_p {l : List (Int × Int)} (h : l.length < 64) (hb : ∀ p ∈ l, 0 ≤ p.1 ∧ p.1 < 1048576 ∧ 0 ≤ p.2 ∧ p.2 < 1048576) : bi .sset [.lst ((l.map prD).map S.v)] = some (.lst (((sortP (undup l)).map prD).map S.v)) := by
  show (((lstD (.lst ((l.map prD).map S.v))).bind pairs?).bind fun l => if decide (l.length < 64) && l.all (fun p => decide (0 ≤ p.1) && decide (p.1 < 1048576) && decide (0 ≤ p.2) && decide (p.2 < 1048576)) then some (S.lst (((sortP (undup l)).map dP).map S.v)) else none) = _
  rw [lst_l, Option.bind_some, pairs_pr, Option.bind_some, if_pos]
  · rfl
  · rw [Bool.and_eq_true, decide_eq_true_eq, List.all_eq_true]
    refine ⟨h, fun p m => ?_⟩
    obtain ⟨h1, h2, h3, h4⟩ := hb p m
    simp [h1, h2, h3, h4]
theorem lay_pr {p : Int × Int} : (prD p).lay = true := rfl
theorem eqb_pr {p q : Int × Int} : D.eqb (prD p) (prD q) = (p == q) := by
  have : D.eqb (prD p) (prD q) = (p.1 == q.1 && (p.2 == q.2 && true)) := by
    simp [D.eqb, prD, D.py, D.pys, PyData.eqv, PyData.eqvAll]
  rw [this, Bool.and_true]
  rfl
theorem ct_p {l : List (Int × Int)} {p : Int × Int} : me .count (.lst ((l.map prD).map S.v)) [prD p] = some (.v (.int (l.count p : Nat))) := by
  show (match lstD (.lst ((l.map prD).map S.v)) with
    | some l => if (prD p).lay && l.all D.lay then some (S.v (.int (l.countP fun y => D.eqb y (prD p)))) else none
    | none => none) = _
  rw [lst_l]
  dsimp only
  rw [if_pos, List.countP_map]
  · rw [show ((fun y => D.eqb y (prD p)) ∘ prD) = fun y => y == p from funext fun y => eqb_pr]
    rfl
  · rw [lay_pr, Bool.true_and, List.all_eq_true]
    intro d m
    obtain ⟨q, _, rfl⟩ := List.mem_map.mp m
    exact lay_pr
theorem mk_c {l : List (Int × Int)} : meOk .count (.lst ((l.map prD).map S.v)) = true := by
  show (lstD (.lst ((l.map prD).map S.v))).isSome = true
  rw [lst_l]
  rfl
theorem pk_mec {C : Cal} {ρ : Fr} {m : Me} {x : X} {xs : Xs} {P : S → Fr → Prop} {E : Ex → Fr → Prop} : Wp ((den C (.me m x xs)).pk ρ) P E = Wp ((den C x).pk ρ) (fun s ρ => Wp (if meOk m s then (fzsL (dens C xs) ρ).bind fun ds ρ => R.of ρ (me m s ds) else .bad) P E) E := by
  rw [pk_me, wp_bind]
/-- the told traces, put one by one -/
def xput (l : List (Int × D)) (k : Int) (v : D) : List (Int × D) := if l.any fun p => p.1 == k then l.map fun p => if p.1 == k then (p.1, v) else p else l ++ [(k, v)]
theorem dX_put {l : List (Int × D)} {k : Int} {v : D} : dput (dX l) (.int k) v = dX (xput l k v) := by
  unfold dput xput dX
  have e : ∀ p : Int × D, D.same (.int p.1) (.int k) = (p.1 == k) := fun _ => rfl
  have e1 : ((l.map fun p => (D.int p.1, p.2)).any fun p => D.same p.1 (.int k)) = l.any fun p => p.1 == k := by
    rw [List.any_map]
    rfl
  rw [e1]
  cases l.any fun p => p.1 == k with
  | true =>
    simp only [if_true, List.map_map]
    apply List.map_congr_left
    intro p _
    show (if D.same (.int p.1) (.int k) = true then _ else _) = (fun p : Int × D => (D.int p.1, p.2)) (if (p.1 == k) = true then (p.1, v) else p)
    rw [e]
    by_cases h : (p.1 == k) = true
    · rw [if_pos h, if_pos h]
    · rw [if_neg h, if_neg h]
  | false => simp
theorem xmap_ne {k j : Int} {v : D} (hj : j ≠ k) : ∀ {l : List (Int × D)}, (l.map fun p => if p.1 == k then (p.1, v) else p).lookup j = l.lookup j
  | [] => rfl
  | p :: l => by
    rw [List.map_cons, List.lookup_cons, List.lookup_cons]
    by_cases hp : p.1 = k
    · have e : (j == p.1) = false := by rw [hp]; simpa using hj
      rw [if_pos (by simpa using hp), e]
      exact xmap_ne hj
    · rw [if_neg (by simpa using hp), xmap_ne hj]
theorem xmap_eq {k : Int} {v : D} : ∀ {l : List (Int × D)}, (l.any fun p => p.1 == k) = true → (l.map fun p => if p.1 == k then (p.1, v) else p).lookup k = some v
  | [], h => by simp at h
  | p :: l, h => by
    rw [List.map_cons, List.lookup_cons]
    by_cases hp : p.1 = k
    · rw [if_pos (by simpa using hp)]
      show (match k == p.1 with
        | true => some v
        | false => _) = _
      rw [show (k == p.1) = true by simpa using hp.symm]
    · have e : (p.1 == k) = false := by simpa using hp
      rw [List.any_cons, e, Bool.false_or] at h
      rw [if_neg (by rw [e]; simp), show (k == p.1) = false by simpa using Ne.symm hp]
      exact xmap_eq h
theorem xany {k : Int} : ∀ {l : List (Int × D)}, (l.any fun p => p.1 == k) = false → l.lookup k = none
  | [], _ => rfl
  | p :: l, h => by
    rw [List.any_cons, Bool.or_eq_false_iff] at h
    have hp : ¬ p.1 = k := by simpa using h.1
    rw [List.lookup_cons, show (k == p.1) = false by simpa using Ne.symm hp]
    exact xany h.2
theorem xput_look {l : List (Int × D)} {k j : Int} {v : D} : (xput l k v).lookup j = if j = k then some v else l.lookup j := by
  unfold xput
  cases h : l.any fun p => p.1 == k with
  | true =>
    rw [if_pos rfl]
    by_cases hj : j = k
    · subst hj; rw [if_pos rfl, xmap_eq h]
    · rw [if_neg hj, xmap_ne hj]
  | false =>
    rw [if_neg Bool.false_ne_true, List.lookup_append]
    by_cases hj : j = k
    · subst hj
      rw [xany h, if_pos rfl]
      simp
    · rw [if_neg hj]
      have : (j == k) = false := by simpa using hj
      cases l.lookup j with
      | none => simp [List.lookup_cons, this]
      | some _ => rfl
theorem xput_len {l : List (Int × D)} {k : Int} {v : D} : (xput l k v).length ≤ l.length + 1 := by
  unfold xput
  split
  · rw [List.length_map]; omega
  · simp
theorem ss_dX {l : List (Int × D)} {k : Int} {v : D} (h : l.length < lineN) : subSet (.dic false (dX l)) (.v (.int k)) (.v v) = some (.dic false (dX (xput l k v))) := by
  show (if (D.int k).isKey false && decide ((dX l).length < lineN) then some (S.dic false (dput (dX l) (.int k) v)) else none) = _
  rw [dX_put, if_pos]
  rw [Bool.and_eq_true, decide_eq_true_eq]
  exact ⟨rfl, by unfold dX; rw [List.length_map]; exact h⟩
end K46
/-! Km8 -/
namespace K46
open PySem Vm
def trP (p : Prog) (k : Int) : TS := runT k p.rows (t0 p)
def lookD (p : Prog) : List Int := (ofW "look" p.rows).map dotC
def lookedP (p : Prog) : List Int := sortI (lookD p)
def newD (p : Prog) : List Int := (ofW "new" p.rows).map dotC
def dotsP (p : Prog) : List Int := sortI (p.ins ++ newD p)
def tieP (p : Prog) : List (Int × Int) := (ofW "tie" p.rows).map pairC
def tiesD (p : Prog) : List (Int × Int) := (sortP (undup (tieP p))).filter fun q => decide (((tieP p).count q : Int) % 2 = 1)
def angC : Cmd → Int
  | .look _ g _ _ => g
  | _ => 0
def turn0 (p : Prog) : List (Int × Int) := (ofW "look" p.rows).foldl (fun m c => aput m (dotC c) (angC c)) []
def turnP (p : Prog) : List (Int × Int) := ends p (turn0 p)
def whoL (p : Prog) (q : Nat) (l : List Int) : List D := l.map fun dot => .tup false (iD ((lookedP p).filter fun k => decide (at0 (partT q (trP p k)) dot = 1)))
def webD (p : Prog) : D := .tup true [.tup false (iD (dotsP p)), .tup false ((tiesD p).map prD), .tup false (iD p.ins), .tup false (iD p.outs)]
def dueA (p : Prog) : D := .tup true [webD p, .tup false (iD ((dotsP p).map (at0 (turnP p)))), .tup false (whoL p 1 (lookedP p)), .tup false (whoL p 2 p.outs), .tup false (whoL p 3 p.outs)]
def dueN (p : Prog) : D := .tup false ((lookedP p).map fun d => .tup true [.int d, .tup false (iD ((lookedP p).filter fun k => decide (at0 (partT 0 (trP p k)) d = 1)))])
structure DueOk (p : Prog) : Prop where
  rt : ∀ k ∈ lookedP p, RunsT k p.rows (t0 p)
  ck : ∀ c ∈ p.rows, cmdOk c
  il : p.ins.length ≤ 1000
  ol : p.outs.length ≤ 500
  rl : p.rows.length ≤ 60
  tl : p.turns.length = p.outs.length
  tb : ∀ q ∈ tieP p, 0 ≤ q.1 ∧ q.1 < 1048576 ∧ 0 ≤ q.2 ∧ q.2 < 1048576
  ht : ∀ k ∈ dotsP p, Has (turnP p) k
  h0 : ∀ k ∈ lookedP p, ∀ d ∈ lookedP p, Has (partT 0 (trP p k)) d
  h1 : ∀ k ∈ lookedP p, ∀ d ∈ lookedP p, Has (partT 1 (trP p k)) d
  h2 : ∀ k ∈ lookedP p, ∀ d ∈ p.outs, Has (partT 2 (trP p k)) d
  h3 : ∀ k ∈ lookedP p, ∀ d ∈ p.outs, Has (partT 3 (trP p k)) d
theorem mt13 {cf : Nat → List S → Out} : (T.cal cf).mt 13 = [] := rfl
theorem mt12 {cf : Nat → List S → Out} : (T.cal cf).mt 12 = [] := rfl
theorem ofW_len {w : Str} {l : List Cmd} : (ofW w l).length ≤ l.length := List.length_filter_le _ _
theorem who_w {n : Nat} {p : Prog} {told : List (Int × D)} {q : Nat} {l : List Int} {x0 x1 x3 x4 x5 x6 x7 x8 x9 xa xb xc xd xe xf xg x18 : Option S} {P : S → Fr → Prop} {E : Ex → Fr → Prop} (ht : Told (lookedP p) told (trP p)) (hq : q ≤ 3) (hl : l.length ≤ 1000) (hk : (lookedP p).length ≤ 1000) (h : ∀ k ∈ lookedP p, ∀ d ∈ l, Has (partT q (trP p k)) d)
    (hP : P (.lst ((whoL p q l).map S.v)) [x0, x1, some (iL (lookedP p)), x3, x4, x5, x6, x7, x8, x9, some (.dic false (dX told)), xa, xb, xc, xd, xe, xf, xg, x18]) :
    Wp (lcR [18] [x0, x1, some (iL (lookedP p)), x3, x4, x5, x6, x7, x8, x9, some (.dic false (dX told)), xa, xb, xc, xd, xe, xf, xg, x18] (lcGo [18] (tAndL []) (XD.ev (.call 13 (.cons (.nm 2) (.cons (.nm 10) (.cons (.c (.int (q : Int))) (.cons (.nm 18) .nil)))), den (T.cal (run T (n + 1))) (.call 13 (.cons (.nm 2) (.cons (.nm 10) (.cons (.c (.int (q : Int))) (.cons (.nm 18) .nil))))))) (iD l) [x0, x1, some (iL (lookedP p)), x3, x4, x5, x6, x7, x8, x9, some (.dic false (dX told)), xa, xb, xc, xd, xe, xf, xg, x18] [])) P E := by
  refine wp_lcM (fun d => match d with
    | .int dot => .tup false (iD ((lookedP p).filter fun k => decide (at0 (partT q (trP p k)) dot = 1)))
    | d => d) (by show 18 < 19; omega) (fun d md => ?_) (by rw [List.length_map]; unfold lineN; omega) (by
      have : (iD l).map (fun d => match d with
        | .int dot => D.tup false (iD ((lookedP p).filter fun k => decide (at0 (partT q (trP p k)) dot = 1)))
        | d => d) = whoL p q l := by
        unfold whoL
        rw [List.map_map]
        rfl
      rw [this]
      exact hP)
  obtain ⟨dot, mdot, rfl⟩ := List.mem_map.mp md
  simp_arith! [gs_i, ao_i]
  refine wp_call (ss := [iL (lookedP p), .dic false (dX told), .v (.int (q : Int)), .v (.int dot)]) rfl rfl ((who_ok ht hq (fun k mk => h k mk dot mdot) hk).imp (fun r f h => ?_) fun _ _ h => h.elim)
  obtain ⟨rfl, rfl⟩ := h
  simp_arith! [mt13]
  exact ⟨trivial, trivial⟩
/-- rows of one word -/
theorem fil_w {n : Nat} {ρ : Fr} {w : Str} {l : List Cmd} {el : Fr → R S} {P : S → Fr → Prop} {E : Ex → Fr → Prop} (g : Cmd → D) (gD : D → D) (hg : ∀ c ∈ l, wordC c = w → gD (cmdD c) = g c) (hi : 7 < ρ.length) (hl : l.length ≤ 1000) (h1 : ∀ c ∈ l, wordC c = w → Wp (el (ρ.set 7 (some (.v (cmdD c))))) (fun s ρ' => s = .v (g c) ∧ ρ' = ρ.set 7 (some (.v (cmdD c)))) NoE) (hP : P (.lst (((ofW w l).map g).map S.v)) ρ) :
    Wp (lcR [7] ρ (lcGo [7] (tAndL [(.cmp .eq (.ix (.nm 7) (.c (.int 0))) (.c (.str w)), den (T.cal (run T n)) (.cmp .eq (.ix (.nm 7) (.c (.int 0))) (.c (.str w))))]) el (l.map cmdD) ρ [])) P E := by
  refine wp_lcF (pW w) gD hi (fun d md => ?_) (fun d md hp => ?_) (by rw [List.length_map]; unfold lineN; omega) ?_
  · obtain ⟨c, mc, rfl⟩ := List.mem_map.mp md
    have e : getS (ρ.set 7 (some (.v (cmdD c)))) 7 = some (.v (cmdD c)) := by
      unfold getS
      rw [List.getElem?_set_self hi]
    rw [pW_cmd]
    rw [cmd_eq] at e ⊢
    simp_arith! [e, ix_t, at_0]
    split
    · rename_i hw
      exact ⟨(decide_eq_true hw).symm, trivial⟩
    · rename_i hw
      exact ⟨(decide_eq_false hw).symm, trivial⟩
  · obtain ⟨c, mc, rfl⟩ := List.mem_map.mp md
    rw [pW_cmd, decide_eq_true_eq] at hp
    rw [hg c mc hp]
    exact h1 c mc hp
  · have : ((ofW w l).map cmdD).map gD = (ofW w l).map g := by
      rw [List.map_map]
      refine List.map_congr_left fun c m => ?_
      unfold ofW at m
      rw [List.mem_filter, decide_eq_true_eq] at m
      exact hg c m.1 m.2
    rw [fil_W, this]
    exact hP
theorem undup_len : ∀ (l : List (Int × Int)), (undup l).length ≤ l.length
  | [] => Nat.le_refl _
  | x :: l => by
    unfold undup
    have := undup_len l
    split
    · rw [List.length_cons]; omega
    · rw [List.length_cons, List.length_cons]; omega
theorem pr0 {p : Prog} : getIx (.v (progD p)) (.v (.int 0)) = some (.v (.tup false (iD p.ins))) := rfl
theorem pr1 {p : Prog} : getIx (.v (progD p)) (.v (.int 1)) = some (.v (.tup false (iD p.outs))) := rfl
theorem pr3 {p : Prog} : getIx (.v (progD p)) (.v (.int 3)) = some (.v (.tup false (iD p.turns))) := rfl
theorem at_iD {l : List Int} {k : Nat} {v : Int} (h : l[k]? = some v) : atIx (iD l) (k : Int) = some (.int v) := by
  rw [at_nat, List.getElem?_map, h]
  rfl
theorem wp_putX {C : Cal} {U : Rules} {ρ : Fr} {i : Nat} {k x : X} {m : List (Int × D)} {P : Fl → Fr → Prop} {E : Ex → Fr → Prop} (hl : m.length < lineN) (h : Wp (XD.ev (x, den C x) ρ) (fun s ρ => getS ρ i = some (.dic false (dX m)) ∧ Wp (XD.ev (k, den C k) ρ) (fun k ρ => ∃ j v, k = .v (.int j) ∧ s = .v v ∧ getS ρ i = some (.dic false (dX m)) ∧ P .nx (ρ.set i (some (.dic false (dX (xput m j v)))))) E) E) : Wp (Vm.exec C U (.set (.sub i [] k) x) ρ) P E := by
  refine wp_set_sub (h.imp (fun s ρ ⟨h1, h2⟩ => ⟨has_p h1 rfl, h2.imp (fun k ρ ⟨j, v, e1, e2, e3, q⟩ => ?_) fun _ _ q => q⟩) fun _ _ q => q)
  subst e1 e2
  exact ⟨_, _, _, _, e3, rfl, ss_dX hl, rfl, q⟩
theorem due_ok {n : Nat} {p : Prog} (ok : DueOk p) : Rn (run T (n + 3) 14 [.v (progD p)]) (fun r f => r = .v (.tup true [dueA p, dueN p]) ∧ f = []) NoX := by
  obtain ⟨rt, ck, il, ol, rl, tl, tb, ht, h0, h1, h2, h3⟩ := ok
  have ll : (lookD p).length ≤ 1000 := by
    unfold lookD
    rw [List.length_map]
    have := @ofW_len "look" p.rows
    omega
  have kl : (lookedP p).length ≤ 1000 := by unfold lookedP; rw [len_sort]; exact ll
  have nl : (newD p).length ≤ 1000 := by
    unfold newD
    rw [List.length_map]
    have := @ofW_len "new" p.rows
    omega
  have dl : (dotsP p).length ≤ 2000 := by unfold dotsP; rw [len_sort, List.length_append]; omega
  refine run_wp (fn := f14) rfl rfl ?_
  show Wp (Vm.execs _ _ b14 [some (.v (progD p)), none, none, none, none, none, none, none, none, none, none, none, none, none, none, none, none, none, none]) _ _
  unfold b14
  -- looks
  rw [wp_cons]
  simp_arith! [progD, ix_t, at_2, seq_t]
  refine fil_w (fun c => cmdD c) (fun d => d) (fun _ _ _ => rfl) (by show 7 < 19; omega) (by omega) (fun c _ _ => ?_) ?_
  · simp_arith! [eq_self]
    exact ⟨trivial, trivial⟩
  simp_arith! [eq_self]
  -- looked
  rw [wp_cons]
  simp_arith! [seq_l]
  refine wp_lcM g1 (by show 7 < 19; omega) (fun d md => ?_) (by rw [List.length_map]; have := @ofW_len "look" p.rows; unfold lineN; omega) ?_
  · obtain ⟨c, _, rfl⟩ := List.mem_map.mp md
    rw [g1_cmd, cmd_eq]
    simp_arith! [ix_t, at_1]
    exact ⟨trivial, trivial⟩
  rw [show ((ofW "look" p.rows).map fun c => cmdD c).map g1 = iD (lookD p) by
    unfold lookD iD
    rw [List.map_map, List.map_map]
    exact List.map_congr_left fun c _ => g1_cmd]
  rw [show S.lst ((iD (lookD p)).map S.v) = iL (lookD p) from rfl]
  simp_arith! [so_i]
  rw [show sortI (lookD p) = lookedP p from rfl]
  -- dots
  rw [wp_cons]
  simp_arith! [ix_t, at_0, at_2, seq_t, li_t]
  refine fil_w (fun c => .int (dotC c)) g1 (fun c _ _ => g1_cmd) (by show 7 < 19; omega) (by omega) (fun c _ _ => ?_) ?_
  · rw [cmd_eq]
    simp_arith! [ix_t, at_1]
    exact ⟨trivial, trivial⟩
  rw [show (ofW "new" p.rows).map (fun c => D.int (dotC c)) = iD (newD p) by unfold newD iD; rw [List.map_map]; rfl]
  rw [show S.lst ((iD (newD p)).map S.v) = iL (newD p) from rfl]
  simp_arith! [ad_i (show p.ins.length + (newD p).length ≤ lineN by unfold lineN; omega), so_i]
  rw [show sortI (p.ins ++ newD p) = dotsP p from rfl]
  -- laid
  rw [wp_cons]
  simp_arith! [ix_t, at_2, seq_t]
  refine fil_w (fun c => prD (pairC c)) g12 (fun c _ hw => ?_) (by show 7 < 19; omega) (by omega) (fun c _ hw => ?_) ?_
  · obtain ⟨a, b, rfl⟩ := is_tie hw
    rfl
  · obtain ⟨a, b, rfl⟩ := is_tie hw
    simp_arith! [cmdD, ix_t, at_1, at_2, fz_v]
    exact ⟨rfl, trivial⟩
  rw [show (ofW "tie" p.rows).map (fun c => prD (pairC c)) = (tieP p).map prD by unfold tieP; rw [List.map_map]; rfl]
  simp_arith! [eq_self]
  -- ties
  have tlen : (tieP p).length < 64 := by
    unfold tieP
    rw [List.length_map]
    have := @ofW_len "tie" p.rows
    omega
  rw [wp_cons]
  simp_arith! [ss_p tlen tb, seq_l]
  refine wp_lcF (fun d => match d with
    | .tup _ [.int a, .int b] => decide (((tieP p).count (a, b) : Int) % 2 = 1)
    | _ => false) (fun d => d) (by show 17 < 19; omega) (fun d md => ?_) (fun d md _ => ?_) (by rw [List.length_map, (sortP_perm _).length_eq]; exact Nat.le_trans (undup_len _) (by unfold lineN; omega)) ?_
  · obtain ⟨q, mq, rfl⟩ := List.mem_map.mp md
    simp_arith! [mk_c, ct_p, fz_v]
    by_cases hb : ((tieP p).count q : Int) % 2 = 1
    · rw [if_pos hb]
      exact ⟨(decide_eq_true hb).symm, trivial⟩
    · rw [if_neg hb]
      exact ⟨(decide_eq_false hb).symm, trivial⟩
  · simp_arith! [eq_self]
    exact ⟨trivial, trivial⟩
  rw [List.map_id']
  rw [show ((sortP (undup (tieP p))).map prD).filter (fun d => match d with
    | .tup _ [.int a, .int b] => decide (((tieP p).count (a, b) : Int) % 2 = 1)
    | _ => false) = (tiesD p).map prD by
    unfold tiesD
    rw [List.filter_map]
    rfl]
  simp_arith! [tu_d]
  -- turn
  rw [wp_cons]
  simp_arith! [eq_self]
  refine wp_mid (fun ρ => ∃ x, ρ = [some (.v (progD p)), some (.lst (((ofW "look" p.rows).map fun c => cmdD c).map S.v)), some (iL (lookedP p)), some (iL (dotsP p)), some (.lst (((tieP p).map prD).map S.v)), some (.v (.tup false ((tiesD p).map prD))), some (.dic false (dI (turn0 p))), x, none, none, none, none, none, none, none, none, none, none, none]) ?_ ?_
  · simp_arith! [seq_l]
    refine wp_for (fun r ρ => ∃ x m y, r = x.map cmdD ∧ (∀ c ∈ x, wordC c = "look") ∧ x.foldl (fun m c => aput m (dotC c) (angC c)) m = turn0 p ∧ m.length + x.length ≤ 100 ∧ ρ = [some (.v (progD p)), some (.lst (((ofW "look" p.rows).map fun c => cmdD c).map S.v)), some (iL (lookedP p)), some (iL (dotsP p)), some (.lst (((tieP p).map prD).map S.v)), some (.v (.tup false ((tiesD p).map prD))), some (.dic false (dI m)), y, none, none, none, none, none, none, none, none, none, none, none]) ⟨ofW "look" p.rows, [], none, rfl, fun c m => ?_, rfl, ?_, rfl⟩ ?_ ?_
    · unfold ofW at m
      rw [List.mem_filter, decide_eq_true_eq] at m
      exact m.2
    · have := @ofW_len "look" p.rows
      rw [List.length_nil]
      omega
    · rintro d r ρ ⟨x, m, y, e1, hx, e2, e3, rfl⟩
      obtain ⟨k, x, rfl⟩ : ∃ k x', x = k :: x' := by
        cases x with
        | nil => cases e1
        | cons k x' => exact ⟨k, x', rfl⟩
      have e1' : d = cmdD k ∧ r = x.map cmdD := by simpa using e1
      obtain ⟨rfl, rfl⟩ := e1'
      obtain ⟨dd, g, w, a, rfl⟩ := is_look (hx k List.mem_cons_self)
      rw [List.length_cons] at e3
      refine ⟨_, tg_1 (by show 7 < 19; omega), ?_⟩
      simp_arith! [eq_self]
      rw [wp_cons]
      refine wp_put (m := m) (by unfold lineN; omega) ?_
      simp_arith! [cmdD, ix_t, at_1, at_2]
      refine ⟨trivial, _, _, rfl, rfl, trivial, ?_⟩
      exact ⟨x, _, _, rfl, fun c m => hx c (List.mem_cons_of_mem _ m), e2, by show (aput m dd g).length + x.length ≤ 100; have := aput_len (l := m) (k := dd) (v := g); omega, rfl⟩
    · rintro ρ ⟨x, m, y, e1, hx, e2, e3, rfl⟩
      have : x = [] := by cases x with
        | nil => rfl
        | cons _ _ => cases e1
      subst this
      have e2 : m = _ := e2
      subst e2
      exact ⟨_, rfl⟩
  rintro ρ ⟨x7, rfl⟩
  rw [wp_cons]
  simp_arith! [pr1]
  have t0l : (turn0 p).length ≤ 60 := by
    have : ∀ (x : List Cmd) (m : List (Int × Int)), (x.foldl (fun m c => aput m (dotC c) (angC c)) m).length ≤ m.length + x.length := by
      intro x
      induction x with
      | nil => intro m; exact Nat.le_refl _
      | cons c x ih =>
        intro m
        refine Nat.le_trans (ih (aput m (dotC c) (angC c))) ?_
        have := aput_len (l := m) (k := dotC c) (v := angC c)
        rw [List.length_cons]; omega
    have h1 := this (ofW "look" p.rows) []
    have h2 := @ofW_len "look" p.rows
    rw [List.length_nil] at h1
    unfold turn0
    omega
  refine wp_mid (fun ρ => ∃ x y, ρ = [some (.v (progD p)), some (.lst (((ofW "look" p.rows).map fun c => cmdD c).map S.v)), some (iL (lookedP p)), some (iL (dotsP p)), some (.lst (((tieP p).map prD).map S.v)), some (.v (.tup false ((tiesD p).map prD))), some (.dic false (dI (turnP p))), x, some (.v (.tup false (iD p.outs))), y, none, none, none, none, none, none, none, none, none]) ?_ ?_
  · simp_arith! [fz_v]
    rw [show ((iD p.outs).length : Int) = ((p.outs.length : Nat) : Int) by rw [List.length_map], rng_1 (by unfold lineN; omega)]
    simp_arith! [eq_self]
    have zl : (p.outs.zip p.turns).length = p.outs.length := by rw [List.length_zip, tl, Nat.min_self]
    refine wp_for (fun r ρ => ∃ a x y, p.outs.zip p.turns = a ++ x ∧ r = (List.range' a.length x.length).map (fun j => D.int (j : Nat)) ∧ ρ = [some (.v (progD p)), some (.lst (((ofW "look" p.rows).map fun c => cmdD c).map S.v)), some (iL (lookedP p)), some (iL (dotsP p)), some (.lst (((tieP p).map prD).map S.v)), some (.v (.tup false ((tiesD p).map prD))), some (.dic false (dI (a.foldl (fun m q => aput m q.1 ((8 - q.2) % 8)) (turn0 p)))), x7, some (.v (.tup false (iD p.outs))), y, none, none, none, none, none, none, none, none, none] ∧ (a.foldl (fun m q => aput m q.1 ((8 - q.2) % 8)) (turn0 p)).length ≤ 60 + a.length) ⟨[], p.outs.zip p.turns, none, rfl, by rw [zl, List.range_eq_range']; rfl, rfl, by exact t0l⟩ ?_ ?_
    · rintro d r ρ ⟨a, x, y, e1, e2, rfl, e3⟩
      obtain ⟨q, x, rfl⟩ : ∃ q x', x = q :: x' := by
        cases x with
        | nil => cases e2
        | cons q x' => exact ⟨q, x', rfl⟩
      have e2' : d = .int (a.length : Nat) ∧ r = (List.range' (a.length + 1) x.length).map fun j => D.int (j : Nat) := by
        rw [List.length_cons, List.range'_succ, List.map_cons] at e2
        exact List.cons.inj e2
      obtain ⟨rfl, rfl⟩ := e2'
      have al : a.length < p.outs.length := by
        rw [← zl, e1, List.length_append, List.length_cons]; omega
      have hz : (p.outs.zip p.turns)[a.length]? = some q := by rw [e1, List.getElem?_append_right (Nat.le_refl _), Nat.sub_self]; rfl
      rw [List.getElem?_zip_eq_some] at hz
      refine ⟨_, tg_1 (by show 9 < 19; omega), ?_⟩
      simp_arith! [eq_self]
      rw [wp_cons]
      refine wp_put (m := a.foldl (fun m q => aput m q.1 ((8 - q.2) % 8)) (turn0 p)) (by unfold lineN; omega) ?_
      simp_arith! [pr3, ix_t, at_iD hz.1, at_iD hz.2]
      refine ⟨trivial, _, _, rfl, rfl, trivial, ?_⟩
      refine ⟨a ++ [q], x, some (.v (.int (a.length : Nat))), by rw [e1]; simp, by rw [List.length_append]; rfl, ?_, ?_⟩
      · rw [List.foldl_append]
        rfl
      · rw [List.foldl_append, List.length_append]
        show (aput _ q.1 ((8 - q.2) % 8)).length ≤ 60 + (a.length + 1)
        have := aput_len (l := a.foldl (fun m q => aput m q.1 ((8 - q.2) % 8)) (turn0 p)) (k := q.1) (v := (8 - q.2) % 8)
        omega
    · rintro ρ ⟨a, x, y, e1, e2, rfl, e3⟩
      have : x = [] := by cases x with
        | nil => rfl
        | cons _ _ => cases e2
      subst this
      rw [List.append_nil] at e1
      subst e1
      exact ⟨_, _, rfl⟩
  rintro ρ ⟨x7, x9, rfl⟩
  rw [wp_cons]
  simp_arith! [eq_self]
  refine wp_mid (fun ρ => ∃ told x y z, Told (lookedP p) told (trP p) ∧ ρ = [some (.v (progD p)), some (.lst (((ofW "look" p.rows).map fun c => cmdD c).map S.v)), some (iL (lookedP p)), some (iL (dotsP p)), some (.lst (((tieP p).map prD).map S.v)), some (.v (.tup false ((tiesD p).map prD))), some (.dic false (dI (turnP p))), x, some (.v (.tup false (iD p.outs))), y, some (.dic false (dX told)), z, none, none, none, none, none, none, none]) ?_ ?_
  · simp_arith! [gs_i, sq_i]
    refine wp_for (fun r ρ => ∃ a x m z, lookedP p = a ++ x ∧ r = iD x ∧ Told a m (trP p) ∧ m.length ≤ a.length ∧ ρ = [some (.v (progD p)), some (.lst (((ofW "look" p.rows).map fun c => cmdD c).map S.v)), some (iL (lookedP p)), some (iL (dotsP p)), some (.lst (((tieP p).map prD).map S.v)), some (.v (.tup false ((tiesD p).map prD))), some (.dic false (dI (turnP p))), x7, some (.v (.tup false (iD p.outs))), x9, some (.dic false (dX m)), z, none, none, none, none, none, none, none]) ⟨[], lookedP p, [], none, rfl, rfl, ⟨fun k m => by cases m⟩, Nat.le_refl _, rfl⟩ ?_ ?_
    · rintro d r ρ ⟨a, x, m, z, e1, e2, hT, e3, rfl⟩
      obtain ⟨k, x, rfl⟩ : ∃ k x', x = k :: x' := by
        cases x with
        | nil => cases e2
        | cons k x' => exact ⟨k, x', rfl⟩
      have e2' : d = .int k ∧ r = iD x := by simpa [iD] using e2
      obtain ⟨rfl, rfl⟩ := e2'
      have al : a.length ≤ 1000 := by
        have := kl
        rw [e1, List.length_append] at this
        omega
      refine ⟨_, tg_1 (by show 11 < 19; omega), ?_⟩
      simp_arith! [eq_self]
      rw [wp_cons]
      refine wp_putX (m := m) (by unfold lineN; omega) ?_
      simp_arith! [eq_self]
      refine wp_call (ss := [.v (progD p), .v (.int k)]) rfl rfl ((trace_ok (rt k (by rw [e1]; simp)) il ck).imp (fun r f h => ?_) fun _ _ h => h.elim)
      obtain ⟨rfl, rfl⟩ := h
      simp_arith! [mt12]
      refine ⟨trivial, _, _, rfl, rfl, trivial, ?_⟩
      refine ⟨a ++ [k], x, _, _, by rw [e1]; simp, rfl, ⟨fun j mj => ?_⟩, ?_, rfl⟩
      · rw [xput_look]
        by_cases hj : j = k
        · subst hj
          rw [if_pos rfl]
          rfl
        · rw [if_neg hj]
          rcases List.mem_append.mp mj with mj | mj
          · exact hT.at' j mj
          · exact absurd (List.mem_singleton.mp mj) hj
      · rw [List.length_append]
        have := @xput_len m k (trD (runT k p.rows (t0 p)))
        show _ ≤ a.length + 1
        omega
    · rintro ρ ⟨a, x, m, z, e1, e2, hT, e3, rfl⟩
      have : x = [] := by cases x with
        | nil => rfl
        | cons _ _ => cases e2
      subst this
      rw [List.append_nil] at e1
      exact ⟨m, _, _, _, by rw [e1]; exact hT, rfl⟩
  rintro ρ ⟨told, y7, y9, z11, ht2, rfl⟩
  rw [wp_cons]
  simp_arith! [gs_i, tu_i, fz_v, pr0]
  rw [wp_cons]
  simp_arith! [gs_i, sq_i]
  refine who_w (q := 1) ht2 (by omega) kl kl h1 ?_
  simp_arith! [tu_d]
  rw [wp_cons]
  simp_arith! [seq_t]
  refine who_w (q := 2) ht2 (by omega) (by omega) kl h2 ?_
  simp_arith! [tu_d]
  rw [wp_cons]
  simp_arith! [seq_t]
  refine who_w (q := 3) ht2 (by omega) (by omega) kl h3 ?_
  simp_arith! [tu_d]
  rw [wp_cons]
  simp_arith! [gs_i, sq_i]
  refine wp_lcM (fun d => match d with
    | .int d => .tup true [.int d, .tup false (iD ((lookedP p).filter fun k => decide (at0 (partT 0 (trP p k)) d = 1)))]
    | d => d) (by show 18 < 19; omega) (fun d md => ?_) (by rw [List.length_map]; unfold lineN; omega) ?_
  · obtain ⟨dot, mdot, rfl⟩ := List.mem_map.mp md
    simp_arith! [gs_i, ao_i, fz_v]
    refine wp_call (ss := [iL (lookedP p), .dic false (dX told), .v (.int ((0 : Nat) : Int)), .v (.int dot)]) rfl rfl ((who_ok ht2 (by omega) (fun k mk => h0 k mk dot mdot) kl).imp (fun r f h => ?_) fun _ _ h => h.elim)
    obtain ⟨rfl, rfl⟩ := h
    simp_arith! [mt13, fz_v]
    exact ⟨trivial, trivial⟩
  rw [show (iD (lookedP p)).map (fun d => match d with
    | .int d => D.tup true [.int d, .tup false (iD ((lookedP p).filter fun k => decide (at0 (partT 0 (trP p k)) d = 1)))]
    | d => d) = (lookedP p).map fun d => D.tup true [.int d, .tup false (iD ((lookedP p).filter fun k => decide (at0 (partT 0 (trP p k)) d = 1)))] by unfold iD; rw [List.map_map]; rfl]
  simp_arith! [tu_d]
  rw [wp_cons]
  simp_arith! [gs_i, sq_i, fz_v]
  refine wp_lcM (fun d => match d with
    | .int k => .int (at0 (turnP p) k)
    | d => d) (by show 18 < 19; omega) (fun d md => ?_) (by rw [List.length_map]; unfold lineN; omega) ?_
  · obtain ⟨k, mk, rfl⟩ := List.mem_map.mp md
    simp_arith! [ix_dI, has_at (ht k mk)]
    exact ⟨trivial, trivial⟩
  rw [show (iD (dotsP p)).map (fun d => match d with
    | .int k => D.int (at0 (turnP p) k)
    | d => d) = iD ((dotsP p).map (at0 (turnP p))) by unfold iD; rw [List.map_map, List.map_map]; rfl]
  simp_arith! [tu_d, fz_v]
  exact ⟨_, rfl, rfl, rfl⟩
end K46
/-! Km9 -/
namespace K46
open PySem Vm
theorem xor_nat {a b : Nat} : Builtin.bitXor (a : Int) (b : Int) = ((a ^^^ b : Nat) : Int) := by
  have e : Builtin.bitAnd (a : Int) (b : Int) = ((a &&& b : Nat) : Int) := by
    unfold Builtin.bitAnd
    rw [decide_eq_true (Int.natCast_nonneg a), decide_eq_true (Int.natCast_nonneg b)]
    rfl
  rw [PyProof.Rows.bitXor_and, e]
  have := Bits.nat_xor_add_and a b
  omega
/-- v is bit k of the mask m -/
def Rb (k : Nat) (m v : Int) : Prop := ∃ N : Nat, m = N ∧ v = boI (N.testBit k)
theorem boI_xor {a b : Bool} : Builtin.bitXor (boI a) (boI b) = boI (a ^^ b) := by
  cases a <;> cases b <;> decide +kernel
theorem Rb.xor {k : Nat} {m v m' v' : Int} (h : Rb k m v) (h' : Rb k m' v') : Rb k (Builtin.bitXor m m') (Builtin.bitXor v v') := by
  obtain ⟨N, rfl, rfl⟩ := h
  obtain ⟨N', rfl, rfl⟩ := h'
  exact ⟨N ^^^ N', xor_nat, by rw [boI_xor, Nat.testBit_xor]⟩
theorem Rb.zero {k : Nat} : Rb k 0 0 := ⟨0, rfl, by rw [Nat.zero_testBit]; rfl⟩
theorem Rb.pow {k n : Nat} : Rb k (2 ^ n) (boI (decide (n = k))) := ⟨2 ^ n, by rw [Int.natCast_pow]; rfl, by rw [Nat.testBit_two_pow]⟩
theorem Rb.byn {k : Nat} {names olds : List (Int × Int)} {l : List Int} (h : ∀ d ∈ l, Rb k (at0 names d) (at0 olds d)) : Rb k (byn names l) (odd olds l) := by
  have key : ∀ (l : List Int) (acc s : Int), (∀ d ∈ l, Rb k (at0 names d) (at0 olds d)) → Rb k acc (s % 2) → Rb k (l.foldl (fun x d => Builtin.bitXor x ((names.lookup d).getD 0)) acc) ((s + (l.map (at0 olds)).sum) % 2) := by
    intro l
    induction l with
    | nil =>
      intro acc s _ h
      simpa using h
    | cons d l ih =>
      intro acc s hd h
      have h2 := h.xor (hd d List.mem_cons_self)
      have e : Builtin.bitXor (s % 2) (at0 olds d) = (s + at0 olds d) % 2 := by
        obtain ⟨N, _, e1⟩ := h
        obtain ⟨N', _, e2⟩ := hd d List.mem_cons_self
        rw [e1, e2, boI_xor, Int.add_emod, e1]
        cases N.testBit k <;> cases N'.testBit k <;> decide +kernel
      rw [e] at h2
      have := ih _ _ (fun d m => hd d (List.mem_cons_of_mem _ m)) h2
      rw [List.map_cons, List.sum_cons, ← Int.add_assoc]
      exact this
  have := key l 0 0 h (by exact Rb.zero)
  rw [Int.zero_add] at this
  exact this
theorem Rb.bit {k : Nat} {m v : Int} (h : Rb k m v) : bitO m k = decide (v = 1) := by
  obtain ⟨N, rfl, rfl⟩ := h
  unfold bitO
  rw [PyProof.Rows.bitAnd_m1]
  have e : ((N : Int) / 2 ^ k) % 2 = ((N / 2 ^ k % 2 : Nat) : Int) := by
    rw [Int.natCast_emod, Int.natCast_ediv, Int.natCast_pow]
    rfl
  rw [e]
  have : N.testBit k = decide (N / 2 ^ k % 2 = 1) := by
    rw [Nat.testBit_eq_decide_div_mod_eq]
  rw [this]
  rcases Nat.mod_two_eq_zero_or_one (N / 2 ^ k) with q | q
  · rw [q]; decide +kernel
  · rw [q]; decide +kernel
end K46
/-! Kma -/
namespace K46
open PySem Vm
/-- rows one by one: the live dots, those looked at, all -/
inductive Good (ins : List Int) : List Cmd → List Int → List Int → List Int → Prop where
  | nil : ins.Nodup → Good ins [] ins [] ins
  | new {rows live seen all d} : Good ins rows live seen all → d ∉ all → Good ins (rows ++ [.new d]) (live ++ [d]) seen (all ++ [d])
  | tie {rows live seen all a b} : Good ins rows live seen all → a ∈ live → b ∈ live → a ≠ b → Good ins (rows ++ [.tie a b]) live seen all
  | flip {rows live seen all d l} : Good ins rows live seen all → d ∈ live → (∀ k ∈ l.2, k ∈ seen) → lotOk l → Good ins (rows ++ [.flip d l]) live seen all
  | sign {rows live seen all d l} : Good ins rows live seen all → d ∈ live → (∀ k ∈ l.2, k ∈ seen) → lotOk l → Good ins (rows ++ [.sign d l]) live seen all
  | look {rows live seen all d g l a} : Good ins rows live seen all → d ∈ live → (∀ k ∈ l.2, k ∈ seen) → (∀ k ∈ a.2, k ∈ seen) → lotOk l → lotOk a → Good ins (rows ++ [.look d g l a]) (live.erase d) (seen ++ [d]) all
  | perm {rows live live' seen all} : Good ins rows live seen all → live.Perm live' → Good ins rows live' seen all
theorem Good.nodup {ins rows live seen all} (h : Good ins rows live seen all) : all.Nodup := by
  induction h with
  | nil h => exact h
  | new _ hd ih =>
    rw [List.nodup_append]
    refine ⟨ih, by simp, fun a ha b hb z => ?_⟩
    have : b = _ := List.mem_singleton.mp hb
    rw [z, this] at ha
    exact hd ha
  | _ => assumption
theorem Good.all {ins rows live seen all} (h : Good ins rows live seen all) : (seen ++ live).Perm all := by
  induction h with
  | nil h => exact .refl _
  | new _ hd ih =>
    rw [← List.append_assoc]
    exact ih.append_right _
  | look _ hd _ _ _ _ ih =>
    refine List.Perm.trans ?_ ih
    rw [List.append_assoc]
    exact List.Perm.append_left _ (List.perm_cons_erase hd).symm
  | perm _ hp ih => exact (List.Perm.append_left _ hp.symm).trans ih
  | _ => assumption
theorem Good.liveIn {ins rows live seen all} (h : Good ins rows live seen all) {d : Int} (hd : d ∈ live) : d ∈ all := h.all.mem_iff.mp (List.mem_append_right _ hd)
theorem Good.seenIn {ins rows live seen all} (h : Good ins rows live seen all) {d : Int} (hd : d ∈ seen) : d ∈ all := h.all.mem_iff.mp (List.mem_append_left _ hd)
theorem at0_put {m : List (Int × Int)} {k v j : Int} : at0 (aput m k v) j = if j = k then v else at0 m j := by
  unfold at0
  rw [aput_look]
  split <;> rfl
theorem has_put2 {m : List (Int × Int)} {k v j : Int} (h : j = k ∨ Has m j) : Has (aput m k v) j := by
  rcases h with rfl | h
  · exact has_new
  · exact has_put h
theorem runs_snoc : ∀ {l : List Cmd} {c : Cmd} {w : WS}, Runs l w → Pre c (runW l w) → (runW l w).sm 1000 → Runs (l ++ [c]) w
  | [], c, w, _, h1, h2 => ⟨h1, h2, trivial⟩
  | d :: l, c, w, h, h1, h2 => ⟨h.1, h.2.1, runs_snoc h.2.2 h1 h2⟩
theorem runW_snoc {l : List Cmd} {c : Cmd} {w : WS} : runW (l ++ [c]) w = stepW c (runW l w) := by
  unfold runW
  rw [List.foldl_append]
  rfl
theorem sm_mono {w : WS} {M N : Nat} (h : w.sm M) (l : M ≤ N) : w.sm N := by
  obtain ⟨h1, h2, h3, h4, h5, h6, h7, h8⟩ := h
  exact ⟨by omega, by omega, by omega, by omega, by omega, by omega, by omega, by omega⟩
theorem tog_len {l : List (Int × Int)} {p : Int × Int} : (tog l p).length ≤ l.length + 1 := by
  unfold tog
  split
  · have := List.length_filter_le (fun q => q != p) l
    omega
  · simp
theorem sm_step {w : WS} {c : Cmd} {N : Nat} (h : w.sm N) : (stepW c w).sm (N + 2) := by
  obtain ⟨h1, h2, h3, h4, h5, h6, h7, h8⟩ := h
  have A : ∀ {m : List (Int × Int)} {k v : Int}, m.length ≤ N → (aput m k v).length ≤ N + 2 := fun {m k v} h => by
    have := aput_len (l := m) (k := k) (v := v)
    omega
  have L : ∀ {l : List Int} {d : Int}, l.length ≤ N → (l ++ [d]).length ≤ N + 2 := fun {l d} h => by
    rw [List.length_append, List.length_singleton]; omega
  cases c with
  | new d => exact ⟨by show w.ties.length ≤ _; omega, by show w.angles.length ≤ _; omega, by show w.waits.length ≤ _; omega, by show w.names.length ≤ _; omega, A h5, A h6, L h7, by show w.seen.length ≤ _; omega⟩
  | tie a b =>
    refine ⟨Nat.le_trans tog_len (by omega), by show w.angles.length ≤ _; omega, by show w.waits.length ≤ _; omega, by show w.names.length ≤ _; omega, by show w.flipped.length ≤ _; omega, ?_, by show w.dots.length ≤ _; omega, by show w.seen.length ≤ _; omega⟩
    refine Nat.le_trans aput_len ?_
    have := aput_len (l := w.signed) (k := b) (v := Builtin.bitXor (at0 w.signed b) (at0 w.flipped a))
    omega
  | flip d l => exact ⟨by show w.ties.length ≤ _; omega, by show w.angles.length ≤ _; omega, by show w.waits.length ≤ _; omega, by show w.names.length ≤ _; omega, A h5, by show w.signed.length ≤ _; omega, by show w.dots.length ≤ _; omega, by show w.seen.length ≤ _; omega⟩
  | sign d l => exact ⟨by show w.ties.length ≤ _; omega, by show w.angles.length ≤ _; omega, by show w.waits.length ≤ _; omega, by show w.names.length ≤ _; omega, by show w.flipped.length ≤ _; omega, A h6, by show w.dots.length ≤ _; omega, by show w.seen.length ≤ _; omega⟩
  | look d g l a => exact ⟨by show w.ties.length ≤ _; omega, A h2, A h3, A h4, by show w.flipped.length ≤ _; omega, by show w.signed.length ≤ _; omega, by show w.dots.length ≤ _; omega, L h8⟩
def wI (ins : List Int) : WS := ⟨ins, [], [], [], [], [], zeros ins, zeros ins⟩
theorem zeros_has : ∀ {l : List Int} {k : Int}, k ∈ l → Has (zeros l) k := by
  have : ∀ (l : List Int) (m : List (Int × Int)) (k : Int), (k ∈ l ∨ Has m k) → Has (l.foldl (fun m d => aput m d 0) m) k := by
    intro l
    induction l with
    | nil =>
      intro m k h
      exact h.resolve_left (by simp)
    | cons d l ih =>
      intro m k h
      refine ih (aput m d 0) k ?_
      rcases h with h | h
      · rcases List.mem_cons.mp h with rfl | h
        · exact .inr has_new
        · exact .inl h
      · exact .inr (has_put h)
  exact fun {l k} h => this l [] k (.inl h)
structure WOk (rows : List Cmd) (sn al : List Int) (w : WS) : Prop where
  dots : w.dots = al
  seen : w.seen = sn
  fl : ∀ k ∈ al, Has w.flipped k
  si : ∀ k ∈ al, Has w.signed k
  na : ∀ k ∈ sn, Has w.names k
  wa : ∀ k ∈ sn, Has w.waits k
  an : ∀ k ∈ sn, Has w.angles k
theorem good_w {ins rows live seen all} (h : Good ins rows live seen all) (hi : ins.length ≤ 100) (hr : rows.length ≤ 60) : Runs rows (wI ins) ∧ WOk rows seen all (runW rows (wI ins)) ∧ (runW rows (wI ins)).sm (100 + 2 * rows.length) := by
  induction h with
  | nil h =>
    have := @fp_len [] ins
    exact ⟨trivial, ⟨rfl, rfl, fun k m => zeros_has m, fun k m => zeros_has m, (fun k m => by cases m), (fun k m => by cases m), (fun k m => by cases m)⟩, ⟨by show 0 ≤ _; omega, by show 0 ≤ _; omega, by show 0 ≤ _; omega, by show 0 ≤ _; omega, by show (zeros ins).length ≤ _; omega, by show (zeros ins).length ≤ _; omega, by show ins.length ≤ _; omega, by show 0 ≤ _; omega⟩⟩
  | perm _ _ ih => exact ih hr
  | @new rows live seen all d h hd ih =>
    rw [List.length_append, List.length_singleton] at hr
    obtain ⟨i1, i2, i3⟩ := ih (by omega)
    rw [runW_snoc, List.length_append, List.length_singleton]
    refine ⟨runs_snoc i1 trivial (sm_mono i3 (by omega)), ⟨by show _ ++ [d] = _; rw [i2.dots], i2.seen, fun k m => has_put2 ?_, fun k m => has_put2 ?_, i2.na, i2.wa, i2.an⟩, sm_mono (sm_step i3) (by omega)⟩
    · rcases List.mem_append.mp m with m | m
      · exact .inr (i2.fl k m)
      · exact .inl (List.mem_singleton.mp m)
    · rcases List.mem_append.mp m with m | m
      · exact .inr (i2.si k m)
      · exact .inl (List.mem_singleton.mp m)
  | @tie rows live seen all a b h ha hb hn ih =>
    rw [List.length_append, List.length_singleton] at hr
    obtain ⟨i1, i2, i3⟩ := ih (by omega)
    rw [runW_snoc, List.length_append, List.length_singleton]
    exact ⟨runs_snoc i1 ⟨i2.fl _ (h.liveIn ha), i2.fl _ (h.liveIn hb), i2.si _ (h.liveIn ha), i2.si _ (h.liveIn hb)⟩ (sm_mono i3 (by omega)), ⟨i2.dots, i2.seen, i2.fl, fun k m => has_put (has_put (i2.si k m)), i2.na, i2.wa, i2.an⟩, sm_mono (sm_step i3) (by omega)⟩
  | @flip rows live seen all d l h hd hl ho ih =>
    rw [List.length_append, List.length_singleton] at hr
    obtain ⟨i1, i2, i3⟩ := ih (by omega)
    rw [runW_snoc, List.length_append, List.length_singleton]
    exact ⟨runs_snoc i1 ⟨i2.fl _ (h.liveIn hd), fun k m => i2.na k (hl k m)⟩ (sm_mono i3 (by omega)), ⟨i2.dots, i2.seen, fun k m => has_put (i2.fl k m), i2.si, i2.na, i2.wa, i2.an⟩, sm_mono (sm_step i3) (by omega)⟩
  | @sign rows live seen all d l h hd hl ho ih =>
    rw [List.length_append, List.length_singleton] at hr
    obtain ⟨i1, i2, i3⟩ := ih (by omega)
    rw [runW_snoc, List.length_append, List.length_singleton]
    exact ⟨runs_snoc i1 ⟨i2.si _ (h.liveIn hd), fun k m => i2.na k (hl k m)⟩ (sm_mono i3 (by omega)), ⟨i2.dots, i2.seen, i2.fl, fun k m => has_put (i2.si k m), i2.na, i2.wa, i2.an⟩, sm_mono (sm_step i3) (by omega)⟩
  | @look rows live seen all d g l a h hd hl hl2 ho ho2 ih =>
    rw [List.length_append, List.length_singleton] at hr
    obtain ⟨i1, i2, i3⟩ := ih (by omega)
    rw [runW_snoc, List.length_append, List.length_singleton]
    have key : ∀ {m : List (Int × Int)} {v k : Int}, (∀ k ∈ seen, Has m k) → k ∈ seen ++ [d] → Has (aput m d v) k := fun {m v k} hh mk => has_put2 (by
      rcases List.mem_append.mp mk with mk | mk
      · exact .inr (hh k mk)
      · exact .inl (List.mem_singleton.mp mk))
    exact ⟨runs_snoc i1 ⟨i2.fl _ (h.liveIn hd), i2.si _ (h.liveIn hd), fun k m => i2.na k (hl k m), fun k m => i2.na k (hl2 k m)⟩ (sm_mono i3 (by omega)), ⟨i2.dots, by show _ ++ [d] = _; rw [i2.seen], i2.fl, i2.si, fun k m => key i2.na m, fun k m => key i2.wa m, fun k m => key i2.an m⟩, sm_mono (sm_step i3) (by omega)⟩
end K46
/-! Kmb -/
namespace K46
open PySem Vm
def tI (ins : List Int) : TS := ⟨[], [], zeros ins, zeros ins⟩
theorem runsT_snoc {alone : Int} : ∀ {l : List Cmd} {c : Cmd} {t : TS}, RunsT alone l t → PreT c (runT alone l t) → (runT alone l t).sm 1000 → RunsT alone (l ++ [c]) t
  | [], c, t, _, h1, h2 => ⟨h1, h2, trivial⟩
  | d :: l, c, t, h, h1, h2 => ⟨h.1, h.2.1, runsT_snoc h.2.2 h1 h2⟩
theorem runT_snoc {alone : Int} {l : List Cmd} {c : Cmd} {t : TS} : runT alone (l ++ [c]) t = stepT alone c (runT alone l t) := by
  unfold runT
  rw [List.foldl_append]
  rfl
theorem smT_mono {t : TS} {M N : Nat} (h : t.sm M) (l : M ≤ N) : t.sm N := by
  obtain ⟨h1, h2, h3, h4⟩ := h
  exact ⟨by omega, by omega, by omega, by omega⟩
theorem smT_step {alone : Int} {t : TS} {c : Cmd} {N : Nat} (h : t.sm N) : (stepT alone c t).sm (N + 2) := by
  obtain ⟨h1, h2, h3, h4⟩ := h
  have A : ∀ {m : List (Int × Int)} {k v : Int}, m.length ≤ N → (aput m k v).length ≤ N + 2 := fun {m k v} h => by
    have := aput_len (l := m) (k := k) (v := v)
    omega
  cases c with
  | new d => exact ⟨by show t.olds.length ≤ _; omega, by show t.about.length ≤ _; omega, A h3, A h4⟩
  | tie a b =>
    refine ⟨by show t.olds.length ≤ _; omega, by show t.about.length ≤ _; omega, by show t.flip.length ≤ _; omega, ?_⟩
    refine Nat.le_trans aput_len ?_
    have := aput_len (l := t.sign) (k := a) (v := Builtin.bitXor (at0 t.sign a) (at0 t.flip b))
    omega
  | flip d l => exact ⟨by show t.olds.length ≤ _; omega, by show t.about.length ≤ _; omega, A h3, by show t.sign.length ≤ _; omega⟩
  | sign d l => exact ⟨by show t.olds.length ≤ _; omega, by show t.about.length ≤ _; omega, by show t.flip.length ≤ _; omega, A h4⟩
  | look d g l a => exact ⟨A h1, A h2, by show t.flip.length ≤ _; omega, by show t.sign.length ≤ _; omega⟩
structure TOk (sn al : List Int) (t : TS) : Prop where
  fl : ∀ k ∈ al, Has t.flip k
  si : ∀ k ∈ al, Has t.sign k
  ol : ∀ k ∈ sn, Has t.olds k
  ab : ∀ k ∈ sn, Has t.about k
theorem good_t {alone : Int} {ins rows live seen all} (h : Good ins rows live seen all) (hi : ins.length ≤ 100) (hr : rows.length ≤ 60) : RunsT alone rows (tI ins) ∧ TOk seen all (runT alone rows (tI ins)) ∧ (runT alone rows (tI ins)).sm (100 + 2 * rows.length) ∧ ∀ c ∈ rows, cmdOk c := by
  induction h with
  | nil h =>
    have := @fp_len [] ins
    exact ⟨trivial, ⟨fun k m => zeros_has m, fun k m => zeros_has m, (fun k m => by cases m), (fun k m => by cases m)⟩, ⟨by show 0 ≤ _; omega, by show 0 ≤ _; omega, by show (zeros ins).length ≤ _; omega, by show (zeros ins).length ≤ _; omega⟩, fun c m => by cases m⟩
  | perm _ _ ih => exact ih hr
  | @new rows live seen all d h hd ih =>
    rw [List.length_append, List.length_singleton] at hr
    obtain ⟨i1, i2, i3, i4⟩ := ih (by omega)
    rw [runT_snoc, List.length_append, List.length_singleton]
    have key : ∀ {m : List (Int × Int)} {v k : Int}, (∀ k ∈ all, Has m k) → k ∈ all ++ [d] → Has (aput m d v) k := fun {m v k} hh mk => has_put2 (by
      rcases List.mem_append.mp mk with mk | mk
      · exact .inr (hh k mk)
      · exact .inl (List.mem_singleton.mp mk))
    refine ⟨runsT_snoc i1 trivial (smT_mono i3 (by omega)), ⟨fun k m => key i2.fl m, fun k m => key i2.si m, i2.ol, i2.ab⟩, smT_mono (smT_step i3) (by omega), fun c m => ?_⟩
    rcases List.mem_append.mp m with m | m
    · exact i4 c m
    · rw [List.mem_singleton.mp m]; trivial
  | @tie rows live seen all a b h ha hb hn ih =>
    rw [List.length_append, List.length_singleton] at hr
    obtain ⟨i1, i2, i3, i4⟩ := ih (by omega)
    rw [runT_snoc, List.length_append, List.length_singleton]
    refine ⟨runsT_snoc i1 ⟨i2.fl _ (h.liveIn ha), i2.fl _ (h.liveIn hb), i2.si _ (h.liveIn ha), i2.si _ (h.liveIn hb)⟩ (smT_mono i3 (by omega)), ⟨i2.fl, fun k m => has_put (has_put (i2.si k m)), i2.ol, i2.ab⟩, smT_mono (smT_step i3) (by omega), fun c m => ?_⟩
    rcases List.mem_append.mp m with m | m
    · exact i4 c m
    · rw [List.mem_singleton.mp m]; trivial
  | @flip rows live seen all d l h hd hl ho ih =>
    rw [List.length_append, List.length_singleton] at hr
    obtain ⟨i1, i2, i3, i4⟩ := ih (by omega)
    rw [runT_snoc, List.length_append, List.length_singleton]
    refine ⟨runsT_snoc i1 ⟨i2.fl _ (h.liveIn hd), fun k m => i2.ol k (hl k m)⟩ (smT_mono i3 (by omega)), ⟨fun k m => has_put (i2.fl k m), i2.si, i2.ol, i2.ab⟩, smT_mono (smT_step i3) (by omega), fun c m => ?_⟩
    rcases List.mem_append.mp m with m | m
    · exact i4 c m
    · rw [List.mem_singleton.mp m]; exact ho
  | @sign rows live seen all d l h hd hl ho ih =>
    rw [List.length_append, List.length_singleton] at hr
    obtain ⟨i1, i2, i3, i4⟩ := ih (by omega)
    rw [runT_snoc, List.length_append, List.length_singleton]
    refine ⟨runsT_snoc i1 ⟨i2.si _ (h.liveIn hd), fun k m => i2.ol k (hl k m)⟩ (smT_mono i3 (by omega)), ⟨i2.fl, fun k m => has_put (i2.si k m), i2.ol, i2.ab⟩, smT_mono (smT_step i3) (by omega), fun c m => ?_⟩
    rcases List.mem_append.mp m with m | m
    · exact i4 c m
    · rw [List.mem_singleton.mp m]; exact ho
  | @look rows live seen all d g l a h hd hl hl2 ho ho2 ih =>
    rw [List.length_append, List.length_singleton] at hr
    obtain ⟨i1, i2, i3, i4⟩ := ih (by omega)
    rw [runT_snoc, List.length_append, List.length_singleton]
    have key : ∀ {m : List (Int × Int)} {v k : Int}, (∀ k ∈ seen, Has m k) → k ∈ seen ++ [d] → Has (aput m d v) k := fun {m v k} hh mk => has_put2 (by
      rcases List.mem_append.mp mk with mk | mk
      · exact .inr (hh k mk)
      · exact .inl (List.mem_singleton.mp mk))
    refine ⟨runsT_snoc i1 ⟨i2.fl _ (h.liveIn hd), i2.si _ (h.liveIn hd), fun k m => i2.ol k (hl k m), fun k m => i2.ol k (hl2 k m)⟩ (smT_mono i3 (by omega)), ⟨i2.fl, i2.si, fun k m => key i2.ol m, fun k m => key i2.ab m⟩, smT_mono (smT_step i3) (by omega), fun c m => ?_⟩
    rcases List.mem_append.mp m with m | m
    · exact i4 c m
    · rw [List.mem_singleton.mp m]; exact ⟨ho, ho2⟩
/-- the masks' k-th bits are the trace of the k-th look -/
structure BOk (k : Nat) (sn al : List Int) (w : WS) (t : TS) : Prop where
  fl : ∀ d ∈ al, Rb k (at0 w.flipped d) (at0 t.flip d)
  si : ∀ d ∈ al, Rb k (at0 w.signed d) (at0 t.sign d)
  na : ∀ d ∈ sn, Rb k (at0 w.names d) (at0 t.olds d)
  wa : ∀ d ∈ sn, Rb k (at0 w.waits d) (at0 t.about d)
theorem zeros_at {l : List Int} {d : Int} : at0 (zeros l) d = 0 := by
  have : ∀ (l : List Int) (m : List (Int × Int)), at0 m d = 0 → at0 (l.foldl (fun m d => aput m d 0) m) d = 0 := by
    intro l
    induction l with
    | nil => intro m h; exact h
    | cons e l ih =>
      intro m h
      refine ih (aput m e 0) ?_
      rw [at0_put]
      split
      · rfl
      · exact h
  exact this l [] rfl
theorem rb_put {k : Nat} {m m' : List (Int × Int)} {d v v' j : Int} (h : j ≠ d → Rb k (at0 m j) (at0 m' j)) (hv : Rb k v v') : Rb k (at0 (aput m d v) j) (at0 (aput m' d v') j) := by
  rw [at0_put, at0_put]
  by_cases hj : j = d
  · rw [if_pos hj, if_pos hj]; exact hv
  · rw [if_neg hj, if_neg hj]; exact h hj
theorem boI_comm {x y : Int} : Builtin.bitXor x y = Builtin.bitXor y x := by
  rw [PyProof.Rows.bitXor_and, PyProof.Rows.bitXor_and, PyProof.Rows.bitAnd_comm]
  omega
theorem good_b {k : Nat} {alone : Int} {sF : List Int} (hn : sF.Nodup) (hk : sF[k]? = some alone) {ins rows live seen all} (h : Good ins rows live seen all) (hi : ins.length ≤ 100) (hr : rows.length ≤ 60) (hp : seen <+: sF) : BOk k seen all (runW rows (wI ins)) (runT alone rows (tI ins)) := by
  induction h with
  | nil h =>
    refine ⟨fun d m => ?_, fun d m => ?_, (fun d m => by cases m), (fun d m => by cases m)⟩
    · show Rb k (at0 (zeros ins) d) (at0 (zeros ins) d)
      rw [zeros_at]; exact Rb.zero
    · show Rb k (at0 (zeros ins) d) (at0 (zeros ins) d)
      rw [zeros_at]; exact Rb.zero
  | perm _ _ ih => exact ih hr hp
  | @new rows live seen all d h hd ih =>
    rw [List.length_append, List.length_singleton] at hr
    have i := ih (by omega) hp
    rw [runW_snoc, runT_snoc]
    have key : ∀ {m m' : List (Int × Int)} {j : Int}, (∀ d ∈ all, Rb k (at0 m d) (at0 m' d)) → j ∈ all ++ [d] → Rb k (at0 (aput m d 0) j) (at0 (aput m' d 0) j) := fun {m m' j} hh mj => rb_put (fun hj => hh j ((List.mem_append.mp mj).resolve_right fun z => hj (List.mem_singleton.mp z))) Rb.zero
    exact ⟨fun j m => key i.fl m, fun j m => key i.si m, i.na, i.wa⟩
  | @tie rows live seen all a b h ha hb hnab ih =>
    rw [List.length_append, List.length_singleton] at hr
    have i := ih (by omega) hp
    have la := h.liveIn ha
    have lb := h.liveIn hb
    rw [runW_snoc, runT_snoc]
    refine ⟨i.fl, fun j m => ?_, i.na, i.wa⟩
    show Rb k (at0 (WS.tie _ a b).signed j) (at0 (stepT alone (.tie a b) _).sign j)
    unfold WS.tie stepT
    dsimp only
    rw [at0_put, at0_put, at0_put, at0_put, at0_put, at0_put]
    by_cases hja : j = a
    · subst hja
      rw [if_pos rfl, if_neg hnab, if_neg hnab, if_pos rfl]
      exact (i.si _ la).xor (i.fl _ lb)
    · rw [if_neg hja]
      by_cases hjb : j = b
      · subst hjb
        rw [if_pos rfl, if_pos rfl, if_neg hja]
        exact (i.si _ lb).xor (i.fl _ la)
      · rw [if_neg hjb, if_neg hjb, if_neg hja]
        exact i.si j m
  | @flip rows live seen all d l h hd hl ho ih =>
    rw [List.length_append, List.length_singleton] at hr
    have i := ih (by omega) hp
    rw [runW_snoc, runT_snoc]
    exact ⟨fun j m => rb_put (fun _ => i.fl j m) ((i.fl _ (h.liveIn hd)).xor (Rb.byn fun e me => i.na e (hl e me))), i.si, i.na, i.wa⟩
  | @sign rows live seen all d l h hd hl ho ih =>
    rw [List.length_append, List.length_singleton] at hr
    have i := ih (by omega) hp
    rw [runW_snoc, runT_snoc]
    exact ⟨i.fl, fun j m => rb_put (fun _ => i.si j m) ((i.si _ (h.liveIn hd)).xor (Rb.byn fun e me => i.na e (hl e me))), i.na, i.wa⟩
  | @look rows live seen all d g l a h hd hl hl2 ho ho2 ih =>
    rw [List.length_append, List.length_singleton] at hr
    have i := ih (by omega) ((List.prefix_append _ _).trans hp)
    obtain ⟨i1, i2, i3⟩ := good_w h hi (by omega)
    rw [runW_snoc, runT_snoc]
    have hat : sF[seen.length]? = some d := by
      obtain ⟨r, e⟩ := hp
      rw [← e, List.append_assoc, List.getElem?_append_right (Nat.le_refl _), Nat.sub_self]
      rfl
    have hd2 : decide (seen.length = k) = decide (d = alone) := by
      by_cases hq : seen.length = k
      · rw [hq, hk] at hat
        have := Option.some.inj hat
        rw [decide_eq_true hq, decide_eq_true this.symm]
      · have : ¬ d = alone := fun z => by
          subst z
          obtain ⟨h1, e1⟩ := List.getElem?_eq_some_iff.mp hat
          obtain ⟨h2, e2⟩ := List.getElem?_eq_some_iff.mp hk
          rcases Nat.lt_trichotomy seen.length k with q | q | q
          · exact List.pairwise_iff_getElem.mp hn _ _ h1 h2 q (e1.trans e2.symm)
          · exact hq q
          · exact List.pairwise_iff_getElem.mp hn _ _ h2 h1 q (e2.trans e1.symm)
        rw [decide_eq_false hq, decide_eq_false this]
    have mem : ∀ {j}, j ∈ seen ++ [d] → j ≠ d → j ∈ seen := fun {j} m hj => (List.mem_append.mp m).resolve_right fun z => hj (List.mem_singleton.mp z)
    refine ⟨i.fl, i.si, fun j m => rb_put (fun hj => i.na j (mem m hj)) ?_, fun j m => rb_put (fun hj => i.wa j (mem m hj)) ?_⟩
    · have p1 : Rb k (2 ^ seen.length) (boI (decide (d = alone))) := by
        have := Rb.pow (k := k) (n := seen.length)
        rw [hd2] at this
        exact this
      rw [i2.seen]
      have q1 := (p1.xor (Rb.byn fun e me => i.na e (hl2 e me))).xor (i.si _ (h.liveIn hd))
      have q2 : ∀ x y z : Int, (∃ b, x = boI b) → (∃ b, y = boI b) → (∃ b, z = boI b) → Builtin.bitXor (Builtin.bitXor x y) z = Builtin.bitXor (Builtin.bitXor x z) y := by
        rintro _ _ _ ⟨a, rfl⟩ ⟨b, rfl⟩ ⟨c, rfl⟩
        rw [boI_xor, boI_xor, boI_xor, boI_xor]
        cases a <;> cases b <;> cases c <;> rfl
      rw [q2 _ _ _ ⟨_, rfl⟩ (by obtain ⟨N, _, e⟩ := Rb.byn (k := k) fun e me => i.na e (hl2 e me); exact ⟨_, e⟩) (by obtain ⟨N, _, e⟩ := i.si _ (h.liveIn hd); exact ⟨_, e⟩)] at q1
      exact q1
    · have q := (Rb.byn fun e me => i.na e (hl e me)).xor (i.fl _ (h.liveIn hd))
      rw [boI_comm (x := odd _ _)] at q
      exact q
end K46
/-! Kmc -/
namespace K46
open PySem Vm
theorem ofW_snoc {w : Str} {l : List Cmd} {c : Cmd} : ofW w (l ++ [c]) = ofW w l ++ if wordC c = w then [c] else [] := by
  unfold ofW
  rw [List.filter_append, List.filter_cons, List.filter_nil]
  by_cases h : wordC c = w
  · rw [if_pos (by simpa using h), if_pos h]
  · rw [if_neg (by simpa using h), if_neg h]
theorem w_tl : (("tie" : Str) = "look") = False := by decide +kernel
theorem w_fl : (("flip" : Str) = "look") = False := by decide +kernel
theorem w_sl : (("sign" : Str) = "look") = False := by decide +kernel
theorem w_nl : (("new" : Str) = "look") = False := by decide +kernel
structure POk (ins : List Int) (rows : List Cmd) (sn al : List Int) : Prop where
  look : (ofW "look" rows).map dotC = sn
  new : ins ++ (ofW "new" rows).map dotC = al
  ang : (ofW "look" rows).foldl (fun m c => aput m (dotC c) (angC c)) [] = (runW rows (wI ins)).angles
  nd : (runW rows (wI ins)).ties.Nodup
  tie : ∀ q, q ∈ (runW rows (wI ins)).ties ↔ ((ofW "tie" rows).map pairC).count q % 2 = 1
  mem : ∀ q ∈ (ofW "tie" rows).map pairC, q.1 ∈ al ∧ q.2 ∈ al
theorem tog_mem {l : List (Int × Int)} {p q : Int × Int} : q ∈ tog l p ↔ if q = p then ¬ p ∈ l else q ∈ l := by
  unfold tog
  by_cases hp : p ∈ l
  · rw [if_pos (by simpa using hp), List.mem_filter]
    by_cases hq : q = p
    · subst hq
      rw [if_pos rfl]
      exact ⟨fun z => by simp at z, fun z => absurd hp z⟩
    · rw [if_neg hq]
      exact ⟨fun z => z.1, fun z => ⟨z, by simpa using hq⟩⟩
  · rw [if_neg (by simpa using hp), List.mem_append, List.mem_singleton]
    by_cases hq : q = p
    · subst hq
      rw [if_pos rfl]
      exact ⟨fun _ => hp, fun _ => .inr rfl⟩
    · rw [if_neg hq]
      exact ⟨fun z => z.resolve_right hq, fun z => .inl z⟩
theorem tog_nd {l : List (Int × Int)} {p : Int × Int} (h : l.Nodup) : (tog l p).Nodup := by
  unfold tog
  split
  · exact h.sublist List.filter_sublist
  · rename_i hc
    rw [List.nodup_append]
    refine ⟨h, by simp, fun a ha b hb z => ?_⟩
    have : b = p := List.mem_singleton.mp hb
    subst this
    subst z
    exact hc (by simpa using ha)
theorem good_p {ins rows live seen all} (h : Good ins rows live seen all) : POk ins rows seen all := by
  induction h with
  | nil h => exact ⟨rfl, List.append_nil _, rfl, List.nodup_nil, fun q => by simp [ofW, runW, wI], fun q m => by simp [ofW] at m⟩
  | perm _ _ ih => exact ih
  | @new rows live seen all d h hd i =>
    refine ⟨?_, ?_, ?_, ?_, ?_, ?_⟩
    · rw [ofW_snoc, if_neg (by exact fun z => w_nl.mp z), List.append_nil]; exact i.look
    · rw [ofW_snoc, if_pos (show wordC (.new d) = ("new" : Str) from rfl), List.map_append, ← List.append_assoc, i.new]; rfl
    · rw [ofW_snoc, if_neg (by exact fun z => w_nl.mp z), List.append_nil, runW_snoc]; exact i.ang
    · rw [runW_snoc]; exact i.nd
    · rw [ofW_snoc, if_neg (by exact fun z => w_nt.mp z), List.append_nil, runW_snoc]; exact i.tie
    · rw [ofW_snoc, if_neg (by exact fun z => w_nt.mp z), List.append_nil]
      exact fun q m => ⟨List.mem_append_left _ (i.mem q m).1, List.mem_append_left _ (i.mem q m).2⟩
  | @tie rows live seen all a b h ha hb hn i =>
    refine ⟨?_, ?_, ?_, ?_, ?_, ?_⟩
    · rw [ofW_snoc, if_neg (by exact fun z => w_tl.mp z), List.append_nil]; exact i.look
    · rw [ofW_snoc, if_neg (by exact fun z => w_tn.mp z), List.append_nil]; exact i.new
    · rw [ofW_snoc, if_neg (by exact fun z => w_tl.mp z), List.append_nil, runW_snoc]; exact i.ang
    · rw [runW_snoc]; exact tog_nd i.nd
    · intro q
      rw [ofW_snoc, if_pos (show wordC (.tie a b) = ("tie" : Str) from rfl), runW_snoc, List.map_append, List.count_append]
      show q ∈ tog _ (a, b) ↔ _
      rw [tog_mem]
      have i1 := i.tie q
      by_cases hq : q = (a, b)
      · subst hq
        rw [if_pos rfl, i1]
        show _ ↔ (_ + List.count (a, b) [(a, b)]) % 2 = 1
        rw [List.count_singleton_self]
        omega
      · rw [if_neg hq, i1]
        show _ ↔ (_ + List.count q [(a, b)]) % 2 = 1
        rw [List.count_eq_zero_of_not_mem (fun z => hq (List.mem_singleton.mp z))]
        rfl
    · rw [ofW_snoc, if_pos (show wordC (.tie a b) = ("tie" : Str) from rfl), List.map_append]
      intro q m
      rcases List.mem_append.mp m with m | m
      · exact i.mem q m
      · have : q = (a, b) := List.mem_singleton.mp m
        subst this
        exact ⟨h.liveIn ha, h.liveIn hb⟩
  | @flip rows live seen all d l h hd hl ho i =>
    refine ⟨?_, ?_, ?_, ?_, ?_, ?_⟩
    · rw [ofW_snoc, if_neg (by exact fun z => w_fl.mp z), List.append_nil]; exact i.look
    · rw [ofW_snoc, if_neg (by exact fun z => w_fn.mp z), List.append_nil]; exact i.new
    · rw [ofW_snoc, if_neg (by exact fun z => w_fl.mp z), List.append_nil, runW_snoc]; exact i.ang
    · rw [runW_snoc]; exact i.nd
    · rw [ofW_snoc, if_neg (by exact fun z => w_ft.mp z), List.append_nil, runW_snoc]; exact i.tie
    · rw [ofW_snoc, if_neg (by exact fun z => w_ft.mp z), List.append_nil]; exact i.mem
  | @sign rows live seen all d l h hd hl ho i =>
    refine ⟨?_, ?_, ?_, ?_, ?_, ?_⟩
    · rw [ofW_snoc, if_neg (by exact fun z => w_sl.mp z), List.append_nil]; exact i.look
    · rw [ofW_snoc, if_neg (by exact fun z => w_sn.mp z), List.append_nil]; exact i.new
    · rw [ofW_snoc, if_neg (by exact fun z => w_sl.mp z), List.append_nil, runW_snoc]; exact i.ang
    · rw [runW_snoc]; exact i.nd
    · rw [ofW_snoc, if_neg (by exact fun z => w_st.mp z), List.append_nil, runW_snoc]; exact i.tie
    · rw [ofW_snoc, if_neg (by exact fun z => w_st.mp z), List.append_nil]; exact i.mem
  | @look rows live seen all d g l a h hd hl hl2 ho ho2 i =>
    refine ⟨?_, ?_, ?_, ?_, ?_, ?_⟩
    · rw [ofW_snoc, if_pos (show wordC (.look d g l a) = ("look" : Str) from rfl), List.map_append, i.look]; rfl
    · rw [ofW_snoc, if_neg (by exact fun z => w_ln.mp z), List.append_nil]; exact i.new
    · rw [ofW_snoc, if_pos (show wordC (.look d g l a) = ("look" : Str) from rfl), List.foldl_append, i.ang, runW_snoc]; rfl
    · rw [runW_snoc]; exact i.nd
    · rw [ofW_snoc, if_neg (by exact fun z => w_lt.mp z), List.append_nil, runW_snoc]; exact i.tie
    · rw [ofW_snoc, if_neg (by exact fun z => w_lt.mp z), List.append_nil]; exact i.mem
theorem undup_mem : ∀ {l : List (Int × Int)} {q : Int × Int}, q ∈ undup l ↔ q ∈ l
  | [], q => Iff.rfl
  | x :: l, q => by
    unfold undup
    split
    · rename_i h
      rw [undup_mem, List.mem_cons]
      exact ⟨.inr, fun z => z.elim (fun e => by subst e; simpa using h) id⟩
    · rw [List.mem_cons, List.mem_cons, undup_mem]
theorem undup_nd : ∀ {l : List (Int × Int)}, (undup l).Nodup
  | [] => List.nodup_nil
  | x :: l => by
    unfold undup
    split
    · exact undup_nd
    · rename_i h
      rw [List.nodup_cons]
      exact ⟨fun z => h (by simpa using undup_mem.mp z), undup_nd⟩
theorem leP_anti {a b : Int × Int} (h1 : leP a b = true) (h2 : leP b a = true) : a = b := by
  unfold leP at h1 h2
  simp only [Bool.or_eq_true, Bool.and_eq_true, decide_eq_true_eq] at h1 h2
  obtain ⟨a1, a2⟩ := a
  obtain ⟨b1, b2⟩ := b
  dsimp only at h1 h2
  have e1 : a1 = b1 := by omega
  have e2 : a2 = b2 := by omega
  rw [e1, e2]
theorem sel_filter {m : Int} {q : Int → Bool} : ∀ {l : List Int} {n : Nat}, (∀ j x, l[j]? = some x → bitO m (n + j) = q x) → sel m n l = l.filter q
  | [], n, h => rfl
  | d :: l, n, h => by
    unfold sel
    have h0 := h 0 d rfl
    rw [Nat.add_zero] at h0
    rw [h0, sel_filter (q := q) (fun j x e => by have := h (j + 1) x (by simpa using e); rwa [show n + 1 + j = n + (j + 1) by omega]), List.filter_cons]
end K46
/-! Kmd -/
namespace K46
open PySem Vm
structure GP (p : Prog) (live sn al : List Int) : Prop where
  good : Good p.ins p.rows live sn al
  outs : p.outs.Perm live
  turns : p.turns.length = p.outs.length
  ins : p.ins.length ≤ 100
  rows : p.rows.length ≤ 60
  alen : al.length ≤ 100
  rng : ∀ d ∈ al, 0 ≤ d ∧ d < 10000
theorem ends_has {p : Prog} (ht : p.turns.length = p.outs.length) {m : List (Int × Int)} {k : Int} (h : k ∈ p.outs ∨ Has m k) : Has (ends p m) k := by
  have key : ∀ (l : List (Int × Int)) (m : List (Int × Int)), (k ∈ l.map (·.1) ∨ Has m k) → Has (l.foldl (fun m q => aput m q.1 ((8 - q.2) % 8)) m) k := by
    intro l
    induction l with
    | nil => intro m h; exact h.resolve_left (by simp)
    | cons q l ih =>
      intro m h
      refine ih (aput m q.1 ((8 - q.2) % 8)) ?_
      rcases h with h | h
      · rw [List.map_cons] at h
        rcases List.mem_cons.mp h with h | h
        · subst h; exact .inr has_new
        · exact .inl h
      · exact .inr (has_put h)
  refine key _ m (h.imp (fun z => ?_) id)
  rw [List.map_fst_zip (by omega)]
  exact z
variable {p : Prog} {live sn al : List Int}
theorem GP.w (g : GP p live sn al) : Runs p.rows (w0 p) ∧ WOk p.rows sn al (runW p.rows (w0 p)) ∧ (runW p.rows (w0 p)).sm (100 + 2 * p.rows.length) := good_w g.good g.ins g.rows
theorem GP.t (g : GP p live sn al) (k : Int) : RunsT k p.rows (t0 p) ∧ TOk sn al (trP p k) ∧ (trP p k).sm (100 + 2 * p.rows.length) ∧ ∀ c ∈ p.rows, cmdOk c := good_t g.good g.ins g.rows
theorem GP.lk (g : GP p live sn al) : lookD p = sn := (good_p g.good).look
theorem GP.dt (g : GP p live sn al) : p.ins ++ newD p = al := (good_p g.good).new
theorem GP.an (g : GP p live sn al) : (walkW p).angles = turnP p := by
  show ends p (runW p.rows (w0 p)).angles = ends p (turn0 p)
  rw [show turn0 p = (runW p.rows (w0 p)).angles from (good_p g.good).ang]
theorem GP.outIn (g : GP p live sn al) {d : Int} (h : d ∈ p.outs) : d ∈ al := g.good.liveIn (g.outs.mem_iff.mp h)
theorem GP.snlen (g : GP p live sn al) : sn.length ≤ 100 := by
  have := g.good.all.length_eq
  rw [List.length_append] at this
  have := g.alen
  omega
theorem GP.outlen (g : GP p live sn al) : p.outs.length ≤ 100 := by
  have := g.good.all.length_eq
  rw [List.length_append] at this
  have := g.alen
  have := g.outs.length_eq
  omega
theorem GP.hasT (g : GP p live sn al) {k : Int} (h : k ∈ al) : Has (turnP p) k := by
  rw [← g.an]
  refine ends_has g.turns ?_
  rcases List.mem_append.mp (g.good.all.mem_iff.mpr h) with m | m
  · exact .inr (g.w.2.1.an k m)
  · exact .inl (g.outs.mem_iff.mpr m)
theorem GP.accOk (g : GP p live sn al) : AccOk p (walkW p) := by
  obtain ⟨_, w, s⟩ := g.w
  have hd : (walkW p).dots = al := w.dots
  have hs : (walkW p).seen = sn := w.seen
  refine ⟨fun k m => ?_, fun k m => ?_, fun k m => ?_, fun k m => w.fl k (g.outIn m), fun k m => w.si k (g.outIn m), by rw [hd]; have := g.alen; omega, by rw [hs]; have := g.snlen; omega, by have := g.outlen; omega⟩
  · rw [hd] at m
    rw [g.an]
    exact g.hasT m
  · rw [hs] at m; exact w.wa k m
  · rw [hs] at m; exact w.na k m
theorem GP.mlk (g : GP p live sn al) {k : Int} (h : k ∈ lookedP p) : k ∈ sn := by
  have := (sortI_perm _).mem_iff.mp h
  rwa [g.lk] at this
theorem GP.dueOk (g : GP p live sn al) : DueOk p := by
  refine ⟨fun k _ => (g.t k).1, (g.t 0).2.2.2, by have := g.ins; omega, by have := g.outlen; omega, g.rows, g.turns, fun q m => ?_, fun k m => ?_, fun k _ d m => (g.t k).2.1.ol d (g.mlk m), fun k _ d m => (g.t k).2.1.ab d (g.mlk m), fun k _ d m => (g.t k).2.1.fl d (g.outIn m), fun k _ d m => (g.t k).2.1.si d (g.outIn m)⟩
  · obtain ⟨h1, h2⟩ := (good_p g.good).mem q m
    have r1 := g.rng _ h1
    have r2 := g.rng _ h2
    omega
  · have := (sortI_perm _).mem_iff.mp m
    rw [g.dt] at this
    exact g.hasT this
theorem GP.sel (g : GP p live sn al) {q : Nat} {m : List (Int × Int)} {d : Int} (h : ∀ k alone, sn[k]? = some alone → Rb k (at0 m d) (at0 (partT q (trP p alone)) d)) : lotBy sn (at0 m d) = (lookedP p).filter fun k => decide (at0 (partT q (trP p k)) d = 1) := by
  unfold lotBy lookedP
  rw [sel_filter (q := fun k => decide (at0 (partT q (trP p k)) d = 1)) (fun j x e => by rw [Nat.zero_add]; exact (h j x e).bit), sortI_filter, g.lk]
theorem GP.b (g : GP p live sn al) {k : Nat} {alone : Int} (h : sn[k]? = some alone) : BOk k sn al (runW p.rows (w0 p)) (trP p alone) := by
  have nd : sn.Nodup := (List.nodup_append.mp (g.good.all.nodup_iff.mpr g.good.nodup)).1
  exact good_b nd h g.good g.ins g.rows (List.prefix_refl _)
theorem GP.ties (g : GP p live sn al) : sortP (walkW p).ties = tiesD p := by
  have i := good_p g.good
  have pm : (sortP (walkW p).ties).Perm (tiesD p) := by
    refine (sortP_perm _).trans ?_
    have nd : (tiesD p).Nodup := ((sortP_perm _).nodup_iff.mpr undup_nd).sublist List.filter_sublist
    refine (List.perm_ext_iff_of_nodup (show (walkW p).ties.Nodup from i.nd) nd).mpr fun q => ?_
    have h1 := i.tie q
    unfold tiesD
    rw [List.mem_filter, (sortP_perm _).mem_iff, undup_mem, decide_eq_true_eq]
    refine h1.trans ⟨fun z => ⟨?_, ?_⟩, fun z => ?_⟩
    · by_cases hm : q ∈ tieP p
      · exact hm
      · have : ((ofW "tie" p.rows).map pairC).count q = 0 := List.count_eq_zero_of_not_mem hm
        rw [this] at z
        cases z
    · have : (tieP p).count q % 2 = 1 := z
      omega
    · have := z.2
      show (tieP p).count q % 2 = 1
      omega
  exact pm.eq_of_pairwise (fun a b _ _ h1 h2 => leP_anti h1 h2) (sortP_sorted _) ((sortP_sorted _).sublist List.filter_sublist)
theorem GP.acc (g : GP p live sn al) : accW p (walkW p) = dueA p := by
  obtain ⟨_, w, s⟩ := g.w
  have hd : (walkW p).dots = al := w.dots
  have hs : (walkW p).seen = sn := w.seen
  have e1 : sortI (walkW p).dots = dotsP p := by unfold dotsP; rw [g.dt, hd]
  have e2 : sortI (walkW p).seen = lookedP p := by unfold lookedP; rw [g.lk, hs]
  have lots : ∀ {q : Nat} {m : List (Int × Int)} {l : List Int}, (∀ d ∈ l, ∀ k alone, sn[k]? = some alone → Rb k (at0 m d) (at0 (partT q (trP p alone)) d)) → lotsBy sn m l = whoL p q l := fun {q m l} h => by
    unfold lotsBy whoL
    refine List.map_congr_left fun d md => ?_
    rw [g.sel (h d md)]
  unfold accW dueA webW webD
  rw [e1, e2, hs, g.an, g.ties]
  rw [lots (q := 1) (m := (walkW p).waits) fun d md k a e => (g.b e).wa d (g.mlk md)]
  rw [lots (q := 2) (m := (walkW p).flipped) fun d md k a e => (g.b e).fl d (g.outIn md)]
  rw [lots (q := 3) (m := (walkW p).signed) fun d md k a e => (g.b e).si d (g.outIn md)]
theorem GP.nam (g : GP p live sn al) : namW (walkW p) = dueN p := by
  obtain ⟨_, w, s⟩ := g.w
  have hs : (walkW p).seen = sn := w.seen
  have e2 : sortI (walkW p).seen = lookedP p := by unfold lookedP; rw [g.lk, hs]
  unfold namW dueN
  rw [e2, hs]
  congr 1
  refine List.map_congr_left fun d md => ?_
  rw [g.sel (q := 0) (m := (walkW p).names) fun k a e => (g.b e).na d (g.mlk md)]
end K46
/-! Kme -/
namespace K46
open PySem Vm
def isI : D → Bool
  | .int _ => true
  | _ => false
def isN : D → Bool
  | .int i => decide (0 ≤ i)
  | _ => false
def noDc : D → Bool
  | .fdc _ _ _ => false
  | _ => true
def iB : D → Bool
  | .int _ => true
  | .bl _ => true
  | _ => false
def bB : D → Bool
  | .bl _ => true
  | _ => false
theorem ty_i {d : D} (h : noDc d = true) : isTy (.v d) .int = some (iB d) := by
  cases d <;> first
    | rfl
    | cases h
theorem ty_b {d : D} (h : noDc d = true) : isTy (.v d) .bool = some (bB d) := by
  cases d <;> first
    | rfl
    | cases h
theorem int_ok {n : Nat} {d : D} (h : noDc d = true) : Rn (run T (n + 1) 0 [.v d]) (fun r f => r = .v (.bl (isI d)) ∧ f = []) NoX := by
  refine run_wp (fn := f0) rfl rfl ?_
  show Wp (Vm.execs _ _ b0 [some (.v d)]) _ _
  unfold b0
  rw [wp_cons]
  simp_arith! [ty_i h, ty_b h]
  have e : isI d = (iB d && !bB d) := by cases d <;> rfl
  rw [e]
  cases iB d with
  | true =>
    rw [if_pos rfl]
    exact ⟨_, rfl, rfl, rfl⟩
  | false =>
    rw [if_neg Bool.false_ne_true]
    exact ⟨_, rfl, rfl, rfl⟩
theorem feq_i {i j : Int} : D.feq (.int i) (.int j) = (i == j) := rfl
theorem in_iD {l : List Int} {k : Bool} {d : Int} : inD (.int d) (.v (.tup k (iD l))) = some (l.contains d) := by
  show (if (D.int d).flat && (iD l).all D.flat then some ((iD l).any fun y => D.feq y (.int d)) else none) = _
  rw [if_pos]
  · congr 1
    unfold iD
    rw [List.any_map]
    induction l with
    | nil => rfl
    | cons x l ih =>
      rw [List.any_cons, ih, List.contains_cons]
      show (x == d || _) = _
      rw [Bool.beq_comm]
  · rw [Bool.and_eq_true, List.all_eq_true]
    refine ⟨rfl, fun y m => ?_⟩
    obtain ⟨z, _, rfl⟩ := List.mem_map.mp m
    rfl
structure Ac where
  dots : List Int
  ties : D
  ins : D
  outs : List Int
  angles : D
  waits : List (List Int)
  flips : D
  signs : D
def Ac.web (a : Ac) : D := .tup true [.tup false (iD a.dots), a.ties, a.ins, .tup false (iD a.outs)]
def Ac.d (a : Ac) : D := .tup true [a.web, a.angles, .tup false (a.waits.map fun l => .tup false (iD l)), a.flips, a.signs]
def Ac.looked (a : Ac) : List Int := a.dots.filter fun d => !a.outs.contains d
theorem looked_ok {n : Nat} {a : Ac} (hl : a.dots.length ≤ 1000) : Rn (run T (n + 1) 4 [.v a.web]) (fun r f => r = .v (.tup false (iD a.looked)) ∧ f = []) NoX := by
  refine run_wp (fn := f4) rfl rfl ?_
  show Wp (Vm.execs _ _ b4 [some (.v a.web), none]) _ _
  unfold b4
  rw [wp_cons]
  simp_arith! [Ac.web, ix_t, at_0, seq_t]
  refine wp_lcF (fun d => match d with
    | .int k => !a.outs.contains k
    | _ => false) (fun d => d) (by show 1 < 2; omega) (fun d md => ?_) (fun d md _ => ?_) (by rw [List.length_map]; unfold lineN; omega) ?_
  · obtain ⟨k, mk, rfl⟩ := List.mem_map.mp md
    simp_arith! [ix_t, at_3, in_iD]
    cases a.outs.contains k with
    | true => exact ⟨rfl, trivial⟩
    | false => exact ⟨rfl, trivial⟩
  · simp_arith! [eq_self]
    exact ⟨trivial, trivial⟩
  rw [List.map_id']
  rw [show (iD a.dots).filter (fun d => match d with
    | .int k => !a.outs.contains k
    | _ => false) = iD a.looked by unfold iD Ac.looked; rw [List.filter_map]; rfl]
  simp_arith! [tu_d]
  exact ⟨_, rfl, trivial, rfl⟩
theorem plan_ok {n : Nat} {a : Ac} : Rn (run T (n + 1) 5 [.v a.d]) (fun r f => r = .v (.tup true [a.web, a.angles]) ∧ f = []) NoX := by
  refine run_wp (fn := f5) rfl rfl ?_
  show Wp (Vm.execs _ _ b5 [some (.v a.d)]) _ _
  unfold b5
  rw [wp_cons]
  simp_arith! [Ac.d, ix_t, at_0, at_1, fz_v]
  exact ⟨_, rfl, trivial, rfl⟩
end K46
/-! Kmf -/
namespace K46
open PySem Vm
theorem mt0 {cf : Nat → List S → Out} : (T.cal cf).mt 0 = [] := rfl
theorem mt1 {cf : Nat → List S → Out} : (T.cal cf).mt 1 = [] := rfl
theorem mt4 {cf : Nat → List S → Out} : (T.cal cf).mt 4 = [] := rfl
theorem mt6 {cf : Nat → List S → Out} : (T.cal cf).mt 6 = [] := rfl
theorem mt9 {cf : Nat → List S → Out} : (T.cal cf).mt 9 = [] := rfl
theorem num_ok {n : Nat} {d : D} (h : noDc d = true) : Rn (run T (n + 2) 1 [.v d]) (fun r f => r = .v (.bl (isN d)) ∧ f = []) NoX := by
  refine run_wp (fn := f1) rfl rfl ?_
  show Wp (Vm.execs _ _ b1 [some (.v d)]) _ _
  unfold b1
  rw [wp_cons]
  simp_arith! [eq_self]
  refine wp_call (ss := [.v d]) rfl rfl ((int_ok h).imp (fun r f q => ?_) fun _ _ q => q.elim)
  obtain ⟨rfl, rfl⟩ := q
  simp_arith! [mt0]
  cases hi : isI d with
  | false =>
    rw [if_neg Bool.false_ne_true]
    have : isN d = false := by cases d <;> first | rfl | cases hi
    rw [this]
    exact ⟨_, rfl, rfl, rfl⟩
  | true =>
    rw [if_pos rfl]
    cases d with
    | int i =>
      simp_arith! [eq_self]
      exact ⟨_, rfl, rfl, rfl⟩
    | _ => cases hi
theorem fx_i {k : Int} : ∀ {l : List Int} {n j : Nat}, l.Nodup → l[j]? = some k → findIx (fun y => D.feq y (.int k)) (iD l) n = some (n + j)
  | [], n, j, _, e => by simp at e
  | x :: l, n, 0, _, e => by
    cases e
    show (if D.feq (.int k) (.int k) then some n else _) = _
    rw [feq_i, beq_self_eq_true, if_pos rfl]
    rfl
  | x :: l, n, j + 1, nd, e => by
    rw [List.nodup_cons] at nd
    have e : l[j]? = some k := by simpa using e
    have hx : (x == k) = false := by
      rw [beq_eq_false_iff_ne]
      rintro rfl
      exact nd.1 (List.mem_of_getElem? e)
    show (if D.feq (.int x) (.int k) then some n else findIx _ (iD l) (n + 1)) = _
    rw [feq_i, hx, if_neg Bool.false_ne_true, fx_i nd.2 e]
    congr 1
    omega
theorem mi_i {l : List Int} {k : Int} {j : Nat} (nd : l.Nodup) (h : l[j]? = some k) : me .index (.v (.tup false (iD l))) [.int k] = some (.v (.int (j : Nat))) := by
  show (match mseq (.v (.tup false (iD l))) with
    | some l => if (D.int k).flat && l.all D.flat then (findIx (fun y => D.feq y (.int k)) l 0).map fun (k : Nat) => S.v (.int (k : Int)) else none
    | none => none) = _
  show (if (D.int k).flat && (iD l).all D.flat then (findIx (fun y => D.feq y (.int k)) (iD l) 0).map fun (k : Nat) => S.v (.int (k : Int)) else none) = _
  rw [if_pos, fx_i nd h, Nat.zero_add]
  · rfl
  · rw [Bool.and_eq_true, List.all_eq_true]
    refine ⟨rfl, fun y m => ?_⟩
    obtain ⟨z, _, rfl⟩ := List.mem_map.mp m
    rfl
theorem mk_i {l : List Int} : meOk .index (.v (.tup false (iD l))) = true := rfl
def NotU : Ex → List S → Prop := fun e f => e = ⟨3, [9, 8], [.int (-1), .str "dot"]⟩ ∧ f = []
theorem wait_ok {n : Nat} {a : Ac} {j : Nat} {k : Int} {l : List Int} (hl : a.dots.length ≤ 1000) (nd : a.looked.Nodup) (hj : a.looked[j]? = some k) (hk : 0 ≤ k) (hw : a.waits[j]? = some l) : Rn (run T (n + 3) 6 [.v a.d, .v (.int k)]) (fun r f => r = .v (.tup false (iD l)) ∧ f = []) NoX := by
  refine run_wp (fn := f6) rfl rfl ?_
  show Wp (Vm.execs _ _ b6 [some (.v a.d), some (.v (.int k)), none]) _ _
  unfold b6
  rw [wp_cons]
  simp_arith! [Ac.d, ix_t, at_0]
  refine wp_call (ss := [.v a.web]) rfl rfl ((looked_ok hl).imp (fun r f q => ?_) fun _ _ q => q.elim)
  obtain ⟨rfl, rfl⟩ := q
  simp_arith! [mt4]
  rw [wp_cons]
  simp_arith! [eq_self]
  refine wp_call (ss := [.v (.int k)]) rfl rfl ((num_ok (n := n) (d := .int k) rfl).imp (fun r f q => ?_) fun _ _ q => q.elim)
  obtain ⟨rfl, rfl⟩ := q
  have h1 : isN (.int k) = true := decide_eq_true hk
  have h2 : a.looked.contains k = true := by simpa using List.mem_of_getElem? hj
  simp_arith! [mt1, h1, Bool.not_true, in_iD, h2]
  rw [wp_cons]
  have h3 : atIx (a.waits.map fun l => D.tup false (iD l)) (j : Int) = some (.tup false (iD l)) := by
    rw [at_nat, List.getElem?_map, hw]
    rfl
  simp_arith! [ix_t, at_2, mk_i, fz_v, mi_i nd hj, h3]
  exact ⟨_, rfl, trivial, rfl⟩
theorem wait_no {n : Nat} {a : Ac} {d : D} (hl : a.dots.length ≤ 1000) (hd : noDc d = true) (h : isN d = false ∨ ∃ k, d = .int k ∧ k ∉ a.looked) : Rn (run T (n + 3) 6 [.v a.d, .v d]) (fun r f => False) NotU := by
  refine run_wp (fn := f6) rfl rfl ?_
  show Wp (Vm.execs _ _ b6 [some (.v a.d), some (.v d), none]) _ _
  unfold b6
  rw [wp_cons]
  simp_arith! [Ac.d, ix_t, at_0]
  refine wp_call (ss := [.v a.web]) rfl rfl ((looked_ok hl).imp (fun r f q => ?_) fun _ _ q => q.elim)
  obtain ⟨rfl, rfl⟩ := q
  simp_arith! [mt4]
  rw [wp_cons]
  simp_arith! [eq_self]
  refine wp_call (ss := [.v d]) rfl rfl ((num_ok (n := n) hd).imp (fun r f q => ?_) fun _ _ q => q.elim)
  obtain ⟨rfl, rfl⟩ := q
  simp_arith! [mt1]
  cases hn : isN d with
  | false =>
    simp_arith! [Bool.not_false]
    rw [wp_cons]
    simp_arith! [fz_v]
    exact ⟨_, rfl, rfl, rfl⟩
  | true =>
    obtain ⟨k, rfl, hk⟩ := h.resolve_left (by rw [hn]; simp)
    have h2 : a.looked.contains k = false := by simpa using hk
    simp_arith! [Bool.not_true, in_iD, h2, Bool.not_false]
    rw [wp_cons]
    simp_arith! [fz_v]
    exact ⟨_, rfl, rfl, rfl⟩
end K46
/-! Kmg -/
namespace K46
open PySem Vm
theorem wp_try {C : Cal} {U : Rules} {ρ : Fr} {b h : Sts} {c i : Nat} {P : Fl → Fr → Prop} {E : Ex → Fr → Prop} (hq : Wp (Vm.execs C U b ρ) P (fun e ρ1 => ∃ t, U.exm e.c c = some t ∧ if t = true then Wp (Vm.execs C U h (ρ1.set i (some (.exn e.c e.fs e.vs)))) (fun f ρ2 => P f (ρ2.set i none)) NoE else E e ρ1)) : Wp (Vm.exec C U (.tryE b (.cons c (some i) h .nil)) ρ) P E := by
  simp only [Vm.exec]
  revert hq
  cases Vm.execs C U b ρ with
  | bad => exact fun h => h
  | ok f ρ => exact fun h => h
  | ex e ρ1 =>
    rintro ⟨t, e1, hq⟩
    simp only [hands, e1]
    cases t with
    | true =>
      rw [if_pos rfl] at hq
      dsimp only
      revert hq
      cases Vm.execs C U h (ρ1.set i (some (.exn e.c e.fs e.vs))) with
      | bad => exact fun h => h
      | ok f ρ => exact fun h => h
      | ex e ρ => exact fun h => h.elim
    | false =>
      rw [if_neg Bool.false_ne_true] at hq
      exact hq
def dueX : D := .tup true [.str "dot", .int (-1)]
theorem okX {n : Nat} : OkD (n + 1) dueX := by
  refine ⟨by show 2 ≤ 1000; omega, fun d m => ?_⟩
  rcases List.mem_cons.mp m with rfl | m
  · cases n <;> trivial
  · rw [List.mem_singleton.mp m]
    cases n <;> trivial
theorem sameX : D.same dueX dueX = true := by decide +kernel
theorem same_X {n : Nat} : Rn (run T (n + 3) 9 [.v dueX, .v dueX]) (fun r f => r = .v (.bl true) ∧ f = []) NoX := same_ok (n := n + 2) (okX (n := n + 1)) sameX
theorem ref_ok {n : Nat} {a : Ac} {d : D} (hl : a.dots.length ≤ 1000) (hd : noDc d = true) (h : isN d = false ∨ ∃ k, d = .int k ∧ k ∉ a.looked) : Rn (run T (n + 4) 18 [.v a.d, .v d]) (fun r f => r = .v (.bl true) ∧ f = []) NoX := by
  refine run_wp (fn := f18) rfl rfl ?_
  show Wp (Vm.execs _ _ b18 [some (.v a.d), some (.v d), none]) _ _
  unfold b18
  rw [wp_cons]
  refine wp_try ?_
  rw [wp_cons]
  simp_arith! [eq_self]
  refine wp_call (ss := [.v a.d, .v d]) rfl rfl ((wait_no (n := n) hl hd h).imp (fun r f q => q.elim) fun e f q => ?_)
  obtain ⟨rfl, rfl⟩ := q
  refine ⟨true, rfl, ?_⟩
  rw [if_pos rfl]
  simp_arith! [mt6]
  have gx : getX [some (.v a.d), some (.v d), some (.exn 3 [9, 8] [.int (-1), .str "dot"])] 2 = some (3, [9, 8], [.int (-1), .str "dot"]) := rfl
  have x2 : (T.cal (run T (n + 3))).exm 3 2 = some true := rfl
  have x0 : (T.cal (run T (n + 3))).exm 3 0 = some true := rfl
  have x1 : (T.cal (run T (n + 3))).exm 3 1 = some false := rfl
  rw [wp_cons]
  simp_arith! [gx, x2, x0, x1, Bool.not_true]
  rw [wp_cons]
  have y8 : fget [9, 8] [S.v (.int (-1)), S.v (.str "dot")] 8 = some (.v (.str "dot")) := rfl
  have y9 : fget [9, 8] [S.v (.int (-1)), S.v (.str "dot")] 9 = some (.v (.int (-1))) := rfl
  simp_arith! [gx, y8, y9, fz_v]
  refine wp_call (ss := [.v dueX, .v dueX]) rfl rfl ((same_X (n := n)).imp (fun r f q => ?_) fun _ _ q => q.elim)
  · obtain ⟨rfl, rfl⟩ := q
    simp_arith! [mt9]
    exact ⟨_, rfl, trivial, rfl⟩
end K46
/-! Kmh -/
namespace K46
open PySem Vm
theorem wp_lcGo2 {t t2 : List Nat} {tst : Fr → R Bool} {inner : Fr → List D → R (List D)} {Q : List D → Fr → Prop} {E : Ex → Fr → Prop} (I : List D → List D → Fr → Prop)
    (step : ∀ d r acc ρ, I (d :: r) acc ρ → ∃ ρ1, setTg t d (unsetN t2 ρ) = some ρ1 ∧ Wp (tst ρ1) (fun b ρ2 => if b = true then Wp (inner ρ2 acc.reverse) (fun acc' ρ3 => I r acc' ρ3) NoE else I r acc ρ2) NoE) (done : ∀ acc ρ, I [] acc ρ → Q acc ρ) : ∀ {ds : List D} {acc : List D} {ρ : Fr}, I ds acc.reverse ρ → Wp (lcGo2 t t2 tst inner ds ρ acc) Q E
  | [], acc, ρ, h => done _ ρ h
  | d :: r, acc, ρ, h => by
    obtain ⟨ρ1, e, h⟩ := step d r _ ρ h
    rw [List.reverse_reverse] at h
    show Wp (match setTg t d (unsetN t2 ρ) with
      | none => R.bad
      | some ρ1 => _) Q E
    rw [e]
    dsimp only
    revert h
    cases tst ρ1 with
    | bad => exact fun h => h
    | ex e ρ => exact fun h => h.elim
    | ok b ρ2 =>
      intro h
      have h : (if b = true then Wp (inner ρ2 acc) (fun acc' ρ3 => I r acc' ρ3) NoE else I r acc.reverse ρ2) := h
      cases b with
      | false => exact wp_lcGo2 I step done (by simpa using h)
      | true =>
        rw [if_pos rfl] at h
        dsimp only
        revert h
        cases inner ρ2 acc with
        | bad => exact fun h => h
        | ex e ρ => exact fun h => h.elim
        | ok acc' ρ3 =>
          intro h
          have h : I r acc' ρ3 := h
          exact wp_lcGo2 I step done (by rw [List.reverse_reverse]; exact h)
theorem pk_lc2 {C : Cal} {ρ : Fr} {e : X} {t : List Nat} {it : X} {cs : Xs} {t2 : List Nat} {it2 : X} {cs2 : Xs} : (den C (.lc2 e t it cs t2 it2 cs2)).pk ρ = ((den C it).it ρ).bind fun ds ρ => lcR (t ++ t2) ρ (lcGo2 t t2 (tAndL (dens C cs)) (fun ρ1 acc => match (den C it2).it ρ1 with
      | .ok ds2 ρ2 => lcGo t2 (tAndL (dens C cs2)) (XD.ev (e, den C e)) ds2 ρ2 acc
      | _ => .bad) ds ρ []) := rfl
/-- the arrows of looks and their lots -/
def arrL (l : List (Int × List Int)) : List (Int × Int) := l.flatMap fun q => q.2.map fun one => (one, q.1)
def Ac.arrows (a : Ac) : List (Int × Int) := arrL (a.looked.zip a.waits)
theorem so_p {l : List (Int × Int)} (h : l ≠ []) : bi .sorted [.lst ((l.map prD).map S.v)] = some (.lst (((sortP l).map prD).map S.v)) := by
  show (((ds? ((l.map prD).map S.v)).bind sortD).map fun l => S.lst (l.map S.v)) = _
  rw [ds_v, Option.bind_some]
  have : sortD (l.map prD) = some ((sortP l).map prD) := by
    unfold sortD
    have hn : ints? (l.map prD) = none := by
      cases l with
      | nil => exact absurd rfl h
      | cons p l => rfl
    rw [hn, pairs_pr]
    rfl
  rw [this]
  rfl
theorem so_p0 : bi .sorted [.lst []] = some (.lst []) := rfl
theorem so_pp {l : List (Int × Int)} : bi .sorted [.lst ((l.map prD).map S.v)] = some (.lst (((sortP l).map prD).map S.v)) := by
  by_cases h : l = []
  · subst h; exact so_p0
  · exact so_p h
def qD (q : Int × List Int) : D := .tup true [.int q.1, .tup false (iD q.2)]
theorem zip_q {l : List Int} {m : List (List Int)} : zipS [.v (.tup false (iD l)), .v (.tup false (m.map fun l => .tup false (iD l)))] = some ((l.zip m).map qD) := by
  show some (zip2 (iD l) (m.map fun l => .tup false (iD l))) = _
  unfold zip2
  rw [List.zip_map, List.map_map]
  rfl
theorem arrows_ok {n : Nat} {a : Ac} (hl : a.dots.length ≤ 1000) (ha : a.arrows.length ≤ 10000) : Rn (run T (n + 2) 7 [.v a.d]) (fun r f => r = .v (.tup false ((sortP a.arrows).map prD)) ∧ f = []) NoX := by
  refine run_wp (fn := f7) rfl rfl ?_
  show Wp (Vm.execs _ _ b7 [some (.v a.d), none, none, none, none]) _ _
  unfold b7
  rw [wp_cons]
  simp_arith! [Ac.d, ix_t, at_0]
  refine wp_call (ss := [.v a.web]) rfl rfl ((looked_ok hl).imp (fun r f q => ?_) fun _ _ q => q.elim)
  obtain ⟨rfl, rfl⟩ := q
  simp_arith! [mt4]
  rw [wp_cons]
  simp_arith! [pk_lc2, ix_t, at_2, zip_q]
  refine wp_lcR (wp_lcGo2 (fun r acc ρ => ∃ b x y2 y3 y4, a.looked.zip a.waits = b ++ x ∧ r = x.map qD ∧ acc = (arrL b).map prD ∧ ρ = [some (.v a.d), some (.v (.tup false (iD a.looked))), y2, y3, y4]) ?_ ?_ ⟨[], a.looked.zip a.waits, none, none, none, rfl, rfl, rfl, rfl⟩)
  · rintro d r acc ρ ⟨b, x, y2, y3, y4, e1, e2, rfl, rfl⟩
    obtain ⟨q, x, rfl⟩ : ∃ q x', x = q :: x' := by
      cases x with
      | nil => cases e2
      | cons q x' => exact ⟨q, x', rfl⟩
    have e2' : d = qD q ∧ r = x.map qD := by simpa using e2
    obtain ⟨rfl, rfl⟩ := e2'
    refine ⟨[some (.v a.d), some (.v (.tup false (iD a.looked))), some (.v (.int q.1)), some (.v (.tup false (iD q.2))), none], rfl, ?_⟩
    rw [wp_tand_nil, if_pos rfl]
    show Wp (lcGo [4] (tAndL []) _ (iD q.2) [some (.v a.d), some (.v (.tup false (iD a.looked))), some (.v (.int q.1)), some (.v (.tup false (iD q.2))), none] _) _ _
    refine wp_lcGo (fun r2 acc2 ρ => ∃ c z y, q.2 = c ++ z ∧ r2 = iD z ∧ acc2 = (arrL b ++ c.map fun one => (one, q.1)).map prD ∧ ρ = [some (.v a.d), some (.v (.tup false (iD a.looked))), some (.v (.int q.1)), some (.v (.tup false (iD q.2))), y]) ?_ ?_ ⟨[], q.2, none, rfl, rfl, by rw [List.reverse_reverse, List.map_nil, List.append_nil], rfl⟩
    · rintro d r2 acc2 ρ ⟨c, z, y, f1, f2, rfl, rfl⟩
      obtain ⟨one, z, rfl⟩ : ∃ q x', z = q :: x' := by
        cases z with
        | nil => cases f2
        | cons q x' => exact ⟨q, x', rfl⟩
      have f2' : d = .int one ∧ r2 = iD z := by simpa [iD] using f2
      obtain ⟨rfl, rfl⟩ := f2'
      refine ⟨_, tg_1 (by show 4 < 5; omega), ?_⟩
      rw [wp_tand_nil, if_pos rfl]
      simp_arith! [fz_v]
      refine ⟨c ++ [one], z, some (.v (.int one)), by rw [f1]; simp, rfl, ?_, rfl⟩
      rw [List.map_append, List.map_append, List.map_append, List.map_append]
      rw [List.append_assoc]
      rfl
    · rintro acc2 ρ ⟨c, z, y, f1, f2, rfl, rfl⟩
      have : z = [] := by cases z with
        | nil => rfl
        | cons _ _ => cases f2
      subst this
      rw [List.append_nil] at f1
      subst f1
      refine ⟨b ++ [q], x, _, _, _, by rw [e1]; simp, rfl, ?_, rfl⟩
      unfold arrL
      rw [List.flatMap_append]
      simp
  · rintro acc ρ ⟨b, x, y2, y3, y4, e1, e2, rfl, rfl⟩
    have : x = [] := by cases x with
      | nil => rfl
      | cons _ _ => cases e2
    subst this
    rw [List.append_nil] at e1
    subst e1
    refine ⟨by rw [List.length_map]; unfold lineN; exact Nat.le_trans ha (by omega), ?_⟩
    rw [show arrL (a.looked.zip a.waits) = a.arrows from rfl]
    simp_arith! [so_pp, tu_d]
    exact ⟨_, rfl, trivial, rfl⟩
end K46
/-! Kmi -/
namespace K46
open PySem Vm
theorem gs_tape {t : S} {r : Fr} (h : Tape t) : getS (some t :: r) 0 = some t := by
  obtain ⟨a, b, c, l, rfl, _⟩ := h
  rfl
theorem ao_tape {t : S} {i : Nat} (h : Tape t) : argOf (.nm i) t = some (.l i) := by
  obtain ⟨a, b, c, l, rfl, _⟩ := h
  rfl
theorem fin_0 {t : S} {r : Fr} (h : Tape t) : fin [0] (some t :: r) = some [t] := by
  unfold fin
  rw [gs_tape h]
  rfl
theorem cut_i {l : List Int} {lo hi : Option Int} : getSl (iL l) lo hi = some (iL (cut l lo hi)) := by
  show ((ds? ((iD l).map S.v)).map fun l => S.lst ((cut l lo hi).map S.v)) = _
  rw [ds_v]
  unfold iL iD cut
  simp [List.map_drop, List.map_take]
theorem cut_mem {l : List Int} {lo hi : Option Int} {k : Int} (h : k ∈ cut l lo hi) : k ∈ l := List.mem_of_mem_drop (List.mem_of_mem_take h)
theorem lot_ok {n : Nat} {t : S} {seen : List Int} (ht : Tape t) (hl : seen.length ≤ 1000) : Rn (run T (n + 2) 15 [t, iL seen]) (fun r f => ∃ (l : Lot) (t' : S), r = .v (lotD l) ∧ f = [t'] ∧ Tape t' ∧ (∀ k ∈ l.2, k ∈ seen) ∧ lotOk l) NoX := by
  refine run_wp (fn := f15) rfl rfl ?_
  show Wp (Vm.execs _ _ b15 [some t, some (iL seen), none, none]) _ _
  unfold b15
  rw [wp_cons]
  simp_arith! [gs_tape ht, ao_tape ht]
  refine wp_call (ss := [t, .v (.int 4)]) (by simp_arith! [gs_tape ht]) rfl ((pick_t ht (by omega)).imp (fun r f q => ?_) fun _ _ q => q.elim)
  obtain ⟨k, t', rfl, rfl, ht', h0, h1⟩ := q
  simp_arith! [mt8]
  rw [wp_cons]
  simp_arith! [eq_self]
  split
  · rw [wp_cons]
    simp_arith! [eq_self]
    exact ⟨_, fin_0 ht', (true, []), t', rfl, rfl, ht', (fun k m => by cases m), (by show 0 ≤ 1000; omega)⟩
  rw [wp_cons]
  simp_arith! [eq_self]
  split
  · rw [wp_cons]
    simp_arith! [gs_i, cut_i, tu_i, S.i?]
    refine ⟨_, fin_0 ht', (false, cut seen (some (-1)) none), t', rfl, rfl, ht', fun k m => cut_mem m, ?_⟩
    refine Nat.le_trans (List.length_take_le' _ _) ?_
    rw [List.length_drop]
    omega
  rw [wp_cons]
  simp_arith! [gs_i, sq_i]
  refine wp_lcR (wp_lcGo (fun r acc ρ => ∃ a x l t2 y, seen = a ++ x ∧ r = iD x ∧ acc = iD l ∧ (∀ k ∈ l, k ∈ a) ∧ l.length ≤ a.length ∧ Tape t2 ∧ ρ = [some t2, some (iL seen), some (.v (.int k)), y]) ?_ ?_ ⟨[], seen, [], t', none, rfl, rfl, rfl, (fun k m => by cases m), Nat.le_refl _, ht', rfl⟩)
  · rintro d r acc ρ ⟨a, x, l, t2, y, e1, e2, rfl, e3, e4, ht2, rfl⟩
    obtain ⟨q, x, rfl⟩ : ∃ q x', x = q :: x' := by
      cases x with
      | nil => cases e2
      | cons q x' => exact ⟨q, x', rfl⟩
    have e2' : d = .int q ∧ r = iD x := by simpa [iD] using e2
    obtain ⟨rfl, rfl⟩ := e2'
    refine ⟨_, tg_1 (by show 3 < 4; omega), ?_⟩
    simp_arith! [gs_tape ht2, ao_tape ht2]
    refine wp_call (ss := [t2, .v (.int 2)]) (by simp_arith! [gs_tape ht2]) rfl ((pick_t (n := n) ht2 (by omega)).imp (fun r f q => ?_) fun _ _ q => q.elim)
    obtain ⟨j, t3, rfl, rfl, ht3, _, _⟩ := q
    simp_arith! [mt8]
    split
    · refine ⟨a ++ [q], x, l ++ [q], t3, some (.v (.int q)), by rw [e1]; simp, rfl, by unfold iD; rw [List.map_append]; rfl, fun k m => ?_, by rw [List.length_append, List.length_append]; simp; omega, ht3, rfl⟩
      rcases List.mem_append.mp m with m | m
      · exact List.mem_append_left _ (e3 k m)
      · exact List.mem_append_right _ m
    · exact ⟨a ++ [q], x, l, t3, some (.v (.int q)), by rw [e1]; simp, rfl, rfl, fun k m => List.mem_append_left _ (e3 k m), by rw [List.length_append]; omega, ht3, rfl⟩
  · rintro acc ρ ⟨a, x, l, t2, y, e1, e2, rfl, e3, e4, ht2, rfl⟩
    have : x = [] := by cases x with
      | nil => rfl
      | cons _ _ => cases e2
    subst this
    rw [List.append_nil] at e1
    subst e1
    refine ⟨by rw [List.length_map]; unfold lineN; omega, ?_⟩
    rw [show S.lst ((iD l).map S.v) = iL l from rfl]
    simp_arith! [so_i, tu_i]
    refine ⟨_, fin_0 ht2, (false, sortI l), t2, rfl, rfl, ht2, fun k m => e3 k ((sortI_perm _).mem_iff.mp m), ?_⟩
    show (sortI l).length ≤ 1000
    rw [len_sort]; omega
end K46
/-! Kmj -/
namespace K46
open PySem Vm
def bp (l : List Int) (x : Int) : Int := if l.contains x then (x + 1) % 10000 else x
def bps (l : List Int) : Nat → Int → Int
  | 0, x => x
  | m + 1, x => bp l (bps l m x)
theorem bps_in {l : List Int} {x : Int} (h0 : 0 ≤ x) (h1 : x < 10000) : ∀ {m : Nat}, bps l m x ∈ l → ∀ j, j ≤ m → bps l j x = (x + j) % 10000 ∧ (x + j) % 10000 ∈ l
  | 0, h, j, hj => by
    have : j = 0 := by omega
    subst this
    have e : (x + ((0 : Nat) : Int)) % 10000 = x := by
      rw [Int.natCast_zero, Int.add_zero]
      exact Int.emod_eq_of_lt h0 h1
    rw [e]
    exact ⟨rfl, h⟩
  | m + 1, h, j, hj => by
    have hm : bps l m x ∈ l := by
      by_cases q : bps l m x ∈ l
      · exact q
      · have : bps l (m + 1) x = bps l m x := if_neg (by simpa using q)
        rw [this] at h
        exact absurd h q
    have ih := bps_in h0 h1 hm
    by_cases hj2 : j ≤ m
    · exact ih j hj2
    · have : j = m + 1 := by omega
      subst this
      have e : bps l (m + 1) x = (bps l m x + 1) % 10000 := if_pos (by simpa using hm)
      have e2 : bps l (m + 1) x = (x + ((m + 1 : Nat) : Int)) % 10000 := by
        rw [e, (ih m (Nat.le_refl _)).1]
        omega
      rw [← e2]
      exact ⟨rfl, h⟩
theorem nd_len : ∀ {a b : List Int}, a.Nodup → a ⊆ b → a.length ≤ b.length
  | [], b, _, _ => Nat.zero_le _
  | x :: a, b, h, s => by
    rw [List.nodup_cons] at h
    have hx : x ∈ b := s List.mem_cons_self
    have sub : a ⊆ b.erase x := fun y hy => by
      have hne : y ≠ x := fun z => h.1 (z ▸ hy)
      exact (List.mem_erase_of_ne hne).mpr (s (List.mem_cons_of_mem _ hy))
    have := nd_len h.2 sub
    rw [List.length_erase_of_mem hx] at this
    have := List.length_pos_of_mem hx
    rw [List.length_cons]
    omega
theorem bps_free {l : List Int} {x : Int} {m : Nat} (h0 : 0 ≤ x) (h1 : x < 10000) (hl : l.length ≤ m) (hm : m < 10000) : bps l m x ∉ l := fun h => by
  have key := bps_in h0 h1 h
  have sub : ((List.range (m + 1)).map fun (j : Nat) => (x + (j : Int)) % 10000) ⊆ l := fun y hy => by
    obtain ⟨j, hj, rfl⟩ := List.mem_map.mp hy
    exact (key j (by have := List.mem_range.mp hj; omega)).2
  have nd : ((List.range (m + 1)).map fun (j : Nat) => (x + (j : Int)) % 10000).Nodup := by
    refine List.pairwise_map.mpr ?_
    refine List.Pairwise.imp_of_mem ?_ (List.nodup_range (n := m + 1))
    intro a b ha hb hab e
    have := List.mem_range.mp ha
    have := List.mem_range.mp hb
    omega
  have := nd_len nd sub
  rw [List.length_map, List.length_range] at this
  omega
theorem bps_rng {l : List Int} {x : Int} (h0 : 0 ≤ x) (h1 : x < 10000) : ∀ {m : Nat}, 0 ≤ bps l m x ∧ bps l m x < 10000
  | 0 => ⟨h0, h1⟩
  | m + 1 => by
    have := @bps_rng l x h0 h1 m
    show 0 ≤ bp l (bps l m x) ∧ bp l (bps l m x) < 10000
    unfold bp
    split
    · omega
    · exact this
end K46
/-! Kml -/
namespace K46
open PySem Vm
def few : List Int := [0, 9, 10, 99, 100, 101, 999, 1000, 9998, 9999, 2, 12]
theorem few_at {k : Int} (h0 : 0 ≤ k) (h : k = 0 ∨ k < 12) : ∃ x, getIx (iL few) (.v (.int k)) = some (.v (.int x)) ∧ 0 ≤ x ∧ x < 10000 := by
  have hk : k < 12 := by omega
  obtain ⟨j, rfl⟩ := Int.eq_ofNat_of_zero_le h0
  have hj : j < 12 := by omega
  have e : getIx (iL few) (.v (.int (j : Int))) = ((iD few).map S.v)[j]? := by
    unfold iL
    rw [ix_l, at_nat]
  match j, hj with
  | 0, _ => exact ⟨0, e, by omega, by omega⟩
  | 1, _ => exact ⟨9, e, by omega, by omega⟩
  | 2, _ => exact ⟨10, e, by omega, by omega⟩
  | 3, _ => exact ⟨99, e, by omega, by omega⟩
  | 4, _ => exact ⟨100, e, by omega, by omega⟩
  | 5, _ => exact ⟨101, e, by omega, by omega⟩
  | 6, _ => exact ⟨999, e, by omega, by omega⟩
  | 7, _ => exact ⟨1000, e, by omega, by omega⟩
  | 8, _ => exact ⟨9998, e, by omega, by omega⟩
  | 9, _ => exact ⟨9999, e, by omega, by omega⟩
  | 10, _ => exact ⟨2, e, by omega, by omega⟩
  | 11, _ => exact ⟨12, e, by omega, by omega⟩
theorem in_iL {l : List Int} {d : Int} : inD (.int d) (iL l) = some (l.contains d) := by
  have : inD (.int d) (iL l) = inD (.int d) (.v (.tup false (iD l))) := by
    unfold inD
    rw [show seqD (iL l) = some (iD l) from sq_i]
    rfl
  rw [this, in_iD]
theorem names_ok {n : Nat} {t : S} {m : Nat} (ht : Tape t) (hm : m ≤ 16) : Rn (run T (n + 2) 10 [t, .v (.int (m : Int))]) (fun r f => ∃ (l : List Int) (t' : S), r = iL l ∧ f = [t'] ∧ Tape t' ∧ l.length = m ∧ l.Nodup ∧ ∀ x ∈ l, 0 ≤ x ∧ x < 10000) NoX := by
  refine run_wp (fn := f10) rfl rfl ?_
  show Wp (Vm.execs _ _ b10 [some t, some (.v (.int (m : Int))), none, none, none, none, none, none]) _ _
  unfold b10
  rw [wp_cons]
  simp_arith! [gs_tape ht, ao_tape ht]
  refine wp_call (ss := [t, .v (.int 3)]) (by simp_arith! [gs_tape ht]) rfl ((pick_t (n := n) ht (by omega)).imp (fun r f q => ?_) fun _ _ q => q.elim)
  obtain ⟨kind, t', rfl, rfl, ht', _, _⟩ := q
  simp_arith! [mt8]
  rw [wp_cons]
  simp_arith! [eq_self]
  rw [wp_cons]
  simp_arith! [eq_self]
  refine wp_mid (fun ρ => ∃ (l : List Int) (t2 : S) (y z w : Option S), ρ = [some t2, some (.v (.int (m : Int))), some (.v (.int kind)), some (iL few), some (iL l), y, z, w] ∧ Tape t2 ∧ l.length = m ∧ l.Nodup ∧ ∀ x ∈ l, 0 ≤ x ∧ x < 10000) ?_ ?_
  · simp_arith! [fz_v]
    rw [rng_1 (by unfold lineN; omega)]
    simp_arith! [eq_self]
    refine wp_for (fun r ρ => ∃ (l : List Int) (t2 : S) (y z w : Option S), ρ = [some t2, some (.v (.int (m : Int))), some (.v (.int kind)), some (iL few), some (iL l), y, z, w] ∧ Tape t2 ∧ l.length + r.length = m ∧ l.Nodup ∧ ∀ x ∈ l, 0 ≤ x ∧ x < 10000) ⟨[], t', none, none, none, rfl, ht', by simp, List.nodup_nil, (fun x h => by cases h)⟩ ?_ ?_
    · rintro d r ρ ⟨l, t2, y, z, w, rfl, ht2, hl, nd, rg⟩
      rw [List.length_cons] at hl
      refine ⟨_, tg_1 (by show 5 < 8; omega), ?_⟩
      simp_arith! [eq_self]
      refine wp_mid (fun ρ => ∃ (t3 : S) (x : Int), Tape t3 ∧ 0 ≤ x ∧ x < 10000 ∧ ρ = [some t3, some (.v (.int (m : Int))), some (.v (.int kind)), some (iL few), some (iL l), some (.v d), some (.v (.int x)), w]) ?_ ?_
      · simp_arith! [eq_self]
        split
        · rw [wp_cons]
          simp_arith! [gs_tape ht2, ao_tape ht2]
          refine wp_call (ss := [t2, .v (.int ((m : Int) + 2))]) (by simp_arith! [gs_tape ht2]) rfl ((pick_t (n := n) ht2 (by omega)).imp (fun r f q => ?_) fun _ _ q => q.elim)
          obtain ⟨x, t3, rfl, rfl, ht3, h0, h1⟩ := q
          simp_arith! [mt8]
          exact ⟨t3, x, ht3, h0, by omega, rfl⟩
        · rw [wp_cons]
          simp_arith! [eq_self]
          split
          · rw [wp_cons]
            simp_arith! [gs_i, gs_tape ht2, ao_tape ht2, bl_i]
            refine wp_call (ss := [t2, .v (.int ((few.length : Nat) : Int))]) (by simp_arith! [gs_tape ht2]) rfl ((pick_t (n := n) ht2 (by show (12 : Int) < 1000000; omega)).imp (fun r f q => ?_) fun _ _ q => q.elim)
            obtain ⟨x, t3, rfl, rfl, ht3, h0, h1⟩ := q
            obtain ⟨y, hy, y0, y1⟩ := few_at h0 h1
            simp_arith! [mt8, hy]
            exact ⟨t3, y, ht3, y0, y1, rfl⟩
          · rw [wp_cons]
            simp_arith! [gs_tape ht2, ao_tape ht2]
            refine wp_call (ss := [t2, .v (.int 10000)]) (by simp_arith! [gs_tape ht2]) rfl ((pick_t (n := n) ht2 (by omega)).imp (fun r f q => ?_) fun _ _ q => q.elim)
            obtain ⟨x, t3, rfl, rfl, ht3, h0, h1⟩ := q
            simp_arith! [mt8]
            exact ⟨t3, x, ht3, h0, by omega, rfl⟩
      · rintro ρ ⟨t3, x, ht3, h0, h1, rfl⟩
        refine wp_mid (fun ρ => ∃ w, ρ = [some t3, some (.v (.int (m : Int))), some (.v (.int kind)), some (iL few), some (iL l), some (.v d), some (.v (.int (bps l m x))), w]) ?_ ?_
        · simp_arith! [fz_v]
          rw [rng_1 (by unfold lineN; omega)]
          simp_arith! [eq_self]
          refine wp_for (fun r ρ => ∃ j w, j + r.length = m ∧ ρ = [some t3, some (.v (.int (m : Int))), some (.v (.int kind)), some (iL few), some (iL l), some (.v d), some (.v (.int (bps l j x))), w]) ⟨0, w, by simp, rfl⟩ ?_ ?_
          · rintro e r ρ ⟨j, w, hj, rfl⟩
            rw [List.length_cons] at hj
            refine ⟨_, tg_1 (by show 7 < 8; omega), ?_⟩
            simp_arith! [eq_self]
            rw [wp_cons]
            simp_arith! [gs_i, in_iL]
            cases hc : l.contains (bps l j x) with
            | true =>
              rw [if_pos rfl]
              rw [wp_cons]
              simp_arith! [eq_self]
              refine ⟨j + 1, some (.v e), by omega, ?_⟩
              rw [show bps l (j + 1) x = (bps l j x + 1) % 10000 from if_pos hc]
            | false =>
              rw [if_neg Bool.false_ne_true]
              refine ⟨j + 1, some (.v e), by omega, ?_⟩
              rw [show bps l (j + 1) x = bps l j x from if_neg (by rw [hc]; simp)]
          · rintro ρ ⟨j, w, hj, rfl⟩
            have : j = m := by simpa using hj
            subst this
            exact ⟨_, rfl⟩
        · rintro ρ ⟨w2, rfl⟩
          have fr := bps_free (l := l) (m := m) h0 h1 (by omega) (by omega)
          have rr := @bps_rng l x h0 h1 m
          rw [wp_cons]
          simp_arith! [gs_i, pget, mo_i]
          rw [mu_r (s := iL l) (t := iL l) (t' := iL (l ++ [bps l m x])) (s' := iL (l ++ [bps l m x])) rfl rfl (ap_i (by unfold lineN; omega)) rfl]
          simp_arith! [eq_self]
          refine ⟨l ++ [bps l m x], t3, _, _, _, rfl, ht3, by rw [List.length_append]; simp; omega, ?_, fun y my => ?_⟩
          · rw [List.nodup_append]
            refine ⟨nd, by simp, fun a ha b hb z => ?_⟩
            rw [z, List.mem_singleton.mp hb] at ha
            exact fr ha
          · rcases List.mem_append.mp my with my | my
            · exact rg y my
            · rw [List.mem_singleton.mp my]; exact rr
    · rintro ρ ⟨l, t2, y, z, w, rfl, ht2, hl, nd, rg⟩
      exact ⟨l, t2, y, z, w, rfl, ht2, by simpa using hl, nd, rg⟩
  · rintro ρ ⟨l, t2, y, z, w, rfl, ht2, hl, nd, rg⟩
    rw [wp_cons]
    simp_arith! [gs_i]
    exact ⟨_, fin_0 ht2, l, t2, rfl, rfl, ht2, hl, nd, rg⟩
end K46
/-! Kmm -/
namespace K46
open PySem Vm
def rowsS (l : List Cmd) : S := .lst ((l.map cmdD).map S.v)
theorem gs_r {l : List Cmd} {r : Fr} : getS (some (rowsS l) :: r) 0 = some (rowsS l) := rfl
theorem ao_r {i : Nat} {l : List Cmd} : argOf (.nm i) (rowsS l) = some (.l i) := rfl
theorem mo_r {l : List Cmd} : muOk (some (rowsS l)) = true := rfl
theorem ap_r {l : List Cmd} {c : Cmd} {d : D} (h : l.length < lineN) (e : d = cmdD c) : mu .append (rowsS l) [.v d] = some (rowsS (l ++ [c]), .v .non) := by
  subst e
  unfold rowsS
  show (if ((l.map cmdD).map S.v).length < lineN then some (S.lst ((l.map cmdD).map S.v ++ [.v (cmdD c)]), S.v .non) else none) = _
  rw [if_pos (by simpa using h)]
  simp
theorem at_iL {l : List Int} {k : Int} (h0 : 0 ≤ k) (h : k < l.length) : ∃ x, x ∈ l ∧ getIx (iL l) (.v (.int k)) = some (.v (.int x)) ∧ l[k.toNat]? = some x := by
  obtain ⟨j, rfl⟩ := Int.eq_ofNat_of_zero_le h0
  have hj : j < l.length := by omega
  refine ⟨l[j], List.getElem_mem hj, ?_, ?_⟩
  · unfold iL
    rw [ix_l, at_nat]
    rw [List.getElem?_map, List.getElem?_map, List.getElem?_eq_getElem hj]
    rfl
  · rw [Int.toNat_natCast]
    exact List.getElem?_eq_getElem hj
/-- what a drawn command leaves -/
def CmdR (ins names : List Int) (rows : List Cmd) (r : S) (f : List S) : Prop := ∃ (rows' : List Cmd) (live' seen' : List Int) (used' : Nat) (t' : S), r = .v (.int (used' : Nat)) ∧ f = [t', rowsS rows', iL live', iL seen'] ∧ Tape t' ∧ Good ins rows' live' seen' (names.take used') ∧ used' ≤ names.length ∧ rows'.length ≤ rows.length + 4
theorem fin_4 {t : S} {rows : List Cmd} {live seen : List Int} {r : Fr} (h : Tape t) : fin [0, 1, 2, 3] (some t :: some (rowsS rows) :: some (iL live) :: some (iL seen) :: r) = some [t, rowsS rows, iL live, iL seen] := by
  obtain ⟨a, b, c, l, rfl, _⟩ := h
  rfl
theorem take_new {names : List Int} {used : Nat} {x : Int} (nd : names.Nodup) (h : names[used]? = some x) : names.take (used + 1) = names.take used ++ [x] ∧ x ∉ names.take used := by
  obtain ⟨hu, e⟩ := List.getElem?_eq_some_iff.mp h
  have e1 : names.take (used + 1) = names.take used ++ [x] := by rw [List.take_add_one, h]; rfl
  refine ⟨e1, fun m => ?_⟩
  have nd2 : (names.take (used + 1)).Nodup := nd.sublist (List.take_sublist _ _)
  rw [e1, List.nodup_append] at nd2
  exact nd2.2.2 x m x (List.mem_singleton_self x) rfl
theorem er_map {α β : Type} (f : α → β) : ∀ (l : List α) (k : Nat), (l.map f).eraseIdx k = (l.eraseIdx k).map f
  | [], k => by simp
  | x :: l, 0 => rfl
  | x :: l, k + 1 => by
    show f x :: (l.map f).eraseIdx k = f x :: (l.eraseIdx k).map f
    rw [er_map]
theorem rm_i {l : List Int} {x : Int} (h : x ∈ l) : mu .remove (iL l) [.v (.int x)] = some (iL (l.erase x), .v .non) := by
  have e : ((ds? ((iD l).map S.v)).bind ints?) = some l := by rw [ds_v, Option.bind_some, ints_v]
  have hf : l.findIdx? (fun y => y == x) = some (l.idxOf x) := by
    rw [List.findIdx?_eq_some_iff_getElem]
    have hlt := List.idxOf_lt_length_of_mem h
    refine ⟨hlt, by simp, fun j hj => ?_⟩
    have := List.not_of_lt_findIdx (p := (· == x)) (xs := l) hj
    simpa using this
  show (match ((ds? ((iD l).map S.v)).bind ints?) with
    | some is => match is.findIdx? fun y => y == x with
      | some k => some (S.lst (((iD l).map S.v).eraseIdx k), S.v .non)
      | none => none
    | none => none) = _
  rw [e]
  dsimp only
  rw [hf]
  dsimp only
  unfold iL iD
  rw [List.erase_eq_eraseIdx_of_idxOf (i := l.idxOf x) rfl]
  rw [er_map, er_map]
theorem mt15 {cf : Nat → List S → Out} : (T.cal cf).mt 15 = [0] := rfl
/-- a new dot -/
theorem new_w {n : Nat} {t1 : S} {ins names live seen : List Int} {rows : List Cmd} {used : Nat} {x6 x7 x8 x9 xa xb xc : Option S} {P : Fl → Fr → Prop} {E : Ex → Fr → Prop} (ht1 : Tape t1) (g : Good ins rows live seen (names.take used)) (nd : names.Nodup) (hnl : names.length ≤ 16) (hr : rows.length ≤ 56) (hll : live.length ≤ 16) (hu : used < names.length)
    (hP : ∀ s l ρ, fin [0, 1, 2, 3] ρ = some l → CmdR ins names rows s l → P (.ret s) ρ) {ss : Sts} (hss : match b16 with
    | .cons _ (.cons _ (.cons (.ife _ b _) _)) => ss = b
    | _ => False) : Wp (Vm.execs (T.cal (run T n)) T.U ss [some t1, some (rowsS rows), some (iL live), some (iL seen), some (iL names), some (.v (.int (used : Nat))), x6, x7, x8, x9, xa, xb, xc]) P E := by
  have hss : ss = _ := hss
  subst hss
  obtain ⟨x, mx, hx, hx2⟩ := at_iL (l := names) (k := (used : Nat)) (by omega) (by omega)
  rw [Int.toNat_natCast] at hx2
  obtain ⟨e1, e2⟩ := take_new nd hx2
  rw [wp_cons]
  simp_arith! [gs_r, gs_i, pget, mo_r, hx, fz_v]
  rw [mu_r (s := rowsS rows) (t := rowsS rows) (t' := rowsS (rows ++ [.new x])) (s' := rowsS (rows ++ [.new x])) rfl rfl (ap_r (c := .new x) (by unfold lineN; omega) rfl) rfl]
  simp_arith! [eq_self]
  rw [wp_cons]
  simp_arith! [gs_i, pget, mo_i, hx]
  rw [mu_r (s := iL live) (t := iL live) (t' := iL (live ++ [x])) (s' := iL (live ++ [x])) rfl rfl (ap_i (by unfold lineN; omega)) rfl]
  simp_arith! [eq_self]
  rw [wp_cons]
  simp_arith! [eq_self]
  refine hP _ _ _ (fin_4 ht1) ⟨rows ++ [.new x], live ++ [x], seen, used + 1, t1, rfl, rfl, ht1, ?_, by omega, by rw [List.length_append]; simp⟩
  rw [e1]
  exact .new g e2
theorem tie_g {ins live seen all : List Int} {rows : List Cmd} {a b : Int} (g : Good ins rows live seen all) (ha : a ∈ live) (hb : b ∈ live) (hn : a ≠ b) : Good ins (rows ++ [.tie (mnI a b) (mxI a b)]) live seen all := by
  unfold mnI mxI
  by_cases h : b < a
  · rw [if_pos h, if_neg (by omega)]
    exact .tie g hb ha (Ne.symm hn)
  · rw [if_neg h, if_pos (by omega)]
    exact .tie g ha hb hn
/-- a row appended, nothing else -/
theorem app_w {C : Cal} {U : Rules} {rows : List Cmd} {x : X} {ρ : Fr} {P : Fl → Fr → Prop} {E : Ex → Fr → Prop} (h : Wp (XD.ev (x, den C x) ρ) (fun s ρ => ∃ c, s = .v (cmdD c) ∧ getS ρ 1 = some (rowsS rows) ∧ P .nx (ρ.set 1 (some (rowsS (rows ++ [c]))))) E) (hg : getS ρ 1 = some (rowsS rows)) (hr : rows.length < lineN) : Wp (Vm.exec C U (.ex (.mu .append 1 [] (.cons x .nil))) ρ) P E := by
  rw [ex_ex, wp_bind, pk_mum (by rw [hg]; rfl), wp_bind, dens_cons, dens_nil]
  show Wp ((XD.ev (x, den C x) ρ).bind _) _ E
  rw [wp_bind]
  refine h.imp (fun s ρ ⟨c, e1, e2, q⟩ => ?_) fun _ _ q => q
  subst e1
  rw [wp_bind]
  show Wp (muR .append 1 [] [.v (cmdD c)] ρ) _ E
  rw [mu_r (s := rowsS rows) (t := rowsS rows) (t' := rowsS (rows ++ [c])) (s' := rowsS (rows ++ [c])) e2 rfl (ap_r hr rfl) rfl]
  exact q
theorem ix_iL {l : List Int} {k : Int} {j : Nat} (nd : l.Nodup) (h : l[j]? = some k) : me .index (iL l) [.int k] = some (.v (.int (j : Nat))) := by
  have e : mseq (iL l) = some (iD l) := ds_v
  show (match mseq (iL l) with
    | some l => if (D.int k).flat && l.all D.flat then (findIx (fun y => D.feq y (.int k)) l 0).map fun (k : Nat) => S.v (.int (k : Int)) else none
    | none => none) = _
  rw [e]
  dsimp only
  rw [if_pos, fx_i nd h, Nat.zero_add]
  · rfl
  · rw [Bool.and_eq_true, List.all_eq_true]
    refine ⟨rfl, fun y m => ?_⟩
    obtain ⟨z, _, rfl⟩ := List.mem_map.mp m
    rfl
theorem ik_iL {l : List Int} : meOk .index (iL l) = true := by
  have e : mseq (iL l) = some (iD l) := ds_v
  show (mseq (iL l)).isSome = true
  rw [e]
  rfl
theorem st_iL {l : List Int} {j : Nat} {x : Int} (h : j < l.length) : subSet (iL l) (.v (.int (j : Nat))) (.v (.int x)) = some (iL (l.set j x)) := by
  show (placeIx ((iD l).map S.v).length (j : Nat)).map (fun k => S.lst (((iD l).map S.v).set k (.v (.int x)))) = _
  have e : placeIx ((iD l).map S.v).length ((j : Nat) : Int) = some j := by
    show L2.ixN _ _ = _
    unfold L2.ixN
    simp [h]
  rw [e]
  unfold iL iD
  simp [List.map_set]
theorem cons_er {α : Type} {l : List α} {j : Nat} (hj : j < l.length) : (l[j] :: l.eraseIdx j).Perm l := by
  rw [List.eraseIdx_eq_take_drop_succ]
  refine List.perm_middle.symm.trans ?_
  rw [List.getElem_cons_drop, List.take_append_drop]
theorem set_perm {l : List Int} {j : Nat} {k x : Int} (nd : l.Nodup) (h : l[j]? = some k) : ((l ++ [x]).erase k).Perm (l.set j x) := by
  have hj : j < l.length := by
    rcases Nat.lt_or_ge j l.length with q | q
    · exact q
    · rw [List.getElem?_eq_none q] at h; cases h
  have hk : l[j] = k := by rw [List.getElem?_eq_getElem hj] at h; exact Option.some.inj h
  have mk : k ∈ l := hk ▸ List.getElem_mem hj
  rw [List.erase_append_left _ mk, List.set_eq_take_append_cons_drop, if_pos hj]
  have e : (l.erase k).Perm (l.eraseIdx j) := by
    have h1 := cons_er hj
    rw [hk] at h1
    exact ((List.perm_cons_erase mk).symm.trans h1.symm).cons_inv
  rw [List.eraseIdx_eq_take_drop_succ] at e
  refine (List.perm_append_singleton _ _).trans ?_
  exact (e.cons x).trans List.perm_middle.symm
def frC (t : S) (rows : List Cmd) (live seen names : List Int) (used : Nat) (kind : Int) (dot : Int) (x9 xa xb xc : Option S) : Fr := [some t, some (rowsS rows), some (iL live), some (iL seen), some (iL names), some (.v (.int (used : Nat))), some (.v (.int kind)), some (.v (.bl (decide ((used : Int) < (names.length : Nat))))), some (.v (.int dot)), x9, xa, xb, xc]
/-- a new dot behind one that is looked at -/
theorem more_w {n : Nat} {t : S} {ins names live seen : List Int} {rows : List Cmd} {used : Nat} {kind dot : Int} {P : Fl → Fr → Prop} {E : Ex → Fr → Prop} (ht : Tape t) (g : Good ins rows live seen (names.take used)) (hu : used ≤ names.length) (nd : names.Nodup) (hnl : names.length ≤ 16) (hr : rows.length ≤ 56) (hsl : seen.length ≤ 16) (hll : live.length ≤ 16) (md : dot ∈ live) (hm : used < names.length)
    (hR : ∀ s l ρ, fin [0, 1, 2, 3] ρ = some l → CmdR ins names rows s l → P (.ret s) ρ) {ss : Sts} (hss : match b16 with
    | .cons _ (.cons _ (.cons _ (.cons _ (.cons _ (.cons (.ife _ _ (.cons (.ife _ _ (.cons (.ife _ _ (.cons (.ife _ _ (.cons (.ife _ b _) _)) _)) _)) _)) _))))) => ss = b
    | _ => False) : Wp (Vm.execs (T.cal (run T (n + 2))) T.U ss (frC t rows live seen names used kind dot none none none none)) P E := by
  have hss : ss = _ := hss
  subst hss
  unfold frC
  obtain ⟨x, mx, hx, hx2⟩ := at_iL (l := names) (k := (used : Nat)) (by omega) (by omega)
  rw [Int.toNat_natCast] at hx2
  obtain ⟨e1, e2⟩ := take_new nd hx2
  have mdn : dot ≠ x := by
    rintro rfl
    exact e2 (g.liveIn md)
  have ndl : live.Nodup := (g.all.nodup_iff.mpr g.nodup).sublist (List.sublist_append_right _ _)
  obtain ⟨j, hj⟩ := List.mem_iff_getElem?.mp md
  have hjl : j < live.length := by
    rcases Nat.lt_or_ge j live.length with q | q
    · exact q
    · rw [List.getElem?_eq_none q] at hj; cases hj
  have g1 := Good.new g e2
  rw [← e1] at g1
  have g2 := tie_g g1 (List.mem_append_left _ md) (List.mem_append_right _ (List.mem_singleton_self x)) mdn
  rw [wp_cons]
  simp_arith! [gs_i, hx]
  rw [wp_cons]
  refine app_w (rows := rows) ?_ rfl (by unfold lineN; omega)
  simp_arith! [fz_v]
  refine ⟨.new x, rfl, rfl, ?_⟩
  rw [wp_cons]
  refine app_w (rows := rows ++ [.new x]) ?_ rfl (by rw [List.length_append]; simp; unfold lineN; omega)
  simp_arith! [fz_v]
  refine ⟨.tie (mnI dot x) (mxI dot x), rfl, rfl, ?_⟩
  rw [wp_cons]
  refine app_w (rows := rows ++ [.new x] ++ [.tie (mnI dot x) (mxI dot x)]) ?_ rfl (by rw [List.length_append, List.length_append]; simp; unfold lineN; omega)
  simp_arith! [gs_tape ht, ao_tape ht, ao_i, gs_i, fz_v]
  refine wp_call (ss := [t, .v (.int 8)]) (by simp_arith! [gs_tape ht]) rfl ((pick_t (n := n + 1) ht (by omega)).imp (fun r f q => ?_) fun _ _ q => q.elim)
  obtain ⟨ang, ta, rfl, rfl, hta, _, _⟩ := q
  simp_arith! [mt8, gs_tape hta, ao_tape hta, ao_i, gs_i, fz_v]
  refine wp_call (ss := [ta, iL seen]) (by simp_arith! [gs_tape hta, gs_i]) rfl ((lot_ok (n := n) hta (by omega)).imp (fun r f q => ?_) fun _ _ q => q.elim)
  obtain ⟨l1, tb, rfl, rfl, htb, hl1, ho1⟩ := q
  simp_arith! [mt15, gs_tape htb, ao_tape htb, ao_i, gs_i, fz_v]
  refine wp_call (ss := [tb, iL seen]) (by simp_arith! [gs_tape htb, gs_i]) rfl ((lot_ok (n := n) htb (by omega)).imp (fun r f q => ?_) fun _ _ q => q.elim)
  obtain ⟨l2, tc, rfl, rfl, htc, hl2, ho2⟩ := q
  simp_arith! [mt15, fz_v]
  refine ⟨.look dot ang l1 l2, rfl, rfl, ?_⟩
  have g3 := Good.look (g := ang) g2 (List.mem_append_left _ md) hl1 hl2 ho1 ho2
  have g4 := Good.perm g3 (set_perm ndl hj)
  have mx4 : x ∈ live.set j x := List.mem_iff_getElem?.mpr ⟨j, by rw [List.getElem?_set_self hjl]⟩
  have g5 := Good.flip (l := (true, [dot])) g4 mx4 (fun k m => by
    rw [List.mem_singleton.mp m]
    exact List.mem_append_right _ (List.mem_singleton_self _)) (by show 1 ≤ 1000; omega)
  rw [wp_cons]
  refine app_w (rows := rows ++ [.new x] ++ [.tie (mnI dot x) (mxI dot x)] ++ [.look dot ang l1 l2]) ?_ rfl (by rw [List.length_append, List.length_append, List.length_append]; simp; unfold lineN; omega)
  simp_arith! [fz_v]
  refine ⟨.flip x (true, [dot]), rfl, rfl, ?_⟩
  rw [wp_cons]
  refine wp_set_sub ?_
  simp_arith! [eq_self]
  refine ⟨rfl, ?_⟩
  simp_arith! [pk_mec, gs_i, ik_iL, fz_v, ix_iL ndl hj]
  refine ⟨iL live, iL live, iL (live.set j x), iL (live.set j x), rfl, rfl, st_iL hjl, rfl, ?_⟩
  rw [wp_cons]
  simp_arith! [gs_i, pget, mo_i]
  rw [mu_r (s := iL seen) (t := iL seen) (t' := iL (seen ++ [dot])) (s' := iL (seen ++ [dot])) rfl rfl (ap_i (by unfold lineN; omega)) rfl]
  simp_arith! [eq_self]
  rw [wp_cons]
  simp_arith! [eq_self]
  refine hR _ _ _ (fin_4 htc) ⟨_, live.set j x, seen ++ [dot], used + 1, tc, rfl, rfl, htc, g5, by omega, by simp⟩
/-- flips, signs, looks, .. -/
theorem else_w {n : Nat} {t : S} {ins names live seen : List Int} {rows : List Cmd} {used : Nat} {kind dot : Int} {P : Fl → Fr → Prop} {E : Ex → Fr → Prop} (ht : Tape t) (g : Good ins rows live seen (names.take used)) (hu : used ≤ names.length) (nd : names.Nodup) (hnl : names.length ≤ 16) (hr : rows.length ≤ 56) (hsl : seen.length ≤ 16) (hll : live.length ≤ 16) (md : dot ∈ live)
    (hJ : ∀ rows' live' seen' t' x9 xa xb xc, Tape t' → Good ins rows' live' seen' (names.take used) → rows'.length ≤ rows.length + 4 → P .nx (frC t' rows' live' seen' names used kind dot x9 xa xb xc))
    (hR : ∀ s l ρ, fin [0, 1, 2, 3] ρ = some l → CmdR ins names rows s l → P (.ret s) ρ) {ss : Sts} (hss : match b16 with
    | .cons _ (.cons _ (.cons _ (.cons _ (.cons _ (.cons (.ife _ _ b) _))))) => ss = b
    | _ => False) : Wp (Vm.execs (T.cal (run T (n + 2))) T.U ss (frC t rows live seen names used kind dot none none none none)) P E := by
  have hss : ss = _ := hss
  subst hss
  unfold frC at *
  rw [wp_cons]
  simp_arith! [eq_self]
  split
  · rw [wp_cons]
    refine app_w (rows := rows) ?_ rfl (by unfold lineN; omega)
    simp_arith! [gs_tape ht, ao_tape ht, ao_i, gs_i, fz_v]
    refine wp_call (ss := [t, iL seen]) (by simp_arith! [gs_tape ht, gs_i]) rfl ((lot_ok (n := n) ht (by omega)).imp (fun r f q => ?_) fun _ _ q => q.elim)
    obtain ⟨l, t', rfl, rfl, ht', hl, ho⟩ := q
    simp_arith! [mt15, fz_v]
    refine ⟨.flip dot l, rfl, rfl, ?_⟩
    exact hJ _ _ _ _ _ _ _ _ ht' (.flip g md hl ho) (by rw [List.length_append]; simp)
  rw [wp_cons]
  simp_arith! [eq_self]
  split
  · rw [wp_cons]
    refine app_w (rows := rows) ?_ rfl (by unfold lineN; omega)
    simp_arith! [gs_tape ht, ao_tape ht, ao_i, gs_i, fz_v]
    refine wp_call (ss := [t, iL seen]) (by simp_arith! [gs_tape ht, gs_i]) rfl ((lot_ok (n := n) ht (by omega)).imp (fun r f q => ?_) fun _ _ q => q.elim)
    obtain ⟨l, t', rfl, rfl, ht', hl, ho⟩ := q
    simp_arith! [mt15, fz_v]
    refine ⟨.sign dot l, rfl, rfl, ?_⟩
    exact hJ _ _ _ _ _ _ _ _ ht' (.sign g md hl ho) (by rw [List.length_append]; simp)
  rw [wp_cons]
  simp_arith! [eq_self]
  split
  · skip
    rw [wp_cons]
    refine app_w (rows := rows) ?_ rfl (by unfold lineN; omega)
    simp_arith! [gs_tape ht, ao_tape ht, ao_i, gs_i, fz_v]
    refine wp_call (ss := [t, .v (.int 8)]) (by simp_arith! [gs_tape ht]) rfl ((pick_t (n := n + 1) ht (by omega)).imp (fun r f q => ?_) fun _ _ q => q.elim)
    obtain ⟨ang, ta, rfl, rfl, hta, _, _⟩ := q
    simp_arith! [mt8, gs_tape hta, ao_tape hta, ao_i, gs_i, fz_v]
    refine wp_call (ss := [ta, iL seen]) (by simp_arith! [gs_tape hta, gs_i]) rfl ((lot_ok (n := n) hta (by omega)).imp (fun r f q => ?_) fun _ _ q => q.elim)
    obtain ⟨l1, tb, rfl, rfl, htb, hl1, ho1⟩ := q
    simp_arith! [mt15, gs_tape htb, ao_tape htb, ao_i, gs_i, fz_v]
    refine wp_call (ss := [tb, iL seen]) (by simp_arith! [gs_tape htb, gs_i]) rfl ((lot_ok (n := n) htb (by omega)).imp (fun r f q => ?_) fun _ _ q => q.elim)
    obtain ⟨l2, tc, rfl, rfl, htc, hl2, ho2⟩ := q
    simp_arith! [mt15, fz_v]
    refine ⟨.look dot ang l1 l2, rfl, rfl, ?_⟩
    rw [wp_cons]
    simp_arith! [gs_i, pget, mo_i]
    rw [mu_r (s := iL live) (t := iL live) (t' := iL (live.erase dot)) (s' := iL (live.erase dot)) rfl rfl (rm_i md) rfl]
    simp_arith! [eq_self]
    rw [wp_cons]
    simp_arith! [gs_i, pget, mo_i]
    rw [mu_r (s := iL seen) (t := iL seen) (t' := iL (seen ++ [dot])) (s' := iL (seen ++ [dot])) rfl rfl (ap_i (by unfold lineN; omega)) rfl]
    exact hJ _ _ _ _ _ _ _ _ htc (.look g md hl1 hl2 ho1 ho2) (by rw [List.length_append]; simp)
  rw [wp_cons]
  simp_arith! [eq_self]
  split
  · rename_i hmore
    refine (more_w (n := n) (P := P) (E := E) ht g hu nd hnl hr hsl hll md (by omega) hR rfl).imp (fun f ρ h => ?_) fun _ _ h => h
    cases f <;> exact h
  · exact hJ _ _ _ _ _ _ _ _ ht g (by omega)
theorem cmd_ok {n : Nat} {t : S} {ins names live seen : List Int} {rows : List Cmd} {used : Nat} (ht : Tape t) (g : Good ins rows live seen (names.take used)) (hu : used ≤ names.length) (nd : names.Nodup) (hnl : names.length ≤ 16) (hr : rows.length ≤ 56) : Rn (run T (n + 3) 16 [t, rowsS rows, iL live, iL seen, iL names, .v (.int (used : Nat))]) (CmdR ins names rows) NoX := by
  have tl : (names.take used).length ≤ 16 := by rw [List.length_take]; omega
  have al := g.all.length_eq
  rw [List.length_append] at al
  refine run_wp (fn := f16) rfl rfl ?_
  show Wp (Vm.execs _ _ b16 [some t, some (rowsS rows), some (iL live), some (iL seen), some (iL names), some (.v (.int (used : Nat))), none, none, none, none, none, none, none]) _ _
  unfold b16
  rw [wp_cons]
  simp_arith! [gs_tape ht, ao_tape ht]
  refine wp_call (ss := [t, .v (.int 10)]) (by simp_arith! [gs_tape ht]) rfl ((pick_t (n := n + 1) ht (by omega)).imp (fun r f q => ?_) fun _ _ q => q.elim)
  obtain ⟨kind, t1, rfl, rfl, ht1, _, _⟩ := q
  simp_arith! [mt8]
  rw [wp_cons]
  simp_arith! [gs_i, bl_i]
  refine wp_mid (fun ρ => ρ = [some t1, some (rowsS rows), some (iL live), some (iL seen), some (iL names), some (.v (.int (used : Nat))), some (.v (.int kind)), some (.v (.bl (decide ((used : Int) < (names.length : Nat))))), none, none, none, none, none]) ?_ ?_
  · simp_arith! [gs_i, bl_i]
    have key : ∀ {E : Ex → Fr → Prop}, live.length ≤ 16 → (used : Int) < (names.length : Nat) → _ := fun {E} h1 h2 => new_w (n := n + 2) (E := E) (x6 := some (.v (.int kind))) (x7 := some (.v (.bl (decide ((used : Int) < (names.length : Nat)))))) (x8 := none) (x9 := none) (xa := none) (xb := none) (xc := none) (P := fun f ρ => match f with
      | .nx => ρ = [some t1, some (rowsS rows), some (iL live), some (iL seen), some (iL names), some (.v (.int (used : Nat))), some (.v (.int kind)), some (.v (.bl (decide ((used : Int) < (names.length : Nat))))), none, none, none, none, none]
      | f => match f with
        | .nx => ∃ l, fin f16.mt ρ = some l ∧ CmdR ins names rows (S.v D.non) l
        | .ret s => ∃ l, fin f16.mt ρ = some l ∧ CmdR ins names rows s l
        | x => False) ht1 g nd hnl hr h1 (by omega) (fun s l ρ h q => ⟨l, h, q⟩) rfl
    split
    · split
      · rename_i h2
        split
        · exact key (by omega) h2
        · trivial
      · trivial
    · split
      · split
        · rename_i h2
          split
          · exact key (by omega) h2
          · trivial
        · trivial
      · trivial
  · rintro ρ rfl
    rw [wp_cons]
    simp_arith! [gs_i, bl_i]
    split
    · rw [wp_cons]
      simp_arith! [eq_self]
      exact ⟨_, fin_4 ht1, rows, live, seen, used, t1, rfl, rfl, ht1, g, hu, by omega⟩
    rename_i hl0
    rw [wp_cons]
    simp_arith! [gs_i, bl_i, gs_tape ht1, ao_tape ht1]
    refine wp_call (ss := [t1, .v (.int ((live.length : Nat) : Int))]) (by simp_arith! [gs_tape ht1]) rfl ((pick_t (n := n + 1) ht1 (by omega)).imp (fun r f q => ?_) fun _ _ q => q.elim)
    obtain ⟨j, t2, rfl, rfl, ht2, j0, j1⟩ := q
    obtain ⟨dot, md, hd, _⟩ := at_iL (l := live) j0 (by omega)
    simp_arith! [mt8, hd]
    refine wp_mid (fun ρ => ∃ (rows' : List Cmd) (live' seen' : List Int) (t' : S) (x9 xa xb xc : Option S), ρ = [some t', some (rowsS rows'), some (iL live'), some (iL seen'), some (iL names), some (.v (.int (used : Nat))), some (.v (.int kind)), some (.v (.bl (decide ((used : Int) < (names.length : Nat))))), some (.v (.int dot)), x9, xa, xb, xc] ∧ Tape t' ∧ Good ins rows' live' seen' (names.take used) ∧ rows'.length ≤ rows.length + 4) ?_ ?_
    · simp_arith! [gs_i, bl_i]
      split
      · split
        · rw [wp_cons]
          simp_arith! [gs_i, sq_i]
          refine wp_lcF (fun d => match d with
            | .int k => !decide (k = dot)
            | _ => false) (fun d => d) (by show 12 < 13; omega) (fun d md => ?_) (fun d md _ => ?_) (by rw [List.length_map]; unfold lineN; omega) ?_
          · obtain ⟨k, mk, rfl⟩ := List.mem_map.mp md
            simp_arith! [eq_self]
            cases decide (k = dot) with
            | true => exact ⟨rfl, trivial⟩
            | false => exact ⟨rfl, trivial⟩
          · simp_arith! [eq_self]
            exact ⟨trivial, trivial⟩
          rw [List.map_id']
          rw [show S.lst (((iD live).filter (fun d => match d with
            | .int k => !decide (k = dot)
            | _ => false)).map S.v) = iL (live.filter fun k => !decide (k = dot)) by unfold iL iD; rw [List.filter_map]; rfl]
          simp_arith! [eq_self]
          have ndl : live.Nodup := (g.all.nodup_iff.mpr g.nodup).sublist (List.sublist_append_right _ _)
          have hfl : (live.filter fun k => !decide (k = dot)).length ≤ live.length := List.length_filter_le _ _
          have hne : live.filter (fun k => !decide (k = dot)) ≠ [] := by
            intro q
            rw [List.filter_eq_nil_iff] at q
            have : live ⊆ [dot] := fun k m => by
              have := q k m
              simpa using this
            have := nd_len ndl this
            simp at this
            omega
          have hpos := List.length_pos_iff.mpr hne
          rw [wp_cons]
          simp_arith! [gs_i, bl_i, gs_tape ht2, ao_tape ht2]
          refine wp_call (ss := [t2, .v (.int (((live.filter fun k => !decide (k = dot)).length : Nat) : Int))]) (by simp_arith! [gs_tape ht2]) rfl ((pick_t (n := n + 1) ht2 (by omega)).imp (fun r f q => ?_) fun _ _ q => q.elim)
          obtain ⟨i, t3, rfl, rfl, ht3, i0, i1⟩ := q
          obtain ⟨other, mo, ho, _⟩ := at_iL (l := live.filter fun k => !decide (k = dot)) i0 (by omega)
          simp_arith! [mt8, ho]
          obtain ⟨mo1, mo2⟩ := List.mem_filter.mp mo
          have mo2 : other ≠ dot := by simpa using mo2
          rw [wp_cons]
          refine app_w (rows := rows) ?_ rfl (by unfold lineN; omega)
          simp_arith! [fz_v]
          refine ⟨.tie (mnI dot other) (mxI dot other), rfl, rfl, ?_⟩
          exact ⟨_, _, _, _, _, _, _, _, rfl, ht3, tie_g g md mo1 (Ne.symm mo2), by rw [List.length_append]; simp⟩
        · exact else_w (n := n) ht2 g hu nd hnl hr (by omega) (by omega) md (fun rows' live' seen' t' x9 xa xb xc h1 h2 h3 => ⟨rows', live', seen', t', x9, xa, xb, xc, rfl, h1, h2, h3⟩) (fun s l ρ h q => ⟨l, h, q⟩) rfl
      · exact else_w (n := n) ht2 g hu nd hnl hr (by omega) (by omega) md (fun rows' live' seen' t' x9 xa xb xc h1 h2 h3 => ⟨rows', live', seen', t', x9, xa, xb, xc, rfl, h1, h2, h3⟩) (fun s l ρ h q => ⟨l, h, q⟩) rfl
    · rintro ρ ⟨rows', live', seen', t', x9, xa, xb, xc, rfl, ht', g', hr'⟩
      rw [wp_cons]
      simp_arith! [eq_self]
      exact ⟨_, fin_4 ht', rows', live', seen', used, t', rfl, rfl, ht', g', hu, hr'⟩
end K46
/-! Kmn -/
namespace K46
open PySem Vm
theorem mt10 {cf : Nat → List S → Out} : (T.cal cf).mt 10 = [0] := rfl
theorem mt16 {cf : Nat → List S → Out} : (T.cal cf).mt 16 = [0, 1, 2, 3] := rfl
theorem cut_0 {l : List Int} {k : Int} (h : 0 ≤ k) : cut l none (some k) = l.take (min k.toNat l.length) := by
  unfold cut HT.sIx
  dsimp only
  rw [if_neg (by omega)]
  simp
theorem four_at {a b c d k : Int} (h0 : 0 ≤ k) (h : k = 0 ∨ k < 4) : ∃ x, (x = a ∨ x = b ∨ x = c ∨ x = d) ∧ getIx (.lst [.v (.int a), .v (.int b), .v (.int c), .v (.int d)]) (.v (.int k)) = some (.v (.int x)) := by
  have hk : k = 0 ∨ k = 1 ∨ k = 2 ∨ k = 3 := by omega
  rcases hk with rfl | rfl | rfl | rfl
  · exact ⟨a, .inl rfl, rfl⟩
  · exact ⟨b, .inr (.inl rfl), rfl⟩
  · exact ⟨c, .inr (.inr (.inl rfl)), rfl⟩
  · exact ⟨d, .inr (.inr (.inr rfl)), rfl⟩
theorem gs_0 {r : Fr} : getS (some (.lst []) :: r) 0 = some (.lst []) := rfl
theorem rows_0 : (.lst [] : S) = rowsS [] := rfl
theorem iL_0 : (.lst [] : S) = iL [] := rfl
theorem mu_pop {L : List S} {i : Int} {k : Nat} {s : S} (h0 : -(2 ^ 63) ≤ i) (h1 : i < 2 ^ 63) (e : placeIx L.length i = some k) (e2 : L[k]? = some s) : mu .popAt (.lst L) [.v (.int i)] = some (.lst (L.eraseIdx k), s) := by
  unfold mu
  simp only [h0, h1, e, e2, decide_true, Bool.and_self, if_true]
theorem pop_i {l : List Int} {k : Int} (h0 : 0 ≤ k) (h : k < l.length) (hl : l.length ≤ 1000) : ∃ x, mu .popAt (iL l) [.v (.int k)] = some (iL (l.eraseIdx k.toNat), .v (.int x)) ∧ l[k.toNat]? = some x := by
  obtain ⟨j, rfl⟩ := Int.eq_ofNat_of_zero_le h0
  have hj : j < l.length := by omega
  refine ⟨l[j], ?_, by rw [Int.toNat_natCast]; exact List.getElem?_eq_getElem hj⟩
  have e : placeIx ((iD l).map S.v).length ((j : Nat) : Int) = some j := by
    show L2.ixN _ _ = _
    unfold L2.ixN
    simp [hj]
  rw [show iL l = .lst ((iD l).map S.v) from rfl, mu_pop (k := j) (s := .v (.int l[j])) (by omega) (by omega) e (by rw [List.getElem?_map, List.getElem?_map, List.getElem?_eq_getElem hj]; rfl)]
  unfold iL iD
  rw [er_map, er_map, Int.toNat_natCast]
theorem bl_r {l : List Cmd} : bi .len [rowsS l] = some (.v (.int (l.length : Nat))) := by
  show some (S.v (.int ((((l.map cmdD).map S.v).length : Nat) : Int))) = _
  rw [List.length_map, List.length_map]
theorem tu_r {l : List Cmd} : bi .tuple [rowsS l] = some (.v (.tup false (l.map cmdD))) := tu_d
theorem prog_ok {n : Nat} {t : S} {m w : Nat} (ht : Tape t) (hm : 4 ≤ m) (hm2 : m ≤ 56) (hw : w ≤ 16) : Rn (run T (n + 4) 17 [t, .v (.int (m : Int)), .v (.int (w : Int))]) (fun r f => ∃ (p : Prog) (live sn al : List Int) (t' : S), r = .v (progD p) ∧ f = [t'] ∧ Tape t' ∧ GP p live sn al ∧ al.length ≤ 16) NoX := by
  refine run_wp (fn := f17) rfl rfl ?_
  show Wp (Vm.execs _ _ b17 [some t, some (.v (.int (m : Int))), some (.v (.int (w : Int))), none, none, none, none, none, none, none, none, none, none, none]) _ _
  unfold b17
  rw [wp_cons]
  simp_arith! [gs_tape ht, ao_tape ht]
  refine wp_call (ss := [t, .v (.int (w : Int))]) (by simp_arith! [gs_tape ht]) rfl ((names_ok (n := n + 1) ht hw).imp (fun r f q => ?_) fun _ _ q => q.elim)
  obtain ⟨names, t1, rfl, rfl, ht1, hnl, nd, rg⟩ := q
  simp_arith! [mt10]
  rw [wp_cons]
  simp_arith! [gs_tape ht1, ao_tape ht1, gs_i]
  refine wp_call (ss := [t1, .v (.int 4)]) (by simp_arith! [gs_tape ht1]) rfl ((pick_t (n := n + 2) ht1 (by omega)).imp (fun r f q => ?_) fun _ _ q => q.elim)
  obtain ⟨k, t2, rfl, rfl, ht2, k0, k1⟩ := q
  simp_arith! [mt8, S.i?, cut_i, cut_0 k0]
  have hu : min k.toNat names.length ≤ names.length := Nat.min_le_right _ _
  have hlu : (names.take (min k.toNat names.length)).length = min k.toNat names.length := by rw [List.length_take]; omega
  generalize min k.toNat names.length = used0 at hu hlu
  rw [wp_cons]
  simp_arith! [gs_i, tu_i]
  rw [wp_cons]
  simp_arith! [gs_i, bl_i, hlu]
  rw [wp_cons]
  simp_arith! [eq_self]
  rw [wp_cons]
  simp_arith! [eq_self]
  rw [wp_cons]
  simp_arith! [gs_tape ht2, ao_tape ht2, gs_i]
  refine wp_call (ss := [t2, .v (.int 4)]) (by simp_arith! [gs_tape ht2]) rfl ((pick_t (n := n + 2) ht2 (by omega)).imp (fun r f q => ?_) fun _ _ q => q.elim)
  obtain ⟨j, t3, rfl, rfl, ht3, j0, j1⟩ := q
  obtain ⟨least, hle, hx⟩ := four_at (a := 0) (b := (m : Int) / 2) (c := (m : Int) / 2) (d := (m : Int) - (m : Int) / 4) j0 j1
  simp_arith! [mt8, hx]
  have hle0 : 0 ≤ least ∧ least ≤ m := by omega
  clear hle hx
  refine wp_mid (fun ρ => ∃ (rows : List Cmd) (live seen : List Int) (used : Nat) (t' : S) (x : Option S), ρ = [some t', some (.v (.int (m : Int))), some (.v (.int (w : Int))), some (iL names), some (iL live), some (.v (.tup false (iD (names.take used0)))), some (.v (.int (used : Nat))), some (iL seen), some (rowsS rows), some (.v (.int least)), x, none, none, none] ∧ Tape t' ∧ Good (names.take used0) rows live seen (names.take used) ∧ used ≤ names.length ∧ rows.length ≤ m) ?_ ?_
  · simp_arith! [gs_tape ht3, ao_tape ht3, fz_v]
    refine wp_call (ss := [t3, .v (.int ((m : Int) - least + 1))]) (by simp_arith! [gs_tape ht3]) rfl ((pick_t (n := n + 2) ht3 (by omega)).imp (fun r f q => ?_) fun _ _ q => q.elim)
    obtain ⟨i, t4, rfl, rfl, ht4, i0, i1⟩ := q
    simp_arith! [mt8, fz_v]
    obtain ⟨N, hN⟩ := Int.eq_ofNat_of_zero_le (a := least + i) (by omega)
    rw [hN, rng_1 (by unfold lineN; omega)]
    simp_arith! [eq_self]
    refine wp_for (fun r ρ => ∃ (rows : List Cmd) (live seen : List Int) (used : Nat) (t' : S) (x : Option S), ρ = [some t', some (.v (.int (m : Int))), some (.v (.int (w : Int))), some (iL names), some (iL live), some (.v (.tup false (iD (names.take used0)))), some (.v (.int (used : Nat))), some (iL seen), some (rowsS rows), some (.v (.int least)), x, none, none, none] ∧ Tape t' ∧ Good (names.take used0) rows live seen (names.take used) ∧ used ≤ names.length ∧ rows.length ≤ m) ⟨[], names.take used0, [], used0, t4, none, rfl, ht4, .nil (nd.sublist (List.take_sublist _ _)), hu, by simp⟩ ?_ ?_
    · rintro d r ρ ⟨rows, live, seen, used, t', x, rfl, ht', g, hus, hr⟩
      refine ⟨_, tg_1 (by show 10 < 14; omega), ?_⟩
      simp_arith! [eq_self]
      rw [wp_cons]
      simp_arith! [gs_r, bl_r]
      split
      · rename_i h4
        rw [wp_cons]
        simp_arith! [gs_tape ht', ao_tape ht', gs_i, ao_i, gs_r, ao_r]
        refine wp_call (ss := [t', rowsS rows, iL live, iL seen, iL names, .v (.int (used : Nat))]) (by simp_arith! [gs_tape ht', gs_i, gs_r]) rfl ((cmd_ok (n := n) ht' g hus nd (by omega) (by omega)).imp (fun r f q => ?_) fun _ _ q => q.elim)
        obtain ⟨rows', live', seen', used', t'', rfl, rfl, ht'', g', hus', hr'⟩ := q
        refine ⟨rows', live', seen', used', t'', _, rfl, ht'', g', hus', by omega⟩
      · exact ⟨rows, live, seen, used, t', _, rfl, ht', g, hus, hr⟩
    · rintro ρ h
      exact h
  · rintro ρ ⟨rows, live, seen, used, t', x, rfl, ht', g, hus, hr⟩
    have tl : (names.take used).length ≤ 16 := by rw [List.length_take]; omega
    have al := g.all.length_eq
    rw [List.length_append] at al
    rw [wp_cons]
    simp_arith! [eq_self]
    refine wp_mid (fun ρ => ∃ (outs : List Int) (t2 : S) (x y z : Option S), ρ = [some t2, some (.v (.int (m : Int))), some (.v (.int (w : Int))), some (iL names), y, some (.v (.tup false (iD (names.take used0)))), some (.v (.int (used : Nat))), some (iL seen), some (rowsS rows), some (.v (.int least)), x, some (iL outs), z, none] ∧ Tape t2 ∧ outs.Perm live) ?_ ?_
    · simp_arith! [gs_i, bl_i, fz_v]
      rw [rng_1 (by unfold lineN; omega)]
      simp_arith! [eq_self]
      refine wp_for (fun r ρ => ∃ (outs left : List Int) (t2 : S) (z : Option S), ρ = [some t2, some (.v (.int (m : Int))), some (.v (.int (w : Int))), some (iL names), some (iL left), some (.v (.tup false (iD (names.take used0)))), some (.v (.int (used : Nat))), some (iL seen), some (rowsS rows), some (.v (.int least)), x, some (iL outs), z, none] ∧ Tape t2 ∧ (outs ++ left).Perm live ∧ left.length = r.length) ⟨[], live, t', none, rfl, ht', .refl _, by simp⟩ ?_ ?_
      · rintro d r ρ ⟨outs, left, t2, z, rfl, ht2, hp, hl⟩
        have hpl := hp.length_eq
        rw [List.length_append] at hpl
        rw [List.length_cons] at hl
        refine ⟨_, tg_1 (by show 12 < 14; omega), ?_⟩
        simp_arith! [eq_self]
        rw [wp_cons]
        simp_arith! [gs_i, pget, mo_i, gs_tape ht2, ao_tape ht2, bl_i]
        refine wp_call (ss := [t2, .v (.int ((left.length : Nat) : Int))]) (by simp_arith! [gs_tape ht2]) rfl ((pick_t (n := n + 2) ht2 (by omega)).imp (fun r f q => ?_) fun _ _ q => q.elim)
        obtain ⟨k, t3, rfl, rfl, ht3, k0, k1⟩ := q
        obtain ⟨v, hv, hv2⟩ := pop_i (l := left) k0 (by omega) (by omega)
        simp_arith! [mt8]
        rw [mu_r (s := iL left) (t := iL left) (t' := iL (left.eraseIdx k.toNat)) (s' := iL (left.eraseIdx k.toNat)) rfl rfl hv rfl]
        simp_arith! [eq_self]
        rw [mu_r (s := iL outs) (t := iL outs) (t' := iL (outs ++ [v])) (s' := iL (outs ++ [v])) rfl rfl (ap_i (by unfold lineN; omega)) rfl]
        simp_arith! [eq_self]
        have hkl : k.toNat < left.length := by omega
        refine ⟨_, _, t3, _, rfl, ht3, ?_, by rw [List.length_eraseIdx_of_lt hkl]; omega⟩
        refine List.Perm.trans ?_ hp
        rw [List.append_assoc]
        refine List.Perm.append_left _ ?_
        have e : left[k.toNat] = v := by rw [List.getElem?_eq_getElem hkl] at hv2; exact Option.some.inj hv2
        have := cons_er hkl
        rw [e] at this
        exact this
      · rintro ρ ⟨outs, left, t2, z, rfl, ht2, hp, hl⟩
        have : left = [] := List.length_eq_zero_iff.mp hl
        subst this
        rw [List.append_nil] at hp
        exact ⟨outs, t2, _, _, _, rfl, ht2, hp⟩
    · rintro ρ ⟨outs, t2, x, y, z, rfl, ht2, hp⟩
      have hpl := hp.length_eq
      rw [wp_cons]
      simp_arith! [gs_i, gs_r, tu_i, tu_r, sq_i, fz_v]
      refine wp_lcR (wp_lcGo (fun r acc ρ => ∃ (t3 : S) (q : Option S) (turns : List Int), ρ = [some t3, some (.v (.int (m : Int))), some (.v (.int (w : Int))), some (iL names), y, none, some (.v (.int (used : Nat))), some (iL seen), some (rowsS rows), some (.v (.int least)), x, some (iL outs), z, q] ∧ Tape t3 ∧ acc = iD turns ∧ turns.length + r.length = outs.length) ?_ ?_ ⟨t2, none, [], rfl, ht2, rfl, by simp⟩)
      · rintro d r acc ρ ⟨t3, q, turns, rfl, ht3, rfl, hl⟩
        rw [List.length_cons] at hl
        refine ⟨_, tg_1 (by show 13 < 14; omega), ?_⟩
        simp_arith! [gs_tape ht3, ao_tape ht3]
        refine wp_call (ss := [t3, .v (.int 8)]) (by simp_arith! [gs_tape ht3]) rfl ((pick_t (n := n + 2) ht3 (by omega)).imp (fun r f q => ?_) fun _ _ q => q.elim)
        obtain ⟨k, t4, rfl, rfl, ht4, k0, k1⟩ := q
        simp_arith! [mt8]
        exact ⟨t4, _, turns ++ [k], rfl, ht4, by unfold iD; rw [List.map_append]; rfl, by rw [List.length_append]; simp; omega⟩
      · rintro acc ρ ⟨t3, q, turns, rfl, ht3, rfl, hl⟩
        have hl : turns.length = outs.length := by simpa using hl
        refine ⟨by rw [List.length_map]; unfold lineN; omega, ?_⟩
        rw [show S.lst ((iD turns).map S.v) = iL turns from rfl]
        simp_arith! [tu_i, fz_v]
        refine ⟨_, fin_0 ht3, ⟨names.take used0, outs, rows, turns⟩, live, seen, names.take used, t3, rfl, rfl, ht3, ⟨g, hp, hl, by rw [List.length_take]; show _ ≤ 100; omega, by show rows.length ≤ 60; omega, by omega, fun d m => ?_⟩, tl⟩
        exact rg d (List.mem_of_mem_take m)
end K46
/-! Vs6 -/
namespace Vm
variable {C : Cal} {U : Rules} {ρ : Fr} {α β : Type}
/-- for x in l: what holds of what was gone through -/
theorem wp_forL {i : Nat} {body : Fr → RF} {P : Fl → Fr → Prop} {E : Ex → Fr → Prop} (f : α → D) (l : List α) (I : List α → Fr → Prop) (hi : ∀ a ρ, I a ρ → i < ρ.length) (h0 : I [] ρ)
    (step : ∀ a x b ρ, l = a ++ x :: b → I a ρ → Wp (body (ρ.set i (some (.v (f x))))) (fun q ρ => match q with
      | .nx => I (a ++ [x]) ρ
      | .cnt => I (a ++ [x]) ρ
      | .brk => P .nx ρ
      | .ret s => P (.ret s) ρ) E) (done : ∀ ρ, I l ρ → P .nx ρ) : Wp (loopGo [i] body (l.map f) ρ) P E := by
  refine wp_for (fun r ρ => ∃ a b, l = a ++ b ∧ r = b.map f ∧ I a ρ) ⟨[], l, rfl, rfl, h0⟩ ?_ ?_
  · rintro d r ρ ⟨a, b, e1, e2, h⟩
    cases b with
    | nil => cases e2
    | cons x b =>
      rw [List.map_cons] at e2
      obtain ⟨rfl, rfl⟩ := List.cons.inj e2
      refine ⟨_, tg_1 (hi a ρ h), (step a x b ρ e1 h).imp (fun q ρ h => ?_) fun _ _ h => h⟩
      cases q with
      | nx => exact ⟨a ++ [x], b, by rw [e1]; simp, rfl, h⟩
      | cnt => exact ⟨a ++ [x], b, by rw [e1]; simp, rfl, h⟩
      | brk => exact h
      | ret s => exact h
  · rintro ρ ⟨a, b, e1, e2, h⟩
    have : b = [] := List.map_eq_nil_iff.mp e2.symm
    subst this
    rw [List.append_nil] at e1
    subst e1
    exact done ρ h
/-- for k in range(N) -/
theorem wp_forN {i N : Nat} {body : Fr → RF} {P : Fl → Fr → Prop} {E : Ex → Fr → Prop} (I : Nat → Fr → Prop) (hi : ∀ a ρ, I a ρ → i < ρ.length) (h0 : I 0 ρ)
    (step : ∀ (k : Nat) ρ, k < N → I k ρ → Wp (body (ρ.set i (some (.v (.int (k : Nat)))))) (fun q ρ => match q with
      | .nx => I (k + 1) ρ
      | .cnt => I (k + 1) ρ
      | .brk => P .nx ρ
      | .ret s => P (.ret s) ρ) E) (done : ∀ ρ, I N ρ → P .nx ρ) : Wp (loopGo [i] body ((List.range N).map fun j => D.int (j : Nat)) ρ) P E := by
  refine wp_forL (fun j : Nat => D.int (j : Nat)) (List.range N) (fun a ρ => I a.length ρ) (fun a ρ h => hi _ ρ h) h0 (fun a x b ρ e h => ?_) (fun ρ h => ?_)
  · have hx : x = a.length ∧ a.length < N := by
      have h1 := congrArg List.length e
      rw [List.length_range, List.length_append, List.length_cons] at h1
      have h2 : (List.range N)[a.length]? = some x := by rw [e, List.getElem?_append_right (Nat.le_refl _), Nat.sub_self]; rfl
      rw [List.getElem?_range (by omega)] at h2
      exact ⟨(Option.some.inj h2).symm, by omega⟩
    obtain ⟨rfl, hN⟩ := hx
    refine (step a.length ρ hN h).imp (fun q ρ h => ?_) fun _ _ h => h
    cases q with
    | nx => rw [List.length_append]; exact h
    | cnt => rw [List.length_append]; exact h
    | brk => exact h
    | ret s => exact h
  · rw [List.length_range] at h
    exact done ρ h
/-- a comprehension with calls that change a slot: what holds of what was gone through -/
theorem wp_lcL {i : Nat} {tst : Fr → R Bool} {el : Fr → R S} {P : S → Fr → Prop} {E : Ex → Fr → Prop} (f : α → D) (l : List α) (I : List α → List D → Fr → Prop) (hi : ∀ a acc ρ, I a acc ρ → i < ρ.length) (h0 : I [] [] ρ) (hn : l.length ≤ lineN)
    (step : ∀ a x b acc ρ, l = a ++ x :: b → I a acc ρ → Wp (tst (ρ.set i (some (.v (f x))))) (fun t ρ2 => if t = true then Wp (el ρ2) (fun s ρ3 => ∃ y, s = .v y ∧ I (a ++ [x]) (acc ++ [y]) ρ3) NoE else I (a ++ [x]) acc ρ2) NoE) (ha : ∀ a acc ρ, I a acc ρ → acc.length ≤ a.length) (done : ∀ acc ρ', I l acc ρ' → P (.lst (acc.map S.v)) (unset [i] ρ ρ')) : Wp (lcR [i] ρ (lcGo [i] tst el (l.map f) ρ [])) P E := by
  refine wp_lcR (wp_lcGo (fun r acc ρ => ∃ a b, l = a ++ b ∧ r = b.map f ∧ I a acc ρ) ?_ ?_ ⟨[], l, rfl, rfl, h0⟩)
  · rintro d r acc ρ ⟨a, b, e1, e2, h⟩
    cases b with
    | nil => cases e2
    | cons x b =>
      rw [List.map_cons] at e2
      obtain ⟨rfl, rfl⟩ := List.cons.inj e2
      refine ⟨_, tg_1 (hi a acc ρ h), (step a x b acc ρ e1 h).imp (fun t ρ2 h => ?_) fun _ _ h => h⟩
      by_cases ht : t = true
      · rw [if_pos ht] at h ⊢
        refine h.imp (fun s ρ3 ⟨y, e, h⟩ => ⟨y, e, a ++ [x], b, by rw [e1]; simp, rfl, h⟩) fun _ _ h => h
      · rw [if_neg ht] at h ⊢
        exact ⟨a ++ [x], b, by rw [e1]; simp, rfl, h⟩
  · rintro acc ρ' ⟨a, b, e1, e2, h⟩
    have : b = [] := List.map_eq_nil_iff.mp e2.symm
    subst this
    rw [List.append_nil] at e1
    subst e1
    exact ⟨Nat.le_trans (ha _ _ _ h) hn, done acc ρ' h⟩
/-- a call of a def of the table -/
theorem wp_callR {T : Tab} {n f : Nat} {as : List Arg} {ss : List S} {P : S → Fr → Prop} {E : Ex → Fr → Prop} (h1 : argS ρ as = some ss) (h2 : distinct (lends as) = true) (h : Rn (run T n f ss) (fun r fin => P r (putBack as ((T.cal (run T n)).mt f) fin ρ)) fun e fin => E e (putBack as ((T.cal (run T n)).mt f) fin ρ)) : Wp (doCall (T.cal (run T n)) f as ρ) P E := wp_call h1 h2 h
theorem D.sames_refl : ∀ {l : List D}, (∀ d ∈ l, D.same d d = true) → D.sames l l = true
  | [], _ => rfl
  | d :: l, h => by
    show (D.same d d && D.sames l l) = true
    rw [h d List.mem_cons_self, D.sames_refl fun d m => h d (List.mem_cons_of_mem _ m)]
    rfl
mutual
theorem D.same_refl : ∀ (d : D), D.same d d = true
  | .non => rfl
  | .bl b => by show (b == b) = true; simp
  | .int i => by show (i == i) = true; simp
  | .str x => by show (x == x) = true; simp
  | .tup k l => D.sames_refl' l
  | .fls l => D.sames_refl' l
  | .fdc t ks vs => by
    show (t == t && D.sames ks ks && D.sames vs vs) = true
    rw [D.sames_refl' ks, D.sames_refl' vs]; simp
theorem D.sames_refl' : ∀ (l : List D), D.sames l l = true
  | [] => rfl
  | d :: l => by
    show (D.same d d && D.sames l l) = true
    rw [D.same_refl d, D.sames_refl' l]
    rfl
end
end Vm
/-! Kmo -/
namespace K46
open PySem Vm
structure PartOk (a : Ac) : Prop where
  nd : a.dots.Nodup
  dl : a.dots.length ≤ 16
  rg : ∀ d ∈ a.dots, 0 ≤ d ∧ d < 10000
  wl : a.waits.length = a.looked.length
  wb : ∀ l ∈ a.waits, l.length ≤ 16
  ow : OkD 3 a.web
  oa : OkD 2 a.angles
  ol : a.outs.length ≤ 100
theorem OkD.mono : ∀ {n : Nat} {d : D}, OkD n d → OkD (n + 1) d
  | n, .int _, _ => by cases n <;> trivial
  | n, .str _, _ => by cases n <;> trivial
  | n + 1, .tup _ l, h => ⟨h.1, fun d m => (h.2 d m).mono⟩
  | 0, .tup _ _, h => h.elim
  | 0, .non, h => h.elim
  | 0, .bl _, h => h.elim
  | 0, .fls _, h => h.elim
  | 0, .fdc _ _ _, h => h.elim
  | n + 1, .non, h => h.elim
  | n + 1, .bl _, h => h.elim
  | n + 1, .fls _, h => h.elim
  | n + 1, .fdc _ _ _, h => h.elim
theorem OkD.add {n k : Nat} {d : D} (h : OkD n d) : OkD (n + k) d := by
  induction k with
  | zero => exact h
  | succ k ih => exact ih.mono
theorem okInt {n : Nat} {i : Int} : OkD n (.int i) := by cases n <;> trivial
theorem okI {n : Nat} {k : Bool} {l : List Int} (h : l.length ≤ 1000) : OkD (n + 1) (.tup k (iD l)) := by
  refine ⟨by rw [List.length_map]; exact h, fun d m => ?_⟩
  obtain ⟨z, _, rfl⟩ := List.mem_map.mp m
  exact okInt
theorem okPr {n : Nat} {k : Bool} {l : List (Int × Int)} (h : l.length ≤ 1000) : OkD (n + 2) (.tup k (l.map prD)) := by
  refine ⟨by rw [List.length_map]; exact h, fun d m => ?_⟩
  obtain ⟨z, _, rfl⟩ := List.mem_map.mp m
  refine ⟨by show 2 ≤ 1000; omega, fun e m => ?_⟩
  rcases List.mem_cons.mp m with rfl | m
  · exact okInt
  · rw [List.mem_singleton.mp m]; exact okInt
/-- the same -/
theorem same_r {n m : Nat} {d : D} (h : OkD n d) (hm : n < m) : Rn (run T m 9 [.v d, .v d]) (fun r f => r = .v (.bl true) ∧ f = []) NoX := by
  obtain ⟨k, rfl⟩ : ∃ k, m = n + k + 1 := ⟨m - n - 1, by omega⟩
  exact same_ok (h.add (k := k)) (D.same_refl d)
section
variable {a : Ac}
theorem ix_d0 : getIx (.v a.d) (.v (.int 0)) = some (.v a.web) := rfl
theorem ix_d1 : getIx (.v a.d) (.v (.int 1)) = some (.v a.angles) := rfl
theorem ix_d2 : getIx (.v a.d) (.v (.int 2)) = some (.v (.tup false (a.waits.map fun l => .tup false (iD l)))) := rfl
theorem ix_w0 : getIx (.v a.web) (.v (.int 0)) = some (.v (.tup false (iD a.dots))) := rfl
theorem ix_w3 : getIx (.v a.web) (.v (.int 3)) = some (.v (.tup false (iD a.outs))) := rfl
theorem ix_wt {l : List (List Int)} {k : Nat} {w : List Int} (h : l[k]? = some w) : getIx (.v (.tup false (l.map fun l => .tup false (iD l)))) (.v (.int (k : Nat))) = some (.v (.tup false (iD w))) := by
  rw [ix_t, at_nat, List.getElem?_map, h]
  rfl
theorem ix_iN {l : List Int} {k : Nat} {w : Int} (h : l[k]? = some w) : getIx (iL l) (.v (.int (k : Nat))) = some (.v (.int w)) := by
  unfold iL
  rw [ix_l, at_nat, List.getElem?_map, List.getElem?_map, h]
  rfl
end
theorem gs_L {l : List D} {r : Fr} : getS (some (.lst (l.map S.v)) :: r) 0 = some (.lst (l.map S.v)) := rfl
theorem ad_D {l m : List D} (h : l.length + m.length ≤ lineN) : op2 .add (.lst (l.map S.v)) (.lst (m.map S.v)) = some (.lst ((l ++ m).map S.v)) := by
  show (if (decide (Op2.add = .add) && decide ((l.map S.v).length + (m.map S.v).length ≤ lineN)) = true then match ds? (l.map S.v), ds? (m.map S.v) with
      | some l, some m => some (S.lst ((l ++ m).map S.v))
      | _, _ => none
    else none) = _
  rw [List.length_map, List.length_map, ds_v, ds_v, if_pos (by simpa using h)]
theorem arrL_len : ∀ {l : List (Int × List Int)}, (∀ q ∈ l, q.2.length ≤ 16) → (arrL l).length ≤ 16 * l.length
  | [], _ => by simp [arrL]
  | q :: l, h => by
    have h1 := arrL_len fun q m => h q (List.mem_cons_of_mem _ m)
    have h2 := h q List.mem_cons_self
    have e : arrL (q :: l) = (q.2.map fun one => (one, q.1)) ++ arrL l := by simp [arrL]
    rw [e, List.length_append, List.length_map, List.length_cons]
    omega
theorem arrL_snoc {l : List (Int × List Int)} {q : Int × List Int} : arrL (l ++ [q]) = arrL l ++ q.2.map fun one => (one, q.1) := by simp [arrL]
theorem rng_20 {ρ : Fr} : rngR [.int 20] ρ = .ok ((List.range 20).map fun j => D.int (j : Nat)) ρ := rng_1 (k := 20) (by unfold lineN; omega)
theorem li_i {l : List Int} : bi .list [iL l] = some (iL l) := by
  show (seqD (iL l)).map (fun l => S.lst (l.map S.v)) = _
  rw [sq_i]
  rfl
theorem mt5 {cf : Nat → List S → Out} : (T.cal cf).mt 5 = [] := rfl
theorem mt7 {cf : Nat → List S → Out} : (T.cal cf).mt 7 = [] := rfl
theorem mt18 {cf : Nat → List S → Out} : (T.cal cf).mt 18 = [] := rfl
theorem mt19 {cf : Nat → List S → Out} : (T.cal cf).mt 19 = [] := rfl
theorem fz_iL {l : List Int} : fzD (iL l) = some (.fls (iD l)) := by
  show (ds? ((iD l).map S.v)).map D.fls = _
  rw [ds_v]
  rfl
theorem cut_01 {l : List Int} : cut l none (some 1) = l.take (min 1 l.length) := cut_0 (by omega)
def oddL (x : Int) (l : List Int) : List D := [.non, .bl true, .bl false, .str "0", .int (-1), .int 10000, .int x, .tup false (iD (cut l none (some 1))), .fls (iD (cut l none (some 1)))]
def Bad (a : Ac) (d : D) : Prop := noDc d = true ∧ (isN d = false ∨ ∃ k, d = .int k ∧ k ∉ a.looked)
theorem odd_bad {a : Ac} (ok : PartOk a) {x : Int} (hx : x ∉ a.dots) : ∀ d ∈ oddL x a.looked ++ iD a.outs, Bad a d := by
  have nl : ∀ {k}, k ∉ a.dots → k ∉ a.looked := fun h m => h (List.mem_filter.mp m).1
  intro d m
  rcases List.mem_append.mp m with m | m
  · simp only [oddL, List.mem_cons, List.not_mem_nil, or_false] at m
    rcases m with rfl | rfl | rfl | rfl | rfl | rfl | rfl | rfl | rfl
    · exact ⟨rfl, .inl rfl⟩
    · exact ⟨rfl, .inl rfl⟩
    · exact ⟨rfl, .inl rfl⟩
    · exact ⟨rfl, .inl rfl⟩
    · exact ⟨rfl, .inl rfl⟩
    · refine ⟨rfl, .inr ⟨_, rfl, nl fun m => ?_⟩⟩
      have := ok.rg _ m
      omega
    · exact ⟨rfl, .inr ⟨_, rfl, nl hx⟩⟩
    · exact ⟨rfl, .inl rfl⟩
    · exact ⟨rfl, .inl rfl⟩
  · obtain ⟨k, mk, rfl⟩ := List.mem_map.mp m
    refine ⟨rfl, .inr ⟨k, rfl, fun m => ?_⟩⟩
    have := (List.mem_filter.mp m).2
    rw [List.contains_iff_mem.mpr mk] at this
    cases this
def absL (a : Ac) : List Int := ((List.range 20).map fun j : Nat => (j : Int)).filter fun d => !a.dots.contains d
theorem abs_ne {a : Ac} (ok : PartOk a) : 0 < (absL a).length := by
  apply List.length_pos_iff.mpr
  intro q
  unfold absL at q
  rw [List.filter_eq_nil_iff] at q
  have nd : ((List.range 20).map fun j : Nat => (j : Int)).Nodup := by decide +kernel
  have := nd_len nd (b := a.dots) fun k m => by
    have := q k m
    simpa using this
  rw [List.length_map, List.length_range] at this
  have := ok.dl
  omega
theorem parts_ok {n : Nat} {a : Ac} (ok : PartOk a) : Rn (run T (n + 8) 19 [.v a.d]) (fun r f => r = .v (.bl true) ∧ f = []) NoX := by
  have dl := ok.dl
  have lkl : a.looked.length ≤ 16 := Nat.le_trans (List.length_filter_le _ _) ok.dl
  have lkn : a.looked.Nodup := ok.nd.filter _
  have arl : a.arrows.length ≤ 16 * 16 := by
    have h1 := arrL_len (l := a.looked.zip a.waits) fun q m => ok.wb _ (List.of_mem_zip m).2
    rw [List.length_zip] at h1
    unfold Ac.arrows
    have := ok.wl
    omega
  have okP : OkD 4 (.tup true [a.web, a.angles]) := by
    refine ⟨by show 2 ≤ 1000; omega, fun e m => ?_⟩
    rcases List.mem_cons.mp m with rfl | m
    · exact ok.ow
    · rw [List.mem_singleton.mp m]; exact ok.oa.mono
  obtain ⟨X, hX⟩ : ∃ X, X = D.tup true [a.web, a.angles] := ⟨_, rfl⟩
  rw [← hX] at okP
  have h47 : 4 < n + 7 := by omega
  have hP := same_r (m := n + 7) okP h47
  have okA : OkD 2 (.tup false ((sortP a.arrows).map prD)) := okPr (n := 0) (by rw [(sortP_perm _).length_eq]; omega)
  have hA := same_r (m := n + 7) okA (Nat.lt_of_le_of_lt (by decide) h47)
  refine run_wp (fn := f19) rfl rfl ?_
  show Wp (Vm.execs _ _ b19 [some (.v a.d), none, none, none, none, none, none, none, none, none]) _ _
  unfold b19
  rw [wp_cons]
  simp_arith! [ix_d0]
  rw [wp_cons]
  simp_arith! [ix_w0, seq_t]
  refine wp_lcF (fun d => match d with
    | .int k => !a.outs.contains k
    | _ => false) (fun d => d) (by show 8 < 10; omega) (fun d md => ?_) (fun d md _ => ?_) (by rw [List.length_map]; unfold lineN; omega) ?_
  · obtain ⟨k, mk, rfl⟩ := List.mem_map.mp md
    simp_arith! [ix_w3, in_iD]
    cases a.outs.contains k with
    | true => exact ⟨rfl, trivial⟩
    | false => exact ⟨rfl, trivial⟩
  · simp_arith! [eq_self]
    exact ⟨trivial, trivial⟩
  rw [List.map_id']
  rw [show S.lst (((iD a.dots).filter (fun d => match d with
    | .int k => !a.outs.contains k
    | _ => false)).map S.v) = iL a.looked by unfold iL iD Ac.looked; rw [List.filter_map]; rfl]
  simp_arith! [eq_self]
  rw [wp_cons]
  simp_arith! [eq_self]
  refine wp_mid (fun ρ => ∃ x, ρ = [some (.v a.d), some (.v a.web), some (iL a.looked), some (.lst ((a.arrows.map prD).map S.v)), x, none, none, none, none, none]) ?_ ?_
  · simp_arith! [gs_i, bl_i, fz_v]
    rw [rng_1 (by unfold lineN; omega)]
    simp_arith! [eq_self]
    refine wp_forN (fun k ρ => ∃ x, ρ = [some (.v a.d), some (.v a.web), some (iL a.looked), some (.lst (((arrL ((a.looked.zip a.waits).take k)).map prD).map S.v)), x, none, none, none, none, none]) (fun k ρ ⟨x, h⟩ => by rw [h]; show 4 < 10; omega) ⟨none, rfl⟩ ?_ ?_
    · rintro k ρ hk ⟨x, rfl⟩
      have hkw : k < a.waits.length := by rw [ok.wl]; exact hk
      have h1 : a.looked[k]? = some a.looked[k] := List.getElem?_eq_getElem hk
      have h2 : a.waits[k]? = some a.waits[k] := List.getElem?_eq_getElem hkw
      have h3 := (ok.rg _ (List.mem_filter.mp (List.getElem_mem hk)).1).1
      have h4 := ok.wb _ (List.getElem_mem hkw)
      generalize a.looked[k] = dot at h1 h3
      generalize a.waits[k] = w at h2 h4
      simp_arith! [eq_self]
      rw [wp_cons]
      simp_arith! [gs_i, ix_d2, ix_iN h1, ix_wt h2]
      refine wp_callR (ss := [.v a.d, .v (.int dot)]) rfl rfl ((wait_ok (n := n + 4) (by omega) lkn h1 h3 h2).imp (fun r f q => ?_) fun _ _ q => q.elim)
      obtain ⟨rfl, rfl⟩ := q
      simp_arith! [mt6, gs_i, ix_d2, ix_iN h1, ix_wt h2]
      refine wp_callR (ss := [.v (.tup false (iD w)), .v (.tup false (iD w))]) rfl rfl ((same_r (n := 1) (okI (n := 0) (by omega)) (by omega)).imp (fun r f q => ?_) fun _ _ q => q.elim)
      obtain ⟨rfl, rfl⟩ := q
      simp_arith! [mt9, Bool.not_true]
      rw [wp_cons]
      simp_arith! [gs_i, ix_d2, ix_iN h1, ix_wt h2]
      show Wp (doCall _ 6 [.t (.v a.d), .t (.v (.int dot))] _) _ _
      refine wp_callR (ss := [.v a.d, .v (.int dot)]) rfl rfl ((wait_ok (n := n + 4) (by omega) lkn h1 h3 h2).imp (fun r f q => ?_) fun _ _ q => q.elim)
      obtain ⟨rfl, rfl⟩ := q
      simp_arith! [mt6, gs_i, ix_d2, ix_iN h1, ix_wt h2]
      refine wp_callR (ss := [.v (.tup false (iD w)), .v (.tup false (iD w))]) rfl rfl ((same_r (n := 1) (okI (n := 0) (by omega)) (by omega)).imp (fun r f q => ?_) fun _ _ q => q.elim)
      obtain ⟨rfl, rfl⟩ := q
      simp_arith! [mt9, Bool.not_true]
      rw [wp_cons]
      simp_arith! [gs_L, gs_i, ix_d2, ix_iN h1, ix_wt h2, seq_t]
      refine wp_lcM (fun d => .tup true [d, .int dot]) (by show 9 < 10; omega) (fun d md => ?_) (by rw [List.length_map]; unfold lineN; omega) ?_
      · simp_arith! [gs_i, ix_iN h1, fz_v]
        exact ⟨trivial, trivial⟩
      have e : arrL ((a.looked.zip a.waits).take (k + 1)) = arrL ((a.looked.zip a.waits).take k) ++ w.map fun one => (one, dot) := by
        rw [List.take_add_one, show (a.looked.zip a.waits)[k]? = some (dot, w) from List.getElem?_zip_eq_some.mpr ⟨h1, h2⟩]
        exact arrL_snoc
      have e2 : (iD w).map (fun d => D.tup true [d, .int dot]) = (w.map fun one => (one, dot)).map prD := by unfold iD; rw [List.map_map, List.map_map]; rfl
      have hb : (arrL ((a.looked.zip a.waits).take k)).length ≤ 16 * 16 := by
        have h1 := arrL_len (l := (a.looked.zip a.waits).take k) fun q m => ok.wb _ (List.of_mem_zip (List.mem_of_mem_take m)).2
        have h2 : ((a.looked.zip a.waits).take k).length ≤ 16 := by rw [List.length_take, List.length_zip]; omega
        omega
      rw [e2, ad_D (by rw [List.length_map, List.length_map, List.length_map]; unfold lineN; omega)]
      simp_arith! [eq_self]
      refine ⟨some (.v (.int (k : Nat))), ?_⟩
      simp only [e, List.map_append]
    · rintro ρ ⟨x, rfl⟩
      refine ⟨x, ?_⟩
      rw [show (a.looked.zip a.waits).take a.looked.length = a.looked.zip a.waits from List.take_of_length_le (by rw [List.length_zip]; omega)]
      rfl
  rintro ρ ⟨x4, rfl⟩
  rw [wp_cons]
  simp_arith! [ix_d1, fz_v]
  rw [← hX]
  rw [wp_cons]
  simp_arith! [eq_self]
  refine wp_callR (ss := [.v a.d]) rfl rfl ((plan_ok (n := n + 6) (a := a)).imp (fun r f q => ?_) fun _ _ q => q.elim)
  obtain ⟨rfl, rfl⟩ := q
  rw [← hX]
  simp_arith! [mt5]
  refine wp_callR (ss := [.v (X), .v (X)]) rfl rfl (hP.imp (fun r f q => ?_) fun _ _ q => q.elim)
  obtain ⟨rfl, rfl⟩ := q
  simp_arith! [mt9, Bool.not_true]
  show Wp (doCall _ 5 [.t (.v a.d)] _) _ _
  refine wp_callR (ss := [.v a.d]) rfl rfl ((plan_ok (n := n + 6) (a := a)).imp (fun r f q => ?_) fun _ _ q => q.elim)
  obtain ⟨rfl, rfl⟩ := q
  rw [← hX]
  simp_arith! [mt5]
  refine wp_callR (ss := [.v (X), .v (X)]) rfl rfl (hP.imp (fun r f q => ?_) fun _ _ q => q.elim)
  obtain ⟨rfl, rfl⟩ := q
  simp_arith! [mt9, Bool.not_true]
  rw [wp_cons]
  simp_arith! [eq_self]
  refine wp_callR (ss := [.v a.d]) rfl rfl ((arrows_ok (n := n + 5) (by omega) (by omega)).imp (fun r f q => ?_) fun _ _ q => q.elim)
  obtain ⟨rfl, rfl⟩ := q
  simp_arith! [mt7, gs_L, so_pp, tu_d]
  refine wp_callR (ss := [.v (.tup false ((sortP a.arrows).map prD)), .v (.tup false ((sortP a.arrows).map prD))]) rfl rfl (hA.imp (fun r f q => ?_) fun _ _ q => q.elim)
  obtain ⟨rfl, rfl⟩ := q
  simp_arith! [mt9, Bool.not_true]
  rw [wp_cons]
  simp_arith! [fz_v]
  rw [rng_20]
  simp_arith! [eq_self]
  refine wp_lcF (fun d => match d with
    | .int k => !a.dots.contains k
    | _ => false) (fun d => d) (by show 8 < 10; omega) (fun d md => ?_) (fun d md _ => ?_) (by rw [List.length_map]; unfold lineN; simp) ?_
  · obtain ⟨k, mk, rfl⟩ := List.mem_map.mp md
    simp_arith! [ix_w0, in_iD]
    cases a.dots.contains (k : Int) with
    | true => exact ⟨rfl, trivial⟩
    | false => exact ⟨rfl, trivial⟩
  · simp_arith! [eq_self]
    exact ⟨trivial, trivial⟩
  rw [List.map_id']
  rw [show S.lst ((((List.range 20).map fun j => D.int (j : Nat)).filter (fun d => match d with
    | .int k => !a.dots.contains k
    | _ => false)).map S.v) = iL (absL a) by unfold iL iD absL; simp only [List.filter_map, List.map_map]; rfl]
  simp_arith! [eq_self]
  obtain ⟨x, mx, hx, _⟩ := at_iL (l := absL a) (k := 0) (by omega) (by have := abs_ne ok; omega)
  have hxd : x ∉ a.dots := fun m => by
    have := (List.mem_filter.mp mx).2
    rw [List.contains_iff_mem.mpr m] at this
    cases this
  refine wp_mid (fun ρ => ρ = [some (.v a.d), some (.v a.web), some (iL a.looked), some (.lst ((a.arrows.map prD).map S.v)), x4, some (.v X), some (iL (absL a)), some (.lst ((oddL x a.looked).map S.v)), none, none]) ?_ ?_
  · simp_arith! [gs_L, gs_i, hx, S.i?, cut_i, tu_i, li_i, fz_iL, fz_v]
    rfl
  rintro ρ rfl
  refine wp_mid (fun ρ => ∃ y, ρ = [some (.v a.d), some (.v a.web), some (iL a.looked), some (.lst ((a.arrows.map prD).map S.v)), x4, some (.v X), some (iL (absL a)), some (.lst ((oddL x a.looked).map S.v)), y, none]) ?_ ?_
  · simp_arith! [gs_L, gs_i, ix_w3, li_t]
    rw [show iL a.outs = .lst ((iD a.outs).map S.v) from rfl, ad_D (by have := ok.ol; rw [List.length_map]; show 9 + a.outs.length ≤ _; unfold lineN; omega)]
    simp_arith! [seq_l]
    refine wp_for (fun r ρ => (∀ d ∈ r, Bad a d) ∧ ∃ y, ρ = [some (.v a.d), some (.v a.web), some (iL a.looked), some (.lst ((a.arrows.map prD).map S.v)), x4, some (.v X), some (iL (absL a)), some (.lst ((oddL x a.looked).map S.v)), y, none]) ⟨odd_bad ok hxd, none, rfl⟩ ?_ ?_
    · rintro d r ρ ⟨hb, y, rfl⟩
      refine ⟨_, tg_1 (by show 8 < 10; omega), ?_⟩
      obtain ⟨b1, b2⟩ := hb d List.mem_cons_self
      simp_arith! [eq_self]
      rw [wp_cons]
      simp_arith! [eq_self]
      refine wp_callR (ss := [.v a.d, .v d]) rfl rfl ((ref_ok (n := n + 3) (by omega) b1 b2).imp (fun r f q => ?_) fun _ _ q => q.elim)
      obtain ⟨rfl, rfl⟩ := q
      simp_arith! [mt18, Bool.not_true]
      exact ⟨fun d m => hb d (List.mem_cons_of_mem _ m), _, rfl⟩
    · rintro ρ ⟨_, h⟩
      exact h
  rintro ρ ⟨y, rfl⟩
  rw [wp_cons]
  simp_arith! [eq_self]
  show Wp (doCall _ 7 [.t (.v a.d)] _) _ _
  refine wp_callR (ss := [.v a.d]) rfl rfl ((arrows_ok (n := n + 5) (by omega) (by omega)).imp (fun r f q => ?_) fun _ _ q => q.elim)
  obtain ⟨rfl, rfl⟩ := q
  simp_arith! [mt7, gs_L, so_pp, tu_d]
  refine wp_callR (ss := [.v (.tup false ((sortP a.arrows).map prD)), .v (.tup false ((sortP a.arrows).map prD))]) rfl rfl (hA.imp (fun r f q => ?_) fun _ _ q => q.elim)
  obtain ⟨rfl, rfl⟩ := q
  simp_arith! [mt9]
  exact ⟨_, rfl, trivial, rfl⟩
end K46
/-! Kmp -/
namespace K46
open PySem Vm
/-- the account as parts -/
def acP (p : Prog) : Ac := ⟨dotsP p, .tup false ((tiesD p).map prD), .tup false (iD p.ins), p.outs, .tup false (iD ((dotsP p).map (at0 (turnP p)))), (lookedP p).map fun dot => (lookedP p).filter fun k => decide (at0 (partT 1 (trP p k)) dot = 1), .tup false (whoL p 2 p.outs), .tup false (whoL p 3 p.outs)⟩
theorem acP_d {p : Prog} : (acP p).d = dueA p := by
  unfold acP Ac.d dueA Ac.web webD whoL
  dsimp only
  rw [List.map_map]
  rfl
variable {p : Prog} {live sn al : List Int}
theorem acP_looked (g : GP p live sn al) : (acP p).looked = lookedP p := by
  show (sortI (p.ins ++ newD p)).filter (fun d => !p.outs.contains d) = sortI (lookD p)
  rw [g.dt, g.lk, ← sortI_filter]
  refine sorted_eq (sortI_sorted _) (sortI_sorted _) ((sortI_perm _).trans (List.Perm.trans ?_ (sortI_perm _).symm))
  have nd := g.good.all.nodup_iff.mpr g.good.nodup
  rw [List.nodup_append] at nd
  refine (g.good.all.symm.filter _).trans ?_
  rw [List.filter_append]
  have h1 : live.filter (fun d => !p.outs.contains d) = [] := by
    rw [List.filter_eq_nil_iff]
    intro d m
    have := g.outs.mem_iff.mpr m
    simpa using this
  have h2 : sn.filter (fun d => !p.outs.contains d) = sn := by
    rw [List.filter_eq_self]
    intro d m
    have : d ∉ p.outs := fun m2 => nd.2.2 d m d (g.outs.mem_iff.mp m2) rfl
    simpa using this
  rw [h1, h2, List.append_nil]
theorem okTL {n : Nat} {k : Bool} {l : List (List Int)} (h : l.length ≤ 1000) (h2 : ∀ q ∈ l, q.length ≤ 1000) : OkD (n + 2) (.tup k (l.map fun q => .tup false (iD q))) := by
  refine ⟨by rw [List.length_map]; exact h, fun d m => ?_⟩
  obtain ⟨q, mq, rfl⟩ := List.mem_map.mp m
  exact okI (h2 q mq)
theorem snl (g : GP p live sn al) (h : al.length ≤ 16) : sn.length ≤ 16 ∧ p.outs.length ≤ 16 ∧ (lookedP p).length ≤ 16 ∧ (dotsP p).length ≤ 16 ∧ p.ins.length ≤ 16 := by
  have h1 := g.good.all.length_eq
  rw [List.length_append] at h1
  have h2 := g.outs.length_eq
  have h3 : (lookedP p).length = sn.length := by
    show (sortI (lookD p)).length = _
    rw [len_sort, g.lk]
  have h4 : (dotsP p).length = al.length := by
    show (sortI (p.ins ++ newD p)).length = _
    rw [len_sort, g.dt]
  have h5 := congrArg List.length g.dt
  rw [List.length_append] at h5
  omega
theorem tiesL (g : GP p live sn al) : (tiesD p).length ≤ 60 := by
  refine Nat.le_trans (List.length_filter_le _ _) ?_
  rw [(sortP_perm _).length_eq]
  refine Nat.le_trans (undup_len _) ?_
  unfold tieP
  rw [List.length_map]
  exact Nat.le_trans ofW_len g.rows
theorem whoOk {n : Nat} {q : Nat} {l : List Int} (g : GP p live sn al) (h : al.length ≤ 16) (hl : l.length ≤ 1000) : OkD (n + 2) (.tup false (whoL p q l)) := by
  have e : whoL p q l = (l.map fun dot => (lookedP p).filter fun k => decide (at0 (partT q (trP p k)) dot = 1)).map fun q => .tup false (iD q) := by
    unfold whoL
    rw [List.map_map]
    rfl
  rw [e]
  refine okTL (by rw [List.length_map]; exact hl) fun q m => ?_
  obtain ⟨d, _, rfl⟩ := List.mem_map.mp m
  have h1 := List.length_filter_le (fun k => decide (at0 (partT q (trP p k)) d = 1)) (lookedP p)
  have := (snl g h).2.2.1
  omega
theorem part_P (g : GP p live sn al) (h : al.length ≤ 16) : PartOk (acP p) := by
  obtain ⟨s1, s2, s3, s4, s5⟩ := snl g h
  have tl := tiesL g
  refine ⟨?_, s4, fun d m => ?_, ?_, fun l m => ?_, ?_, ?_, by show p.outs.length ≤ 100; omega⟩
  · show (sortI (p.ins ++ newD p)).Nodup
    rw [(sortI_perm _).nodup_iff, g.dt]
    exact g.good.nodup
  · have m : d ∈ sortI (p.ins ++ newD p) := m
    rw [(sortI_perm _).mem_iff, g.dt] at m
    exact g.rng d m
  · rw [acP_looked g]
    show ((lookedP p).map _).length = _
    rw [List.length_map]
  · obtain ⟨d, _, rfl⟩ := List.mem_map.mp m
    exact Nat.le_trans (List.length_filter_le _ _) s3
  · refine ⟨by show 4 ≤ 1000; omega, fun d m => ?_⟩
    simp only [List.mem_cons, List.not_mem_nil, or_false] at m
    rcases m with rfl | rfl | rfl | rfl
    · exact okI (n := 1) (by show (dotsP p).length ≤ 1000; omega)
    · exact okPr (n := 0) (by omega)
    · exact okI (n := 1) (by omega)
    · exact okI (n := 1) (by show p.outs.length ≤ 1000; omega)
  · exact okI (n := 1) (by rw [List.length_map]; omega)
theorem okA (g : GP p live sn al) (h : al.length ≤ 16) : OkD 4 (dueA p) := by
  obtain ⟨s1, s2, s3, s4, s5⟩ := snl g h
  refine ⟨by show 5 ≤ 1000; omega, fun d m => ?_⟩
  simp only [List.mem_cons, List.not_mem_nil, or_false] at m
  rcases m with rfl | rfl | rfl | rfl | rfl
  · exact (part_P g h).ow
  · exact okI (n := 2) (by rw [List.length_map]; omega)
  · exact whoOk g h (by omega)
  · exact whoOk g h (by omega)
  · exact whoOk g h (by omega)
theorem okN (g : GP p live sn al) (h : al.length ≤ 16) : OkD 3 (dueN p) := by
  obtain ⟨s1, s2, s3, s4, s5⟩ := snl g h
  refine ⟨by rw [List.length_map]; omega, fun d m => ?_⟩
  obtain ⟨k, _, rfl⟩ := List.mem_map.mp m
  refine ⟨by show 2 ≤ 1000; omega, fun d m => ?_⟩
  rcases List.mem_cons.mp m with rfl | m
  · exact okInt
  · rw [List.mem_singleton.mp m]
    exact okI (n := 0) (Nat.le_trans (List.length_filter_le _ _) (by omega))
/-- what the calls give -/
structure Calls (p : Prog) : Prop where
  due : Rn (run T 11 14 [.v (progD p)]) (fun r f => r = .v (.tup true [dueA p, dueN p]) ∧ f = []) NoX
  acc : Rn (run T 11 2 [.v (progD p)]) (fun r f => r = .v (dueA p) ∧ f = []) NoX
  nam : Rn (run T 11 3 [.v (progD p)]) (fun r f => r = .v (dueN p) ∧ f = []) NoX
  sameA : Rn (run T 11 9 [.v (dueA p), .v (dueA p)]) (fun r f => r = .v (.bl true) ∧ f = []) NoX
  sameN : Rn (run T 11 9 [.v (dueN p), .v (dueN p)]) (fun r f => r = .v (.bl true) ∧ f = []) NoX
  parts : Rn (run T 11 19 [.v (dueA p)]) (fun r f => r = .v (.bl true) ∧ f = []) NoX
theorem calls (g : GP p live sn al) (h : al.length ≤ 16) : Calls p := by
  have w := g.w
  have sm := w.2.2
  have ang : (runW p.rows (w0 p)).angles.length + p.outs.length ≤ 1000 := by
    have h1 := sm.2.1
    have h2 := g.outlen
    have h3 := g.rows
    omega
  have hi : p.ins.length ≤ 1000 := by have := g.ins; omega
  refine ⟨due_ok (n := 8) g.dueOk, ?_, ?_, ?_, ?_, ?_⟩
  · have := acc_ok (n := 7) w.1 hi ang g.turns g.accOk
    rw [g.acc] at this
    exact this
  · have := nam_ok (n := 7) w.1 hi ang g.turns g.accOk
    rw [g.nam] at this
    exact this
  · have := okA g h
    generalize dueA p = X at this ⊢
    exact same_r this (by omega)
  · have := okN g h
    generalize dueN p = X at this ⊢
    exact same_r this (by omega)
  · have := parts_ok (n := 3) (part_P g h)
    rw [acP_d] at this
    exact this
end K46
/-! Kmq -/
namespace K46
open PySem Vm
theorem mt17 {cf : Nat → List S → Out} : (T.cal cf).mt 17 = [0] := rfl
theorem mt14 {cf : Nat → List S → Out} : (T.cal cf).mt 14 = [] := rfl
theorem mt2 {cf : Nat → List S → Out} : (T.cal cf).mt 2 = [] := rfl
theorem mt3 {cf : Nat → List S → Out} : (T.cal cf).mt 3 = [] := rfl
theorem ix_p0 {x y : D} : getIx (.v (.tup true [x, y])) (.v (.int 0)) = some (.v x) := rfl
theorem ix_p1 {x y : D} : getIx (.v (.tup true [x, y])) (.v (.int 1)) = some (.v y) := rfl
theorem li_f {l : List D} : bi .list [.v (.fls l)] = some (.lst (l.map S.v)) := rfl
theorem prog_c {t : S} {m w : Nat} (ht : Tape t) (hm : 4 ≤ m) (hm2 : m ≤ 56) (hw : w ≤ 16) : Rn (run T 11 17 [t, .v (.int (m : Int)), .v (.int (w : Int))]) (fun r f => ∃ (p : Prog) (t' : S), r = .v (progD p) ∧ f = [t'] ∧ Tape t' ∧ Calls p) NoX :=
  (prog_ok (n := 7) ht hm hm2 hw).imp (fun r f ⟨p, live, sn, al, t', h1, h2, h3, h4, h5⟩ => ⟨p, t', h1, h2, h3, calls h4 h5⟩) fun _ _ q => q
theorem law_w {ns : List Int} : Rn (run T 12 20 [.v (.fls (ns.map D.int))]) (fun r f => r = .v (.bl true) ∧ f = []) NoX := by
  refine run_wp (fn := f20) rfl rfl ?_
  show Wp (Vm.execs (T.cal (run T 11)) _ b20 [some (.v (.fls (ns.map D.int))), none, none, none, none, none, none, none]) _ _
  unfold b20
  refine wp_mid (fun ρ => ρ = [some (.v (.fls (ns.map D.int))), some (tp 0 46 0 ns), none, none, none, none, none, none]) ?_ ?_
  · simp_arith! [li_f]
    show some _ :: some _ :: _ = _
    unfold tp
    rw [List.map_map]
    rfl
  rintro ρ rfl
  obtain ⟨t, et⟩ : ∃ t, t = tp 0 46 0 ns := ⟨_, rfl⟩
  have ht : Tape t := ⟨0, 46, 0, ns, et, by omega, by omega, by omega, by omega⟩
  rw [← et]
  rw [wp_cons]
  simp_arith! [gs_tape ht, ao_tape ht]
  refine wp_callR (ss := [t, .v (.int 4)]) (by simp_arith! [gs_tape ht]) rfl ((pick_t (n := 10) ht (by omega)).imp (fun r f q => ?_) fun _ _ q => q.elim)
  obtain ⟨k, t1, rfl, rfl, ht1, k0, k1⟩ := q
  obtain ⟨x, hx, gx⟩ := four_at (a := 16) (b := 24) (c := 36) (d := 56) k0 k1
  obtain ⟨m, rfl, hm1, hm2⟩ : ∃ m : Nat, x = m ∧ 4 ≤ m ∧ m ≤ 56 := ⟨x.toNat, by omega, by omega, by omega⟩
  simp_arith! [mt8, gx]
  rw [wp_cons]
  simp_arith! [gs_tape ht1, ao_tape ht1]
  refine wp_callR (ss := [t1, .v (.int 4)]) (by simp_arith! [gs_tape ht1]) rfl ((pick_t (n := 10) ht1 (by omega)).imp (fun r f q => ?_) fun _ _ q => q.elim)
  obtain ⟨k, t2, rfl, rfl, ht2, k0, k1⟩ := q
  obtain ⟨y, hy, gy⟩ := four_at (a := 5) (b := 8) (c := 10) (d := 16) k0 k1
  obtain ⟨w, rfl, hw1⟩ : ∃ m : Nat, y = m ∧ m ≤ 16 := ⟨y.toNat, by omega, by omega⟩
  simp_arith! [mt8, gy]
  refine wp_callR (ss := [t2, .v (.int (m : Nat)), .v (.int (w : Nat))]) (by simp_arith! [gs_tape ht2]) rfl ((prog_c ht2 hm1 hm2 hw1).imp (fun r f q => ?_) fun _ _ q => q.elim)
  obtain ⟨p, t3, rfl, rfl, ht3, cp⟩ := q
  obtain ⟨pd, pa, pn, psA, psN, pp⟩ := cp
  generalize progD p = P at pd pa pn
  generalize dueA p = A at pd pa psA pp
  generalize dueN p = N at pd pn psN
  simp_arith! [mt17]
  rw [wp_cons]
  simp_arith! [gs_tape ht3, ao_tape ht3]
  refine wp_callR (ss := [t3, .v (.int (20 : Nat)), .v (.int (6 : Nat))]) (by simp_arith! [gs_tape ht3]; rfl) rfl ((prog_c ht3 (by omega) (by omega) (by omega)).imp (fun r f q => ?_) fun _ _ q => q.elim)
  obtain ⟨q, t4, rfl, rfl, ht4, cq⟩ := q
  obtain ⟨qd, qa, qn, qsA, qsN, qp⟩ := cq
  generalize progD q = Q at qd qa qn
  generalize dueA q = B at qd qa qsA qp
  generalize dueN q = M at qd qn qsN
  simp_arith! [mt17]
  rw [wp_cons]
  simp_arith! [ix_p0, ix_p1]
  refine wp_callR (ss := [.v P]) rfl rfl (pd.imp (fun r f q => ?_) fun _ _ q => q.elim)
  obtain ⟨rfl, rfl⟩ := q
  simp_arith! [mt14, ix_p0, ix_p1, Bool.not_true]
  rw [wp_cons]
  simp_arith! [ix_p0, ix_p1]
  refine wp_callR (ss := [.v Q]) rfl rfl (qd.imp (fun r f q => ?_) fun _ _ q => q.elim)
  obtain ⟨rfl, rfl⟩ := q
  simp_arith! [mt14, ix_p0, ix_p1, Bool.not_true]
  rw [wp_cons]
  simp_arith! [ix_p0, ix_p1]
  refine wp_callR (ss := [.v P]) rfl rfl (pa.imp (fun r f q => ?_) fun _ _ q => q.elim)
  obtain ⟨rfl, rfl⟩ := q
  simp_arith! [mt2, ix_p0, ix_p1, Bool.not_true]
  refine wp_callR (ss := [.v A, .v A]) rfl rfl (psA.imp (fun r f q => ?_) fun _ _ q => q.elim)
  obtain ⟨rfl, rfl⟩ := q
  simp_arith! [mt9, ix_p0, ix_p1, Bool.not_true]
  refine wp_callR (ss := [.v P]) rfl rfl (pn.imp (fun r f q => ?_) fun _ _ q => q.elim)
  obtain ⟨rfl, rfl⟩ := q
  simp_arith! [mt3, ix_p0, ix_p1, Bool.not_true]
  refine wp_callR (ss := [.v N, .v N]) rfl rfl (psN.imp (fun r f q => ?_) fun _ _ q => q.elim)
  obtain ⟨rfl, rfl⟩ := q
  simp_arith! [mt9, ix_p0, ix_p1, Bool.not_true]
  rw [wp_cons]
  simp_arith! [ix_p0, ix_p1]
  refine wp_callR (ss := [.v Q]) rfl rfl (qa.imp (fun r f q => ?_) fun _ _ q => q.elim)
  obtain ⟨rfl, rfl⟩ := q
  simp_arith! [mt2, ix_p0, ix_p1, Bool.not_true]
  refine wp_callR (ss := [.v B, .v B]) rfl rfl (qsA.imp (fun r f q => ?_) fun _ _ q => q.elim)
  obtain ⟨rfl, rfl⟩ := q
  simp_arith! [mt9, ix_p0, ix_p1, Bool.not_true]
  show Wp (doCall _ 3 [.t (.v Q)] _) _ _
  refine wp_callR (ss := [.v Q]) rfl rfl (qn.imp (fun r f q => ?_) fun _ _ q => q.elim)
  obtain ⟨rfl, rfl⟩ := q
  simp_arith! [mt3, ix_p0, ix_p1, Bool.not_true]
  refine wp_callR (ss := [.v M, .v M]) rfl rfl (qsN.imp (fun r f q => ?_) fun _ _ q => q.elim)
  obtain ⟨rfl, rfl⟩ := q
  simp_arith! [mt9, ix_p0, ix_p1, Bool.not_true]
  rw [wp_cons]
  simp_arith! [ix_p0, ix_p1]
  refine wp_callR (ss := [.v A]) rfl rfl (pp.imp (fun r f q => ?_) fun _ _ q => q.elim)
  obtain ⟨rfl, rfl⟩ := q
  simp_arith! [mt19, ix_p0, ix_p1, Bool.not_true]
  refine wp_callR (ss := [.v B]) rfl rfl (qp.imp (fun r f q => ?_) fun _ _ q => q.elim)
  obtain ⟨rfl, rfl⟩ := q
  simp_arith! [mt19, ix_p0, ix_p1, Bool.not_true]
  rw [wp_cons]
  simp_arith! [ix_p0, ix_p1]
  show Wp (doCall _ 2 [.t (.v P)] _) _ _
  refine wp_callR (ss := [.v P]) rfl rfl (pa.imp (fun r f q => ?_) fun _ _ q => q.elim)
  obtain ⟨rfl, rfl⟩ := q
  simp_arith! [mt2, ix_p0, ix_p1, Bool.not_true]
  refine wp_callR (ss := [.v A, .v A]) rfl rfl (psA.imp (fun r f q => ?_) fun _ _ q => q.elim)
  obtain ⟨rfl, rfl⟩ := q
  simp_arith! [mt9, ix_p0, ix_p1, Bool.not_true]
  refine wp_callR (ss := [.v P]) rfl rfl (pn.imp (fun r f q => ?_) fun _ _ q => q.elim)
  obtain ⟨rfl, rfl⟩ := q
  simp_arith! [mt3, ix_p0, ix_p1, Bool.not_true]
  refine wp_callR (ss := [.v N, .v N]) rfl rfl (psN.imp (fun r f q => ?_) fun _ _ q => q.elim)
  obtain ⟨rfl, rfl⟩ := q
  simp_arith! [mt9, ix_p0, ix_p1, Bool.not_true]
  rw [wp_cons]
  simp_arith! [ix_p0, ix_p1]
  refine wp_callR (ss := [.v Q]) rfl rfl (qa.imp (fun r f q => ?_) fun _ _ q => q.elim)
  obtain ⟨rfl, rfl⟩ := q
  simp_arith! [mt2, ix_p0, ix_p1, Bool.not_true]
  rw [wp_cons]
  simp_arith! [ix_p0, ix_p1]
  refine wp_callR (ss := [.v B, .v B]) rfl rfl (qsA.imp (fun r f q => ?_) fun _ _ q => q.elim)
  obtain ⟨rfl, rfl⟩ := q
  simp_arith! [mt9, ix_p0, ix_p1, Bool.not_true]
  refine wp_callR (ss := [.v Q]) rfl rfl (qn.imp (fun r f q => ?_) fun _ _ q => q.elim)
  obtain ⟨rfl, rfl⟩ := q
  simp_arith! [mt3, ix_p0, ix_p1, Bool.not_true]
  refine wp_callR (ss := [.v M, .v M]) rfl rfl (qsN.imp (fun r f q => ?_) fun _ _ q => q.elim)
  obtain ⟨rfl, rfl⟩ := q
  simp_arith! [mt9, ix_p0, ix_p1, Bool.not_true]
  rw [wp_cons]
  simp_arith! [ix_p0, ix_p1]
  refine wp_callR (ss := [.v B]) rfl rfl (qp.imp (fun r f q => ?_) fun _ _ q => q.elim)
  obtain ⟨rfl, rfl⟩ := q
  simp_arith! [mt19, ix_p0, ix_p1, Bool.not_true]
  exact ⟨_, rfl, trivial, rfl⟩
theorem main (ns : List Int) (_ : ns.length ≤ 63) : run raw.tab 12 20 [.v (.fls (ns.map D.int))] = .ok (.v (.bl true)) [] := by
  have h := (law_w (ns := ns)).out
  show run T 12 20 _ = _
  revert h
  cases run T 12 20 [.v (.fls (ns.map D.int))] with
  | bad => exact fun h => h.elim
  | ex e l => exact fun h => h.elim
  | ok r f =>
    rintro ⟨rfl, rfl⟩
    rfl
end K46
end VsSec
open PySem PySem.W PyProof.Rows
set_option maxRecDepth 100000 in
set_option maxHeartbeats 0 in
theorem PySem.Challenge.cw_lookundone_k46_accounts_and_names_holds : PySem.Challenge.rw_lookundone_k46_accounts_and_names.Holds := by
  w_on; o_law; k_head; (case hw => w_witness2)
  k_fill
  refine Vm.walk (l := PySem.Challenge.rw_lookundone_k46_accounts_and_names) (r := K46.raw) (ads := [21, 28, 134, 139, 144, 151, 158, 163, 170, 177, 184, 189, 196, 201, 206, 211, 216, 221, 228, 233, 240, 96, 103, 110, 117, 122]) (cas := [38, 51, 63, 82, 125]) (n := 63) (m := 12) (law := 20) (x := "script") rfl (by decide) rfl ⟨rfl, by decide, by decide⟩ (fun w h Y => PySem.W.kIn_of Y) ?hf ?hd ?hk rfl rfl rfl ?hr
  case hf => intro w; kernel_rfl
  case hd => intro w; kernel_rfl
  case hk => intro w; kernel_rfl
  case hr => exact K46.main

