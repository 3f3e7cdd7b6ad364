import PyProof.Rows.All
import Wide.All
import OpenK.AllK
import Wide.FinOn
import HandS.ForMost
import HandS.ForExc
import KE.LtData
import HandS.Walk
import HandS.Zip
import HandS.IsInst
import HandS.Wide
import HandS.Style
import HandS.TupAny
import HandS.TupMul
import HandS.Deep
import HandS.HeadHook1
import KE.GoesEnum
import KE.SortData
import HandS.WordsExc
import HandS.Head0
import HandS.Head1
import HandS.Head2
import HandS.HeadEnd
import HandS.HeadHook2
import HandS.HeadHook4
import HandS.HeadNt
import PySem.Challenge.RW_blockpiles_k22_whole_towers_judged
set_option Elab.async false
set_option linter.all false
set_option maxRecDepth 100000

section
/-! Bp1: a small language over plain data and what its texts are worth. -/
namespace BP
open PySem

/-- what a field of an own object holds -/
inductive Fc where
  | imm (d : PyData)
  | lst (xs : List PyData)

/-- what a value is worth: plain data that nobody changes, or a thing that is owned -/
inductive Cn where
  | imm (d : PyData)
  | lst (xs : List PyData)
  | dct (kvs : List (PyData × PyData))
  | obj (c : Str) (fs : List (Str × Fc))
  /-- an object that is lent while a loop walks it, and the right to take it back -/
  | rob (c : Str) (fs : List (Str × Fc))
  | tkn (c : Str) (fs : List (Str × Fc)) (vfs : List (Str × L2.V))
  /-- the same two with their fields' values told -/
  | obv (c : Str) (fs : List (Str × Fc)) (vfs : List (Str × L2.V))
  | rbv (c : Str) (fs : List (Str × Fc)) (vfs : List (Str × L2.V))

/-- a field stored -/
def putC (x : Str) (f : Fc) : List (Str × Fc) → List (Str × Fc)
  | [] => [(x, f)]
  | (g, y) :: r => if g = x then (g, f) :: r else (g, y) :: putC x f r
abbrev Rho := List (Option Cn)

/-- the outcome of a piece of text -/
inductive Rs (α : Type) where
  | ok (a : α) (r : Rho)
  | exc (c : Nat) (r : Rho)
  | stuck

namespace Rs
def bind {α β : Type} (x : Rs α) (f : α → Rho → Rs β) : Rs β :=
  match x with
  | .ok a r => f a r
  | .exc c r => .exc c r
  | .stuck => .stuck
@[simp] theorem ok_bind {α β : Type} (a : α) (r : Rho) (f : α → Rho → Rs β) : (Rs.ok a r).bind f = f a r := rfl
@[simp] theorem exc_bind {α β : Type} (c : Nat) (r : Rho) (f : α → Rho → Rs β) : (Rs.exc c r : Rs α).bind f = .exc c r := rfl
@[simp] theorem stuck_bind {α β : Type} (f : α → Rho → Rs β) : (Rs.stuck : Rs α).bind f = .stuck := rfl
/-- an exception may not leave here -/
def noexc {α : Type} (x : Rs α) : Rs α :=
  match x with
  | .ok a r => .ok a r
  | _ => .stuck
@[simp] theorem noexc_ok {α : Type} (a : α) (r : Rho) : (Rs.ok a r).noexc = .ok a r := rfl
@[simp] theorem noexc_exc {α : Type} (c : Nat) (r : Rho) : (Rs.exc c r : Rs α).noexc = .stuck := rfl
@[simp] theorem noexc_stuck {α : Type} : (Rs.stuck : Rs α).noexc = .stuck := rfl
def ofOpt {α : Type} (o : Option α) (r : Rho) : Rs α :=
  match o with
  | some a => .ok a r
  | none => .stuck
@[simp] theorem ofOpt_some {α : Type} (a : α) (r : Rho) : ofOpt (some a) r = .ok a r := rfl
@[simp] theorem ofOpt_none {α : Type} (r : Rho) : ofOpt (none : Option α) r = .stuck := rfl
end Rs

/-- an expression's value: a new one, or the owned thing in a slot -/
inductive RV where
  | val (c : Cn)
  | slot (i : Nat)

inductive Fl where
  | next
  | ret (c : Cn)

/-- a call's outcome: the value, and what the arguments are worth behind it -/
inductive Fo where
  | ok (c : Cn) (cs : List Cn)
  | exc (e : Nat) (cs : List Cn)
  | stuck
abbrev Fden := List Cn → Fo

/-- what the text's global names are worth -/
structure Tb where
  fns : List Fden
  cons : List PyData
  meths : List (Str × Fden) := []
  news : List (Str × Fden) := []
  flds : List (Str × Str) := []

inductive Bop where
  | add | sub | mul | fdiv | mod | pow
inductive Cop where
  | eq | ne | lt | le | gt | ge | is | nis | inn | nin
inductive Blt where
  | len | tuple | list | sorted | sum | min | max | any | all | abs | int | str
inductive Ty where
  | int | bool | tuple | list | str
/-- targets of an assignment or a loop -/
inductive Tg where
  | one (i : Nat)
  | tup (is : List Nat)
  | pr (a b : Tg)

mutual
inductive Ex where
  | bad
  | var (i : Nat)
  | con (d : PyData)
  | glob (j : Nat)
  | bin (op : Bop) (a b : Ex)
  | rep (a b : Ex)
  | neg (a : Ex)
  | not (a : Ex)
  | and (a b : Ex)
  | or (a b : Ex)
  | cmp (op : Cop) (a b : Ex)
  | chain (o1 o2 : Cop) (a b c : Ex)
  | ite (c a b : Ex)
  | tup (es : Exs)
  | lst (es : Exs)
  | call (j : Nat) (es : Exs)
  | blt (b : Blt) (es : Exs)
  | isi (a : Ex) (t : Ty)
  | ix (a b : Ex)
  | slice (a : Ex) (lo hi : Exo)
  | back (a : Ex) (lo st : Exo)
  | comp (elt : Ex) (tg : Tg) (it : Itb) (ifs : Exo) (own : List Nat)
  | popL (i : Nat)
  | popAt (i : Nat) (e : Ex)
  | fget (i : Nat) (x : Str)
  | fix (i : Nat) (x : Str) (e : Ex)
  | flen (i : Nat) (x : Str)
  | fall (i : Nat) (x : Str)
  | fslice (i : Nat) (x : Str) (lo hi : Exo)
  | meth (i j : Nat) (m : Str) (es : Exs)
  | new (j : Nat) (es : Exs)
inductive Exs where
  | nil
  | cons (e : Ex) (es : Exs)
inductive Exo where
  | none
  | some (e : Ex)
inductive Itb where
  | bad
  | seq (e : Ex)
  | rng1 (a : Ex)
  | rng2 (a b : Ex)
  | rng3 (a b c : Ex)
  | enum (e : Ex)
  | zip (es : Exs)
end

mutual
inductive Sx where
  | bad
  | pass
  | set (tg : Tg) (e : Ex)
  | setN (is : List Nat) (es : Exs)
  | drop (e : Ex)
  | ret (e : Ex)
  | retN
  | ifs (c : Ex) (a b : Sxs)
  | forr (tg : Tg) (it : Itb) (b : Sxs) (wp : List Nat)
  | whil (c : Ex) (b : Sxs) (wp : List Nat)
  | aug (i : Nat) (e : Ex)
  | app (i : Nat) (e : Ex)
  | ext (i : Nat) (e : Ex)
  | setIx (i : Nat) (k e : Ex)
  | augIx (i : Nat) (k e : Ex)
  | rais (c : Nat)
  | setF (i : Nat) (x : Str) (e : Ex)
  | appF (i : Nat) (x : Str) (e : Ex)
  | setIxF (i : Nat) (x : Str) (k e : Ex)
  | forf (i : Nat) (x : Str) (tg : Tg) (b : Sxs) (wp : List Nat)
inductive Sxs where
  | nil
  | cons (s : Sx) (ss : Sxs)
end

/-! ### data -/
def lim : Nat := 1000000
def datC : Cn → Option PyData
  | .imm d => some d
  | .lst xs => some (.list xs)
  | _ => none
def cnOf (ρ : Rho) : RV → Option Cn
  | .val c => some c
  | .slot i => (ρ[i]?).join
def dat (ρ : Rho) (r : RV) : Option PyData := (cnOf ρ r).bind datC
/-- as data that nobody changes any more -/
def frz (ρ : Rho) : RV → Option (PyData × Rho)
  | .val c => (datC c).map fun d => (d, ρ)
  | .slot i => ((ρ[i]?).join.bind datC).map fun d => (d, ρ.set i (some (.imm d)))
def frzs : Rho → List RV → Option (List PyData × Rho)
  | ρ, [] => some ([], ρ)
  | ρ, r :: rs => (frz ρ r).bind fun p => (frzs p.2 rs).map fun q => (p.1 :: q.1, q.2)
/-- as a thing to be kept in a slot: a new thing stays owned -/
def keep (ρ : Rho) : RV → Option (Cn × Rho)
  | .val c => some (c, ρ)
  | .slot i => (frz ρ (.slot i)).map fun p => (.imm p.1, p.2)
def keeps : Rho → List RV → Option (List Cn × Rho)
  | ρ, [] => some ([], ρ)
  | ρ, r :: rs => (keep ρ r).bind fun p => (keeps p.2 rs).map fun q => (p.1 :: q.1, q.2)

def mulOk (i j : Int) : Bool := decide (i.natAbs < 2 ^ 64) || decide (j.natAbs < 2 ^ 64) || decide (i.natAbs.log2 + j.natAbs.log2 < 1000000)
def divOk (j : Int) : Bool := decide (0 < j) && decide (j.natAbs.log2 < 9000)
def powOk (i j : Int) : Bool := decide (0 ≤ j) && decide (j ≤ 1000000) && decide (i.natAbs < 2 ^ 64)

def bi (b : Bool) : Int := if b = true then 1 else 0
def binop : Bop → PyData → PyData → Option Cn
  | .add, .int i, .int j => some (.imm (.int (i + j)))
  | .sub, .int i, .int j => some (.imm (.int (i - j)))
  | .sub, .bool i, .bool j => some (.imm (.int (bi i - bi j)))
  | .mul, .int i, .int j => if mulOk i j then some (.imm (.int (i * j))) else none
  | .fdiv, .int i, .int j => if divOk j then some (.imm (.int (i / j))) else none
  | .mod, .int i, .int j => if decide (0 < j) then some (.imm (.int (i % j))) else none
  | .pow, .int i, .int j => if powOk i j then some (.imm (.int (i ^ j.toNat))) else none
  | .add, .tuple xs, .tuple ys => if xs.length + ys.length ≤ lim then some (.imm (.tuple (xs ++ ys))) else none
  | .add, .list xs, .list ys => if xs.length + ys.length ≤ lim then some (.lst (xs ++ ys)) else none
  | .add, .str x, .str y => if x.length + y.length ≤ lim then some (.imm (.str (x ++ y))) else none
  | .mul, .tuple xs, .int k => if xs.length ≤ 1000 ∧ 0 < xs.length ∧ 1 ≤ k ∧ k ≤ 1000 then some (.imm (.tuple (List.replicate k.toNat xs).flatten)) else none
  | _, _, _ => none

/-! Python's order of data that are alike -/
def okKey : PyData → Bool
  | .none => false
  | .dict _ => false
  | _ => true
def ltOk (a b : PyData) : Bool := okKey a && W.alike a b && decide (a.depth ≤ 60) && decide (b.depth ≤ 60)
def sortOk (xs : List PyData) : Bool := decide (xs.length ≤ lim) && (xs.all fun x => xs.all fun y => W.alike x y) && xs.all okKey && xs.all fun x => decide (x.depth ≤ 60)
def sortD (xs : List PyData) : List PyData := xs.mergeSort fun a b => !W.dataLt b a

def eqOk (a b : PyData) : Bool := SeqAt.shaped a && SeqAt.shaped b

def strHas (z : Str) (x : Str) : Bool := !(Builtin.Str.occurrences z x 0 z.length 1).isEmpty

def isNon : PyData → Bool
  | .none => true
  | _ => false
def cmpop : Cop → PyData → PyData → Option Bool
  | .eq, a, b => if eqOk a b then some (PyData.eqv a b) else none
  | .ne, a, b => if eqOk a b then some (!PyData.eqv a b) else none
  | .lt, .int i, .int j => some (decide (i < j))
  | .lt, .tuple xs, .tuple ys => if ltOk (.tuple xs) (.tuple ys) then some (W.dataLt (.tuple xs) (.tuple ys)) else none
  | .le, .int i, .int j => some (decide (i ≤ j))
  | .gt, .int i, .int j => some (decide (j < i))
  | .ge, .int i, .int j => some (decide (j ≤ i))
  | .is, .bool a, .bool b => some (decide (a = b))
  | .is, a, .none => some (isNon a)
  | .nis, .bool a, .bool b => some (!decide (a = b))
  | .nis, a, .none => some (!isNon a)
  | .inn, a, .list ds => if eqOk a (.list ds) then some (ds.any fun z => PyData.eqv z a) else none
  | .inn, a, .tuple ds => if eqOk a (.tuple ds) then some (ds.any fun z => PyData.eqv z a) else none
  | .inn, .str x, .str z => some (strHas z x)
  | .nin, a, .list ds => if eqOk a (.list ds) then some (!ds.any fun z => PyData.eqv z a) else none
  | .nin, a, .tuple ds => if eqOk a (.tuple ds) then some (!ds.any fun z => PyData.eqv z a) else none
  | _, _, _ => none

/-! ### built-ins -/
def ints? : List PyData → Option (List Int)
  | [] => some []
  | .int i :: r => (ints? r).map (i :: ·)
  | _ :: _ => none
def bools? : List PyData → Option (List Bool)
  | [] => some []
  | .bool i :: r => (bools? r).map (i :: ·)
  | _ :: _ => none
def maxL : List Int → Option Int
  | [] => none
  | x :: r => some (r.foldl (fun a b => if b > a then b else a) x)
def minL : List Int → Option Int
  | [] => none
  | x :: r => some (r.foldl (fun a b => if b < a then b else a) x)
def bltop : Blt → List PyData → Option Cn
  | .len, [.list xs] => some (.imm (.int xs.length))
  | .len, [.tuple xs] => some (.imm (.int xs.length))
  | .len, [.str x] => if x.length ≤ lim then some (.imm (.int x.length)) else none
  | .tuple, [.list xs] => some (.imm (.tuple xs))
  | .tuple, [.tuple xs] => some (.imm (.tuple xs))
  | .list, [.list xs] => some (.lst xs)
  | .list, [.tuple xs] => some (.lst xs)
  | .sum, [.list xs] => (ints? xs).map fun ns => .imm (.int ns.sum)
  | .max, [.list xs] => ((ints? xs).bind maxL).map fun n => .imm (.int n)
  | .min, [.list xs] => ((ints? xs).bind minL).map fun n => .imm (.int n)
  | .max, [.int a, .int b] => some (.imm (.int (if b > a then b else a)))
  | .min, [.int a, .int b] => some (.imm (.int (if b < a then b else a)))
  | .any, [.list xs] => (bools? xs).map fun bs => .imm (.bool (bs.any id))
  | .all, [.list xs] => (bools? xs).map fun bs => .imm (.bool (bs.all id))
  | .sorted, [.list xs] => if sortOk xs then some (.lst (sortD xs)) else none
  | .sorted, [.tuple xs] => if sortOk xs then some (.lst (sortD xs)) else none
  | .abs, [.int i] => some (.imm (.int (if i < 0 then -i else i)))
  | _, _ => none

def isTy : PyData → Ty → Bool
  | .int _, .int => true
  | .bool _, .int => true
  | .bool _, .bool => true
  | .tuple _, .tuple => true
  | .list _, .list => true
  | .str _, .str => true
  | _, _ => false

def ixD : PyData → PyData → Option PyData
  | .list xs, .int i => L2.atI xs i
  | .tuple xs, .int i => L2.atI xs i
  | .str x, .int i => if x.length ≤ lim then (L2.atI x.cps.toList i).map fun c => .str ⟨#[c]⟩ else none
  | _, _ => none

def cutD (xs : List PyData) (lo hi : Option Int) : List PyData :=
  List.take (HT.sIx xs.length xs.length hi - HT.sIx xs.length 0 lo) (List.drop (HT.sIx xs.length 0 lo) xs)
def slD : PyData → Option Int → Option Int → Option Cn
  | .list xs, lo, hi => some (.lst (cutD xs lo hi))
  | .tuple xs, lo, hi => some (.imm (.tuple (cutD xs lo hi)))
  | _, _, _ => none

/-- how many items xs[lo::-1] has -/
def rIx (n : Nat) : Option Int → Option Nat
  | none => some n
  | some i => if 0 ≤ i then some (min (i.toNat + 1) n) else none
/-- xs[lo::-1] -/
def bkD (d : PyData) (lo st : Option Int) : Option Cn :=
  if st = some (-1) then
    match d with
    | .list xs => (rIx xs.length lo).map fun k => .lst (xs.take k).reverse
    | .tuple xs => (rIx xs.length lo).map fun k => .imm (.tuple (xs.take k).reverse)
    | _ => none
  else none

/-! ### slots -/
def setAll : List Nat → List Cn → Rho → Rho
  | i :: is, c :: cs, ρ => setAll is cs (ρ.set i (some c))
  | _, _, ρ => ρ
def bindT : Tg → PyData → Rho → Option Rho
  | .one i, d, ρ => some (ρ.set i (some (.imm d)))
  | .tup is, .tuple ds, ρ => if ds.length = is.length then some (setAll is (ds.map .imm) ρ) else none
  | .pr a b, .tuple [x, y], ρ => (bindT a x ρ).bind (bindT b y)
  | _, _, _ => none
def wipeR (ρ : Rho) : List Nat → Rho
  | [] => ρ
  | v :: vs => (wipeR ρ vs).set v none
def unwipe (ρ1 : Rho) : List Nat → Rho → Rho
  | [], ρ => ρ
  | v :: vs, ρ => (unwipe ρ1 vs ρ).set v (ρ1.getD v none)

def forL (b : PyData → Rho → Rs Fl) : List PyData → Rho → Rs Fl
  | [], ρ => .ok .next ρ
  | x :: xs, ρ => (b x ρ).bind fun f ρ => match f with
    | .next => forL b xs ρ
    | .ret c => .ok (.ret c) ρ
def compL (b : PyData → Rho → Rs (Option PyData)) : List PyData → Rho → Rs (List PyData)
  | [], ρ => .ok [] ρ
  | x :: xs, ρ => (b x ρ).bind fun o ρ => (compL b xs ρ).bind fun ds ρ => .ok (match o with | some d => d :: ds | none => ds) ρ

def whileN (c : Rho → Rs Bool) (b : Rho → Rs Fl) : Nat → Rho → Rs Fl
  | 0, _ => .stuck
  | n + 1, ρ => (c ρ).bind fun t ρ => if t then (b ρ).bind fun f ρ => (match f with
    | .next => whileN c b n ρ
    | .ret v => .ok (.ret v) ρ) else .ok .next ρ
open Classical in
noncomputable def whileW (c : Rho → Rs Bool) (b : Rho → Rs Fl) (ρ : Rho) : Rs Fl :=
  if h : ∃ n, whileN c b n ρ ≠ .stuck then whileN c b (choose h) ρ else .stuck

/-! ### calls -/
/-- the contents of arguments -/
def argCs (ρ : Rho) (rs : List RV) : Option (List Cn) := rs.mapM (cnOf ρ)
/-- the slots whose things are handed over -/
def slotsOf : List RV → List Nat
  | [] => []
  | .slot i :: r => i :: slotsOf r
  | .val _ :: r => slotsOf r
/-- what the call leaves of them -/
def back : List RV → List Cn → Rho → Rho
  | .slot i :: r, c :: cs, ρ => back r cs (ρ.set i (some c))
  | .val _ :: r, _ :: cs, ρ => back r cs ρ
  | _, _, ρ => ρ
def callF (F : Fden) (rs : List RV) (ρ : Rho) : Rs RV :=
  if (slotsOf rs).Nodup then
    match argCs ρ rs with
    | none => .stuck
    | some cs => match F cs with
      | .ok c cs' => if cs'.length = cs.length then .ok (.val c) (back rs cs' ρ) else .stuck
      | .exc e cs' => if cs'.length = cs.length then .exc e (back rs cs' ρ) else .stuck
      | .stuck => .stuck
  else .stuck

def b2 (r : RV) (ρ : Rho) : Rs Bool :=
  match dat ρ r with
  | some (.bool b) => .ok b ρ
  | _ => .stuck
def op1 (f : PyData → Option Cn) (x : RV) (ρ : Rho) : Rs RV :=
  match dat ρ x with
  | some a => (Rs.ofOpt (f a) ρ).bind fun c ρ => .ok (.val c) ρ
  | none => .stuck
def op2 (f : PyData → PyData → Option Cn) (x y : RV) (ρ : Rho) : Rs RV :=
  match dat ρ x, dat ρ y with
  | some a, some b => (Rs.ofOpt (f a b) ρ).bind fun c ρ => .ok (.val c) ρ
  | _, _ => .stuck
/-- a new list times an int -/
def repop (x y : RV) (ρ : Rho) : Rs RV :=
  match x, dat ρ y with
  | .val (.lst xs), some (.int k) => if xs.length ≤ 1000 ∧ 0 ≤ k ∧ k ≤ 1000 then .ok (.val (.lst (List.replicate k.toNat xs).flatten)) ρ else .stuck
  | _, _ => .stuck
def vb (o : Option Bool) : Option Cn := o.map fun b => .imm (.bool b)

def rangeL (lo : Int) (n : Nat) : List PyData := (List.range n).map fun k => .int (lo + (k : Nat))
def rng : PyData → PyData → Option (List PyData)
  | .int i, .int j => if -(2 ^ 62) ≤ i ∧ i < 2 ^ 62 ∧ -(2 ^ 62) ≤ j ∧ j < 2 ^ 62 then some (rangeL i (j - i).toNat) else none
  | _, _ => none
def rngDn (i j : Int) : Option (List PyData) :=
  if -(2 ^ 62) ≤ i ∧ i < 2 ^ 62 ∧ -(2 ^ 62) ≤ j ∧ j < 2 ^ 62 then some ((List.range (i - j).toNat).map fun k => .int (i + (k : Nat) * (-1))) else none
def seqItems : PyData → Option (List PyData)
  | .list xs => some xs
  | .tuple xs => some xs
  | .str x => some (x.cps.toList.map fun c => .str ⟨#[c]⟩)
  | _ => none
def enumL : Nat → List PyData → List PyData
  | _, [] => []
  | k, x :: r => .tuple [.int (k : Nat), x] :: enumL (k + 1) r
def enumD : PyData → Option (List PyData)
  | .list xs => some (enumL 0 xs)
  | .tuple xs => some (enumL 0 xs)
  | _ => none
def zipL : List PyData → List PyData → List PyData
  | x :: xs, y :: ys => .tuple [x, y] :: zipL xs ys
  | _, _ => []
def zipD : PyData → PyData → Option (List PyData)
  | .list xs, .list ys => some (zipL xs ys)
  | .tuple xs, .tuple ys => some (zipL xs ys)
  | .tuple xs, .list ys => some (zipL xs ys)
  | _, _ => none

/-! ### objects -/
def objOf (ρ : Rho) (i : Nat) : Option (Str × List (Str × Fc)) := match (ρ[i]?).join with
  | some (.obj c fs) => some (c, fs)
  | some (.rob c fs) => some (c, fs)
  | _ => none
/-- an object's list, to be read -/
def fldL (ρ : Rho) (i : Nat) (x : Str) : Option (List PyData) := (objOf ρ i).bind fun p => match p.2.lookup x with
  | some (.lst xs) => some xs
  | _ => none
def fldI (ρ : Rho) (i : Nat) (x : Str) : Option PyData := (objOf ρ i).bind fun p => match p.2.lookup x with
  | some (.imm d) => some d
  | _ => none
def fixF (xs : List PyData) (i : Nat) (o : Option Cn) (r : RV) (ρ : Rho) : Rs RV := match dat ρ r with
  | some (.int k) => (Rs.ofOpt (L2.atI xs k) ρ).bind fun y ρ => .ok (.val (.imm y)) (ρ.set i o)
  | _ => .stuck
def fcOf : Cn → Option Fc
  | .imm d => some (.imm d)
  | .lst ds => some (.lst ds)
  | _ => none
/-- the object in a slot, to be changed -/
def ownO (ρ : Rho) (i : Nat) : Option (Str × List (Str × Fc)) := match (ρ[i]?).join with
  | some (.obj c fs) => some (c, fs)
  | _ => none
def newF (c : Str) (F : Fden) (rs : List RV) (ρ : Rho) : Rs RV :=
  if (slotsOf rs).Nodup then
    match argCs ρ rs with
    | none => .stuck
    | some cs => match F (.obj c [] :: cs) with
      | .ok (.imm .none) (o :: cs') => if cs'.length = cs.length then .ok (.val o) (back rs cs' ρ) else .stuck
      | _ => .stuck
  else .stuck
def setFF (T : Tb) (i : Nat) (x : Str) (k : Cn) (ρ : Rho) : Rs Fl := match ownO ρ i, fcOf k with
  | some (c, fs), some f => if fs.length < 900 ∧ T.flds.contains (c, x) = true then .ok .next (ρ.set i (some (.obj c (putC x f fs)))) else .stuck
  | _, _ => .stuck
/-- the object's list in a slot, to be changed -/
def ownL (ρ : Rho) (i : Nat) (x : Str) : Option (Str × List (Str × Fc) × List PyData) := (ownO ρ i).bind fun p => match p.2.lookup x with
  | some (.lst xs) => some (p.1, p.2, xs)
  | _ => none
open Classical in
/-- a lent object is taken back -/
noncomputable def unlend (i : Nat) (c : Str) (fs : List (Str × Fc)) (o : Rs Fl) : Rs Fl := match o with
  | .ok f ρ => if (ρ[i]?).join = some (.rob c fs) then .ok f (ρ.set i (some (.obj c fs))) else .stuck
  | .exc e ρ => if (ρ[i]?).join = some (.rob c fs) then .exc e (ρ.set i (some (.obj c fs))) else .stuck
  | .stuck => .stuck
def popAtF (i : Nat) (r : RV) (ρ : Rho) : Rs RV := match dat ρ r, (ρ[i]?).join with
  | some (.int k), some (.lst xs) => if 0 ≤ k ∧ k < xs.length ∧ xs.length ≤ lim then
      match xs[k.toNat]? with
      | some y => .ok (.val (.imm y)) (ρ.set i (some (.lst (xs.eraseIdx k.toNat))))
      | none => .stuck
    else .stuck
  | _, _ => .stuck
mutual
def evE (T : Tb) : Ex → Rho → Rs RV
  | .bad, _ => .stuck
  | .var i, ρ => match (ρ[i]?).join with
    | some (.imm d) => .ok (.val (.imm d)) ρ
    | some _ => .ok (.slot i) ρ
    | none => .stuck
  | .con d, ρ => .ok (.val (.imm d)) ρ
  | .glob j, ρ => (Rs.ofOpt T.cons[j]? ρ).bind fun d ρ => .ok (.val (.imm d)) ρ
  | .bin op a b, ρ => (evE T a ρ).bind fun x ρ => (evE T b ρ).bind fun y ρ => op2 (binop op) x y ρ
  | .rep a b, ρ => (evE T a ρ).bind fun x ρ => (evE T b ρ).bind fun y ρ => repop x y ρ
  | .neg a, ρ => (evE T a ρ).bind fun x ρ => op1 (fun d => match d with | .int i => some (.imm (.int (-i))) | _ => none) x ρ
  | .not a, ρ => (evE T a ρ).bind fun x ρ => (b2 x ρ).bind fun b ρ => .ok (.val (.imm (.bool (!b)))) ρ
  | .and a b, ρ => (evE T a ρ).bind fun x ρ => (b2 x ρ).bind fun c ρ => if c then evE T b ρ else .ok (.val (.imm (.bool false))) ρ
  | .or a b, ρ => (evE T a ρ).bind fun x ρ => (b2 x ρ).bind fun c ρ => if c then .ok (.val (.imm (.bool true))) ρ else evE T b ρ
  | .cmp op a b, ρ => (evE T a ρ).bind fun x ρ => (evE T b ρ).bind fun y ρ => op2 (fun u v => vb (cmpop op u v)) x y ρ
  | .chain o1 o2 a b c, ρ => (evE T a ρ).bind fun x ρ => (evE T b ρ).bind fun y ρ => (op2 (fun u v => vb (cmpop o1 u v)) x y ρ).bind fun z ρ => (b2 z ρ).bind fun k ρ =>
      if k then (evE T c ρ).bind fun w ρ => op2 (fun u v => vb (cmpop o2 u v)) y w ρ else .ok (.val (.imm (.bool false))) ρ
  | .ite c a b, ρ => (evE T c ρ).bind fun x ρ => (b2 x ρ).bind fun k ρ => if k then evE T a ρ else evE T b ρ
  | .tup es, ρ => (evA T es ρ).bind fun rs ρ => match frzs ρ rs with
    | some (ds, ρ) => if ds.length ≤ lim then .ok (.val (.imm (.tuple ds))) ρ else .stuck
    | none => .stuck
  | .lst es, ρ => (evA T es ρ).bind fun rs ρ => match frzs ρ rs with
    | some (ds, ρ) => if ds.length ≤ lim then .ok (.val (.lst ds)) ρ else .stuck
    | none => .stuck
  | .call j es, ρ => match T.fns[j]? with
    | some F => (evA T es ρ).bind fun rs ρ => callF F rs ρ
    | none => .stuck
  | .blt b es, ρ => (evA T es ρ).bind fun rs ρ => match rs.mapM (dat ρ) with
    | some ds => (Rs.ofOpt (bltop b ds) ρ).bind fun c ρ => .ok (.val c) ρ
    | none => .stuck
  | .isi a t, ρ => (evE T a ρ).bind fun x ρ => op1 (fun d => some (.imm (.bool (isTy d t)))) x ρ
  | .ix a b, ρ => (evE T a ρ).bind fun x ρ => (evE T b ρ).bind fun y ρ => op2 (fun u v => (ixD u v).map .imm) x y ρ
  | .slice a lo hi, ρ => (evE T a ρ).bind fun x ρ => (evO T lo ρ).bind fun l ρ => (evO T hi ρ).bind fun h ρ => op1 (fun d => slD d l h) x ρ
  | .comp elt tg it ifs own, ρ => (evI T it ρ).bind fun items ρ1 =>
      (compL (fun d ρ => (Rs.ofOpt (bindT tg d ρ) ρ).bind fun ρ' _ => (evC T ifs ρ').bind fun b ρ => if b then (evE T elt ρ).bind fun r ρ => (Rs.ofOpt (frz ρ r) ρ).bind fun p _ => .ok (some p.1) (wipeR p.2 own) else .ok none (wipeR ρ own)) items (wipeR ρ1 own)).noexc.bind fun ds ρ2 => if ds.length ≤ lim then .ok (.val (.lst ds)) (unwipe ρ1 own ρ2) else .stuck
  | .popL i, ρ => match (ρ[i]?).join with
    | some (.lst xs) => match xs.getLast? with
      | some y => .ok (.val (.imm y)) (ρ.set i (some (.lst xs.dropLast)))
      | none => .stuck
    | _ => .stuck
  | .popAt i e, ρ => match (ρ[i]?).join with
    | some (.lst _) => (evE T e ρ).bind fun r ρ => popAtF i r ρ
    | _ => .stuck
  | .fget i x, ρ => (Rs.ofOpt (fldI ρ i x) ρ).bind fun d ρ => .ok (.val (.imm d)) ρ
  | .fix i x e, ρ => (Rs.ofOpt (fldL ρ i x) ρ).bind fun xs ρ => (evE T e (ρ.set i none)).bind (fixF xs i (ρ[i]?).join)
  | .flen i x, ρ => (Rs.ofOpt (fldL ρ i x) ρ).bind fun xs ρ => .ok (.val (.imm (.int xs.length))) ρ
  | .fall i x, ρ => (Rs.ofOpt (fldL ρ i x) ρ).bind fun xs ρ => .ok (.val (.lst xs)) ρ
  | .back a lo st, ρ => (evE T a ρ).bind fun x ρ => (evO T lo ρ).bind fun l ρ => (evO T st ρ).bind fun h ρ => op1 (fun d => bkD d l h) x ρ
  | .fslice i x lo hi, ρ => (Rs.ofOpt (fldL ρ i x) ρ).bind fun xs ρ => (evO T lo (ρ.set i none)).bind fun l ρ' => (evO T hi ρ').bind fun h ρ' => .ok (.val (.lst (cutD xs l h))) (ρ'.set i (ρ[i]?).join)
  | .meth i j m es, ρ => match T.meths[j]? with
    | some (c, F) => (Rs.ofOpt (ownO ρ i) ρ).bind fun p ρ => if p.1 = c ∧ (p.2.lookup m).isNone = true then (evA T es ρ).bind fun rs ρ => callF F (.slot i :: rs) ρ else .stuck
    | none => .stuck
  | .new j es, ρ => match T.news[j]? with
    | some (c, F) => (evA T es ρ).bind fun rs ρ => newF c F rs ρ
    | none => .stuck
def evA (T : Tb) : Exs → Rho → Rs (List RV)
  | .nil, ρ => .ok [] ρ
  | .cons e es, ρ => (evE T e ρ).bind fun x ρ => (evA T es ρ).bind fun xs ρ => .ok (x :: xs) ρ
def evO (T : Tb) : Exo → Rho → Rs (Option Int)
  | .none, ρ => .ok none ρ
  | .some e, ρ => (evE T e ρ).bind fun x ρ => match dat ρ x with
    | some (.int i) => .ok (some i) ρ
    | _ => .stuck
def evC (T : Tb) : Exo → Rho → Rs Bool
  | .none, ρ => .ok true ρ
  | .some e, ρ => (evE T e ρ).bind fun x ρ => b2 x ρ
def evI (T : Tb) : Itb → Rho → Rs (List PyData)
  | .bad, _ => .stuck
  | .seq e, ρ => (evE T e ρ).bind fun r ρ => (Rs.ofOpt (frz ρ r) ρ).bind fun p _ => Rs.ofOpt (seqItems p.1) p.2
  | .rng1 a, ρ => (evE T a ρ).bind fun r ρ => match dat ρ r with
    | some d => Rs.ofOpt (rng (.int 0) d) ρ
    | none => .stuck
  | .rng2 a b, ρ => (evE T a ρ).bind fun x ρ => (evE T b ρ).bind fun y ρ => match dat ρ x, dat ρ y with
    | some d, some e => Rs.ofOpt (rng d e) ρ
    | _, _ => .stuck
  | .rng3 a b c, ρ => (evE T a ρ).bind fun x ρ => (evE T b ρ).bind fun y ρ => (evE T c ρ).bind fun z ρ => match dat ρ x, dat ρ y, dat ρ z with
    | some (.int i), some (.int j), some (.int (-1)) => Rs.ofOpt (rngDn i j) ρ
    | _, _, _ => .stuck
  | .enum e, ρ => (evE T e ρ).bind fun r ρ => (Rs.ofOpt (frz ρ r) ρ).bind fun p _ => Rs.ofOpt (enumD p.1) p.2
  | .zip es, ρ => (evA T es ρ).bind fun rs ρ => (Rs.ofOpt (frzs ρ rs) ρ).bind fun p _ => match p.1 with
    | [x, y] => Rs.ofOpt (zipD x y) p.2
    | _ => .stuck
end

def appF (i : Nat) (d : PyData) (ρ : Rho) : Rs Fl := match (ρ[i]?).join with
  | some (.lst xs) => if xs.length < lim then .ok .next (ρ.set i (some (.lst (xs ++ [d])))) else .stuck
  | _ => .stuck
def extF (i : Nat) (r : RV) (ρ : Rho) : Rs Fl := match r, (ρ[i]?).join with
  | .val (.lst ys), some (.lst xs) => if xs.length + ys.length ≤ lim then .ok .next (ρ.set i (some (.lst (xs ++ ys)))) else .stuck
  | _, _ => .stuck
def setIxF (i : Nat) (d : PyData) (q : RV) (ρ : Rho) : Rs Fl := match dat ρ q, (ρ[i]?).join with
  | some (.int j), some (.lst xs) => (Rs.ofOpt (L2.ixN xs.length j) ρ).bind fun n ρ => .ok .next (ρ.set i (some (.lst (xs.set n d))))
  | _, _ => .stuck
def retF (r : RV) (ρ : Rho) : Rs Fl := match r with
  | .val c => .ok (.ret c) ρ
  | .slot i => match (ρ[i]?).join with
    | some c => .ok (.ret c) (ρ.set i none)
    | none => .stuck
def thenF (g : Rho → Rs Fl) (f : Fl) (ρ : Rho) : Rs Fl := match f with
  | .next => g ρ
  | .ret c => .ok (.ret c) ρ
/-- what a turn of a loop leaves behind is forgotten -/
def wipF (wp : List Nat) (f : Fl) (ρ : Rho) : Rs Fl := .ok f (wipeR ρ wp)
def augF (i : Nat) (x : Int) (r : RV) (ρ : Rho) : Rs Fl := match dat ρ r with
  | some (.int y) => .ok .next (ρ.set i (some (.imm (.int (x + y)))))
  | _ => .stuck
mutual
noncomputable def evS (T : Tb) : Sx → Rho → Rs Fl
  | .bad, _ => .stuck
  | .pass, ρ => .ok .next ρ
  | .set (.one i) e, ρ => (evE T e ρ).bind fun r ρ => (Rs.ofOpt (keep ρ r) ρ).bind fun p _ => .ok .next (p.2.set i (some p.1))
  | .set (.tup is) e, ρ => (evE T e ρ).bind fun r ρ => match dat ρ r with
    | some d => (Rs.ofOpt (bindT (.tup is) d ρ) ρ).bind fun ρ _ => .ok .next ρ
    | none => .stuck
  | .set (.pr _ _) _, _ => .stuck
  | .setN is es, ρ => (evA T es ρ).bind fun rs ρ => (Rs.ofOpt (keeps ρ rs) ρ).bind fun p _ => if p.1.length = is.length then .ok .next (setAll is p.1 p.2) else .stuck
  | .drop e, ρ => (evE T e ρ).bind fun _ ρ => .ok .next ρ
  | .ret e, ρ => (evE T e ρ).bind retF
  | .retN, ρ => .ok (.ret (.imm .none)) ρ
  | .ifs c a b, ρ => (evE T c ρ).bind fun x ρ => (b2 x ρ).bind fun k ρ => if k then evSs T a ρ else evSs T b ρ
  | .forr tg it b wp, ρ => (evI T it ρ).bind fun items ρ => forL (fun d ρ => (Rs.ofOpt (bindT tg d ρ) ρ).bind fun ρ _ => (evSs T b ρ).bind (wipF wp)) items ρ
  | .whil c b wp, ρ => whileW (fun ρ => (evE T c ρ).bind fun x ρ => b2 x ρ) (fun ρ => (evSs T b ρ).bind (wipF wp)) ρ
  | .aug i e, ρ => match (ρ[i]?).join with
    | some (.imm (.int x)) => (evE T e ρ).bind (augF i x)
    | _ => .stuck
  | .app i e, ρ => match (ρ[i]?).join with
    | some (.lst _) => (evE T e ρ).bind fun r ρ => (Rs.ofOpt (frz ρ r) ρ).bind fun p _ => appF i p.1 p.2
    | _ => .stuck
  | .ext i e, ρ => match (ρ[i]?).join with
    | some (.lst _) => (evE T e ρ).bind fun r ρ => extF i r ρ
    | _ => .stuck
  | .setIx i k e, ρ => (evE T e ρ).bind fun r ρ => (Rs.ofOpt (frz ρ r) ρ).bind fun p _ => match (p.2[i]?).join with
    | some (.lst _) => (evE T k p.2).bind fun q ρ => setIxF i p.1 q ρ
    | _ => .stuck
  | .augIx _ _ _, _ => .stuck
  | .rais _, _ => .stuck
  | .setF i x e, ρ => (evE T e ρ).bind fun r ρ => (Rs.ofOpt (keep ρ r) ρ).bind fun p _ => setFF T i x p.1 p.2
  | .appF i x e, ρ => (Rs.ofOpt (ownL ρ i x) ρ).bind fun q ρ => (evE T e (ρ.set i none)).bind fun r ρ => (Rs.ofOpt (frz ρ r) ρ).bind fun p _ => if q.2.2.length < lim then .ok .next (p.2.set i (some (.obj q.1 (putC x (.lst (q.2.2 ++ [p.1])) q.2.1)))) else .stuck
  | .setIxF i x k e, ρ => (evE T e ρ).bind fun r ρ => (Rs.ofOpt (frz ρ r) ρ).bind fun p _ => (Rs.ofOpt (ownL p.2 i x) p.2).bind fun q ρ => (evE T k (ρ.set i none)).bind fun z ρ => match dat ρ z with
    | some (.int j) => (Rs.ofOpt (L2.ixN q.2.2.length j) ρ).bind fun n ρ => .ok .next (ρ.set i (some (.obj q.1 (putC x (.lst (q.2.2.set n p.1)) q.2.1))))
    | _ => .stuck
  | .forf i x tg b wp, ρ => (Rs.ofOpt (ownL ρ i x) ρ).bind fun q ρ => unlend i q.1 q.2.1 (forL (fun d ρ => (Rs.ofOpt (bindT tg d ρ) ρ).bind fun ρ _ => (evSs T b ρ).bind (wipF wp)) (enumL 0 q.2.2) (ρ.set i (some (.rob q.1 q.2.1))))
noncomputable def evSs (T : Tb) : Sxs → Rho → Rs Fl
  | .nil, ρ => .ok .next ρ
  | .cons s ss, ρ => (evS T s ρ).bind (thenF (fun ρ => evSs T ss ρ))
end

/-! ### a def -/
def tgA : Tg → List Nat
  | .one i => [i]
  | .tup is => is
  | .pr a b => tgA a ++ tgA b
mutual
/-- the slots that a text stores to -/
def stored : Sx → List Nat
  | .set (.one i) _ => [i]
  | .set (.tup is) _ => is
  | .setN is _ => is
  | .ifs _ a b => storeds a ++ storeds b
  | .forr (.one i) _ b _ => i :: storeds b
  | .forr (.tup is) _ b _ => is ++ storeds b
  | .forr (.pr a c) _ b _ => (tgA a ++ tgA c) ++ storeds b
  | .whil _ b _ => storeds b
  | .aug i _ => [i]
  | .forf _ _ (.one i) b _ => i :: storeds b
  | .forf _ _ (.tup is) b _ => is ++ storeds b
  | .forf _ _ (.pr a c) b _ => (tgA a ++ tgA c) ++ storeds b
  | _ => []
def storeds : Sxs → List Nat
  | .nil => []
  | .cons s ss => stored s ++ storeds ss
end
def isImm : Cn → Bool
  | .imm _ => true
  | _ => false
/-- what the arguments are worth behind the call -/
def outCs : Nat → List Cn → Rho → Option (List Cn)
  | _, [], _ => some []
  | k, c :: cs, ρ => match (if isImm c then some c else (ρ[k]?).join) with
    | some c' => (outCs (k + 1) cs ρ).map (c' :: ·)
    | none => none
/-- no owned argument's name is stored to -/
def freeOf (st : List Nat) : Nat → List Cn → Bool
  | _, [] => true
  | k, c :: cs => (isImm c || !st.contains k) && freeOf st (k + 1) cs
structure Fdef where
  np : Nat
  nn : Nat
  body : Sxs
noncomputable def evF (T : Tb) (f : Fdef) : Fden := fun cs =>
  if cs.length = f.np ∧ freeOf (storeds f.body) 0 cs = true then
    match evSs T f.body (cs.map some ++ List.replicate (f.nn - f.np) none) with
    | .ok fl ρ => match outCs 0 cs ρ with
      | some cs' => .ok (match fl with | .next => .imm .none | .ret c => c) cs'
      | none => .stuck
    | .exc e ρ => match outCs 0 cs ρ with
      | some cs' => .exc e cs'
      | none => .stuck
    | .stuck => .stuck
  else .stuck
end BP
end

section
/-! Bp2: from the text's own syntax to the small language. -/
namespace BP
open PySem L2

/-- what is known of the names where a piece of text stands -/
structure Tc where
  N : List Str
  sc : Scope
  fn : Str → Bool
  fns : List (Str × Nat)
  cons : List Str
  /-- slots that are known to be stored to before, slots that are read behind a loop -/
  asg : List Nat
  live : List Nat
  /-- methods by class, name and number of parameters; classes by name and parameters of __init__ -/
  meths : List (Str × Str × Nat) := []
  news : List (Str × Nat) := []

def visK : Option NameKind → Bool
  | some .local => true
  | some .cell => true
  | some .free => true
  | _ => false
def locK : Option NameKind → Bool
  | some .local => true
  | some .cell => true
  | _ => false
def isLocal : Option NameKind → Bool
  | some .local => true
  | _ => false
def glK : Option NameKind → Bool
  | some .globalImplicit => true
  | _ => false
def odd (x : Str) : Bool := x == ("__debug__" : Str) || x == ("__classdict__" : Str) || x == ("__name__" : Str)
def ixOf (x : Str) (l : List Str) : Option Nat := l.findIdx? (· == x)
def slotOf (c : Tc) (x : Str) : Option Nat := if visK (c.sc.names.lookup x) && !odd x then ixOf x c.N else none
/-- a slot that may be stored to -/
def setSlot (c : Tc) (x : Str) : Option Nat :=
  if locK (c.sc.names.lookup x) && (c.fn x || isLocal (c.sc.names.lookup x)) then ixOf x c.N else none
def glob (c : Tc) (x : Str) : Bool := glK (c.sc.names.lookup x) && !odd x

/-- the place of a def of that name with so many parameters -/
def fnIx (c : Tc) (x : Str) (n : Nat) : Option Nat := c.fns.findIdx? (fun p => p.1 == x && p.2 == n)
def methIx (c : Tc) (m : Str) (n : Nat) : Option Nat := c.meths.findIdx? (fun p => p.2.1 == m && p.2.2 == n)
def newIx (c : Tc) (x : Str) (n : Nat) : Option Nat := c.news.findIdx? (fun p => p.1 == x && p.2 == n)
/-- a field of an object in a slot -/
def fldOf (c : Tc) : Expr → Option (Nat × Str)
  | .Attribute (.Name y _) f _ => (slotOf c y).map fun i => (i, f)
  | _ => none
def fld1 (c : Tc) : List Expr → Option (Nat × Str)
  | [a] => fldOf c a
  | _ => none
def bopOf : Operator → Option Bop
  | .Add => some .add
  | .Sub => some .sub
  | .Mult => some .mul
  | .FloorDiv => some .fdiv
  | .Mod => some .mod
  | .Pow => some .pow
  | _ => none
def copOf : CmpOp → Cop
  | .Eq => .eq
  | .NotEq => .ne
  | .Lt => .lt
  | .LtE => .le
  | .Gt => .gt
  | .GtE => .ge
  | .Is => .is
  | .IsNot => .nis
  | .In => .inn
  | .NotIn => .nin
def bltTab : List (String × Blt) := [("len", .len), ("tuple", .tuple), ("list", .list), ("sorted", .sorted), ("sum", .sum), ("min", .min), ("max", .max), ("any", .any), ("all", .all), ("abs", .abs), ("int", .int), ("str", .str)]
def bltOf (x : Str) : Option Blt := (bltTab.find? fun p => Str.ofString p.1 == x).map (·.2)
def tyTab : List (String × Ty) := [("int", .int), ("bool", .bool), ("tuple", .tuple), ("list", .list), ("str", .str)]
def tyOf (x : Str) : Option Ty := (tyTab.find? fun p => Str.ofString p.1 == x).map (·.2)
def plainE : Expr → Bool
  | .Starred _ _ => false
  | _ => true
def noSet : Expr → Bool
  | .Set _ _ _ => false
  | _ => true
def noSlice : Expr → Bool
  | .Slice _ _ _ _ => false
  | _ => true
def isComp : Expr → Bool
  | .ListComp _ _ _ _ => true
  | .SetComp _ _ _ _ => true
  | .DictComp _ _ _ _ _ => true
  | _ => false

def exsOf : List Ex → Exs
  | [] => .nil
  | e :: es => .cons e (exsOf es)
def andL : List Ex → Ex
  | [] => .bad
  | [e] => e
  | e :: es => .and e (andL es)
def orL : List Ex → Ex
  | [] => .bad
  | [e] => e
  | e :: es => .or e (orL es)
def namesOf (c : Tc) : List Expr → Option (List Nat)
  | [] => some []
  | .Name x _ :: r => match setSlot c x, namesOf c r with
    | some i, some is => some (i :: is)
    | _, _ => none
  | _ :: _ => none
def tg1 (c : Tc) : Expr → Option Tg
  | .Name x _ => (setSlot c x).map .one
  | .Tuple es _ _ => (namesOf c es).map .tup
  | _ => none
def tgPr (c : Tc) : List Expr → Option Tg
  | [a, b] => match tg1 c a, tg1 c b with
    | some s, some t => some (.pr s t)
    | _, _ => none
  | _ => none
def tgOf (c : Tc) : Expr → Option Tg
  | .Name x _ => (setSlot c x).map .one
  | .Tuple es _ _ => match namesOf c es with
    | some is => some (.tup is)
    | none => tgPr c es
  | _ => none
def tgIn : Tg → List Nat → Bool
  | .one i, l => l.contains i
  | .tup is, l => is.all l.contains
  | .pr a b, l => tgIn a l && tgIn b l
def isListE : Expr → Bool
  | .List _ _ => true
  | _ => false
def isMul : Bop → Bool
  | .mul => true
  | _ => false
def isTupE : Expr → Bool
  | .Tuple _ _ _ => true
  | _ => false

/-- the slots of a comprehension's own names -/
def ownOf (N : List Str) : List (Str × NameKind) → List (Str × Nat)
  | [] => []
  | (y, k) :: r => if locK (some k) then (match ixOf y N with | some i => (y, i) :: ownOf N r | none => ownOf N r) else ownOf N r

mutual
def trE : Nat → Tc → Expr → Ex
  | 0, _, _ => .bad
  | n + 1, c, e => match e with
    | .Name x _ => match slotOf c x with
      | some i => .var i
      | none => if glob c x then (match ixOf x c.cons with | some j => .glob j | none => .bad) else .bad
    | .Constant k _ _ => match k with
      | .int i => .con (.int i)
      | .str x => .con (.str x)
      | .bool b => .con (.bool b)
      | .none => .con .none
      | _ => .bad
    | .BinOp a op b _ => match bopOf op with
      | some o => if isMul o && isListE a then .rep (trE n c a) (trE n c b) else .bin o (trE n c a) (trE n c b)
      | none => .bad
    | .UnaryOp op a _ => match op with
      | .USub => .neg (trE n c a)
      | .Not => .not (trE n c a)
      | _ => .bad
    | .BoolOp op vs _ => match op with
      | .And => andL (trEs n c vs)
      | .Or => orL (trEs n c vs)
    | .Compare a ops bs _ => match ops, bs with
      | [op], [b] => if behindInMarks op b = false then .cmp (copOf op) (trE n c a) (trE n c b) else .bad
      | [o1, o2], [b, d] => if behindInMarks o1 b = false ∧ behindInMarks o2 d = false then .chain (copOf o1) (copOf o2) (trE n c a) (trE n c b) (trE n c d) else .bad
      | _, _ => .bad
    | .IfExp t a b _ => .ite (trE n c t) (trE n c a) (trE n c b)
    | .Tuple es _ _ => if es.all plainE then .tup (exsOf (trEs n c es)) else .bad
    | .List es _ => if es.all plainE then .lst (exsOf (trEs n c es)) else .bad
    | .Attribute o f p => match fldOf c (.Attribute o f p) with
      | some (i, x) => .fget i x
      | none => .bad
    | .Call f as ks cpos => match f, ks with
      | .Name x _, [] => if glob c x && as.all plainE then
          (match newIx c x (as.length + 1) with
          | some j => .new j (exsOf (trEs n c as))
          | none => if as.isEmpty then .bad else
            (match fnIx c x as.length with
            | some j => .call j (exsOf (trEs n c as))
            | none => match fld1 c as with
              | some (i, f) => if x == ("len" : Str) then .flen i f else if x == ("list" : Str) then .fall i f else .bad
              | none => match bltOf x with
                | some b => .blt b (exsOf (trEs n c as))
                | none => if x == ("isinstance" : Str) then (match as with
                  | [a, .Name t _] => if glob c t then (match tyOf t with | some ty => .isi (trE n c a) ty | none => .bad) else .bad
                  | _ => .bad) else .bad))
        else .bad
      | .Attribute (.Name x _) m apos, [] => if apos.endLine == cpos.line && as.all plainE && decide (as.length < 30) then (match slotOf c x with
          | some i => if m == ("pop" : Str) then (match as with
              | [] => .popL i
              | [a] => .popAt i (trE n c a)
              | _ => .bad)
            else (match methIx c m (as.length + 1) with
              | some j => .meth i j m (exsOf (trEs n c as))
              | none => .bad)
          | none => .bad) else .bad
      | _, _ => .bad
    | .Subscript a b _ => match fldOf c a with
      | some (i, f) => (match b with
        | .Slice lo hi st _ => (match st with
          | none => .fslice i f (trO n c lo) (trO n c hi)
          | some _ => .bad)
        | b => .fix i f (trE n c b))
      | none => (match b with
        | .Slice lo hi st _ => (match st with
          | none => .slice (trE n c a) (trO n c lo) (trO n c hi)
          | some st => (match hi with
            | none => .back (trE n c a) (trO n c lo) (trO n c (some st))
            | some _ => .bad))
        | b => .ix (trE n c a) (trE n c b))
    | .ListComp elt gs scope _ => match gs with
      | [⟨tg, iter, ifs, 0⟩] =>
        let own := ownOf c.N scope.names
        let c' : Tc := { c with sc := relS scope c.sc, fn := fun x => scope.names.lookup x == some .cell }
        if blkC c.N c.sc scope own && noSet iter && decide ((own.map (·.2)).Nodup) then
          (match tgOf c' tg, ifs with
          | some t, [] => if tgIn t (own.map (·.2)) then .comp (trE n c' elt) t (trI n c (isTupE tg) iter) .none (own.map (·.2)) else .bad
          | some t, [i] => if tgIn t (own.map (·.2)) then .comp (trE n c' elt) t (trI n c (isTupE tg) iter) (.some (trE n c' i)) (own.map (·.2)) else .bad
          | _, _ => .bad)
        else .bad
      | _ => .bad
    | _ => .bad
def trEs : Nat → Tc → List Expr → List Ex
  | n, c, es => es.map fun e => match n with
    | 0 => .bad
    | n + 1 => trE n c e
def trO : Nat → Tc → Option Expr → Exo
  | _, _, none => .none
  | 0, _, some _ => .some .bad
  | n + 1, c, some e => .some (trE n c e)
def trI : Nat → Tc → Bool → Expr → Itb
  | 0, _, _, _ => .bad
  | n + 1, c, tup, e => match e with
    | .Call (.Name x _) as [] _ =>
      if glob c x && as.all plainE && !as.isEmpty then
        (if x == ("range" : Str) then (match as with
          | [a] => .rng1 (trE n c a)
          | [a, b] => .rng2 (trE n c a) (trE n c b)
          | [a, b, d] => .rng3 (trE n c a) (trE n c b) (trE n c d)
          | _ => .bad)
        else if x == ("enumerate" : Str) then (match as with
          | [a] => if tup then .enum (trE n c a) else .bad
          | _ => .bad)
        else if x == ("zip" : Str) then (match as with
          | [a, b] => if tup then .zip (exsOf [trE n c a, trE n c b]) else .bad
          | _ => .bad)
        else .seq (trE n c e))
      else .bad
    | e => .seq (trE n c e)
end

/-! ### statements -/
def isTuple2 : Expr → Option (List Expr)
  | .Tuple vs _ _ => some vs
  | _ => none
/-- are all targets plain locals, on one line? -/
def allLoc (c : Tc) (line : Nat) : List Expr → Bool
  | [] => true
  | .Name x p :: r => isLocal (c.sc.names.lookup x) && p.line == line && allLoc c line r
  | _ :: _ => false
def firstLine : List Expr → Nat
  | [] => 0
  | e :: _ => e.pos.line
/-- how a, b = x, y is stored: 1 plain, 2 from the right, 0 not known here -/
def swK (c : Tc) (ts vs : List Expr) : Nat :=
  if ts.length == 2 || ts.length == 3 then
    (if allLoc c (firstLine ts) ts then
      (if vs.all (foldedForSure 8) then 1 else if vs.all (constantsAlone 8) then 0 else 2)
    else 1)
  else 1
def compOk (c : Tc) (x : Str) (p : Pos) (e : Expr) : Bool := match e with
  | .ListComp _ _ scope pos => if isLocal (c.sc.names.lookup x) then p.line == pos.line && !(scope.names.any fun (n, k) => n == x && (k == .local || k == .cell)) else true
  | .SetComp _ _ _ _ => false
  | .DictComp _ _ _ _ _ => false
  | _ => true
def seqS (f : List Nat → Stmt → Sx) : List Nat → List Stmt → List Sx
  | _, [] => []
  | a, s :: r => f a s :: seqS f (a ++ stored (f a s)) r
def tgL : Tg → List Nat
  | .one i => [i]
  | .tup is => is
  | .pr a b => tgL a ++ tgL b
def wpOf (c : Tc) (l : List Nat) : List Nat := (l.filter fun i => !c.asg.contains i && !c.live.contains i).eraseDups
def sxsOf : List Sx → Sxs
  | [] => .nil
  | s :: ss => .cons s (sxsOf ss)
/-- enumerate over a field -/
def fldE (c : Tc) : Expr → Option (Nat × Str)
  | .Call (.Name x _) [a] [] _ => if x == ("enumerate" : Str) && glob c x then fldOf c a else none
  | _ => none
mutual
def trS : Nat → Tc → Stmt → Sx
  | 0, _, _ => .bad
  | n + 1, c, s => match s with
    | .Pass _ => .pass
    | .Return none _ => .retN
    | .Return (some e) _ => .ret (trE n c e)
    | .If t a b _ => .ifs (trE n c t) (trSs n c a) (trSs n c b)
    | .For tg iter body els _ => match els, tgOf c tg with
      | [], some t => match fldE c iter, isTupE tg with
        | some (i, f), true => if (tgL t ++ storeds (trSs n { c with asg := c.asg ++ tgL t } body)).contains i then .bad else .forf i f t (trSs n { c with asg := c.asg ++ tgL t } body) (wpOf c (tgL t ++ storeds (trSs n { c with asg := c.asg ++ tgL t } body)))
        | _, _ => if noSet iter then .forr t (trI n c (isTupE tg) iter) (trSs n { c with asg := c.asg ++ tgL t } body) (wpOf c (tgL t ++ storeds (trSs n { c with asg := c.asg ++ tgL t } body))) else .bad
      | _, _ => .bad
    | .While t body els _ => match els with
      | [] => .whil (trE n c t) (trSs n c body) (wpOf c (storeds (trSs n c body)))
      | _ :: _ => .bad
    | .AugAssign t op e _ => match t, op with
      | .Name x _, .Add => match setSlot c x with
        | some i => .aug i (trE n c e)
        | none => .bad
      | _, _ => .bad
    | .Expr e _ => match e with
      | .Call (.Attribute (.Name x _) m apos) [a] [] cpos =>
        if (m == ("append" : Str) || m == ("extend" : Str)) then
          (if apos.endLine == cpos.line && plainE a then
            (match slotOf c x with
            | some i => if m == ("append" : Str) then .app i (trE n c a) else .ext i (trE n c a)
            | none => .bad)
          else .bad)
        else .drop (trE n c e)
      | .Call (.Attribute (.Attribute o f p) m apos) [a] [] cpos =>
        if m == ("append" : Str) && apos.endLine == cpos.line && plainE a then
          (match fldOf c (.Attribute o f p) with
          | some (i, x) => .appF i x (trE n c a)
          | none => .bad)
        else .bad
      | .Call f as ks cp => .drop (trE n c (.Call f as ks cp))
      | _ => .bad
    | .Assign ts e _ => match ts with
      | [.Name x p] => match setSlot c x with
        | some i => if compOk c x p e then .set (.one i) (trE n c e) else .bad
        | none => .bad
      | [.Tuple es _ _] => match namesOf c es with
        | some is => match isTuple2 e with
          | some vs => if vs.all plainE && vs.length == es.length && decide is.Nodup && decide (is.length ≤ 1000) then
              (match swK c es vs with
              | 1 => .setN is (exsOf (trEs n c vs))
              | 2 => .setN is (exsOf (trEs n c vs))
              | _ => .bad)
            else .bad
          | none => .set (.tup is) (trE n c e)
        | none => .bad
      | [.Attribute o f p] => match fldOf c (.Attribute o f p) with
        | some (i, x) => .setF i x (trE n c e)
        | none => .bad
      | [.Subscript (.Attribute o f p) k _] => match fldOf c (.Attribute o f p) with
        | some (i, x) => if noSlice k then .setIxF i x (trE n c k) (trE n c e) else .bad
        | none => .bad
      | [.Subscript (.Name x _) k _] => match slotOf c x with
        | some i => if noSlice k then .setIx i (trE n c k) (trE n c e) else .bad
        | none => .bad
      | _ => .bad
    | _ => .bad
def trSs : Nat → Tc → List Stmt → Sxs
  | n, c, ss => sxsOf (seqS (fun a s => match n with
    | 0 => .bad
    | n + 1 => trS n { c with asg := a } s) c.asg ss)
end
end BP
end

section
/-! Bp3: plain data in the heap, what is owned in it. -/
namespace BP
open PySem L2

abbrev Ent := Option V × Option Cn

theorem sqL_mono {K : PySem.W.Frag} {G G' : Hp} {a : Addr} {xs : List V} (h : Same G G') (q : SqL K G a xs) : SqL K G' a xs := h.seq q
theorem sqT_mono {K : PySem.W.Frag} {G G' : Hp} {a : Addr} {xs : List V} (h : Same G G') (q : SqT K G a xs) : SqT K G' a xs := by
  rcases q with (q | ⟨o, q⟩) | q
  · exact .inl (.inl (h _ _ q))
  · exact .inl (.inr ⟨o, h _ _ q⟩)
  · exact .inr q
theorem rd_mono {G G' : Hp} {a : Addr} {u : HO} (h : Same G G') (q : Rd G a u) : Rd G' a u := by
  rcases q with q | ⟨o, q⟩
  · exact .inl (h _ _ q)
  · exact .inr ⟨o, h _ _ q⟩
/-! plain data in the heap -/
mutual
inductive Dq (K : PySem.W.Frag) (H : Hp) : V → PyData → Prop
  | non : Dq K H .non .none
  | bl (b : Bool) : Dq K H (.bl b) (.bool b)
  | int (i : Int) : Dq K H (.int i) (.int i)
  | str (x : Str) : Dq K H (.str x) (.str x)
  | lst {a : Addr} {xs : List V} {ds : List PyData} : Rd H a (.lst xs) → DqAll K H xs ds → Dq K H (.ref a) (.list ds)
  | tup {a : Addr} {xs : List V} {ds : List PyData} : SqT K H a xs → DqAll K H xs ds → Dq K H (.ref a) (.tuple ds)
inductive DqAll (K : PySem.W.Frag) (H : Hp) : List V → List PyData → Prop
  | nil : DqAll K H [] []
  | cons {v : V} {vs : List V} {d : PyData} {ds : List PyData} : Dq K H v d → DqAll K H vs ds → DqAll K H (v :: vs) (d :: ds)
end
mutual
theorem dq_dp {K : PySem.W.Frag} {G : Hp} : ∀ {v : V} {d : PyData}, Dq K G v d → Dp K G v d
  | _, _, .non => .non
  | _, _, .bl b => .bl b
  | _, _, .int i => .int i
  | _, _, .str x => .str x
  | _, _, .lst q r => .lst (.inl q) (dqAll_dp r)
  | _, _, .tup q r => .tup q (dqAll_dp r)
theorem dqAll_dp {K : PySem.W.Frag} {G : Hp} : ∀ {vs : List V} {ds : List PyData}, DqAll K G vs ds → DpAll K G vs ds
  | _, _, .nil => .nil
  | _, _, .cons a b => .cons (dq_dp a) (dqAll_dp b)
end
mutual
theorem dp_mono {K : PySem.W.Frag} {G G' : Hp} (h : Same G G') : ∀ {v : V} {d : PyData}, Dq K G v d → Dq K G' v d
  | _, _, .non => .non
  | _, _, .bl b => .bl b
  | _, _, .int i => .int i
  | _, _, .str x => .str x
  | _, _, .lst q r => .lst (rd_mono h q) (dpAll_mono h r)
  | _, _, .tup q r => .tup (sqT_mono h q) (dpAll_mono h r)
theorem dpAll_mono {K : PySem.W.Frag} {G G' : Hp} (h : Same G G') : ∀ {vs : List V} {ds : List PyData}, DqAll K G vs ds → DqAll K G' vs ds
  | _, _, .nil => .nil
  | _, _, .cons a b => .cons (dp_mono h a) (dpAll_mono h b)
end
section
variable {K : PySem.W.Frag} {G H : Hp}
theorem DqAll.len : ∀ {vs : List V} {ds : List PyData}, DqAll K G vs ds → vs.length = ds.length
  | _, _, .nil => rfl
  | _, _, .cons _ b => by simp [DqAll.len b]
theorem DqAll.get : ∀ {vs : List V} {ds : List PyData} {i : Nat} {d : PyData}, DqAll K G vs ds → ds[i]? = some d → ∃ v, vs[i]? = some v ∧ Dq K G v d
  | _, _, _, _, .nil, e => by simp at e
  | _, _, 0, _, .cons a _, e => by simp at e; subst e; exact ⟨_, rfl, a⟩
  | _, _, i + 1, _, .cons _ b, e => by
    obtain ⟨v, h1, h2⟩ := DqAll.get (i := i) b (by simpa using e)
    exact ⟨v, by simpa using h1, h2⟩
theorem DqAll.getV : ∀ {vs : List V} {ds : List PyData} {i : Nat} {v : V}, DqAll K G vs ds → vs[i]? = some v → ∃ d, ds[i]? = some d ∧ Dq K G v d
  | _, _, _, _, .nil, e => by simp at e
  | _, _, 0, _, .cons a _, e => by simp at e; subst e; exact ⟨_, rfl, a⟩
  | _, _, i + 1, _, .cons _ b, e => by
    obtain ⟨v, h1, h2⟩ := DqAll.getV (i := i) b (by simpa using e)
    exact ⟨v, by simpa using h1, h2⟩
theorem DqAll.app : ∀ {vs ws : List V} {ds es : List PyData}, DqAll K G vs ds → DqAll K G ws es → DqAll K G (vs ++ ws) (ds ++ es)
  | _, _, _, _, .nil, s => s
  | _, _, _, _, .cons a b, s => .cons a (DqAll.app b s)
theorem DqAll.take : ∀ {vs : List V} {ds : List PyData} (n : Nat), DqAll K G vs ds → DqAll K G (vs.take n) (ds.take n)
  | _, _, 0, _ => by simpa using DqAll.nil
  | _, _, _ + 1, .nil => .nil
  | _, _, n + 1, .cons a b => .cons a (DqAll.take n b)
theorem DqAll.drop : ∀ {vs : List V} {ds : List PyData} (n : Nat), DqAll K G vs ds → DqAll K G (vs.drop n) (ds.drop n)
  | _, _, 0, h => by simpa using h
  | _, _, _ + 1, .nil => .nil
  | _, _, n + 1, .cons _ b => DqAll.drop n b
theorem DqAll.set {v : V} {d : PyData} (h : Dq K G v d) : ∀ {vs : List V} {ds : List PyData} (n : Nat), DqAll K G vs ds → DqAll K G (vs.set n v) (ds.set n d)
  | _, _, _, .nil => .nil
  | _, _, 0, .cons _ b => .cons h b
  | _, _, n + 1, .cons a b => .cons a (DqAll.set h n b)
theorem DqAll.erase : ∀ {vs : List V} {ds : List PyData} (n : Nat), DqAll K G vs ds → DqAll K G (vs.eraseIdx n) (ds.eraseIdx n)
  | _, _, _, .nil => .nil
  | _, _, 0, .cons _ b => b
  | _, _, n + 1, .cons a b => .cons a (DqAll.erase n b)
theorem DqAll.dropLast : ∀ {vs : List V} {ds : List PyData}, DqAll K G vs ds → DqAll K G vs.dropLast ds.dropLast
  | _, _, .nil => .nil
  | _, _, .cons _ .nil => .nil
  | _, _, .cons a (.cons b c) => .cons a (DqAll.dropLast (.cons b c))
theorem DqAll.rep {vs : List V} {ds : List PyData} (h : DqAll K G vs ds) : ∀ n : Nat, DqAll K G (List.replicate n vs).flatten (List.replicate n ds).flatten
  | 0 => .nil
  | n + 1 => by rw [List.replicate_succ, List.replicate_succ]; exact DqAll.app h (DqAll.rep h n)
end

/-! ### what stands behind a value -/
/-- a claim: 0 owned, 1 lent, 2 the right to take back what is lent -/
abbrev Clm := Addr × Nat
/-- a field's value -/
def FCell (K : PySem.W.Frag) (H G : Hp) (v : V) : Fc → List Addr → Prop
  | .imm d, A => A = [] ∧ Dq K G v d
  | .lst ds, A => ∃ a vs, v = .ref a ∧ A = [a] ∧ H a = some (.lst vs) ∧ DqAll K G vs ds
inductive FCells (K : PySem.W.Frag) (H G : Hp) : List (Str × V) → List (Str × Fc) → List Addr → Prop
  | nil : FCells K H G [] [] []
  | cons {x : Str} {v : V} {f : Fc} {A B : List Addr} {vs : List (Str × V)} {fs : List (Str × Fc)} : FCell K H G v f A → FCells K H G vs fs B → FCells K H G ((x, v) :: vs) ((x, f) :: fs) (A ++ B)
/-- what an object's class must be like -/
def OkC (K : PySem.W.Frag) (c : Str) (fs : List (Str × Fc)) : Prop := Cls K (He.ga K c) ∧ ∀ x f, fs.lookup x = some f → NoAttr K (He.ga K c) x
/-- an object at its address, with its own dict and its lists -/
def OCellV (K : PySem.W.Frag) (H G : Hp) (v : V) (c : Str) (fs : List (Str × Fc)) (vfs : List (Str × V)) (A : List Addr) : Prop :=
  ∃ a dx B, v = .ref a ∧ A = a :: dx :: B ∧ H a = some (.ins (He.ga K c) dx vfs) ∧ H dx = some (.own a) ∧ FCells K H G vfs fs B ∧ OkC K c fs
def OCell (K : PySem.W.Frag) (H G : Hp) (v : V) (c : Str) (fs : List (Str × Fc)) (A : List Addr) : Prop :=
  ∃ a dx vfs B, v = .ref a ∧ A = a :: dx :: B ∧ H a = some (.ins (He.ga K c) dx vfs) ∧ H dx = some (.own a) ∧ FCells K H G vfs fs B ∧ OkC K c fs
def Cell (K : PySem.W.Frag) (H G B : Hp) (v : V) : Cn → List Clm → Prop
  | .imm d, F => F = [] ∧ Dq K G v d
  | .lst ds, F => ∃ a vs, v = .ref a ∧ F = [(a, 0)] ∧ H a = some (.lst vs) ∧ DqAll K G vs ds
  | .dct _, _ => False
  | .obj c fs, F => ∃ A, F = A.map (·, 0) ∧ OCell K H G v c fs A
  | .rob c fs, F => ∃ A, F = A.map (·, 1) ∧ OCell K B G v c fs A
  | .tkn c fs vfs, F => ∃ A, F = A.map (·, 2) ∧ OCellV K B G v c fs vfs A
  | .obv c fs vfs, F => ∃ A, F = A.map (·, 0) ∧ OCellV K H G v c fs vfs A
  | .rbv c fs vfs, F => ∃ A, F = A.map (·, 1) ∧ OCellV K B G v c fs vfs A
def Ent1 (K : PySem.W.Frag) (H G B : Hp) : Ent → List Clm → Prop
  | (_, none), F => F = []
  | (none, some _), _ => False
  | (some v, some c), F => Cell K H G B v c F
structure RepG (K : PySem.W.Frag) (G H : Hp) (l : List Ent) : Prop where
  sub : Same G H
  ex : ∃ (B : Hp) (Fs : List (List Clm)), Paired (Ent1 K H G B) l Fs ∧ Fs.flatten.Nodup ∧ Same B H ∧ (∀ a o, B a = some o → G a = none) ∧ ∀ p ∈ Fs.flatten, p.2 = 0 → G p.1 = none ∧ B p.1 = none
def Rep (K : PySem.W.Frag) (H : Hp) (l : List Ent) : Prop := ∃ G, RepG K G H l

section
variable {K : PySem.W.Frag} {G G' H H' B B' : Hp} {v : V} {c : Cn} {F : List Clm} {l l' : List Ent}
theorem FCell.there {f : Fc} {A : List Addr} (h : FCell K H G v f A) : ∀ a ∈ A, ∃ o, H a = some o := by
  cases f with
  | imm d => obtain ⟨rfl, _⟩ := h; simp
  | lst ds =>
    obtain ⟨a, vs, _, rfl, e, _⟩ := h
    intro b hb
    have : b = a := by simpa using hb
    subst this
    exact ⟨_, e⟩
theorem FCell.stay {f : Fc} {A : List Addr} (h : FCell K H G v f A) (hg : Same G G') (hh : ∀ a ∈ A, H' a = H a) : FCell K H' G' v f A := by
  cases f with
  | imm d => exact ⟨h.1, dp_mono hg h.2⟩
  | lst ds =>
    obtain ⟨a, vs, e1, rfl, e, d⟩ := h
    exact ⟨a, vs, e1, rfl, by rw [hh a (by simp)]; exact e, dpAll_mono hg d⟩
theorem FCells.there : ∀ {vs : List (Str × V)} {fs : List (Str × Fc)} {A : List Addr}, FCells K H G vs fs A → ∀ a ∈ A, ∃ o, H a = some o
  | _, _, _, .nil, a, h => by simp at h
  | _, _, _, .cons p q, a, h => by
    rcases List.mem_append.mp h with h | h
    · exact p.there a h
    · exact FCells.there q a h
theorem FCells.stay : ∀ {vs : List (Str × V)} {fs : List (Str × Fc)} {A : List Addr}, FCells K H G vs fs A → Same G G' → (∀ a ∈ A, H' a = H a) → FCells K H' G' vs fs A
  | _, _, _, .nil, _, _ => .nil
  | _, _, _, .cons p q, hg, hh => .cons (p.stay hg fun a h => hh a (List.mem_append_left _ h)) (FCells.stay q hg fun a h => hh a (List.mem_append_right _ h))
theorem OCell.there {c : Str} {fs : List (Str × Fc)} {A : List Addr} (h : OCell K H G v c fs A) : ∀ a ∈ A, ∃ o, H a = some o := by
  obtain ⟨a, dx, vfs, B, _, rfl, e1, e2, q, ok⟩ := h
  intro b hb
  simp only [List.mem_cons] at hb
  rcases hb with rfl | rfl | hb
  · exact ⟨_, e1⟩
  · exact ⟨_, e2⟩
  · exact q.there b hb
theorem OCell.stay {c : Str} {fs : List (Str × Fc)} {A : List Addr} (h : OCell K H G v c fs A) (hg : Same G G') (hh : ∀ a ∈ A, H' a = H a) : OCell K H' G' v c fs A := by
  obtain ⟨a, dx, vfs, B, e0, rfl, e1, e2, q, ok⟩ := h
  exact ⟨a, dx, vfs, B, e0, rfl, by rw [hh a (by simp)]; exact e1, by rw [hh dx (by simp)]; exact e2, q.stay hg (fun b hb => hh b (by simp [hb])), ok⟩
theorem OCellV.o {c : Str} {fs : List (Str × Fc)} {vfs : List (Str × V)} {A : List Addr} (h : OCellV K H G v c fs vfs A) : OCell K H G v c fs A := by
  obtain ⟨a, dx, B, e⟩ := h
  exact ⟨a, dx, vfs, B, e⟩
theorem OCell.vs {c : Str} {fs : List (Str × Fc)} {A : List Addr} (h : OCell K H G v c fs A) : ∃ vfs, OCellV K H G v c fs vfs A := by
  obtain ⟨a, dx, vfs, B, e⟩ := h
  exact ⟨vfs, a, dx, B, e⟩
theorem OCellV.stay {c : Str} {fs : List (Str × Fc)} {vfs : List (Str × V)} {A : List Addr} (h : OCellV K H G v c fs vfs A) (hg : Same G G') (hh : ∀ a ∈ A, H' a = H a) : OCellV K H' G' v c fs vfs A := by
  obtain ⟨a, dx, B, e0, rfl, e1, e2, q, ok⟩ := h
  exact ⟨a, dx, B, e0, rfl, by rw [hh a (by simp)]; exact e1, by rw [hh dx (by simp)]; exact e2, q.stay hg (fun b hb => hh b (by simp [hb])), ok⟩
theorem Cell.there (h : Cell K H G B v c F) (hb : Same B H) : ∀ p ∈ F, ∃ o, H p.1 = some o := by
  have key : ∀ (H0 : Hp) (n : Nat) (A : List Addr), Same H0 H → (∀ a ∈ A, ∃ o, H0 a = some o) → ∀ p ∈ A.map (fun a => ((a, n) : Clm)), ∃ o, H p.1 = some o := fun H0 n A hs ha p hp => by
    obtain ⟨a, h1, rfl⟩ := List.mem_map.mp hp
    obtain ⟨o, e⟩ := ha a h1
    exact ⟨o, hs a o e⟩
  cases c with
  | imm d => obtain ⟨rfl, _⟩ := h; simp
  | lst ds =>
    obtain ⟨a, vs, _, rfl, e, _⟩ := h
    intro p hp
    have : p = (a, 0) := by simpa using hp
    subst this
    exact ⟨_, e⟩
  | dct _ => exact h.elim
  | obj _ _ =>
    obtain ⟨A, rfl, q⟩ := h
    exact key H 0 A (Same.refl _) q.there
  | rob _ _ =>
    obtain ⟨A, rfl, q⟩ := h
    exact key B 1 A hb q.there
  | tkn _ _ _ =>
    obtain ⟨A, rfl, q⟩ := h
    exact key B 2 A hb q.o.there
  | obv _ _ _ =>
    obtain ⟨A, rfl, q⟩ := h
    exact key H 0 A (Same.refl _) q.o.there
  | rbv _ _ _ =>
    obtain ⟨A, rfl, q⟩ := h
    exact key B 1 A hb q.o.there
theorem Cell.stay (h : Cell K H G B v c F) (hg : Same G G') (hh : ∀ p ∈ F, p.2 = 0 → H' p.1 = H p.1) (hb : ∀ p ∈ F, p.2 ≠ 0 → B' p.1 = B p.1) : Cell K H' G' B' v c F := by
  cases c with
  | imm d => exact ⟨h.1, dp_mono hg h.2⟩
  | lst ds =>
    obtain ⟨a, vs, e1, rfl, e, d⟩ := h
    exact ⟨a, vs, e1, rfl, by rw [hh (a, 0) (by simp) rfl]; exact e, dpAll_mono hg d⟩
  | dct _ => exact h.elim
  | obj _ _ =>
    obtain ⟨A, rfl, q⟩ := h
    exact ⟨A, rfl, q.stay hg fun a ha => hh (a, 0) (List.mem_map.mpr ⟨a, ha, rfl⟩) rfl⟩
  | rob _ _ =>
    obtain ⟨A, rfl, q⟩ := h
    exact ⟨A, rfl, q.stay hg fun a ha => hb (a, 1) (List.mem_map.mpr ⟨a, ha, rfl⟩) (by simp)⟩
  | tkn _ _ _ =>
    obtain ⟨A, rfl, q⟩ := h
    exact ⟨A, rfl, q.stay hg fun a ha => hb (a, 2) (List.mem_map.mpr ⟨a, ha, rfl⟩) (by simp)⟩
  | obv _ _ _ =>
    obtain ⟨A, rfl, q⟩ := h
    exact ⟨A, rfl, q.stay hg fun a ha => hh (a, 0) (List.mem_map.mpr ⟨a, ha, rfl⟩) rfl⟩
  | rbv _ _ _ =>
    obtain ⟨A, rfl, q⟩ := h
    exact ⟨A, rfl, q.stay hg fun a ha => hb (a, 1) (List.mem_map.mpr ⟨a, ha, rfl⟩) (by simp)⟩
theorem Ent1.there {e : Ent} (h : Ent1 K H G B e F) (hb : Same B H) : ∀ p ∈ F, ∃ o, H p.1 = some o := by
  obtain ⟨x, y⟩ := e
  cases y with
  | none => cases h; simp
  | some c =>
    cases x with
    | none => exact h.elim
    | some v => exact Cell.there h hb
theorem Ent1.stay {e : Ent} (h : Ent1 K H G B e F) (hg : Same G G') (hh : ∀ p ∈ F, p.2 = 0 → H' p.1 = H p.1) (hb : ∀ p ∈ F, p.2 ≠ 0 → B' p.1 = B p.1) : Ent1 K H' G' B' e F := by
  obtain ⟨x, y⟩ := e
  cases y with
  | none => exact h
  | some c =>
    cases x with
    | none => exact h.elim
    | some v => exact Cell.stay h hg hh hb
theorem paired_stay {Fs : List (List Clm)} (h : Paired (Ent1 K H G B) l Fs) (hg : Same G G') (hh : ∀ p ∈ Fs.flatten, p.2 = 0 → H' p.1 = H p.1) (hb : ∀ p ∈ Fs.flatten, p.2 ≠ 0 → B' p.1 = B p.1) : Paired (Ent1 K H' G' B') l Fs := by
  induction h with
  | nil => exact .nil
  | cons a b ih =>
    simp only [List.flatten_cons, List.mem_append] at hh hb
    exact .cons (a.stay hg (fun x hx => hh x (.inl hx)) fun x hx => hb x (.inl hx)) (ih (fun x hx => hh x (.inr hx)) fun x hx => hb x (.inr hx))
theorem paired_there {Fs : List (List Clm)} (h : Paired (Ent1 K H G B) l Fs) (hb : Same B H) : ∀ p ∈ Fs.flatten, ∃ o, H p.1 = some o := by
  induction h with
  | nil => simp
  | cons a b ih =>
    intro x hx
    simp only [List.flatten_cons, List.mem_append] at hx
    rcases hx with hx | hx
    · exact a.there hb x hx
    · exact ih x hx
theorem paired_perm (p : l.Perm l') : ∀ {Fs : List (List Clm)}, Paired (Ent1 K H G B) l Fs → ∃ Fs', Paired (Ent1 K H G B) l' Fs' ∧ Fs.flatten.Perm Fs'.flatten := by
  induction p with
  | nil => intro Fs h; exact ⟨Fs, h, .refl _⟩
  | cons x _ ih =>
    intro Fs h
    cases h with
    | cons a b =>
      obtain ⟨Fs', h1, h2⟩ := ih b
      exact ⟨_, .cons a h1, by simpa using h2.append_left _⟩
  | swap x y l =>
    intro Fs h
    cases h with
    | cons a b =>
      cases b with
      | cons b c =>
        refine ⟨_, .cons b (.cons a c), ?_⟩
        simp only [List.flatten_cons, ← List.append_assoc]
        exact List.perm_append_comm.append_right _
  | trans _ _ ih1 ih2 =>
    intro Fs h
    obtain ⟨F1, h1, p1⟩ := ih1 h
    obtain ⟨F2, h2, p2⟩ := ih2 h1
    exact ⟨F2, h2, p1.trans p2⟩
theorem RepG.perm (h : RepG K G H l) (p : l.Perm l') : RepG K G H l' := by
  obtain ⟨hs, B, Fs, h1, h2, h3, h4, h5⟩ := h
  obtain ⟨Fs', h1', p'⟩ := paired_perm p h1
  exact ⟨hs, B, Fs', h1', p'.nodup_iff.mp h2, h3, h4, fun a ha => h5 a (p'.mem_iff.mpr ha)⟩
theorem RepG.tail {e : Ent} (h : RepG K G H (e :: l)) : RepG K G H l := by
  obtain ⟨hs, B, Fs, h1, h2, h3, h4, h5⟩ := h
  cases h1 with
  | cons a b =>
    simp only [List.flatten_cons] at h2 h5
    exact ⟨hs, B, _, b, (List.nodup_append.mp h2).2.1, h3, h4, fun a ha => h5 a (List.mem_append_right _ ha)⟩
theorem Rep.perm (h : Rep K H l) (p : l.Perm l') : Rep K H l' := let ⟨G, h⟩ := h; ⟨G, h.perm p⟩
theorem Rep.tail {e : Ent} (h : Rep K H (e :: l)) : Rep K H l := let ⟨G, h⟩ := h; ⟨G, h.tail⟩
theorem RepG.tails : ∀ (es : List Ent), RepG K G H (es ++ l) → RepG K G H l
  | [], h => h
  | _ :: r, h => RepG.tails r (RepG.tail h)
theorem Rep.tails {es : List Ent} (h : Rep K H (es ++ l)) : Rep K H l := let ⟨G, h⟩ := h; ⟨G, h.tails es⟩
/-- from the middle -/
theorem Rep.mid {A B C : List Ent} (h : Rep K H (A ++ (B ++ C))) : Rep K H (A ++ C) := by
  refine Rep.tails (es := B) (h.perm ?_)
  rw [← List.append_assoc, ← List.append_assoc]
  exact List.perm_append_comm.append_right _
theorem Rep.rot {A B C : List Ent} (h : Rep K H (A ++ (B ++ C))) : Rep K H (B ++ (A ++ C)) := by
  refine h.perm ?_
  rw [← List.append_assoc, ← List.append_assoc]
  exact List.perm_append_comm.append_right _
theorem RepG.rot {A B C : List Ent} (h : RepG K G H (A ++ (B ++ C))) : RepG K G H (B ++ (A ++ C)) := by
  refine h.perm ?_
  rw [← List.append_assoc, ← List.append_assoc]
  exact List.perm_append_comm.append_right _
/-- plain data may be told twice -/
theorem RepG.add {d : PyData} (h : RepG K G H l) (q : Dq K G v d) : RepG K G H ((some v, some (.imm d)) :: l) := by
  obtain ⟨hs, B, Fs, h1, h2, h3, h4, h5⟩ := h
  exact ⟨hs, B, [] :: Fs, .cons ⟨rfl, q⟩ h1, by simpa using h2, h3, h4, fun a ha => h5 a (by simpa using ha)⟩
theorem RepG.blank {x : Option V} (h : RepG K G H l) : RepG K G H ((x, none) :: l) := by
  obtain ⟨hs, B, Fs, h1, h2, h3, h4, h5⟩ := h
  refine ⟨hs, B, [] :: Fs, .cons ?_ h1, by simpa using h2, h3, h4, fun a ha => h5 a (by simpa using ha)⟩
  cases x <;> rfl
theorem RepG.imm {d : PyData} (h : RepG K G H ((some v, some (.imm d)) :: l)) : Dq K G v d := by
  obtain ⟨hs, B, Fs, h1, _⟩ := h
  cases h1 with
  | cons a b => exact a.2
theorem RepG.mem {d : PyData} : ∀ {l : List Ent}, RepG K G H l → (some v, some (.imm d)) ∈ l → Dq K G v d
  | _ :: _, h, m => by
    rcases List.mem_cons.mp m with e | m
    · subst e; exact h.imm
    · exact RepG.mem h.tail m
theorem RepG.lst {ds : List PyData} (h : RepG K G H ((some v, some (.lst ds)) :: l)) : ∃ a vs, v = .ref a ∧ H a = some (.lst vs) ∧ DqAll K G vs ds ∧ G a = none := by
  obtain ⟨hs, B, Fs, h1, h2, h3, h4, h5⟩ := h
  cases h1 with
  | cons p b =>
    obtain ⟨a, vs, e1, e2, e3, e4⟩ := p
    subst e2
    exact ⟨a, vs, e1, e3, e4, (h5 (a, 0) (by simp) rfl).1⟩
/-- what stands at an owned address is changed -/
theorem same_write {a : Addr} {o : HO} (hs : Same G H) (na : G a = none) : Same G (upd H a o) := fun b u e => by
  rw [upd_ne (fun z => by rw [z, na] at e; cases e)]
  exact hs b u e
/-- what was owned is changed -/
theorem RepG.write {a : Addr} {ds ds' : List PyData} {vs' : List V} (h : RepG K G H ((some (.ref a), some (.lst ds)) :: l)) (q : DqAll K G vs' ds') :
    RepG K G (upd H a (.lst vs')) ((some (.ref a), some (.lst ds')) :: l) := by
  obtain ⟨hs, B, Fs, h1, h2, h3, h4, h5⟩ := h
  cases h1 with
  | cons p b =>
    obtain ⟨a', vs, e1, e2, e3, e4⟩ := p
    cases e1
    subst e2
    simp only [List.flatten_cons, List.cons_append, List.nil_append, List.nodup_cons] at h2
    have na := h5 (a, 0) (by simp) rfl
    refine ⟨same_write hs na.1, B, [(a, 0)] :: _, .cons ⟨a, vs', rfl, rfl, upd_same, q⟩ (paired_stay b (Same.refl _) (fun x hx h0 => upd_ne fun z => h2.1 ?_) fun _ _ _ => rfl), by simpa using h2, same_write h3 na.2, h4, h5⟩
    obtain ⟨x1, x2⟩ := x
    simp only at z h0
    subst z h0
    exact hx
/-- what was owned is plain from now on -/
theorem RepG.freeze {ds : List PyData} (h : RepG K G H ((some v, some (.lst ds)) :: l)) : ∃ G', RepG K G' H ((some v, some (.imm (.list ds))) :: l) ∧ Same G G' := by
  obtain ⟨hs, B, Fs, h1, h2, h3, h4, h5⟩ := h
  cases h1 with
  | cons p b =>
    obtain ⟨a, vs, e1, e2, e3, e4⟩ := p
    subst e2 e1
    simp only [List.flatten_cons, List.cons_append, List.nil_append, List.nodup_cons] at h2
    have na := h5 (a, 0) (by simp) rfl
    have sm : Same G (upd G a (.lst vs)) := fun b o e => by
      rw [upd_ne (fun z => by rw [z, na.1] at e; cases e)]; exact e
    refine ⟨upd G a (.lst vs), ⟨fun b o e => ?_, B, [] :: _, .cons ⟨rfl, .lst (.inl upd_same) (dpAll_mono sm e4)⟩ (paired_stay b sm (fun _ _ _ => rfl) fun _ _ _ => rfl), by simpa using h2.2, h3, fun b o e => ?_, fun x hx h0 => ?_⟩, sm⟩
    · by_cases hb : b = a
      · subst hb; rw [upd_same] at e; cases e; exact e3
      · rw [upd_ne hb] at e; exact hs b o e
    · rw [upd_ne (fun z => by rw [z, na.2] at e; cases e)]
      exact h4 b o e
    · rw [List.flatten_cons, List.nil_append] at hx
      have ne : x.1 ≠ a := fun z => h2.1 (by obtain ⟨x1, x2⟩ := x; simp only at z h0; subst z h0; exact hx)
      rw [upd_ne ne]
      exact h5 x (by rw [List.flatten_cons]; exact List.mem_append_right _ hx) h0

theorem same_new {p : Addr} {o : HO} (h : H p = none) : Same H (upd H p o) := fun b x e => by
  rw [upd_ne (ne_of_none e h)]; exact e
/-- something new that nobody speaks of -/
theorem RepG.alloc {p : Addr} {o : HO} (h : RepG K G H l) (hp : H p = none) : RepG K G (upd H p o) l := by
  obtain ⟨hs, B, Fs, h1, h2, h3, h4, h5⟩ := h
  refine ⟨hs.trans (same_new hp), B, Fs, paired_stay h1 (Same.refl _) (fun x hx _ => ?_) fun _ _ _ => rfl, h2, h3.trans (same_new hp), h4, h5⟩
  obtain ⟨u, e⟩ := paired_there h1 h3 x hx
  exact upd_ne (ne_of_none e hp)
/-- how a new value comes to be -/
def Made (K : PySem.W.Frag) (G H : Hp) (v : V) (c : Cn) (H' : Hp) : Prop :=
  (H' = H ∧ ∃ d, c = .imm d ∧ Dq K G v d) ∨ (∃ p vs ds, v = .ref p ∧ H p = none ∧ DqAll K G vs ds ∧ ((c = .imm (.tuple ds) ∧ H' = upd H p (.tup vs)) ∨ (c = .lst ds ∧ H' = upd H p (.lst vs))))
theorem RepG.made (h : RepG K G H l) (m : Made K G H v c H') : Rep K H' ((some v, some c) :: l) := by
  rcases m with ⟨rfl, d, rfl, q⟩ | ⟨p, vs, ds, rfl, hp, q, ⟨rfl, rfl⟩ | ⟨rfl, rfl⟩⟩
  · exact ⟨G, h.add q⟩
  · obtain ⟨hs, B, Fs, h1, h2, h3, h4, h5⟩ := h
    have gp : G p = none := hs.free hp
    have bp : B p = none := h3.free hp
    have sm : Same G (upd G p (.tup vs)) := same_new gp
    have ne : ∀ x ∈ Fs.flatten, x.1 ≠ p := fun x hx z => by
      obtain ⟨o, e⟩ := paired_there h1 h3 x hx
      rw [z, hp] at e; cases e
    refine ⟨upd G p (.tup vs), fun b o e => ?_, B, [] :: Fs, .cons ⟨rfl, .tup (.inl (.inl upd_same)) (dpAll_mono sm q)⟩ (paired_stay h1 sm (fun x hx _ => upd_ne (ne x hx)) fun _ _ _ => rfl), by simpa using h2, fun b o e => ?_, fun b o e => ?_, fun x hx h0 => ?_⟩
    · by_cases hb : b = p
      · subst hb; rw [upd_same] at e ⊢; exact e
      · rw [upd_ne hb] at e ⊢; exact hs b o e
    · rw [upd_ne (fun z => by rw [z, bp] at e; cases e)]
      exact h3 b o e
    · rw [upd_ne (fun z => by rw [z, bp] at e; cases e)]
      exact h4 b o e
    · have hx : x ∈ Fs.flatten := by simpa using hx
      rw [upd_ne (ne x hx)]; exact h5 x hx h0
  · obtain ⟨hs, B, Fs, h1, h2, h3, h4, h5⟩ := h
    have gp : G p = none := hs.free hp
    have bp : B p = none := h3.free hp
    have ne : ∀ x ∈ Fs.flatten, x.1 ≠ p := fun x hx z => by
      obtain ⟨o, e⟩ := paired_there h1 h3 x hx
      rw [z, hp] at e; cases e
    refine ⟨G, same_write hs gp, B, [(p, 0)] :: Fs, .cons ⟨p, vs, rfl, rfl, upd_same, q⟩ (paired_stay h1 (Same.refl _) (fun x hx _ => upd_ne (ne x hx)) fun _ _ _ => rfl), ?_, same_write h3 bp, h4, fun x hx h0 => ?_⟩
    · simp only [List.flatten_cons, List.cons_append, List.nil_append, List.nodup_cons]
      exact ⟨fun hx => ne _ hx rfl, h2⟩
    · simp only [List.flatten_cons, List.cons_append, List.nil_append, List.mem_cons] at hx
      rcases hx with rfl | hx
      · exact ⟨gp, bp⟩
      · exact h5 x hx h0

/-- a value as it may be read now -/
def View (K : PySem.W.Frag) (G H : Hp) (v : V) (d : PyData) : Prop :=
  Dq K G v d ∨ ∃ a vs ds, v = .ref a ∧ d = .list ds ∧ H a = some (.lst vs) ∧ DqAll K G vs ds
theorem View.dp (hs : Same G H) {d : PyData} (h : View K G H v d) : Dp K H v d := by
  rcases h with h | ⟨a, vs, ds, rfl, rfl, e, q⟩
  · exact dq_dp (dp_mono hs h)
  · exact .lst (SqL.of e) (dqAll_dp (dpAll_mono hs q))
theorem View.int {i : Int} (h : View K G H v (.int i)) : v = .int i := by
  rcases h with h | ⟨_, _, _, _, e, _⟩
  · cases h; rfl
  · cases e
theorem View.bool {i : Bool} (h : View K G H v (.bool i)) : v = .bl i := by
  rcases h with h | ⟨_, _, _, _, e, _⟩
  · cases h; rfl
  · cases e
theorem View.str {i : Str} (h : View K G H v (.str i)) : v = .str i := by
  rcases h with h | ⟨_, _, _, _, e, _⟩
  · cases h; rfl
  · cases e
theorem View.non (h : View K G H v .none) : v = .non := by
  rcases h with h | ⟨_, _, _, _, e, _⟩
  · cases h; rfl
  · cases e
theorem View.list (hs : Same G H) {ds : List PyData} (h : View K G H v (.list ds)) : ∃ a vs, v = .ref a ∧ Rd H a (.lst vs) ∧ DqAll K G vs ds := by
  rcases h with h | ⟨a, vs, ds', rfl, e, q, r⟩
  · cases h with
    | lst q r => exact ⟨_, _, rfl, rd_mono hs q, r⟩
  · cases e; exact ⟨a, vs, rfl, .inl q, r⟩
theorem View.tuple (hs : Same G H) {ds : List PyData} (h : View K G H v (.tuple ds)) : ∃ a vs, v = .ref a ∧ SqT K H a vs ∧ DqAll K G vs ds := by
  rcases h with h | ⟨a, vs, ds', rfl, e, q, r⟩
  · cases h with
    | tup q r => exact ⟨_, _, rfl, sqT_mono hs q, r⟩
  · cases e
end

/-! ### slots -/
theorem set_split {α : Type} : ∀ (l : List α) (i : Nat), i < l.length → ∃ A x B, l = A ++ x :: B ∧ A.length = i ∧ ∀ y, l.set i y = A ++ y :: B
  | x :: r, 0, _ => ⟨[], x, r, rfl, rfl, fun _ => rfl⟩
  | x :: r, i + 1, h => by
    obtain ⟨A, y, B, e1, e2, e3⟩ := set_split r i (by simpa using h)
    exact ⟨x :: A, y, B, by rw [e1]; rfl, by simp [e2], fun z => by simp [e3 z]⟩
theorem zip_split {α β : Type} {l : List α} {m : List β} {i : Nat} (hl : l.length = m.length) (hi : i < l.length) : ∃ A B x y, l[i]? = some x ∧ m[i]? = some y ∧ l.zip m = A ++ (x, y) :: B ∧ (∀ y', l.zip (m.set i y') = A ++ (x, y') :: B) ∧ ∀ x' y', (l.set i x').zip (m.set i y') = A ++ (x', y') :: B := by
  obtain ⟨A, x, B, e1, e2, e3⟩ := set_split l i hi
  obtain ⟨A', y, B', e1', e2', e3'⟩ := set_split m i (hl ▸ hi)
  have hz : ∀ (p : α) (q : β), (A ++ p :: B).zip (A' ++ q :: B') = A.zip A' ++ (p, q) :: B.zip B' := fun p q => by
    rw [List.zip_append (by rw [e2, e2'])]; rfl
  refine ⟨A.zip A', B.zip B', x, y, ?_, ?_, ?_, fun y' => ?_, fun x' y' => ?_⟩
  · rw [e1, ← e2]; simp
  · rw [e1', ← e2']; simp
  · rw [e1, e1']; exact hz x y
  · rw [e3', e1]; exact hz x y'
  · rw [e3, e3']; exact hz x' y'
section
variable {K : PySem.W.Frag} {G G' H H' : Hp} {v : V} {c : Cn} {fr : List Ent} {σ : St} {ρ : Rho} {i : Nat}
theorem join_some {x : Option (Option Cn)} {c : Cn} (h : x.join = some c) : x = some (some c) := by
  cases x with
  | none => cases h
  | some y => cases y with
    | none => cases h
    | some z => simp at h; rw [h]
theorem lt_of_get {α : Type} {l : List α} {i : Nat} {x : α} (h : l[i]? = some x) : i < l.length := by
  rcases Nat.lt_or_ge i l.length with q | q
  · exact q
  · rw [List.getElem?_eq_none q] at h; cases h
/-- the thing in a slot, taken out -/
theorem RepG.out (h : RepG K G H (σ.zip ρ ++ fr)) (hl : σ.length = ρ.length) (e : (ρ[i]?).join = some c) :
    ∃ v, σ[i]? = some (some v) ∧ RepG K G H ((some v, some c) :: (σ.zip (ρ.set i none) ++ fr)) := by
  have e := join_some e
  obtain ⟨A, B, x, y, hx, hy, z1, z2, z3⟩ := zip_split hl (hl ▸ lt_of_get e)
  rw [e] at hy
  cases hy
  rw [z1] at h
  cases x with
  | none =>
    have := (h.perm (l' := (none, some c) :: (A ++ B ++ fr)) (by
      rw [List.append_assoc, List.cons_append, List.append_assoc]; exact List.perm_middle)).ex
    obtain ⟨_, Fs, p, _⟩ := this
    cases p with
    | cons a b => exact a.elim
  | some v =>
    refine ⟨v, hx, ?_⟩
    rw [z2 none]
    have h' : RepG K G H ((some v, some c) :: (A ++ (B ++ fr))) := h.perm (by
      rw [List.append_assoc, List.cons_append]; exact List.perm_middle)
    have h2 : RepG K G H ((some v, none) :: ((some v, some c) :: (A ++ (B ++ fr)))) := h'.blank
    refine h2.perm ?_
    rw [List.append_assoc, List.cons_append]
    exact (List.Perm.swap _ _ _).trans (List.Perm.cons _ List.perm_middle.symm)
/-- .. and put back -/
theorem RepG.inn (h : RepG K G H ((some v, some c) :: (σ.zip (ρ.set i none) ++ fr))) (hl : σ.length = ρ.length) (e : σ[i]? = some (some v)) : RepG K G H (σ.zip (ρ.set i (some c)) ++ fr) := by
  obtain ⟨A, B, x, y, hx, hy, z1, z2, z3⟩ := zip_split hl (lt_of_get e)
  rw [e] at hx
  cases hx
  rw [z2] at h ⊢
  have h1 : RepG K G H ((some v, none) :: (some v, some c) :: (A ++ (B ++ fr))) := h.perm (by
    rw [List.append_assoc, List.cons_append]
    exact (List.Perm.cons _ List.perm_middle).trans (List.Perm.swap _ _ _))
  refine h1.tail.perm ?_
  rw [List.append_assoc, List.cons_append]
  exact List.perm_middle.symm
/-- a value stored in a slot -/
theorem RepG.store (h : RepG K G H ((some v, some c) :: (σ.zip ρ ++ fr))) (hl : σ.length = ρ.length) (hi : i < σ.length) : RepG K G H ((σ.set i (some v)).zip (ρ.set i (some c)) ++ fr) := by
  obtain ⟨A, B, x, y, hx, hy, z1, z2, z3⟩ := zip_split hl hi
  rw [z1] at h
  rw [z3]
  have h1 : RepG K G H ((x, y) :: (some v, some c) :: (A ++ (B ++ fr))) := h.perm (by
    rw [List.append_assoc, List.cons_append]
    exact (List.Perm.cons _ List.perm_middle).trans (List.Perm.swap _ _ _))
  refine h1.tail.perm ?_
  rw [List.append_assoc, List.cons_append]
  exact List.perm_middle.symm
theorem Rep.store (h : Rep K H ((some v, some c) :: (σ.zip ρ ++ fr))) (hl : σ.length = ρ.length) (hi : i < σ.length) : Rep K H ((σ.set i (some v)).zip (ρ.set i (some c)) ++ fr) := let ⟨G, h⟩ := h; ⟨G, h.store hl hi⟩
theorem set_set_none (ρ : Rho) (i : Nat) (c : Option Cn) : (ρ.set i none).set i c = ρ.set i c := by simp
end

theorem RepG.forget {K : PySem.W.Frag} {G H : Hp} {σ : L2.St} {ρ : Rho} {fr : List Ent} (h : RepG K G H (σ.zip ρ ++ fr)) (hl : σ.length = ρ.length) (i : Nat) : RepG K G H (σ.zip (ρ.set i none) ++ fr) := by
  rcases Nat.lt_or_ge i ρ.length with hi | hi
  · obtain ⟨A, B, x, y, hx, hy, z1, z2, z3⟩ := zip_split hl (hl ▸ hi)
    rw [z1] at h
    rw [z2]
    have h1 : RepG K G H ((x, y) :: (A ++ (B ++ fr))) := h.perm (by
      rw [List.append_assoc, List.cons_append]
      exact List.perm_middle)
    have h2 : RepG K G H ((x, none) :: (A ++ (B ++ fr))) := h1.tail.blank
    refine h2.perm ?_
    rw [List.append_assoc, List.cons_append]
    exact List.perm_middle.symm
  · rw [List.set_eq_of_length_le hi]
    exact h
/-! ### an expression's value -/
def ent (v : V) : RV → List Ent
  | .val c => [(some v, some c)]
  | .slot _ => []
def side (σ : St) (v : V) : RV → Prop
  | .val _ => True
  | .slot i => σ[i]? = some (some v)
def ents : List V → List RV → List Ent
  | v :: vs, r :: rs => ent v r ++ ents vs rs
  | _, _ => []
inductive Sides (σ : St) : List V → List RV → Prop
  | nil : Sides σ [] []
  | cons {v : V} {r : RV} {vs : List V} {rs : List RV} : side σ v r → Sides σ vs rs → Sides σ (v :: vs) (r :: rs)
section
variable {K : PySem.W.Frag} {G G' H H' : Hp} {v : V} {c : Cn} {fr : List Ent} {σ : St} {ρ : Rho} {i : Nat} {r : RV} {d : PyData}
/-- it may be read -/
theorem RepG.view (h : RepG K G H (ent v r ++ (σ.zip ρ ++ fr))) (hl : σ.length = ρ.length) (hs : side σ v r) (e : dat ρ r = some d) : View K G H v d := by
  cases r with
  | val c =>
    cases c with
    | imm d' =>
      have : d' = d := by simpa [dat, cnOf, datC] using e
      subst this
      exact .inl h.imm
    | lst ds =>
      have : PyData.list ds = d := by simpa [dat, cnOf, datC] using e
      subst this
      obtain ⟨a, vs, e1, e2, e3, _⟩ := h.lst
      exact .inr ⟨a, vs, ds, e1, rfl, e2, e3⟩
    | _ => simp [dat, cnOf, datC] at e
  | slot i =>
    have h : RepG K G H (σ.zip ρ ++ fr) := h
    have e : ((ρ[i]?).join).bind datC = some d := e
    cases q : (ρ[i]?).join with
    | none => rw [q] at e; cases e
    | some c =>
      rw [q] at e
      obtain ⟨w, hw, h'⟩ := h.out hl q
      have : some (some w) = some (some v) := hw.symm.trans hs
      cases this
      cases c with
      | imm d' =>
        have : d' = d := by simpa [datC] using e
        subst this
        exact .inl h'.imm
      | lst ds =>
        have : PyData.list ds = d := by simpa [datC] using e
        subst this
        obtain ⟨a, vs, e1, e2, e3, _⟩ := h'.lst
        exact .inr ⟨a, vs, ds, e1, rfl, e2, e3⟩
      | _ => simp [datC] at e
/-- it is plain from now on -/
theorem RepG.frz {ρ' : Rho} (h : RepG K G H (ent v r ++ (σ.zip ρ ++ fr))) (hl : σ.length = ρ.length) (hs : side σ v r) (e : BP.frz ρ r = some (d, ρ')) :
    ∃ G', RepG K G' H ((some v, some (.imm d)) :: (σ.zip ρ' ++ fr)) ∧ Same G G' ∧ ρ'.length = ρ.length := by
  cases r with
  | val c =>
    cases c with
    | imm d' =>
      have : d' = d ∧ ρ = ρ' := by simpa [BP.frz, datC] using e
      obtain ⟨rfl, rfl⟩ := this
      exact ⟨G, h, Same.refl _, rfl⟩
    | lst ds =>
      have : PyData.list ds = d ∧ ρ = ρ' := by simpa [BP.frz, datC] using e
      obtain ⟨rfl, rfl⟩ := this
      obtain ⟨G', h', s'⟩ := RepG.freeze (l := σ.zip ρ ++ fr) h
      exact ⟨G', h', s', rfl⟩
    | _ => simp [BP.frz, datC] at e
  | slot i =>
    have h : RepG K G H (σ.zip ρ ++ fr) := h
    have e : ((ρ[i]?).join.bind datC).map (fun d => (d, ρ.set i (some (.imm d)))) = some (d, ρ') := e
    cases q : (ρ[i]?).join with
    | none => rw [q] at e; cases e
    | some c =>
      rw [q] at e
      obtain ⟨w, hw, h'⟩ := h.out hl q
      have : some (some w) = some (some v) := hw.symm.trans hs
      cases this
      cases c with
      | imm d' =>
        have : d' = d ∧ ρ.set i (some (.imm d')) = ρ' := by simpa [datC] using e
        obtain ⟨rfl, rfl⟩ := this
        exact ⟨G, (h'.inn hl hs).add h'.imm, Same.refl _, by simp⟩
      | lst ds =>
        have : PyData.list ds = d ∧ ρ.set i (some (.imm (.list ds))) = ρ' := by simpa [datC] using e
        obtain ⟨rfl, rfl⟩ := this
        obtain ⟨G', h2, s'⟩ := RepG.freeze h'
        exact ⟨G', (h2.inn hl hs).add h2.imm, s', by simp⟩
      | _ => simp [datC] at e
theorem Rep.frz {ρ' : Rho} (h : Rep K H (ent v r ++ (σ.zip ρ ++ fr))) (hl : σ.length = ρ.length) (hs : side σ v r) (e : BP.frz ρ r = some (d, ρ')) :
    Rep K H ((some v, some (.imm d)) :: (σ.zip ρ' ++ fr)) ∧ ρ'.length = ρ.length := by
  obtain ⟨G, h⟩ := h
  obtain ⟨G', h', _, l⟩ := h.frz hl hs e
  exact ⟨⟨G', h'⟩, l⟩
end
end BP
end

section
/-! Bp4: an expression of the text and what it is worth. -/
namespace BP
open PySem PySem.Spec PyProof.Rows L2

theorem perm_rot {α : Type} (A B C : List α) : (A ++ (B ++ C)).Perm (B ++ (A ++ C)) := by
  have := (List.perm_append_comm (l₁ := A) (l₂ := B)).append_right C
  rw [List.append_assoc, List.append_assoc] at this
  exact this
/-- what is wanted of an outcome -/
def Wish {α : Type} (K : PySem.W.Frag) (W : Nat → Hp → Prop) (σ : L2.St) (fr : List Ent) (o : Rs α) (P : α → Rho → Prop) : Prop :=
  match o with
  | .ok a ρ => ρ.length = σ.length → P a ρ
  | .exc c ρ => ρ.length = σ.length → ∀ H, Rep K H (σ.zip ρ ++ fr) → W c H
  | .stuck => False
section
variable {α β : Type} {K : PySem.W.Frag} {W : Nat → Hp → Prop} {σ : L2.St} {fr : List Ent} {o : Rs α}
theorem Wish.bind {g : α → Rho → Rs β} {P : β → Rho → Prop} (h : Wish K W σ fr (o.bind g) P) : Wish K W σ fr o (fun a ρ => Wish K W σ fr (g a ρ) P) := by
  cases o with
  | ok a ρ => exact fun _ => h
  | exc c ρ => exact h
  | stuck => exact h
theorem Wish.mono {P P' : α → Rho → Prop} (h : Wish K W σ fr o P) (q : ∀ a ρ, ρ.length = σ.length → P a ρ → P' a ρ) : Wish K W σ fr o P' := by
  cases o with
  | ok a ρ => exact fun l => q a ρ l (h l)
  | exc c ρ => exact h
  | stuck => exact h
theorem Wish.frame {P : α → Rho → Prop} (es : List Ent) (h : Wish K W σ fr o P) : Wish K W σ (es ++ fr) o P := by
  cases o with
  | ok a ρ => exact h
  | exc c ρ => exact fun l H r => h l H r.mid
  | stuck => exact h
theorem Wish.opt {x : Option α} {ρ : Rho} {P : α → Rho → Prop} (h : Wish K W σ fr (Rs.ofOpt x ρ) P) (l : ρ.length = σ.length) : ∃ a, x = some a ∧ P a ρ := by
  cases x with
  | none => exact h.elim
  | some a => exact ⟨a, rfl, h l⟩
end

/-- e is worth f -/
def DE (X : Cx) (W : Nat → Hp → Prop) (e : Expr) (f : Rho → Rs RV) : Prop :=
  ∃ t, PE X e t ∧ ∀ σ H ρ fr Q, σ.length = ρ.length → Rep X.K H (σ.zip ρ ++ fr) →
    Wish X.K W σ fr (f ρ) (fun r ρ' => ∀ v H', Rep X.K H' (ent v r ++ (σ.zip ρ' ++ fr)) → side σ v r → Q v H') → t σ H Q
def DT (X : Cx) (W : Nat → Hp → Prop) (e : Expr) (f : Rho → Rs Bool) : Prop :=
  ∃ t, PT X e t ∧ ∀ σ H ρ fr Q, σ.length = ρ.length → Rep X.K H (σ.zip ρ ++ fr) →
    Wish X.K W σ fr (f ρ) (fun b ρ' => ∀ H', Rep X.K H' (σ.zip ρ' ++ fr) → Q b H') → t σ H Q
def DA (X : Cx) (W : Nat → Hp → Prop) (es : List Expr) (f : Rho → Rs (List RV)) : Prop :=
  ∃ t, PA X es t ∧ ∀ σ H ρ fr Q, σ.length = ρ.length → Rep X.K H (σ.zip ρ ++ fr) →
    Wish X.K W σ fr (f ρ) (fun rs ρ' => ∀ vs H', Rep X.K H' (ents vs rs ++ (σ.zip ρ' ++ fr)) → Sides σ vs rs → Q vs H') → t σ H Q
def DO (X : Cx) (W : Nat → Hp → Prop) (e : Option Expr) (f : Rho → Rs (Option Int)) : Prop :=
  ∃ t, PO X e t ∧ ∀ σ H ρ fr Q, σ.length = ρ.length → Rep X.K H (σ.zip ρ ++ fr) →
    Wish X.K W σ fr (f ρ) (fun b ρ' => ∀ H', Rep X.K H' (σ.zip ρ' ++ fr) → Q b H') → t σ H Q

section
variable {X : Cx} {W : Nat → Hp → Prop} {e a b : Expr} {f fa fb : Rho → Rs RV} {pos : Pos}
theorem de_stuck {g : Rho → Rs RV} (h : ∀ ρ, g ρ = .stuck) : DE X W e g :=
  ⟨fun _ _ _ => False, ⟨fun _ _ _ _ _ _ h => h.elim⟩, fun σ H ρ fr Q _ _ w => by rw [h ρ] at w; exact w⟩
theorem dt_stuck {g : Rho → Rs Bool} (h : ∀ ρ, g ρ = .stuck) : DT X W e g :=
  ⟨fun _ _ _ => False, ⟨fun _ _ _ _ _ _ h => h.elim⟩, fun σ H ρ fr Q _ _ w => by rw [h ρ] at w; exact w⟩
/-- a name in a slot -/
theorem de_var {i : Nat} {x : Str} (hN : X.N[i]? = some x) (hv : Vis X.env.scope x) (hd : (x == ("__debug__" : Str)) = false) (hcd : (x == ("__classdict__" : Str)) = false) (T : Tb) : DE X W (.Name x pos) (evE T (.var i)) := by
  refine ⟨_, pe_var hN hv hd hcd, fun σ H ρ fr Q hl hR hW => ?_⟩
  unfold evE at hW
  cases q : (ρ[i]?).join with
  | none => rw [q] at hW; exact hW.elim
  | some c =>
    rw [q] at hW
    obtain ⟨G, g⟩ := hR
    obtain ⟨v, hv, g'⟩ := g.out hl q
    cases c with
    | imm d => exact ⟨v, hv, hW hl.symm v H ⟨G, g.add g'.imm⟩ trivial⟩
    | lst ds => exact ⟨v, hv, hW hl.symm v H ⟨G, g⟩ hv⟩
    | _ => exact ⟨v, hv, hW hl.symm v H ⟨G, g⟩ hv⟩
/-- a constant -/
theorem de_con {v : V} {d : PyData} (h : PE X e (tC v)) (q : ∀ G, Dq X.K G v d) (T : Tb) : DE X W e (evE T (.con d)) := by
  refine ⟨_, h, fun σ H ρ fr Q hl hR hW => ?_⟩
  obtain ⟨G, g⟩ := hR
  unfold evE at hW
  exact hW hl.symm v H ⟨G, g.add (q G)⟩ trivial
theorem de_glob {v : V} {d : PyData} {j : Nat} {T : Tb} (h : PE X e (tC v)) (hj : T.cons[j]? = some d) (q : ∀ G, Dq X.K G v d) : DE X W e (evE T (.glob j)) := by
  refine ⟨_, h, fun σ H ρ fr Q hl hR hW => ?_⟩
  obtain ⟨G, g⟩ := hR
  unfold evE at hW
  rw [hj] at hW
  exact hW hl.symm v H ⟨G, g.add (q G)⟩ trivial

/-! ### two operands -/
/-- an operator of values, by data -/
def OpD (X : Cx) (f : Value → Value → Sem Value) (g : PyData → PyData → Option Cn) : Prop :=
  ∃ r, OpR X f r ∧ ∀ G H x y a b c Q, Same G H → View X.K G H x a → View X.K G H y b → g a b = some c → (∀ v H', Made X.K G H v c H' → Q v H') → r x y H Q
theorem op2_use {K : PySem.W.Frag} {σ : L2.St} {H : Hp} {ρ : Rho} {fr : List Ent} {Q : VK} {x y : V} {rx ry : RV} {g : PyData → PyData → Option Cn} (hl : ρ.length = σ.length)
    (hR : Rep K H (ent y ry ++ (σ.zip ρ ++ (ent x rx ++ fr)))) (sx : side σ x rx) (sy : side σ y ry)
    (hW : Wish K W σ fr (op2 g rx ry ρ) (fun r ρ' => ∀ v H', Rep K H' (ent v r ++ (σ.zip ρ' ++ fr)) → side σ v r → Q v H')) :
    ∃ G a b c, Same G H ∧ View K G H x a ∧ View K G H y b ∧ g a b = some c ∧ ∀ v H', Made K G H v c H' → Q v H' := by
  obtain ⟨G, g1⟩ := hR
  unfold op2 at hW
  cases ea : dat ρ rx with
  | none => rw [ea] at hW; exact hW.elim
  | some p =>
    cases eb : dat ρ ry with
    | none => rw [ea, eb] at hW; exact hW.elim
    | some q =>
      rw [ea, eb] at hW
      have hW : Wish K W σ fr ((Rs.ofOpt (g p q) ρ).bind fun c ρ => Rs.ok (RV.val c) ρ) _ := hW
      cases ec : g p q with
      | none => rw [ec] at hW; exact hW.elim
      | some c =>
        rw [ec] at hW
        have g2 : RepG K G H (ent x rx ++ (σ.zip ρ ++ fr)) := by
          have := g1.tails (ent y ry)
          exact this.rot
        have g3 : RepG K G H (σ.zip ρ ++ fr) := g2.tails _
        exact ⟨G, p, q, c, g1.sub, g2.view hl.symm sx ea, g1.view hl.symm sy eb, ec, fun v H' m => hW hl v H' (g3.made m) trivial⟩
theorem de_op {op : Operator} {g : PyData → PyData → Option Cn} (ho : OpD X (binaryOp op) g) (ha : DE X W a fa) (hb : DE X W b fb) :
    DE X W (.BinOp a op b pos) (fun ρ => (fa ρ).bind fun x ρ => (fb ρ).bind fun y ρ => op2 g x y ρ) := by
  obtain ⟨ta, pa, ra⟩ := ha
  obtain ⟨tb, pb, rb⟩ := hb
  obtain ⟨r, pr, rr⟩ := ho
  refine ⟨_, pe_op pr pa pb, fun σ H ρ fr Q hl hR hW => ?_⟩
  refine ra σ H ρ fr _ hl hR (hW.bind.mono fun rx ρ1 l1 hW1 x H1 hR1 sx => ?_)
  refine rb σ H1 ρ1 (ent x rx ++ fr) _ l1.symm hR1.rot ((hW1.bind.frame _).mono fun ry ρ2 l2 hW2 y H2 hR2 sy => ?_)
  obtain ⟨G, p, q, c, s, va, vb, ec, k⟩ := op2_use l2 hR2 sx sy hW2
  exact rr G H2 x y p q c Q s va vb ec k
theorem de_cmp {op : CmpOp} {g : PyData → PyData → Option Cn} (ho : OpD X (compareOp op) g) (ha : DE X W a fa) (hb : DE X W b fb) (hm : behindInMarks op b = false) :
    DE X W (.Compare a [op] [b] pos) (fun ρ => (fa ρ).bind fun x ρ => (fb ρ).bind fun y ρ => op2 g x y ρ) := by
  obtain ⟨ta, pa, ra⟩ := ha
  obtain ⟨tb, pb, rb⟩ := hb
  obtain ⟨r, pr, rr⟩ := ho
  refine ⟨_, pe_cmpR pr pa pb hm, fun σ H ρ fr Q hl hR hW => ?_⟩
  refine ra σ H ρ fr _ hl hR (hW.bind.mono fun rx ρ1 l1 hW1 x H1 hR1 sx => ?_)
  refine rb σ H1 ρ1 (ent x rx ++ fr) _ l1.symm hR1.rot ((hW1.bind.frame _).mono fun ry ρ2 l2 hW2 y H2 hR2 sy => ?_)
  obtain ⟨G, p, q, c, s, va, vb, ec, k⟩ := op2_use l2 hR2 sx sy hW2
  exact rr G H2 x y p q c Q s va vb ec k
/-- a test of a bool -/
theorem b2_use {K : PySem.W.Frag} {σ : L2.St} {H : Hp} {ρ : Rho} {fr : List Ent} {P : Bool → Rho → Prop} {x : V} {rx : RV} (hl : ρ.length = σ.length) (hR : Rep K H (ent x rx ++ (σ.zip ρ ++ fr))) (sx : side σ x rx)
    (hW : Wish K W σ fr (b2 rx ρ) P) : ∃ k, x = .bl k ∧ P k ρ := by
  obtain ⟨G, g⟩ := hR
  unfold b2 at hW
  cases ea : dat ρ rx with
  | none => rw [ea] at hW; exact hW.elim
  | some d =>
    rw [ea] at hW
    cases d with
    | bool k =>
      have := g.view hl.symm sx ea
      exact ⟨k, this.bool, hW hl⟩
    | _ => exact hW.elim
theorem Rep.val {K : PySem.W.Frag} {H : Hp} {l : List Ent} {v : V} {d : PyData} (h : Rep K H l) (q : ∀ G, Dq K G v d) : Rep K H ((some v, some (.imm d)) :: l) := let ⟨G, g⟩ := h; ⟨G, g.add (q G)⟩
theorem dt_val (h : DE X W e f) (he : ∀ whole, isTrue e X.env whole = (do let v ← whole; standAt e.pos; holding [v] (truthy v))) : DT X W e (fun ρ => (f ρ).bind b2) := by
  obtain ⟨t, p, r⟩ := h
  refine ⟨_, pt_val p he, fun σ H ρ fr Q hl hR hW => ?_⟩
  refine r σ H ρ fr _ hl hR (hW.bind.mono fun rx ρ1 l1 hW1 x H1 hR1 sx => ?_)
  obtain ⟨k, e, q⟩ := b2_use l1 hR1 sx hW1
  exact ⟨k, e, q H1 hR1.tails⟩
theorem dt_cmp {op : CmpOp} {g : PyData → PyData → Option Cn} (ho : OpD X (compareOp op) g) (ha : DE X W a fa) (hb : DE X W b fb) (hm : behindInMarks op b = false) :
    DT X W (.Compare a [op] [b] pos) (fun ρ => ((fa ρ).bind fun x ρ => (fb ρ).bind fun y ρ => op2 g x y ρ).bind b2) := by
  obtain ⟨ta, pa, ra⟩ := ha
  obtain ⟨tb, pb, rb⟩ := hb
  obtain ⟨r, pr, rr⟩ := ho
  refine ⟨_, pt_cmpR pr pa pb hm, fun σ H ρ fr Q hl hR hW => ?_⟩
  have hW := hW.bind
  refine ra σ H ρ fr _ hl hR (hW.bind.mono fun rx ρ1 l1 hW1 x H1 hR1 sx => ?_)
  refine rb σ H1 ρ1 (ent x rx ++ fr) _ l1.symm hR1.rot ((hW1.bind.frame _).mono fun ry ρ2 l2 hW2 y H2 hR2 sy => ?_)
  have hW3 : Wish X.K W σ fr (op2 g rx ry ρ2) (fun r ρ' => ∀ v H', Rep X.K H' (ent v r ++ (σ.zip ρ' ++ fr)) → side σ v r → ∃ k, v = .bl k ∧ Q k H') :=
    hW2.mono fun rz ρ3 l3 hW4 v H' hR3 sz => by
      obtain ⟨k, e, q⟩ := b2_use l3 hR3 sz hW4
      exact ⟨k, e, q H' hR3.tails⟩
  obtain ⟨G, p, q, c, s, va, vb, ec, k⟩ := op2_use l2 hR2 sx sy hW3
  exact rr G H2 x y p q c _ s va vb ec k
/-! ### and, or, not -/
theorem de_not (h : DE X W a fa) : DE X W (.UnaryOp .Not a pos) (fun ρ => (fa ρ).bind fun x ρ => (b2 x ρ).bind fun b ρ => .ok (.val (.imm (.bool (!b)))) ρ) := by
  obtain ⟨t, p, r⟩ := h
  refine ⟨_, pe_not p, fun σ H ρ fr Q hl hR hW => ?_⟩
  refine r σ H ρ fr _ hl hR (hW.bind.mono fun rx ρ1 l1 hW1 x H1 hR1 sx => ?_)
  obtain ⟨k, e, q⟩ := b2_use l1 hR1 sx hW1.bind
  exact ⟨k, e, q l1 _ _ (hR1.tails.val fun G => .bl _) trivial⟩
theorem dt_not {g : Rho → Rs Bool} (h : DT X W a g) : DT X W (.UnaryOp .Not a pos) (fun ρ => (g ρ).bind fun b ρ => .ok (!b) ρ) := by
  obtain ⟨t, p, r⟩ := h
  refine ⟨_, pt_not p, fun σ H ρ fr Q hl hR hW => ?_⟩
  exact r σ H ρ fr _ hl hR (hW.bind.mono fun b ρ1 l1 hW1 H1 hR1 => hW1 l1 H1 hR1)
variable {rest : List Expr}
theorem de_one {op} (h : DE X W a fa) : DE X W (.BoolOp op [a] pos) fa := by
  obtain ⟨t, p, r⟩ := h
  exact ⟨_, pe_one p, r⟩
theorem de_and (ha : DE X W a fa) (hb : DE X W (.BoolOp .And (b :: rest) pos) fb) : DE X W (.BoolOp .And (a :: b :: rest) pos) (fun ρ => (fa ρ).bind fun x ρ => (b2 x ρ).bind fun c ρ => if c then fb ρ else .ok (.val (.imm (.bool false))) ρ) := by
  obtain ⟨ta, pa, ra⟩ := ha
  obtain ⟨tb, pb, rb⟩ := hb
  refine ⟨_, pe_and pa pb, fun σ H ρ fr Q hl hR hW => ?_⟩
  refine ra σ H ρ fr _ hl hR (hW.bind.mono fun rx ρ1 l1 hW1 x H1 hR1 sx => ?_)
  obtain ⟨k, e, q⟩ := b2_use l1 hR1 sx hW1.bind
  refine ⟨k, e, ?_⟩
  cases k with
  | true => exact rb σ H1 ρ1 fr _ l1.symm hR1.tails q
  | false => exact q l1 _ _ (hR1.tails.val fun G => .bl _) trivial
theorem de_or (ha : DE X W a fa) (hb : DE X W (.BoolOp .Or (b :: rest) pos) fb) : DE X W (.BoolOp .Or (a :: b :: rest) pos) (fun ρ => (fa ρ).bind fun x ρ => (b2 x ρ).bind fun c ρ => if c then .ok (.val (.imm (.bool true))) ρ else fb ρ) := by
  obtain ⟨ta, pa, ra⟩ := ha
  obtain ⟨tb, pb, rb⟩ := hb
  refine ⟨_, pe_or pa pb, fun σ H ρ fr Q hl hR hW => ?_⟩
  refine ra σ H ρ fr _ hl hR (hW.bind.mono fun rx ρ1 l1 hW1 x H1 hR1 sx => ?_)
  obtain ⟨k, e, q⟩ := b2_use l1 hR1 sx hW1.bind
  refine ⟨k, e, ?_⟩
  cases k with
  | true => exact q l1 _ _ (hR1.tails.val fun G => .bl _) trivial
  | false => exact rb σ H1 ρ1 fr _ l1.symm hR1.tails q
/-- .. as tests -/
def DW (X : Cx) (W : Nat → Hp → Prop) (e : Expr) (f : Rho → Rs Bool) : Prop :=
  ∃ t, PW X e t ∧ ∀ σ H ρ fr Q, σ.length = ρ.length → Rep X.K H (σ.zip ρ ++ fr) →
    Wish X.K W σ fr (f ρ) (fun b ρ' => ∀ H', Rep X.K H' (σ.zip ρ' ++ fr) → Q b H') → t σ H Q
theorem DW.dt {g : Rho → Rs Bool} (h : DW X W e g) : DT X W e g := let ⟨t, p, r⟩ := h; ⟨t, p.pt, r⟩
variable {ga gb : Rho → Rs Bool}
theorem dw_and1 (h : DT X W a ga) : DW X W (.BoolOp .And [a] pos) ga := let ⟨t, p, r⟩ := h; ⟨t, pw_and1 p, r⟩
theorem dw_or1 (h : DT X W a ga) : DW X W (.BoolOp .Or [a] pos) ga := let ⟨t, p, r⟩ := h; ⟨t, pw_or1 p, r⟩
theorem dw_and (ha : DT X W a ga) (hb : DW X W (.BoolOp .And (b :: rest) pos) gb) : DW X W (.BoolOp .And (a :: b :: rest) pos) (fun ρ => (ga ρ).bind fun c ρ => if c then gb ρ else .ok false ρ) := by
  obtain ⟨ta, pa, ra⟩ := ha
  obtain ⟨tb, pb, rb⟩ := hb
  refine ⟨_, pw_and pa pb, fun σ H ρ fr Q hl hR hW => ?_⟩
  refine ra σ H ρ fr _ hl hR (hW.bind.mono fun k ρ1 l1 hW1 H1 hR1 => ?_)
  cases k with
  | true => exact rb σ H1 ρ1 fr _ l1.symm hR1 hW1
  | false => exact hW1 l1 H1 hR1
theorem dw_or (ha : DT X W a ga) (hb : DW X W (.BoolOp .Or (b :: rest) pos) gb) : DW X W (.BoolOp .Or (a :: b :: rest) pos) (fun ρ => (ga ρ).bind fun c ρ => if c then .ok true ρ else gb ρ) := by
  obtain ⟨ta, pa, ra⟩ := ha
  obtain ⟨tb, pb, rb⟩ := hb
  refine ⟨_, pw_or pa pb, fun σ H ρ fr Q hl hR hW => ?_⟩
  refine ra σ H ρ fr _ hl hR (hW.bind.mono fun k ρ1 l1 hW1 H1 hR1 => ?_)
  cases k with
  | true => exact hW1 l1 H1 hR1
  | false => exact rb σ H1 ρ1 fr _ l1.symm hR1 hW1
/-- a if t else b -/
theorem de_ite {c : Expr} {g : Rho → Rs Bool} (hc : DT X W c g) (ha : DE X W a fa) (hb : DE X W b fb) : DE X W (.IfExp c a b pos) (fun ρ => (g ρ).bind fun k ρ => if k then fa ρ else fb ρ) := by
  obtain ⟨tc, pc, rc⟩ := hc
  obtain ⟨ta, pa, ra⟩ := ha
  obtain ⟨tb, pb, rb⟩ := hb
  refine ⟨_, pe_ifExp pc pa pb, fun σ H ρ fr Q hl hR hW => ?_⟩
  refine rc σ H ρ fr _ hl hR (hW.bind.mono fun k ρ1 l1 hW1 H1 hR1 => ?_)
  cases k with
  | true => exact ra σ H1 ρ1 fr _ l1.symm hR1 hW1
  | false => exact rb σ H1 ρ1 fr _ l1.symm hR1 hW1
/-- -a -/
theorem de_neg (h : DE X W a fa) : DE X W (.UnaryOp .USub a pos) (fun ρ => (fa ρ).bind fun x ρ => op1 (fun d => match d with | .int i => some (.imm (.int (-i))) | _ => none) x ρ) := by
  obtain ⟨t, p, r⟩ := h
  refine ⟨_, pe_un un_neg p, fun σ H ρ fr Q hl hR hW => ?_⟩
  refine r σ H ρ fr _ hl hR (hW.bind.mono fun rx ρ1 l1 hW1 x H1 hR1 sx => ?_)
  obtain ⟨G, g⟩ := hR1
  unfold op1 at hW1
  cases ea : dat ρ1 rx with
  | none => rw [ea] at hW1; exact hW1.elim
  | some d =>
    rw [ea] at hW1
    have vw := g.view l1.symm sx ea
    cases d with
    | int i => exact ⟨i, vw.int, hW1 l1 _ _ (Rep.val ⟨G, g.tails _⟩ fun G => .int _) trivial⟩
    | _ => exact hW1.elim
end

/-! ### arguments -/
section
variable {X : Cx} {W : Nat → Hp → Prop} {e a b : Expr} {es : List Expr} {f fa fb : Rho → Rs RV} {fs : Rho → Rs (List RV)} {pos : Pos}
theorem star_plain (he : plainE e = true) (es : List Expr) (env : PySem.Env) : starEach (e :: es) env = (false, eval e env) :: starEach es env := by
  cases e <;> first | rfl | cases he
theorem da_nil : DA X W [] (fun ρ => .ok [] ρ) := ⟨_, pa_nil, fun σ H ρ fr Q hl hR hW => hW hl.symm [] H hR .nil⟩
theorem da_cons (ha : DE X W e f) (hr : DA X W es fs) (he : plainE e = true) : DA X W (e :: es) (fun ρ => (f ρ).bind fun x ρ => (fs ρ).bind fun xs ρ => .ok (x :: xs) ρ) := by
  obtain ⟨ta, pa, ra⟩ := ha
  obtain ⟨tb, pb, rb⟩ := hr
  refine ⟨_, pa_cons pa pb (star_plain he es X.env), fun σ H ρ fr Q hl hR hW => ?_⟩
  refine ra σ H ρ fr _ hl hR (hW.bind.mono fun rx ρ1 l1 hW1 x H1 hR1 sx => ?_)
  refine rb σ H1 ρ1 (ent x rx ++ fr) _ l1.symm hR1.rot ((hW1.bind.frame _).mono fun rs ρ2 l2 hW2 vs H2 hR2 ss => ?_)
  refine hW2 l2 (x :: vs) H2 (hR2.perm ?_) (.cons sx ss)
  show (ents vs rs ++ (σ.zip ρ2 ++ (ent x rx ++ fr))).Perm ((ent x rx ++ ents vs rs) ++ (σ.zip ρ2 ++ fr))
  refine ((perm_rot _ _ _).append_left _).trans ?_
  rw [List.append_assoc]
  exact perm_rot _ _ _
theorem Sides.len {σ : L2.St} : ∀ {vs : List V} {rs : List RV}, Sides σ vs rs → vs.length = rs.length
  | _, _, .nil => rfl
  | _, _, .cons _ t => by simp [Sides.len t]
theorem perm_mid2 {α : Type} (A B C D : List α) : (A ++ (B ++ (C ++ D))).Perm (B ++ (C ++ (A ++ D))) :=
  (perm_rot A B (C ++ D)).trans (List.Perm.append_left _ (perm_rot A C D))
/-- all of them frozen -/
theorem RepG.frzs {K : PySem.W.Frag} {H : Hp} {σ : L2.St} {fr : List Ent} : ∀ {vs : List V} {rs : List RV} {ρ ρ' : Rho} {ds : List PyData} {G : Hp}, RepG K G H (ents vs rs ++ (σ.zip ρ ++ fr)) → σ.length = ρ.length → Sides σ vs rs → BP.frzs ρ rs = some (ds, ρ') →
    ∃ G', RepG K G' H (σ.zip ρ' ++ fr) ∧ DqAll K G' vs ds ∧ ρ'.length = ρ.length ∧ Same G G'
  | _, _, ρ, ρ', ds, G, h, hl, .nil, e => by
    have : [] = ds ∧ ρ = ρ' := by simpa [BP.frzs] using e
    obtain ⟨rfl, rfl⟩ := this
    exact ⟨G, h, .nil, rfl, Same.refl _⟩
  | v :: vs, r :: rs, ρ, ρ', ds, G, h, hl, .cons s ss, e => by
    unfold BP.frzs at e
    cases e1 : BP.frz ρ r with
    | none => rw [e1] at e; cases e
    | some p =>
      rw [e1] at e
      obtain ⟨d, ρ1⟩ := p
      cases e2 : BP.frzs ρ1 rs with
      | none => simp [e2] at e
      | some q =>
        obtain ⟨ds', ρ2⟩ := q
        have : d :: ds' = ds ∧ ρ2 = ρ' := by simpa [e2] using e
        obtain ⟨rfl, rfl⟩ := this
        have h : RepG K G H (ent v r ++ (σ.zip ρ ++ (ents vs rs ++ fr))) := h.perm (by
          show ((ent v r ++ ents vs rs) ++ (σ.zip ρ ++ fr)).Perm _
          rw [List.append_assoc]
          exact List.Perm.append_left _ (perm_rot _ _ _))
        obtain ⟨G1, g1, s1, l1⟩ := h.frz hl s e1
        have g2 : RepG K G1 H (ents vs rs ++ (σ.zip ρ1 ++ ((some v, some (.imm d)) :: fr))) := g1.perm (by
          have := perm_mid2 [((some v : Option V), (some (Cn.imm d)))] (σ.zip ρ1) (ents vs rs) fr
          exact this.trans (perm_rot _ _ _))
        obtain ⟨G2, g3, q3, l3, s3⟩ := RepG.frzs g2 (hl.trans l1.symm) ss e2
        refine ⟨G2, g3.perm (l' := (some v, some (.imm d)) :: (σ.zip ρ2 ++ fr)) List.perm_middle |>.tail, .cons ?_ q3, l3.trans l1, s1.trans s3⟩
        exact (g3.perm (l' := (some v, some (.imm d)) :: (σ.zip ρ2 ++ fr)) List.perm_middle).imm
end
end BP
end

section
set_option maxHeartbeats 4000000
/-! Bs4: tuple * 1. -/
namespace BP
open PySem PySem.Spec PyProof.Rows L2
theorem tuple_mulW1 (l : Addr) (items : Array Value) (n : Nat) (dd : Option Addr) (sl : Array (Option Value)) (u : Tok) :
    Meets (Builtin.«tuple.__mul__» ⟨[.ref l, .int 1 u], []⟩) (fun _ R s => s.heap.get? l = some { cls := .type "tuple", dict := dd, data := .seq items n, slots := sl } ∧
      R (.ok (.ret (Value.ref l))) s) :=
  .of_wp fun prog w A R s h => by
    obtain ⟨hp, g, d, tk, os⟩ := s
    obtain ⟨hl, h⟩ := h
    have f1 := AutoSeq1.idx_int
    have c1 : (items.isEmpty || (1 : Int) == 1) = true := by simp
    wp_walk using wpAny_loadPart' hl
    repeat (first
      | (refine wpAny_ite_false (decide_eq_false (by decide)) ?_; wp_walk using wpAny_loadPart' hl)
      | (refine wpAny_ite_true (decide_eq_true c1) ?_; wp_walk using wpAny_loadPart' hl))
    exact ⟨_, rfl, h⟩
def rRep1 (K : PySem.W.Frag) : R2 := fun x y H Q => ∃ l xs, x = .ref l ∧ y = .int 1 ∧ SqT K H l xs ∧ Q (.ref l) H
section
variable {X : Cx}
theorem op_rep1 : OpR X (binaryOp .Mult) (rRep1 X.K) := by
  intro pins s σ H x y v u Q I rx ry h
  obtain ⟨l, xs, rfl, rfl, hT, q⟩ := h
  cases rx
  obtain ⟨t, rfl⟩ := ry
  obtain ⟨its, r, ⟨⟨cls, dd, data, sl⟩, ho, hc, n, hd⟩, hs⟩ := I.tuple hT
  simp only at hc hd
  subst hc hd
  refine wpAny_binaryOp_repeat_ref (T := "tuple") (U := "int") (by decide) ⟨_, ho, rfl⟩ (fun s' => typeIs_int s' 1 t) noFill_tuple_mul F.fills_int_mul F.slot_int_rmul repeat_tuple F.slot_int_index.lookup
    (call_meets F.slot_int_rmul (typeIs_int s 1 t) F.entry_int_rmul (F.args_int_rmul_2 _ _) (int_rmul_tuple 1 t l its.toArray n dd sl)
      ⟨ho, rfl, ⟨_, ho, rfl⟩, call_meets F.slot_tuple_mul ⟨_, ho, rfl⟩ F.entry_tuple_mul (F.args_tuple_mul_2 _ _) (tuple_mulW1 l its.toArray n dd sl t) ⟨ho, ?_⟩⟩)
  exact ⟨.ref l, _, I, rfl, q⟩
end
end BP
end

section
/-! Bp5: displays, operators, subscripts, slices. -/
namespace BP
open PySem PySem.Spec PyProof.Rows L2
theorem lim_line {n : Nat} (h : n ≤ lim) : n ≤ sizeLine := Nat.le_trans h (by decide)
theorem lim_lt {n : Nat} (h : n < lim) : n < sizeLine := Nat.lt_of_lt_of_le h (by decide)
section
variable {X : Cx} {W : Nat → Hp → Prop} {e a b : Expr} {es : List Expr} {f fa fb : Rho → Rs RV} {fs : Rho → Rs (List RV)} {pos : Pos}
/-! ### displays -/
def dispT (rs : List RV) (ρ : Rho) : Rs RV := match frzs ρ rs with
  | some (ds, ρ) => if ds.length ≤ lim then .ok (.val (.imm (.tuple ds))) ρ else .stuck
  | none => .stuck
def dispL (rs : List RV) (ρ : Rho) : Rs RV := match frzs ρ rs with
  | some (ds, ρ) => if ds.length ≤ lim then .ok (.val (.lst ds)) ρ else .stuck
  | none => .stuck
theorem frzs_use {K : PySem.W.Frag} {σ : L2.St} {H : Hp} {ρ : Rho} {fr : List Ent} {vs : List V} {rs : List RV} {g : List PyData → Rho → Rs RV} {P : RV → Rho → Prop} (hl : ρ.length = σ.length) (hR : Rep K H (ents vs rs ++ (σ.zip ρ ++ fr))) (ss : Sides σ vs rs)
    (hW : Wish K W σ fr (match frzs ρ rs with | some (ds, ρ) => g ds ρ | none => .stuck) P) :
    ∃ ds ρ' G, RepG K G H (σ.zip ρ' ++ fr) ∧ DqAll K G vs ds ∧ ρ'.length = σ.length ∧ Wish K W σ fr (g ds ρ') P := by
  obtain ⟨G, g0⟩ := hR
  cases e : frzs ρ rs with
  | none => rw [e] at hW; exact hW.elim
  | some p =>
    obtain ⟨ds, ρ'⟩ := p
    rw [e] at hW
    obtain ⟨G', g1, q, l, _⟩ := g0.frzs hl.symm ss e
    exact ⟨ds, ρ', G', g1, q, l.trans hl, hW⟩
theorem de_tup {k : Nat} (h : DA X W es fs) : DE X W (.Tuple es k pos) (fun ρ => (fs ρ).bind dispT) := by
  obtain ⟨t, p, r⟩ := h
  refine ⟨_, pe_tup p, fun σ H ρ fr Q hl hR hW => ?_⟩
  refine r σ H ρ fr _ hl hR (hW.bind.mono fun rs ρ1 l1 hW1 vs H1 hR1 ss => ?_)
  obtain ⟨ds, ρ2, G, g, q, l2, hW2⟩ := frzs_use l1 hR1 ss hW1
  split at hW2
  · rename_i hd
    refine ⟨by rw [q.len]; exact lim_line hd, fun p hp => ?_⟩
    exact hW2 l2 _ _ (g.made (.inr ⟨p, vs, ds, rfl, hp, q, .inl ⟨rfl, rfl⟩⟩)) trivial
  · exact hW2.elim
theorem de_lst (h : DA X W es fs) : DE X W (.List es pos) (fun ρ => (fs ρ).bind dispL) := by
  obtain ⟨t, p, r⟩ := h
  refine ⟨_, pe_lst p, fun σ H ρ fr Q hl hR hW => ?_⟩
  refine r σ H ρ fr _ hl hR (hW.bind.mono fun rs ρ1 l1 hW1 vs H1 hR1 ss => ?_)
  obtain ⟨ds, ρ2, G, g, q, l2, hW2⟩ := frzs_use l1 hR1 ss hW1
  split at hW2
  · rename_i hd
    refine ⟨by rw [q.len]; exact lim_line hd, fun p hp => ?_⟩
    exact hW2 l2 _ _ (g.made (.inr ⟨p, vs, ds, rfl, hp, q, .inr ⟨rfl, rfl⟩⟩)) trivial
  · exact hW2.elim

/-! ### operators -/
/-- a list that may be read, in the machine's heap -/
theorem rdL {pins : List (Addr × Obj)} {σ : L2.St} {H : Hp} {s : Shared} {l : Addr} {xs : List V} (q : Rd H l (.lst xs)) (I : L2.Inv X pins σ H s) :
    ∃ (us : List Value) (n : Nat), Vals xs us ∧ s.heap.get? l = some (seqObj "list" us.toArray n) ∧ us.length ≤ sizeLine := by
  obtain ⟨hz, us, n, r, e⟩ := q.ok I.hok
  exact ⟨us, n, r, e, r.length ▸ hz⟩
def rCatL : R2 := fun x y H Q => ∃ l b, x = .ref l ∧ y = .ref b ∧ ∃ xs ys, Rd H l (.lst xs) ∧ Rd H b (.lst ys) ∧ xs.length + ys.length ≤ sizeLine ∧ ∀ p, H p = none → Q (.ref p) (upd H p (.lst (xs ++ ys)))
theorem op_catL : OpR X (binaryOp .Add) rCatL := by
  rintro pins s σ H _ _ v u Q I rx ry ⟨l, b, rfl, rfl, xs, ys, q1, q2, hz, hQ⟩
  obtain rfl : v = .ref l := rx
  obtain rfl : u = .ref b := ry
  obtain ⟨us, n, r1, e1, _⟩ := rdL q1 I
  obtain ⟨ws, m, r2, e2, _⟩ := rdL q2 I
  have h1 := r1.length
  have h2 := r2.length
  have hcat : us.toArray ++ ws.toArray = (us ++ ws).toArray := by simp
  refine PySem.P.add_list e1 e2 (hcat ▸ ?_) (by simp; omega)
  have hnew := I.lnew (t' := s.toks) (r1.append r2) (by simpa using hz)
  exact ⟨.ref _, _, hnew, rfl, hQ _ I.fresh⟩
theorem opd_add : OpD X (binaryOp .Add) (binop .add) := by
  refine ⟨_, op_add.or (op_catA.or (op_catL.or op_add_str)), fun G H x y a b c Q hs va vb e k => ?_⟩
  cases a with
  | int i => cases b with
    | int j => cases e; exact .inl ⟨i, j, va.int, vb.int, k _ _ (.inl ⟨rfl, _, rfl, .int _⟩)⟩
    | _ => cases e
  | tuple xs => cases b with
    | tuple ys =>
      replace e : (if xs.length + ys.length ≤ lim then some (Cn.imm (.tuple (xs ++ ys))) else none) = some c := e
      split at e
      · rename_i hlen
        cases e
        obtain ⟨p, vs, rfl, h1, q1⟩ := va.tuple hs
        obtain ⟨p', vs', rfl, h2, q2⟩ := vb.tuple hs
        refine .inr (.inl ⟨p, p', vs, vs', rfl, rfl, h1, h2, by rw [q1.len, q2.len]; exact lim_line hlen, fun z => ?_, fun _ z => ?_, fun _ _ p hp => ?_⟩)
        · subst z
          cases q1
          refine k _ _ (.inl ⟨rfl, _, rfl, ?_⟩)
          rcases vb with h | ⟨_, _, _, _, h, _⟩
          · exact h
          · cases h
        · subst z
          cases q2
          refine k _ _ (.inl ⟨rfl, _, rfl, ?_⟩)
          rw [List.append_nil]
          rcases va with h | ⟨_, _, _, _, h, _⟩
          · exact h
          · cases h
        · exact k _ _ (.inr ⟨p, _, _, rfl, hp, q1.app q2, .inl ⟨rfl, rfl⟩⟩)
      · cases e
    | _ => cases e
  | list xs => cases b with
    | list ys =>
      replace e : (if xs.length + ys.length ≤ lim then some (Cn.lst (xs ++ ys)) else none) = some c := e
      split at e
      · rename_i hlen
        cases e
        obtain ⟨p, vs, rfl, h1, q1⟩ := va.list hs
        obtain ⟨p', vs', rfl, h2, q2⟩ := vb.list hs
        exact .inr (.inr (.inl ⟨p, p', rfl, rfl, vs, vs', h1, h2, by rw [q1.len, q2.len]; exact lim_line hlen, fun p hp => k _ _ (.inr ⟨p, _, _, rfl, hp, q1.app q2, .inr ⟨rfl, rfl⟩⟩)⟩))
      · cases e
    | _ => cases e
  | str z => cases b with
    | str z' =>
      replace e : (if z.length + z'.length ≤ lim then some (Cn.imm (.str (z ++ z'))) else none) = some c := e
      split at e
      · rename_i hlen
        cases e
        exact .inr (.inr (.inr ⟨z, z', va.str, vb.str, lim_line hlen, k _ _ (.inl ⟨rfl, _, rfl, .str _⟩)⟩))
      · cases e
    | _ => cases e
  | _ => cases b <;> cases e
theorem sub_bools (p q : Bool) : Gives (Builtin.«int.__sub__» ⟨[.bool p, .bool q], []⟩) (.int (bi p - bi q)) :=
  .of_wp fun M A E s Q h => by
    obtain ⟨hp, g, d, tk, os⟩ := s
    wp_walk
    exact ⟨_, rfl, h⟩
theorem op_subB : OpR X (binaryOp .Sub) (fun x y H Q => ∃ i j, x = .bl i ∧ y = .bl j ∧ Q (.int (bi i - bi j)) H) := by
  intro pins s σ H x y v u Q I rx ry h
  obtain ⟨i, j, rfl, rfl, q⟩ := h
  cases rx
  cases ry
  exact binaryOp_gives (op := .Sub) (typeIs_bool' s i) (typeIs_bool' s j) F.fills_bool_sub F.slot_bool_sub F.entry_int_sub (F.args_int_sub_2 _ _) (sub_bools i j) trivial ⟨.int (bi i - bi j), H, I.tok _, ⟨_, rfl⟩, q⟩
theorem opd_sub : OpD X (binaryOp .Sub) (binop .sub) := by
  refine ⟨_, op_sub.or op_subB, fun G H x y a b c Q hs va vb e k => ?_⟩
  cases a with
  | int i => cases b with
    | int j => cases e; exact .inl ⟨i, j, va.int, vb.int, k _ _ (.inl ⟨rfl, _, rfl, .int _⟩)⟩
    | _ => cases e
  | bool i => cases b with
    | bool j => cases e; exact .inr ⟨i, j, va.bool, vb.bool, k _ _ (.inl ⟨rfl, _, rfl, .int _⟩)⟩
    | _ => cases e
  | _ => cases b <;> cases e
theorem opd_fdiv : OpD X (binaryOp .FloorDiv) (binop .fdiv) := by
  refine ⟨_, op_fdivW, fun G H x y a b c Q hs va vb e k => ?_⟩
  cases a with
  | int i => cases b with
    | int j =>
      replace e : (if divOk j = true then some (Cn.imm (.int (i / j))) else none) = some c := e
      split at e
      · rename_i hd
        cases e
        unfold divOk at hd
        simp only [Bool.and_eq_true, decide_eq_true_eq] at hd
        exact ⟨i, j, va.int, vb.int, hd, k _ _ (.inl ⟨rfl, _, rfl, .int _⟩)⟩
      · cases e
    | _ => cases e
  | _ => cases b <;> cases e
theorem opd_mod : OpD X (binaryOp .Mod) (binop .mod) := by
  refine ⟨_, op_mod, fun G H x y a b c Q hs va vb e k => ?_⟩
  cases a with
  | int i => cases b with
    | int j =>
      replace e : (if decide (0 < j) = true then some (Cn.imm (.int (i % j))) else none) = some c := e
      split at e
      · rename_i hd
        cases e
        simp only [decide_eq_true_eq] at hd
        exact ⟨i, j, va.int, vb.int, hd, k _ _ (.inl ⟨rfl, _, rfl, .int _⟩)⟩
      · cases e
    | _ => cases e
  | _ => cases b <;> cases e
theorem opd_pow : OpD X (binaryOp .Pow) (binop .pow) := by
  refine ⟨_, op_pow, fun G H x y a b c Q hs va vb e k => ?_⟩
  cases a with
  | int i => cases b with
    | int j =>
      replace e : (if powOk i j = true then some (Cn.imm (.int (i ^ j.toNat))) else none) = some c := e
      split at e
      · rename_i hd
        cases e
        unfold powOk at hd
        simp only [Bool.and_eq_true, decide_eq_true_eq] at hd
        exact ⟨i, j, va.int, vb.int, ⟨hd.1.1, hd.1.2, hd.2⟩, k _ _ (.inl ⟨rfl, _, rfl, .int _⟩)⟩
      · cases e
    | _ => cases e
  | _ => cases b <;> cases e
theorem opd_mul : OpD X (binaryOp .Mult) (binop .mul) := by
  refine ⟨_, ((op_mul.or op_mulW).or op_repT).or op_rep1, fun G H x y a b c Q hs va vb e k => ?_⟩
  cases a with
  | int i => cases b with
    | int j =>
      replace e : (if mulOk i j = true then some (Cn.imm (.int (i * j))) else none) = some c := e
      split at e
      · rename_i hd
        cases e
        unfold mulOk at hd
        simp only [Bool.or_eq_true, decide_eq_true_eq] at hd
        rcases hd with (hd | hd) | hd
        · exact .inl (.inl (.inl ⟨i, j, va.int, vb.int, .inl ⟨by omega, by omega⟩, k _ _ (.inl ⟨rfl, _, rfl, .int _⟩)⟩))
        · exact .inl (.inl (.inl ⟨i, j, va.int, vb.int, .inr ⟨by omega, by omega⟩, k _ _ (.inl ⟨rfl, _, rfl, .int _⟩)⟩))
        · exact .inl (.inl (.inr ⟨i, j, va.int, vb.int, hd, k _ _ (.inl ⟨rfl, _, rfl, .int _⟩)⟩))
      · cases e
    | _ => cases e
  | tuple xs => cases b with
    | int j =>
      replace e : (if xs.length ≤ 1000 ∧ 0 < xs.length ∧ 1 ≤ j ∧ j ≤ 1000 then some (Cn.imm (.tuple (List.replicate j.toNat xs).flatten)) else none) = some c := e
      split at e
      · rename_i hd
        cases e
        by_cases hj : j = 1
        · subst hj
          have va' : View X.K G H x (.tuple xs) := va
          have e1 : (List.replicate (1 : Int).toNat xs).flatten = xs := by simp
          have dq : Dq X.K G x (.tuple xs) := by
            rcases va' with h | ⟨a, vs, ds', _, e, _, _⟩
            · exact h
            · cases e
          obtain ⟨p, vs, rfl, h1, q1⟩ := va.tuple hs
          exact .inr ⟨p, vs, rfl, vb.int, h1, k _ _ (.inl ⟨rfl, _, by rw [e1], dq⟩)⟩
        · obtain ⟨p, vs, rfl, h1, q1⟩ := va.tuple hs
          refine .inl (.inr (⟨p, j, vs, rfl, vb.int, h1, fun z => ?_, by omega, hd.2.2.2, by rw [q1.len]; exact hd.1, fun p hp => k _ _ (.inr ⟨p, _, _, rfl, hp, q1.rep _, .inl ⟨rfl, rfl⟩⟩)⟩))
          have := q1.len
          rw [z] at this
          have h0 := hd.2.1
          simp at this
          omega
      · cases e
    | _ => cases e
  | _ => cases b <;> cases e
/-- [..] * n -/
theorem de_rep (ha : DE X W a fa) (hb : DE X W b fb) : DE X W (.BinOp a .Mult b pos) (fun ρ => (fa ρ).bind fun x ρ => (fb ρ).bind fun y ρ => repop x y ρ) := by
  obtain ⟨ta, pa, ra⟩ := ha
  obtain ⟨tb, pb, rb⟩ := hb
  refine ⟨_, pe_op op_rep pa pb, fun σ H ρ fr Q hl hR hW => ?_⟩
  refine ra σ H ρ fr _ hl hR (hW.bind.mono fun rx ρ1 l1 hW1 x H1 hR1 sx => ?_)
  refine rb σ H1 ρ1 (ent x rx ++ fr) _ l1.symm hR1.rot ((hW1.bind.frame _).mono fun ry ρ2 l2 hW2 y H2 hR2 sy => ?_)
  unfold repop at hW2
  split at hW2
  · rename_i xs k e
    split at hW2
    · rename_i hd
      obtain ⟨G, g⟩ := hR2
      have vy := g.view l2.symm sy e
      have g1 : RepG X.K G H2 ((some x, some (.lst xs)) :: (σ.zip ρ2 ++ fr)) := by
        have := (g.tails (ent y ry)).rot
        exact this
      obtain ⟨p, vs, rfl, e3, q, _⟩ := g1.lst
      refine ⟨p, k, vs, rfl, vy.int, e3, by omega, by omega, ?_, fun z hz => ?_⟩
      · rw [q.len]
        have : xs.length * k.toNat ≤ 1000 * 1000 := Nat.mul_le_mul hd.1 (by omega)
        exact Nat.le_trans this (by decide)
      · exact hW2 l2 _ _ (g1.tail.made (.inr ⟨z, _, _, rfl, hz, q.rep _, .inr ⟨rfl, rfl⟩⟩)) trivial
    · exact hW2.elim
  · exact hW2.elim
/-! ### comparisons -/
theorem made_b {K : PySem.W.Frag} {G H : Hp} {k : Bool} : Made K G H (.bl k) (.imm (.bool k)) H := .inl ⟨rfl, _, rfl, .bl _⟩
theorem vb_some {o : Option Bool} {c : Cn} (h : vb o = some c) : ∃ k, o = some k ∧ c = .imm (.bool k) := by
  cases o with
  | none => cases h
  | some k => cases h; exact ⟨k, rfl, rfl⟩
theorem opd_eq (hu : X.A.units + 64 < cLine) : OpD X (compareOp .Eq) (fun u v => vb (cmpop .eq u v)) := by
  refine ⟨_, op_eqD hu, fun G H x y a b c Q hs va vb e k => ?_⟩
  obtain ⟨z, e2, rfl⟩ := vb_some e
  replace e := e2
  replace e : (if eqOk a b = true then some (PyData.eqv a b) else none) = some z := e
  split at e
  · rename_i ok
    cases e
    unfold eqOk at ok
    simp only [Bool.and_eq_true] at ok
    exact ⟨a, b, va.dp hs, vb.dp hs, ok.1, ok.2, k _ _ made_b⟩
  · cases e
theorem opd_ne (hu : X.A.units + 64 < cLine) : OpD X (compareOp .NotEq) (fun u v => vb (cmpop .ne u v)) := by
  refine ⟨_, op_neD hu, fun G H x y a b c Q hs va vb e k => ?_⟩
  obtain ⟨z, e2, rfl⟩ := vb_some e
  replace e := e2
  replace e : (if eqOk a b = true then some (!PyData.eqv a b) else none) = some z := e
  split at e
  · rename_i ok
    cases e
    unfold eqOk at ok
    simp only [Bool.and_eq_true] at ok
    exact ⟨a, b, va.dp hs, vb.dp hs, ok.1, ok.2, k _ _ made_b⟩
  · cases e
def rLtD (K : PySem.W.Frag) : R2 := fun x y H Q => ∃ d e, Dp K H x d ∧ Dp K H y e ∧ ltOk d e = true ∧ Q (.bl (PySem.W.dataLt d e)) H
theorem ok_none {d : PyData} (h : okKey d = true) : d ≠ .none := by
  rintro rfl
  cases h
theorem op_ltD (hu : X.A.units + 65 < cLine) : OpR X (compareOp .Lt) (rLtD X.K) := by
  intro pins s σ H x y v u Q I rx ry h
  obtain ⟨d, e, hd, he, ok, q⟩ := h
  obtain ⟨as, r1⟩ := Dp.reads I d x v hd rx
  obtain ⟨bs, r2⟩ := Dp.reads I e y u he ry
  unfold ltOk at ok
  simp only [Bool.and_eq_true, decide_eq_true_eq] at ok
  refine PySem.W.rcLt_alike d e X.A s v u as bs r1 r2 ok.1.1.2 (ok_none ok.1.1.1) ?_ X.prog X.w X.xe _ ⟨.bl _, H, I, rfl, q⟩
  have := Nat.min_le_left d.depth e.depth
  omega
theorem opd_lt (hu : X.A.units + 65 < cLine) : OpD X (compareOp .Lt) (fun u v => vb (cmpop .lt u v)) := by
  refine ⟨_, op_lt.or (op_ltD hu), fun G H x y a b c Q hs va vb e k => ?_⟩
  obtain ⟨z, e2, rfl⟩ := vb_some e
  replace e := e2
  cases a with
  | int i => cases b with
    | int j => cases e; exact .inl ⟨i, j, va.int, vb.int, k _ _ made_b⟩
    | _ => cases e
  | tuple xs => cases b with
    | tuple ys =>
      replace e : (if ltOk (.tuple xs) (.tuple ys) = true then some (PySem.W.dataLt (.tuple xs) (.tuple ys)) else none) = some z := e
      split at e
      · rename_i ok
        cases e
        exact .inr ⟨_, _, va.dp hs, vb.dp hs, ok, k _ _ made_b⟩
      · cases e
    | _ => cases e
  | _ => cases b <;> cases e
theorem opd_le : OpD X (compareOp .LtE) (fun u v => vb (cmpop .le u v)) := by
  refine ⟨_, op_le, fun G H x y a b c Q hs va vb e k => ?_⟩
  obtain ⟨z, e2, rfl⟩ := vb_some e
  replace e := e2
  cases a with
  | int i => cases b with
    | int j => cases e; exact ⟨i, j, va.int, vb.int, k _ _ made_b⟩
    | _ => cases e
  | _ => cases b <;> cases e
theorem opd_gt : OpD X (compareOp .Gt) (fun u v => vb (cmpop .gt u v)) := by
  refine ⟨_, op_gt, fun G H x y a b c Q hs va vb e k => ?_⟩
  obtain ⟨z, e2, rfl⟩ := vb_some e
  replace e := e2
  cases a with
  | int i => cases b with
    | int j => cases e; exact ⟨i, j, va.int, vb.int, k _ _ made_b⟩
    | _ => cases e
  | _ => cases b <;> cases e
theorem opd_ge : OpD X (compareOp .GtE) (fun u v => vb (cmpop .ge u v)) := by
  refine ⟨_, op_ge, fun G H x y a b c Q hs va vb e k => ?_⟩
  obtain ⟨z, e2, rfl⟩ := vb_some e
  replace e := e2
  cases a with
  | int i => cases b with
    | int j => cases e; exact ⟨i, j, va.int, vb.int, k _ _ made_b⟩
    | _ => cases e
  | _ => cases b <;> cases e
theorem View.ne_non {K : PySem.W.Frag} {G H : Hp} {v : V} {d : PyData} (h : View K G H v d) : decide (v = .non) = isNon d := by
  rcases h with h | ⟨a, vs, ds, rfl, rfl, _⟩
  · cases h <;> rfl
  · rfl
theorem opd_is : OpD X (compareOp .Is) (fun u v => vb (cmpop .is u v)) := by
  refine ⟨_, op_isBl.or op_isN, fun G H x y a b c Q hs va vb e k => ?_⟩
  obtain ⟨z, e2, rfl⟩ := vb_some e
  replace e := e2
  cases b with
  | none =>
    have : some (isNon a) = some z := by
      cases a <;> exact e
    cases this
    have hv := va.ne_non
    refine .inr ⟨vb.non, ?_⟩
    rw [hv]
    exact k _ _ made_b
  | bool j => cases a with
    | bool i => cases e; exact .inl ⟨i, j, va.bool, vb.bool, k _ _ made_b⟩
    | _ => cases e
  | _ => cases a <;> cases e
theorem opd_nis : OpD X (compareOp .IsNot) (fun u v => vb (cmpop .nis u v)) := by
  refine ⟨_, op_notBl.or op_notN, fun G H x y a b c Q hs va vb e k => ?_⟩
  obtain ⟨z, e2, rfl⟩ := vb_some e
  replace e := e2
  cases b with
  | none =>
    have : some (!isNon a) = some z := by
      cases a <;> exact e
    cases this
    have hv := va.ne_non
    refine .inr ⟨vb.non, ?_⟩
    rw [hv]
    exact k _ _ made_b
  | bool j => cases a with
    | bool i => cases e; exact .inl ⟨i, j, va.bool, vb.bool, k _ _ made_b⟩
    | _ => cases e
  | _ => cases a <;> cases e
def rInT (K : PySem.W.Frag) (neg : Bool) : R2 := fun x y H Q => ∃ d ds, Dp K H x d ∧ Dp K H y (.tuple ds) ∧ SeqAt.shaped d = true ∧ SeqAt.shaped (.tuple ds) = true ∧ Q (.bl (xor neg (ds.any fun z => PyData.eqv z d))) H
theorem op_inT (hu : X.A.units + 65 < cLine) : OpR X (compareOp .In) (rInT X.K false) := by
  rintro pins s σ H x y v u Q I rx ry ⟨d, ds, hd, he, sd, se, q⟩
  obtain ⟨as, r1⟩ := Dp.reads I d x v hd rx
  obtain ⟨bs, r2⟩ := Dp.reads I _ y u he ry
  refine SeqAt.in_tuple_reads r2 r1 (SeqAt.canLay_of_shaped se) (SeqAt.canLay_of_shaped sd) (room_in_shaped sd hu) ⟨.bl _, H, I, rfl, ?_⟩
  simpa using q
theorem op_notInT (hu : X.A.units + 65 < cLine) : OpR X (compareOp .NotIn) (rInT X.K true) := by
  rintro pins s σ H x y v u Q I rx ry ⟨d, ds, hd, he, sd, se, q⟩
  obtain ⟨as, r1⟩ := Dp.reads I d x v hd rx
  obtain ⟨bs, r2⟩ := Dp.reads I _ y u he ry
  refine SeqAt.notIn_tuple_reads r2 r1 (SeqAt.canLay_of_shaped se) (SeqAt.canLay_of_shaped sd) (room_in_shaped sd hu) ⟨.bl _, H, I, rfl, ?_⟩
  simpa using q
theorem opd_in (hu : X.A.units + 65 < cLine) : OpD X (compareOp .In) (fun u v => vb (cmpop .inn u v)) := by
  refine ⟨_, (op_inD hu).or ((op_inT hu).or op_in_str), fun G H x y a b c Q hs va vb e k => ?_⟩
  obtain ⟨z, e2, rfl⟩ := vb_some e
  replace e := e2
  cases b with
  | list ds =>
    have e : (if eqOk a (.list ds) = true then some (ds.any fun z => PyData.eqv z a) else none) = some z := by cases a <;> exact e
    split at e
    · rename_i ok
      cases e
      unfold eqOk at ok
      simp only [Bool.and_eq_true] at ok
      exact .inl ⟨a, ds, va.dp hs, vb.dp hs, ok.1, ok.2, k _ _ made_b⟩
    · cases e
  | tuple ds =>
    have e : (if eqOk a (.tuple ds) = true then some (ds.any fun z => PyData.eqv z a) else none) = some z := by cases a <;> exact e
    split at e
    · rename_i ok
      cases e
      unfold eqOk at ok
      simp only [Bool.and_eq_true] at ok
      refine .inr (.inl ⟨a, ds, va.dp hs, vb.dp hs, ok.1, ok.2, ?_⟩)
      rw [Bool.false_xor]
      exact k _ _ made_b
    · cases e
  | str z' => cases a with
    | str z => cases e; exact .inr (.inr ⟨z, z', va.str, vb.str, k _ _ made_b⟩)
    | _ => cases e
  | _ => cases a <;> cases e
theorem opd_nin (hu : X.A.units + 65 < cLine) : OpD X (compareOp .NotIn) (fun u v => vb (cmpop .nin u v)) := by
  refine ⟨_, (op_notInD hu).or (op_notInT hu), fun G H x y a b c Q hs va vb e k => ?_⟩
  obtain ⟨z, e2, rfl⟩ := vb_some e
  replace e := e2
  cases b with
  | list ds =>
    have e : (if eqOk a (.list ds) = true then some (!ds.any fun z => PyData.eqv z a) else none) = some z := by cases a <;> exact e
    split at e
    · rename_i ok
      cases e
      unfold eqOk at ok
      simp only [Bool.and_eq_true] at ok
      exact .inl ⟨a, ds, va.dp hs, vb.dp hs, ok.1, ok.2, k _ _ made_b⟩
    · cases e
  | tuple ds =>
    have e : (if eqOk a (.tuple ds) = true then some (!ds.any fun z => PyData.eqv z a) else none) = some z := by cases a <;> exact e
    split at e
    · rename_i ok
      cases e
      unfold eqOk at ok
      simp only [Bool.and_eq_true] at ok
      refine .inr (⟨a, ds, va.dp hs, vb.dp hs, ok.1, ok.2, ?_⟩)
      rw [Bool.true_xor]
      exact k _ _ made_b
    · cases e
  | _ => cases a <;> cases e
theorem opd_cmp (hu : X.A.units + 65 < cLine) : ∀ op : CmpOp, OpD X (compareOp op) (fun u v => vb (cmpop (copOf op) u v))
  | .Eq => opd_eq (by omega)
  | .NotEq => opd_ne (by omega)
  | .Lt => opd_lt hu
  | .LtE => opd_le
  | .Gt => opd_gt
  | .GtE => opd_ge
  | .Is => opd_is
  | .IsNot => opd_nis
  | .In => opd_in hu
  | .NotIn => opd_nin hu
theorem opd_bin : ∀ {op : Operator} {o : Bop}, bopOf op = some o → OpD X (binaryOp op) (binop o)
  | .Add, _, h => by cases h; exact opd_add
  | .Sub, _, h => by cases h; exact opd_sub
  | .Mult, _, h => by cases h; exact opd_mul
  | .FloorDiv, _, h => by cases h; exact opd_fdiv
  | .Mod, _, h => by cases h; exact opd_mod
  | .Pow, _, h => by cases h; exact opd_pow
  | .MatMult, _, h => by cases h
  | .Div, _, h => by cases h
  | .LShift, _, h => by cases h
  | .RShift, _, h => by cases h
  | .BitOr, _, h => by cases h
  | .BitXor, _, h => by cases h
  | .BitAnd, _, h => by cases h

/-! ### subscripts, slices -/
theorem plainIx (h : noSlice b = true) : PlainIx b := by
  intro o i
  cases b <;> first | rfl | cases h
theorem atI_map {K : PySem.W.Frag} {G : Hp} {vs : List V} {ds : List PyData} {i : Int} {d : PyData} (q : DqAll K G vs ds) (e : atI ds i = some d) : ∃ v, atI vs i = some v ∧ Dq K G v d := by
  unfold atI at e ⊢
  rw [q.len]
  cases h : ixN ds.length i with
  | none => rw [h] at e; cases e
  | some j =>
    rw [h] at e
    exact q.get e
theorem de_ix (ha : DE X W a fa) (hb : DE X W b fb) (h : noSlice b = true) : DE X W (.Subscript a b pos) (fun ρ => (fa ρ).bind fun x ρ => (fb ρ).bind fun y ρ => op2 (fun u v => (ixD u v).map .imm) x y ρ) := by
  obtain ⟨ta, pa, ra⟩ := ha
  obtain ⟨tb, pb, rb⟩ := hb
  refine ⟨_, pe_ix ix_seq pa pb (plainIx h), fun σ H ρ fr Q hl hR hW => ?_⟩
  refine ra σ H ρ fr _ hl hR (hW.bind.mono fun rx ρ1 l1 hW1 x H1 hR1 sx => ?_)
  refine rb σ H1 ρ1 (ent x rx ++ fr) _ l1.symm hR1.rot ((hW1.bind.frame _).mono fun ry ρ2 l2 hW2 y H2 hR2 sy => ?_)
  obtain ⟨G, p, q, c, hs, va, vb, ec, k⟩ := op2_use l2 hR2 sx sy hW2
  cases q with
  | int i => cases p with
    | list ds =>
      cases e : atI ds i with
      | none => simp [ixD, e] at ec
      | some d =>
        have : Cn.imm d = c := by simpa [ixD, e] using ec
        subst this
        obtain ⟨w, vs, rfl, h1, q1⟩ := va.list hs
        obtain ⟨z, e1, e2⟩ := atI_map q1 e
        exact .inl ⟨w, vs, i, z, rfl, vb.int, .inl h1, e1, k _ _ (.inl ⟨rfl, _, rfl, e2⟩)⟩
    | tuple ds =>
      cases e : atI ds i with
      | none => simp [ixD, e] at ec
      | some d =>
        have : Cn.imm d = c := by simpa [ixD, e] using ec
        subst this
        obtain ⟨w, vs, rfl, h1, q1⟩ := va.tuple hs
        obtain ⟨z, e1, e2⟩ := atI_map q1 e
        exact .inr (.inl ⟨w, vs, i, z, rfl, vb.int, h1, e1, k _ _ (.inl ⟨rfl, _, rfl, e2⟩)⟩)
    | str z =>
      by_cases hz : z.length ≤ lim
      · cases e : atI z.cps.toList i with
        | none => simp [ixD, e] at ec
        | some d =>
          have : Cn.imm (.str ⟨#[d]⟩) = c := by simpa [ixD, e, hz] using ec
          subst this
          exact .inr (.inr ⟨z, i, d, va.str, vb.int, lim_line hz, e, k _ _ (.inl ⟨rfl, _, rfl, .str _⟩)⟩)
      · simp [ixD, hz] at ec
    | _ => cases ec
  | _ => cases p <;> cases ec
theorem do_none : DO X W none (fun ρ => .ok none ρ) := ⟨_, po_none, fun σ H ρ fr Q hl hR hW => hW hl.symm H hR⟩
theorem do_some (h : DE X W e f) : DO X W (some e) (fun ρ => (f ρ).bind fun x ρ => match dat ρ x with | some (.int i) => .ok (some i) ρ | _ => .stuck) := by
  obtain ⟨t, p, r⟩ := h
  refine ⟨_, po_some p, fun σ H ρ fr Q hl hR hW => ?_⟩
  refine r σ H ρ fr _ hl hR (hW.bind.mono fun rx ρ1 l1 hW1 x H1 hR1 sx => ?_)
  cases ea : dat ρ1 rx with
  | none => rw [ea] at hW1; exact hW1.elim
  | some d =>
    rw [ea] at hW1
    cases d with
    | int i =>
      obtain ⟨G, g⟩ := hR1
      exact ⟨i, (g.view l1.symm sx ea).int, hW1 l1 H1 ⟨G, g.tails _⟩⟩
    | _ => exact hW1.elim
theorem SlR.or {r r' : V → Option Int → Option Int → Hp → VK → Prop} (h : SlR X r) (h' : SlR X r') : SlR X (fun x lo hi H Q => r x lo hi H Q ∨ r' x lo hi H Q) := by
  intro pins s σ H x v vl vu lo hi sl Q I rx hs pl pu q
  rcases q with q | q
  · exact h pins s σ H x v vl vu lo hi sl Q I rx hs pl pu q
  · exact h' pins s σ H x v vl vu lo hi sl Q I rx hs pl pu q
theorem cut_all {K : PySem.W.Frag} {G : Hp} {vs : List V} {ds : List PyData} (q : DqAll K G vs ds) (lo hi : Option Int) : DqAll K G (cutV vs lo hi) (cutD ds lo hi) := by
  unfold cutV cutD
  rw [q.len]
  exact (q.drop _).take _
theorem de_slice {lo hi : Option Expr} {fl fh : Rho → Rs (Option Int)} {p2 : Pos} (ha : DE X W a fa) (hlo : DO X W lo fl) (hhi : DO X W hi fh) :
    DE X W (.Subscript a (.Slice lo hi none p2) pos) (fun ρ => (fa ρ).bind fun x ρ => (fl ρ).bind fun l ρ => (fh ρ).bind fun h ρ => op1 (fun d => slD d l h) x ρ) := by
  obtain ⟨ta, pa, ra⟩ := ha
  obtain ⟨tl, pl, rl⟩ := hlo
  obtain ⟨th, ph, rh⟩ := hhi
  refine ⟨_, pe_slice (SlR.or sl_list sl_tupA) pa pl ph, fun σ H ρ fr Q hl hR hW => ?_⟩
  refine ra σ H ρ fr _ hl hR (hW.bind.mono fun rx ρ1 l1 hW1 x H1 hR1 sx => ?_)
  refine rl σ H1 ρ1 (ent x rx ++ fr) _ l1.symm hR1.rot ((hW1.bind.frame _).mono fun l ρ2 l2 hW2 H2 hR2 => ?_)
  refine rh σ H2 ρ2 (ent x rx ++ fr) _ l2.symm hR2 ((hW2.bind.frame _).mono fun h ρ3 l3 hW3 H3 hR3 => ?_)
  obtain ⟨G, g⟩ := hR3
  have g1 : RepG X.K G H3 (ent x rx ++ (σ.zip ρ3 ++ fr)) := g.rot
  unfold op1 at hW3
  cases ea : dat ρ3 rx with
  | none => rw [ea] at hW3; exact hW3.elim
  | some d =>
    rw [ea] at hW3
    have hs := g.sub
    have va := g1.view l3.symm sx ea
    cases d with
    | list ds =>
      obtain ⟨w, vs, rfl, h1, q1⟩ := va.list hs
      exact .inl ⟨w, vs, rfl, .inl h1, fun p hp => hW3 l3 _ _ ((g1.tails _).made (.inr ⟨p, _, _, rfl, hp, cut_all q1 l h, .inr ⟨rfl, rfl⟩⟩)) trivial⟩
    | tuple ds =>
      obtain ⟨w, vs, rfl, h1, q1⟩ := va.tuple hs
      refine .inr ⟨w, vs, rfl, h1, fun z => ?_, fun _ p hp => hW3 l3 _ _ ((g1.tails _).made (.inr ⟨p, _, _, rfl, hp, cut_all q1 l h, .inl ⟨rfl, rfl⟩⟩)) trivial⟩
      refine hW3 l3 _ _ ((g1.tails _).made (.inl ⟨rfl, _, rfl, ?_⟩)) trivial
      have : cutD ds l h = ds := by
        unfold cutD
        rw [q1.len] at z
        rw [z.1, z.2]
        simp
      rw [this]
      rcases va with va | ⟨_, _, _, _, e, _⟩
      · exact va
      · cases e
    | _ => exact hW3.elim
end
end BP
end

section
/-! Bp6: built-ins, isinstance, calls of the text's own defs. -/
namespace BP
open PySem PySem.Spec PyProof.Rows L2
inductive Views (K : PySem.W.Frag) (G H : Hp) : List V → List PyData → Prop
  | nil : Views K G H [] []
  | cons {v : V} {d : PyData} {vs : List V} {ds : List PyData} : View K G H v d → Views K G H vs ds → Views K G H (v :: vs) (d :: ds)
section
variable {X : Cx} {W : Nat → Hp → Prop} {e a b : Expr} {es : List Expr} {f fa fb : Rho → Rs RV} {fs : Rho → Rs (List RV)} {pos : Pos}
theorem RepG.views {K : PySem.W.Frag} {G H : Hp} {σ : L2.St} {ρ : Rho} {fr : List Ent} : ∀ {vs : List V} {rs : List RV} {ds : List PyData}, RepG K G H (ents vs rs ++ (σ.zip ρ ++ fr)) → σ.length = ρ.length → Sides σ vs rs → rs.mapM (dat ρ) = some ds → Views K G H vs ds
  | _, _, ds, h, hl, .nil, e => by
    have : [] = ds := by simpa using e
    subst this
    exact .nil
  | v :: vs, r :: rs, ds, h, hl, .cons s ss, e => by
    rw [List.mapM_cons] at e
    cases e1 : dat ρ r with
    | none => rw [e1] at e; cases e
    | some d =>
      cases e2 : rs.mapM (dat ρ) with
      | none => rw [e1, e2] at e; cases e
      | some ds' =>
        rw [e1, e2] at e
        have : d :: ds' = ds := by simpa using e
        subst this
        have h : RepG K G H (ent v r ++ (ents vs rs ++ (σ.zip ρ ++ fr))) := by
          rw [← List.append_assoc]; exact h
        refine .cons ?_ (RepG.views (h.tails _) hl ss e2)
        exact RepG.view (fr := ents vs rs ++ fr) (h.perm (List.Perm.append_left _ (perm_rot _ _ _))) hl s e1
/-- a built-in, by data -/
def CallD (X : Cx) (f : Value) (g : List PyData → Option Cn) : Prop :=
  ∃ r, CallR X f r ∧ ∀ G H vs ds c Q, Same G H → Views X.K G H vs ds → g ds = some c → (∀ v H', Made X.K G H v c H' → Q v H') → r vs H Q
def bltE (b : Blt) (rs : List RV) (ρ : Rho) : Rs RV := match rs.mapM (dat ρ) with
  | some ds => (Rs.ofOpt (bltop b ds) ρ).bind fun c ρ => .ok (.val c) ρ
  | none => .stuck
theorem bltE_use {K : PySem.W.Frag} {σ : L2.St} {H : Hp} {ρ : Rho} {fr : List Ent} {Q : VK} {vs : List V} {rs : List RV} {bt : Blt} (hl : ρ.length = σ.length) (hR : Rep K H (ents vs rs ++ (σ.zip ρ ++ fr))) (ss : Sides σ vs rs)
    (hW : Wish K W σ fr (bltE bt rs ρ) (fun r ρ' => ∀ v H', Rep K H' (ent v r ++ (σ.zip ρ' ++ fr)) → side σ v r → Q v H')) :
    ∃ G ds c, Same G H ∧ Views K G H vs ds ∧ bltop bt ds = some c ∧ ∀ v H', Made K G H v c H' → Q v H' := by
  obtain ⟨G, g⟩ := hR
  unfold bltE at hW
  cases e1 : rs.mapM (dat ρ) with
  | none => rw [e1] at hW; exact hW.elim
  | some ds =>
    rw [e1] at hW
    have hW : Wish K W σ fr ((Rs.ofOpt (bltop bt ds) ρ).bind fun c ρ => Rs.ok (RV.val c) ρ) _ := hW
    cases e2 : bltop bt ds with
    | none => rw [e2] at hW; exact hW.elim
    | some c =>
      rw [e2] at hW
      exact ⟨G, ds, c, g.sub, g.views hl.symm ss e1, e2, fun v H' m => hW hl v H' ((g.tails _).made m) trivial⟩
theorem any_star {pos : Pos} {env : PySem.Env} : ∀ {es : List Expr}, es.all plainE = true → (backTo pos (starEach es env)).any (·.1) = false
  | [], _ => rfl
  | e :: es, h => by
    simp only [List.all_cons, Bool.and_eq_true] at h
    rw [star_plain h.1]
    show ((false, _) :: backTo pos (starEach es env)).any (·.1) = false
    rw [List.any_cons, any_star h.2]
    rfl
theorem de_callB {x id : String} {p : Pos} {bt : Blt} (h : CallD X (.builtin id) (bltop bt)) (hg : Gl X (Str.ofString x)) (hm : X.mg (Str.ofString x) = none) (hb : bootBuiltins (Str.ofString x) = some (.builtin id)) (hn : (Str.ofString x) ≠ ("__name__" : Str)) (hd : ((Str.ofString x) == ("__debug__" : Str)) = false)
    (ha : DA X W (e :: es) fs) (hp : (e :: es).all plainE = true) : DE X W (.Call (.Name (Str.ofString x) p) (e :: es) [] pos) (fun ρ => (fs ρ).bind (bltE bt)) := by
  obtain ⟨r, pr, rr⟩ := h
  obtain ⟨t, pt, rt⟩ := ha
  simp only [List.all_cons, Bool.and_eq_true] at hp
  refine ⟨_, pe_callB pr hg hm hb pt hn hd (star_plain hp.1 _ _) (any_star hp.2), fun σ H ρ fr Q hl hR hW => ?_⟩
  refine rt σ H ρ fr _ hl hR (hW.bind.mono fun rs ρ1 l1 hW1 vs H1 hR1 ss => ?_)
  obtain ⟨G, ds, c, hs, hv, ec, k⟩ := bltE_use l1 hR1 ss hW1
  exact rr G H1 vs ds c Q hs hv ec k
theorem de_callT {x T : String} {p : Pos} {bt : Blt} (h : CallD X (.type T) (bltop bt)) (hg : Gl X (Str.ofString x)) (hm : X.mg (Str.ofString x) = none) (hb : bootBuiltins (Str.ofString x) = some (.type T)) (hn : (Str.ofString x) ≠ ("__name__" : Str)) (hd : ((Str.ofString x) == ("__debug__" : Str)) = false)
    (ha : DA X W (e :: es) fs) (hp : (e :: es).all plainE = true) : DE X W (.Call (.Name (Str.ofString x) p) (e :: es) [] pos) (fun ρ => (fs ρ).bind (bltE bt)) := by
  obtain ⟨r, pr, rr⟩ := h
  obtain ⟨t, pt, rt⟩ := ha
  simp only [List.all_cons, Bool.and_eq_true] at hp
  refine ⟨_, pe_callTy pr hg hm hb pt hn hd (star_plain hp.1 _ _) (any_star hp.2), fun σ H ρ fr Q hl hR hW => ?_⟩
  refine rt σ H ρ fr _ hl hR (hW.bind.mono fun rs ρ1 l1 hW1 vs H1 hR1 ss => ?_)
  obtain ⟨G, ds, c, hs, hv, ec, k⟩ := bltE_use l1 hR1 ss hW1
  exact rr G H1 vs ds c Q hs hv ec k
/-! ### each built-in -/
theorem made_i {K : PySem.W.Frag} {G H : Hp} {k : Int} : Made K G H (.int k) (.imm (.int k)) H := .inl ⟨rfl, _, rfl, .int _⟩
theorem Views.one {K : PySem.W.Frag} {G H : Hp} {vs : List V} {d : PyData} (h : Views K G H vs [d]) : ∃ v, vs = [v] ∧ View K G H v d := by
  cases h with
  | cons a b => cases b; exact ⟨_, rfl, a⟩
theorem Views.two {K : PySem.W.Frag} {G H : Hp} {vs : List V} {d d' : PyData} (h : Views K G H vs [d, d']) : ∃ v v', vs = [v, v'] ∧ View K G H v d ∧ View K G H v' d' := by
  cases h with
  | cons a b => cases b with
    | cons b c => cases c; exact ⟨_, _, rfl, a, b⟩
theorem ints_vals {K : PySem.W.Frag} {G : Hp} : ∀ {vs : List V} {ds : List PyData} {ns : List Int}, DqAll K G vs ds → ints? ds = some ns → vs = ns.map V.int
  | _, _, ns, .nil, e => by
    have : [] = ns := by simpa [ints?] using e
    subst this; rfl
  | v :: vs, d :: ds, ns, .cons a b, e => by
    cases d with
    | int i =>
      cases e2 : ints? ds with
      | none => simp [ints?, e2] at e
      | some ms =>
        have : i :: ms = ns := by simpa [ints?, e2] using e
        subst this
        cases a
        rw [ints_vals b e2]
        rfl
    | _ => cases e
theorem bools_vals {K : PySem.W.Frag} {G : Hp} : ∀ {vs : List V} {ds : List PyData} {ns : List Bool}, DqAll K G vs ds → bools? ds = some ns → vs = ns.map V.bl
  | _, _, ns, .nil, e => by
    have : [] = ns := by simpa [bools?] using e
    subst this; rfl
  | v :: vs, d :: ds, ns, .cons a b, e => by
    cases d with
    | bool i =>
      cases e2 : bools? ds with
      | none => simp [bools?, e2] at e
      | some ms =>
        have : i :: ms = ns := by simpa [bools?, e2] using e
        subst this
        cases a
        rw [bools_vals b e2]
        rfl
    | _ => cases e
theorem foldmax : ∀ (r : List Int) (x : Int), r.foldl (fun a b => if b > a then b else a) x ∈ x :: r ∧ ∀ y ∈ x :: r, y ≤ r.foldl (fun a b => if b > a then b else a) x
  | [], x => by simp
  | z :: r, x => by
    obtain ⟨h1, h2⟩ := foldmax r (if z > x then z else x)
    rw [List.foldl_cons]
    refine ⟨?_, fun y hy => ?_⟩
    · rcases List.mem_cons.mp h1 with e | e
      · rw [e]; split <;> simp
      · exact List.mem_cons_of_mem _ (List.mem_cons_of_mem _ e)
    · have h0 := h2 _ List.mem_cons_self
      rcases List.mem_cons.mp hy with e | hy
      · subst e; exact Int.le_trans (by split <;> omega) h0
      · rcases List.mem_cons.mp hy with e | hy
        · subst e; exact Int.le_trans (by split <;> omega) h0
        · exact h2 y (List.mem_cons_of_mem _ hy)
theorem foldmin : ∀ (r : List Int) (x : Int), r.foldl (fun a b => if b < a then b else a) x ∈ x :: r ∧ ∀ y ∈ x :: r, r.foldl (fun a b => if b < a then b else a) x ≤ y
  | [], x => by simp
  | z :: r, x => by
    obtain ⟨h1, h2⟩ := foldmin r (if z < x then z else x)
    rw [List.foldl_cons]
    refine ⟨?_, fun y hy => ?_⟩
    · rcases List.mem_cons.mp h1 with e | e
      · rw [e]; split <;> simp
      · exact List.mem_cons_of_mem _ (List.mem_cons_of_mem _ e)
    · have h0 := h2 _ List.mem_cons_self
      rcases List.mem_cons.mp hy with e | hy
      · subst e; exact Int.le_trans h0 (by split <;> omega)
      · rcases List.mem_cons.mp hy with e | hy
        · subst e; exact Int.le_trans h0 (by split <;> omega)
        · exact h2 y (List.mem_cons_of_mem _ hy)
theorem maxL_spec {ns : List Int} {m : Int} (h : maxL ns = some m) : 0 < ns.length ∧ m ∈ ns ∧ ∀ y ∈ ns, y ≤ m := by
  cases ns with
  | nil => cases h
  | cons x r =>
    have : r.foldl (fun a b => if b > a then b else a) x = m := by simpa [maxL] using h
    subst this
    exact ⟨by simp, foldmax r x⟩
theorem minL_spec {ns : List Int} {m : Int} (h : minL ns = some m) : 0 < ns.length ∧ m ∈ ns ∧ ∀ y ∈ ns, m ≤ y := by
  cases ns with
  | nil => cases h
  | cons x r =>
    have : r.foldl (fun a b => if b < a then b else a) x = m := by simpa [minL] using h
    subst this
    exact ⟨by simp, foldmin r x⟩
theorem cd_len : CallD X (.builtin "len") (bltop .len) := by
  refine ⟨_, call_len, fun G H vs ds c Q hs hv e k => ?_⟩
  match ds, hv, e with
  | [.list xs], hv, e =>
    obtain ⟨v, rfl, hw⟩ := hv.one
    cases e
    obtain ⟨p, ws, rfl, h1, q1⟩ := hw.list hs
    refine ⟨_, xs.length, rfl, .inl ⟨ws, .inl h1, q1.len.symm⟩, k _ _ made_i⟩
  | [.tuple xs], hv, e =>
    obtain ⟨v, rfl, hw⟩ := hv.one
    cases e
    obtain ⟨p, ws, rfl, h1, q1⟩ := hw.tuple hs
    refine ⟨_, xs.length, rfl, .inr ⟨ws, h1, q1.len.symm⟩, k _ _ made_i⟩
  | [.str z], hv, e =>
    obtain ⟨v, rfl, hw⟩ := hv.one
    replace e : (if z.length ≤ lim then some (Cn.imm (.int z.length)) else none) = some c := e
    split at e
    · rename_i h
      cases e
      cases hw.str
      exact ⟨_, z.length, rfl, ⟨lim_line h, rfl⟩, k _ _ made_i⟩
    · cases e
theorem cd_tuple : CallD X (.type "tuple") (bltop .tuple) := by
  refine ⟨_, call_tuple_of, fun G H vs ds c Q hs hv e k => ?_⟩
  match ds, hv, e with
  | [.list xs], hv, e =>
    obtain ⟨v, rfl, hw⟩ := hv.one
    cases e
    obtain ⟨p, ws, rfl, h1, q1⟩ := hw.list hs
    exact ⟨p, ws, rfl, .inl ⟨.inl h1, fun l hl => k _ _ (.inr ⟨l, _, _, rfl, hl, q1, .inl ⟨rfl, rfl⟩⟩)⟩⟩
  | [.tuple xs], hv, e =>
    obtain ⟨v, rfl, hw⟩ := hv.one
    cases e
    obtain ⟨p, ws, rfl, h1, q1⟩ := hw.tuple hs
    refine ⟨p, ws, rfl, .inr ⟨h1, k _ _ (.inl ⟨rfl, _, rfl, ?_⟩)⟩⟩
    rcases hw with hw | ⟨_, _, _, _, e, _⟩
    · exact hw
    · cases e
theorem cd_list : CallD X (.type "list") (bltop .list) := by
  refine ⟨_, call_list_of, fun G H vs ds c Q hs hv e k => ?_⟩
  match ds, hv, e with
  | [.list xs], hv, e =>
    obtain ⟨v, rfl, hw⟩ := hv.one
    cases e
    obtain ⟨p, ws, rfl, h1, q1⟩ := hw.list hs
    exact ⟨p, ws, rfl, .inl (.inl h1), fun l hl => k _ _ (.inr ⟨l, _, _, rfl, hl, q1, .inr ⟨rfl, rfl⟩⟩)⟩
  | [.tuple xs], hv, e =>
    obtain ⟨v, rfl, hw⟩ := hv.one
    cases e
    obtain ⟨p, ws, rfl, h1, q1⟩ := hw.tuple hs
    exact ⟨p, ws, rfl, .inr h1, fun l hl => k _ _ (.inr ⟨l, _, _, rfl, hl, q1, .inr ⟨rfl, rfl⟩⟩)⟩
theorem cd_sum (hc : X.calm = true) : CallD X (.builtin "sum") (bltop .sum) := by
  refine ⟨_, cr_sum hc, fun G H vs ds c Q hs hv e k => ?_⟩
  match ds, hv, e with
  | [.list xs], hv, e =>
    obtain ⟨v, rfl, hw⟩ := hv.one
    cases e2 : ints? xs with
    | none => simp [bltop, e2] at e
    | some ns =>
      have : Cn.imm (.int ns.sum) = c := by simpa [bltop, e2] using e
      subst this
      obtain ⟨p, ws, rfl, h1, q1⟩ := hw.list hs
      have := ints_vals q1 e2
      subst this
      exact ⟨p, ns, rfl, .inl h1, k _ _ made_i⟩
theorem cd_max (hc : X.calm = true) : CallD X (.builtin "max") (bltop .max) := by
  refine ⟨_, (cr_max hc).or (call_max2 hc), fun G H vs ds c Q hs hv e k => ?_⟩
  match ds, hv, e with
  | [.list xs], hv, e =>
    obtain ⟨v, rfl, hw⟩ := hv.one
    cases e2 : ints? xs with
    | none => simp [bltop, e2] at e
    | some ns =>
      cases e3 : maxL ns with
      | none => simp [bltop, e2, e3] at e
      | some m =>
        have : Cn.imm (.int m) = c := by simpa [bltop, e2, e3] using e
        subst this
        obtain ⟨p, ws, rfl, h1, q1⟩ := hw.list hs
        have := ints_vals q1 e2
        subst this
        obtain ⟨m1, m2, m3⟩ := maxL_spec e3
        refine .inl ⟨p, ns, rfl, .inl h1, m1, fun m' h2 h3 => ?_⟩
        have : m' = m := Int.le_antisymm (m3 m' h2) (h3 m m2)
        subst this
        exact k _ _ made_i
  | [.int i, .int j], hv, e =>
    obtain ⟨v, w, rfl, h1, h2⟩ := hv.two
    cases e
    cases h1.int
    cases h2.int
    exact .inr ⟨i, j, rfl, k _ _ made_i⟩
theorem cd_min (hc : X.calm = true) : CallD X (.builtin "min") (bltop .min) := by
  refine ⟨_, (cr_min hc).or (call_min2 hc), fun G H vs ds c Q hs hv e k => ?_⟩
  match ds, hv, e with
  | [.list xs], hv, e =>
    obtain ⟨v, rfl, hw⟩ := hv.one
    cases e2 : ints? xs with
    | none => simp [bltop, e2] at e
    | some ns =>
      cases e3 : minL ns with
      | none => simp [bltop, e2, e3] at e
      | some m =>
        have : Cn.imm (.int m) = c := by simpa [bltop, e2, e3] using e
        subst this
        obtain ⟨p, ws, rfl, h1, q1⟩ := hw.list hs
        have := ints_vals q1 e2
        subst this
        obtain ⟨m1, m2, m3⟩ := minL_spec e3
        refine .inl ⟨p, ns, rfl, .inl h1, m1, fun m' h2 h3 => ?_⟩
        have : m' = m := Int.le_antisymm (h3 m m2) (m3 m' h2)
        subst this
        exact k _ _ made_i
  | [.int i, .int j], hv, e =>
    obtain ⟨v, w, rfl, h1, h2⟩ := hv.two
    cases e
    cases h1.int
    cases h2.int
    exact .inr ⟨i, j, rfl, k _ _ made_i⟩
theorem cd_any (hc : X.calm = true) : CallD X (.builtin "any") (bltop .any) := by
  refine ⟨_, cr_any hc, fun G H vs ds c Q hs hv e k => ?_⟩
  match ds, hv, e with
  | [.list xs], hv, e =>
    obtain ⟨v, rfl, hw⟩ := hv.one
    cases e2 : bools? xs with
    | none => simp [bltop, e2] at e
    | some ns =>
      have : Cn.imm (.bool (ns.any id)) = c := by simpa [bltop, e2] using e
      subst this
      obtain ⟨p, ws, rfl, h1, q1⟩ := hw.list hs
      have := bools_vals q1 e2
      subst this
      exact ⟨p, ns, rfl, .inl h1, k _ _ made_b⟩
theorem cd_all (hc : X.calm = true) : CallD X (.builtin "all") (bltop .all) := by
  refine ⟨_, cr_all hc, fun G H vs ds c Q hs hv e k => ?_⟩
  match ds, hv, e with
  | [.list xs], hv, e =>
    obtain ⟨v, rfl, hw⟩ := hv.one
    cases e2 : bools? xs with
    | none => simp [bltop, e2] at e
    | some ns =>
      have : Cn.imm (.bool (ns.all id)) = c := by simpa [bltop, e2] using e
      subst this
      obtain ⟨p, ws, rfl, h1, q1⟩ := hw.list hs
      have := bools_vals q1 e2
      subst this
      exact ⟨p, ns, rfl, .inl h1, k _ _ made_b⟩
theorem cd_abs : CallD X (.builtin "abs") (bltop .abs) := by
  refine ⟨_, call_abs, fun G H vs ds c Q hs hv e k => ?_⟩
  match ds, hv, e with
  | [.int i], hv, e =>
    obtain ⟨v, rfl, hw⟩ := hv.one
    cases e
    cases hw.int
    exact ⟨i, rfl, k _ _ made_i⟩
/-! ### isinstance -/
def tyN : Ty → String
  | .int => "int"
  | .bool => "bool"
  | .tuple => "tuple"
  | .list => "list"
  | .str => "str"
def tnD : PyData → String
  | .none => "NoneType"
  | .bool _ => "bool"
  | .int _ => "int"
  | .str _ => "str"
  | .list _ => "list"
  | .tuple _ => "tuple"
  | .dict _ => "dict"
theorem View.ty {K : PySem.W.Frag} {G H : Hp} {v : V} {d : PyData} (hs : Same G H) (h : View K G H v d) : TyX K H v (.type (tnD d)) := by
  rcases h with h | ⟨a, vs, ds, rfl, rfl, e, _⟩
  · cases h with
    | non => exact .base .non
    | bl b => exact .base (.bl b)
    | int i => exact .base (.int i)
    | str x => exact .base (.str x)
    | lst q r =>
      rcases q with q | ⟨o, q⟩
      · exact .base (.lst (hs _ _ q))
      · exact .base (.frz (hs _ _ q))
    | tup q r =>
      rcases q with (q | ⟨o, q⟩) | ⟨o, its, n, hk, hc, _⟩
      · exact .base (.tup (hs _ _ q))
      · exact .fTuple (hs _ _ q)
      · exact .kTuple hk hc
  · exact .base (.lst e)
theorem kit_n : ∀ t : Ty, kitB "NoneType" (tyN t) = some (isTy .none t) := by intro t; cases t <;> decide +kernel
theorem kit_b : ∀ t : Ty, kitB "bool" (tyN t) = some (isTy (.bool true) t) := by intro t; cases t <;> decide +kernel
theorem kit_i : ∀ t : Ty, kitB "int" (tyN t) = some (isTy (.int 0) t) := by intro t; cases t <;> decide +kernel
theorem kit_s : ∀ t : Ty, kitB "str" (tyN t) = some (isTy (.str "") t) := by intro t; cases t <;> decide +kernel
theorem kit_l : ∀ t : Ty, kitB "list" (tyN t) = some (isTy (.list []) t) := by intro t; cases t <;> decide +kernel
theorem kit_t : ∀ t : Ty, kitB "tuple" (tyN t) = some (isTy (.tuple []) t) := by intro t; cases t <;> decide +kernel
theorem kit_all (d : PyData) (t : Ty) (K : PySem.W.Frag) (hd : ∀ kvs, d ≠ .dict kvs) : PySem.W.kitOne K (.type (tnD d)) (.type (tyN t)) = some (isTy d t) := by
  refine kit_ty ?_
  cases d with
  | dict kvs => exact absurd rfl (hd kvs)
  | none => exact kit_n t
  | bool b => exact (kit_b t).trans (by cases t <;> rfl)
  | int b => exact (kit_i t).trans (by cases t <;> rfl)
  | str b => exact (kit_s t).trans (by cases t <;> rfl)
  | list b => exact (kit_l t).trans (by cases t <;> rfl)
  | tuple b => exact (kit_t t).trans (by cases t <;> rfl)
theorem View.nodict {K : PySem.W.Frag} {G H : Hp} {v : V} {d : PyData} (h : View K G H v d) : ∀ kvs, d ≠ .dict kvs := by
  rintro kvs rfl
  rcases h with h | ⟨_, _, _, _, e, _⟩
  · cases h
  · cases e
theorem de_isi {ty : Ty} {p p2 : Pos} (hg : Gl X "isinstance") (hm : X.mg "isinstance" = none) (hg2 : Gl X (Str.ofString (tyN ty))) (hm2 : X.mg (Str.ofString (tyN ty)) = none) (hb2 : bootBuiltins (Str.ofString (tyN ty)) = some (.type (tyN ty)))
    (hn : (Str.ofString (tyN ty)) ≠ ("__name__" : Str)) (hd : ((Str.ofString (tyN ty)) == ("__debug__" : Str)) = false) (ha : DE X W a fa) (hp : plainE a = true) :
    DE X W (.Call (.Name "isinstance" p) [a, .Name (Str.ofString (tyN ty)) p2] [] pos) (fun ρ => (fa ρ).bind fun x ρ => op1 (fun d => some (.imm (.bool (isTy d ty)))) x ρ) := by
  obtain ⟨t, pt, rt⟩ := ha
  have p2 : PE X (.Name (Str.ofString (tyN ty)) p2) (tC (.ty (tyN ty))) := pe_bltn hg2 hm2 hb2 rfl hn hd
  refine ⟨_, pe_callB call_isi hg hm (by decide +kernel) (pa_cons pt (pa_cons p2 pa_nil) (star_plain hp _ _)) (by decide) (by decide) (star_plain hp _ _) (any_star (by rfl)), fun σ H ρ fr Q hl hR hW => ?_⟩
  refine rt σ H ρ fr _ hl hR (hW.bind.mono fun rx ρ1 l1 hW1 x H1 hR1 sx => ?_)
  obtain ⟨G, g⟩ := hR1
  unfold op1 at hW1
  cases ea : dat ρ1 rx with
  | none => rw [ea] at hW1; exact hW1.elim
  | some d =>
    rw [ea] at hW1
    have vw := g.view l1.symm sx ea
    exact ⟨x, .ty (tyN ty), .type (tnD d), .type (tyN ty), isTy d ty, rfl, .ty _, vw.ty g.sub, kit_all d ty _ vw.nodict, hW1 l1 _ _ (Rep.val ⟨G, g.tails _⟩ fun G => .bl _) trivial⟩
end
end BP
end

section
/-! Bp7: calls of the text's own defs. -/
namespace BP
open PySem PySem.Spec PyProof.Rows L2
def argE : List V → List Cn → List Ent
  | v :: vs, c :: cs => (some v, some c) :: argE vs cs
  | _, _ => []
/-- a def's promise, by what it is worth -/
def spD (K : PySem.W.Frag) (xc : Nat → Value) (np : Nat) (F : Fden) : Sp := fun vs H Q E => vs.length = np ∧ ∃ cs fr, cs.length = vs.length ∧ Rep K H (argE vs cs ++ fr) ∧ match F cs with
  | .ok c cs' => cs'.length = cs.length → ∀ v H', Rep K H' ((some v, some c) :: (argE vs cs' ++ fr)) → Q v H'
  | .exc e cs' => cs'.length = cs.length → ∀ H', Rep K H' (argE vs cs' ++ fr) → E (xc e) none H'
  | .stuck => False
def EX (xc : Nat → Value) (W : Nat → Hp → Prop) : XK := fun cls d H => ∃ e, cls = xc e ∧ d = none ∧ W e H
def clr : List RV → Rho → Rho
  | [], ρ => ρ
  | .slot i :: r, ρ => clr r (ρ.set i none)
  | .val _ :: r, ρ => clr r ρ
theorem clr_len : ∀ (rs : List RV) (ρ : Rho), (clr rs ρ).length = ρ.length
  | [], _ => rfl
  | .slot i :: r, ρ => by unfold clr; rw [clr_len r]; simp
  | .val _ :: r, ρ => by unfold clr; rw [clr_len r]
theorem clr_set : ∀ (rs : List RV) (ρ : Rho) (i : Nat) (x : Option Cn), i ∉ slotsOf rs → clr rs (ρ.set i x) = (clr rs ρ).set i x
  | [], _, _, _, _ => rfl
  | .slot j :: r, ρ, i, x, h => by
    simp only [slotsOf, List.mem_cons, not_or] at h
    unfold clr
    rw [List.set_comm _ _ h.1, clr_set r _ i x h.2]
  | .val _ :: r, ρ, i, x, h => by
    unfold clr
    exact clr_set r ρ i x h
theorem argCs_set : ∀ (rs : List RV) (ρ : Rho) (i : Nat) (x : Option Cn), i ∉ slotsOf rs → argCs (ρ.set i x) rs = argCs ρ rs
  | [], _, _, _, _ => rfl
  | .slot j :: r, ρ, i, x, h => by
    simp only [slotsOf, List.mem_cons, not_or] at h
    have ih := argCs_set r ρ i x h.2
    unfold argCs at ih ⊢
    rw [List.mapM_cons, List.mapM_cons, ih]
    have : cnOf (ρ.set i x) (.slot j) = cnOf ρ (.slot j) := by
      show ((ρ.set i x)[j]?).join = (ρ[j]?).join
      rw [List.getElem?_set_ne h.1]
    rw [this]
  | .val c :: r, ρ, i, x, h => by
    have ih := argCs_set r ρ i x h
    unfold argCs at ih ⊢
    rw [List.mapM_cons, List.mapM_cons, ih]
    rfl
theorem argCs_cons {r : RV} {rs : List RV} {ρ : Rho} {cs : List Cn} (h : argCs ρ (r :: rs) = some cs) : ∃ c cs', cnOf ρ r = some c ∧ argCs ρ rs = some cs' ∧ cs = c :: cs' := by
  unfold argCs at h ⊢
  rw [List.mapM_cons] at h
  cases e1 : cnOf ρ r with
  | none => rw [e1] at h; cases h
  | some c =>
    cases e2 : rs.mapM (cnOf ρ) with
    | none => rw [e1, e2] at h; cases h
    | some cs' =>
      rw [e1, e2] at h
      exact ⟨c, cs', rfl, rfl, by simpa using h.symm⟩
section
variable {K : PySem.W.Frag} {G H : Hp} {σ : L2.St}
theorem args_out : ∀ {vs : List V} {rs : List RV} {ρ : Rho} {fr : List Ent} {cs : List Cn}, RepG K G H (ents vs rs ++ (σ.zip ρ ++ fr)) → σ.length = ρ.length → Sides σ vs rs → (slotsOf rs).Nodup → argCs ρ rs = some cs →
    RepG K G H (argE vs cs ++ (σ.zip (clr rs ρ) ++ fr)) ∧ cs.length = vs.length
  | _, _, ρ, fr, cs, h, hl, .nil, _, e => by
    have : [] = cs := by simpa [argCs] using e
    subst this
    exact ⟨h, rfl⟩
  | v :: vs, r :: rs, ρ, fr, cs, h, hl, .cons s ss, nd, e => by
    obtain ⟨c, cs', e1, e2, rfl⟩ := argCs_cons e
    cases r with
    | val c' =>
      cases e1
      have h1 : RepG K G H (ents vs rs ++ (σ.zip ρ ++ ((some v, some c) :: fr))) := h.perm (by
        show (((some v, some c) :: ents vs rs) ++ (σ.zip ρ ++ fr)).Perm _
        rw [List.cons_append, ← List.append_assoc, ← List.append_assoc]
        exact List.perm_middle.symm)
      obtain ⟨h2, l2⟩ := args_out h1 hl ss nd e2
      refine ⟨h2.perm ?_, by simp [l2]⟩
      show (argE vs cs' ++ (σ.zip (clr rs ρ) ++ ((some v, some c) :: fr))).Perm ((some v, some c) :: (argE vs cs' ++ (σ.zip (clr rs ρ) ++ fr)))
      rw [← List.append_assoc, ← List.append_assoc]
      exact List.perm_middle
    | slot i =>
      simp only [slotsOf, List.nodup_cons] at nd
      have h : RepG K G H (σ.zip ρ ++ (ents vs rs ++ fr)) := h.perm (perm_rot _ _ _)
      obtain ⟨w, hw, h1⟩ := h.out hl e1
      have hwv : w = v := by
        have : some (some w) = some (some v) := hw.symm.trans s
        simpa using this
      rw [hwv] at h1
      have h2 : RepG K G H (ents vs rs ++ (σ.zip (ρ.set i none) ++ ((some v, some c) :: fr))) := h1.perm (by
        have := perm_mid2 [((some v : Option V), some c)] (σ.zip (ρ.set i none)) (ents vs rs) fr
        exact this.trans (perm_rot _ _ _))
      obtain ⟨h3, l3⟩ := args_out h2 (by simpa using hl) ss nd.2 (by rw [argCs_set _ _ _ _ nd.1]; exact e2)
      refine ⟨h3.perm ?_, by simp [l3]⟩
      show (argE vs cs' ++ (σ.zip (clr rs (ρ.set i none)) ++ ((some v, some c) :: fr))).Perm ((some v, some c) :: (argE vs cs' ++ (σ.zip (clr rs (ρ.set i none)) ++ fr)))
      rw [← List.append_assoc, ← List.append_assoc]
      exact List.perm_middle
theorem args_in : ∀ {vs : List V} {rs : List RV} {ρ : Rho} {fr : List Ent} {cs : List Cn}, RepG K G H (argE vs cs ++ (σ.zip (clr rs ρ) ++ fr)) → σ.length = ρ.length → Sides σ vs rs → (slotsOf rs).Nodup → cs.length = vs.length →
    RepG K G H (σ.zip (back rs cs ρ) ++ fr)
  | _, _, ρ, fr, [], h, hl, .nil, _, _ => h
  | _, _, ρ, fr, _ :: _, h, hl, .nil, _, e => by simp at e
  | v :: vs, r :: rs, ρ, fr, [], h, hl, .cons s ss, nd, e => by simp at e
  | v :: vs, .val c' :: rs, ρ, fr, c :: cs, h, hl, .cons s ss, nd, e => by
    have h : RepG K G H ((some v, some c) :: (argE vs cs ++ (σ.zip (clr rs ρ) ++ fr))) := h
    have h' : RepG K G H (argE vs cs ++ (σ.zip (clr rs ρ) ++ fr)) := h.tail
    exact args_in (vs := vs) (rs := rs) (cs := cs) h' hl ss nd (by simpa using e)
  | v :: vs, .slot i :: rs, ρ, fr, c :: cs, h, hl, .cons s ss, nd, e => by
    simp only [slotsOf, List.nodup_cons] at nd
    have h : RepG K G H ((some v, some c) :: (argE vs cs ++ (σ.zip (clr rs (ρ.set i none)) ++ fr))) := h
    rw [clr_set _ _ _ _ nd.1] at h
    have h1 : RepG K G H ((some v, some c) :: (σ.zip ((clr rs ρ).set i none) ++ (argE vs cs ++ fr))) := h.perm (List.Perm.cons _ (perm_rot _ _ _))
    have h2 := h1.inn (by rw [clr_len]; exact hl) s
    rw [← clr_set _ _ _ _ nd.1] at h2
    have h3 := h2.perm (perm_rot _ _ _)
    exact args_in (vs := vs) (rs := rs) (cs := cs) h3 (by simpa using hl) ss nd.2 (by simpa using e)
theorem back_len : ∀ (rs : List RV) (cs : List Cn) (ρ : Rho), (back rs cs ρ).length = ρ.length
  | [], _, _ => by unfold back; rfl
  | .slot i :: r, c :: cs, ρ => by unfold back; rw [back_len r]; simp
  | .slot i :: r, [], ρ => by unfold back; rfl
  | .val _ :: r, c :: cs, ρ => by unfold back; rw [back_len r]
  | .val _ :: r, [], ρ => by unfold back; rfl
end
section
variable {X : Cx} {W : Nat → Hp → Prop} {e : Expr} {es : List Expr} {fs : Rho → Rs (List RV)} {pos : Pos}
theorem de_call {xc : Nat → Value} {k np : Nat} {f : Addr} {fd : FuncData} {ps : List Str} {F : Fden} {x : Str} {p : Pos} (ok : FnOk X.prog X.w X.K X.mg X.base (CX X.prog X.w) k f fd ps (spD X.K xc np F)) (hr : Room k X.A) (hg : Gl X x) (hm : X.mg x = some (.ref f))
    (hk : PySem.W.keepIn X.K (.ref f) = true) (hb : Binds X.K fd ps []) (hx : Passes (CX X.prog X.w) X (EX xc W)) (hdb : (x == ("__debug__" : Str)) = false) (ha : DA X W (e :: es) fs) (hp : (e :: es).all plainE = true) (hnp : (e :: es).length = np) (hlen : ∀ ρ rs ρ', fs ρ = .ok rs ρ' → rs.length = (e :: es).length) :
    DE X W (.Call (.Name x p) (e :: es) [] pos) (fun ρ => (fs ρ).bind (callF F)) := by
  obtain ⟨t, pt, rt⟩ := ha
  simp only [List.all_cons, Bool.and_eq_true] at hp
  refine ⟨_, pe_call ok hr hg hm hk hb .nil hx pt hdb (star_plain hp.1 _ _) (any_star hp.2), fun σ H ρ fr Q hl hR hW => ?_⟩
  replace hW : Wish X.K W σ fr ((fs ρ).bind (callF F)) _ := hW
  cases q : fs ρ with
  | exc c ρ1 =>
    rw [q] at hW
    refine rt σ H ρ fr _ hl hR ?_
    rw [q]
    exact hW
  | stuck => rw [q] at hW; exact hW.elim
  | ok rs ρ1 =>
    have hlr := hlen ρ rs ρ1 q
    rw [q] at hW
    refine rt σ H ρ fr _ hl hR ?_
    rw [q]
    intro l1 vs H1 hR1 ss
    have hW : Wish X.K W σ fr (callF F rs ρ1) _ := hW
    unfold callF at hW
    split at hW
    · rename_i nd
      cases ea : argCs ρ1 rs with
      | none => rw [ea] at hW; exact hW.elim
      | some cs =>
        rw [ea] at hW
        obtain ⟨G, g⟩ := hR1
        obtain ⟨g1, lc⟩ := args_out g l1.symm ss nd ea
        refine ⟨?_, cs, σ.zip (clr rs ρ1) ++ fr, ?_, ?_, ?_⟩
        · rw [List.append_nil, ss.len, hlr, hnp]
        · rw [List.append_nil]; exact lc
        · rw [List.append_nil]; exact ⟨G, g1⟩
        · rw [List.append_nil]
          cases ef : F cs with
          | ok c cs' =>
            simp only [ef] at hW ⊢
            intro hcl v H' hR'
            rw [if_pos hcl] at hW
            obtain ⟨G', g'⟩ := hR'
            have g2 : RepG X.K G' H' (argE vs cs' ++ (σ.zip (clr rs ρ1) ++ ((some v, some c) :: fr))) := g'.perm (by
              rw [← List.append_assoc, ← List.append_assoc]
              exact List.perm_middle.symm)
            have g3 := args_in g2 l1.symm ss nd (hcl.trans lc)
            exact hW (by rw [back_len]; exact l1) v H' ⟨G', g3.perm List.perm_middle⟩ trivial
          | exc ec cs' =>
            simp only [ef] at hW ⊢
            intro hcl H' hR'
            rw [if_pos hcl] at hW
            obtain ⟨G', g'⟩ := hR'
            exact ⟨ec, rfl, rfl, hW (by rw [back_len]; exact l1) H' ⟨G', args_in g' l1.symm ss nd (hcl.trans lc)⟩⟩
          | stuck => simp only [ef] at hW; exact hW.elim
    · exact hW.elim
theorem evA_len (T : Tb) : ∀ (xs : List Ex) (ρ ρ' : Rho) (rs : List RV), evA T (exsOf xs) ρ = .ok rs ρ' → rs.length = xs.length
  | [], ρ, ρ', rs, h => by
    unfold exsOf evA at h
    cases h
    rfl
  | x :: xs, ρ, ρ', rs, h => by
    unfold exsOf evA at h
    cases e1 : evE T x ρ with
    | ok r ρ1 =>
      rw [e1] at h
      cases e2 : evA T (exsOf xs) ρ1 with
      | ok rs' ρ2 =>
        rw [Rs.ok_bind, e2] at h
        cases h
        simp [evA_len T xs ρ1 _ rs' e2]
      | exc _ _ => rw [Rs.ok_bind, e2] at h; cases h
      | stuck => rw [Rs.ok_bind, e2] at h; cases h
    | exc _ _ => rw [e1] at h; cases h
    | stuck => rw [e1] at h; cases h
end
end BP
end

section
/-! Bp8: enumerate over a tuple. -/
namespace BP
open PySem PySem.Spec PyProof.Rows L2
set_option maxHeartbeats 1000000 in
theorem new_enum {v : Value} {o : Obj} {Z : Heap → Prop} (B : Begins v o Z) :
    Meets (Builtin.«enumerate.__new__» ⟨[.type "enumerate", v], []⟩) (fun _ R s => Z s.heap ∧
      R (.ok (.ret (.ref (s.heap.push o).objs.size))) { s with heap := (s.heap.push o).push { cls := .type "enumerate", data := .fields #[.none, .bool false, .ref s.heap.objs.size, rawInt 0, .none, .none] } }) :=
  .of_wp fun prog w A R s hz => by
    obtain ⟨hp, gs, dr, tk, os⟩ := s
    obtain ⟨z1, hz⟩ := hz
    have isSub := sub_enumerate
    have step : ∀ {A2 : Around} {E2 : Value → Shared → Prop} {Q2 : Value → Shared → Prop}, Q2 (.ref hp.objs.size) ⟨hp.push o, gs, dr, tk, os⟩ → wpAny (model prog w) A2 (pyIter v) Q2 E2 ⟨hp, gs, dr, tk, os⟩ :=
      fun q2 => B.iter prog w _ _ _ _ z1 q2
    wp_walk using step
    refine wpAny_stack_any fun _ => wpAny_pure ?_
    split
    · rename_i c _ _ _ _ _
      cases (c == Value.type "enumerate") <;> (wp_walk using step; exact ⟨_, rfl, hz⟩)
    · wp_walk using step
      exact ⟨_, rfl, hz⟩
theorem enum_made {prog : Program} {w : World} {A : Around} {E : Value → Shared → Prop} {s : Shared} {v : Value} {o : Obj} {Z : Heap → Prop} {Q : Value → Shared → Prop} (B : Begins v o Z) (hz : Z s.heap)
    (h : ∀ h', IsEnum h' (s.heap.objs.size + 1) s.heap.objs.size 0 .none → h'.get? s.heap.objs.size = some o → (∀ b u, s.heap.get? b = some u → h'.get? b = some u) → Q (.ref (s.heap.objs.size + 1)) { s with heap := h' }) :
    wpAny (model prog w) A (call (.type "enumerate") [v]) Q E s := by
  have sz : (s.heap.push o).objs.size = s.heap.objs.size + 1 := Heap.size_push ..
  refine callType_new F.called_enumerate (by decide) (F.typeCall_enumerate_1 _) (F.newCall_enumerate_1 _) (fun ob => F.args_object_init_2 ob _) F.entry_enumerate_new (new_enum B) ⟨hz, ?_⟩
  show _ ∧ _
  rw [sz]
  have he := Heap.get?_push_size (s.heap.push o) (o := { cls := .type "enumerate", data := .fields #[.none, .bool false, .ref s.heap.objs.size, rawInt 0, .none, .none] }) rfl
  rw [sz] at he
  exact ⟨⟨_, he, rfl⟩, h _ he (Heap.get?_push_of_some _ (Heap.get?_push_size _ B.free)) fun b u q => Heap.get?_push_of_some _ (Heap.get?_push_of_some _ q)⟩
/-- the tuple at a, each item in a new pair -/
def IteT (K : PySem.W.Frag) (a : Addr) : It :=
  ⟨fun i H => ∃ (xs : List V) (x : V), SqT K H a xs ∧ xs[i]? = some x, fun i H v H' => ∃ p x, v = .ref p ∧ H p = none ∧ H' = upd H p (.tup [.int (i : Nat), x]) ∧ ∀ xs, SqT K H a xs → xs[i]? = some x,
    fun i H => ∃ xs : List V, SqT K H a xs ∧ xs.length = i⟩
theorem turn_enumT {P : Program} {w : World} {K : PySem.W.Frag} {elts : List Expr} {kk : Nat} {tpos : Pos} (a e it : Addr) :
    Turn P w K (.Tuple elts kk tpos) (IteT K a) [e, it] e (fun i h => (∃ old, IsEnum h e it ((i : Nat) : Int) old) ∧ h.IsTupleIter it a i ∧ e ≠ it) where
  mem := List.mem_cons_self
  obj := by
    rintro i h ⟨⟨old, he⟩, ⟨o, ho, _, hd⟩, _⟩ b hb
    rcases List.mem_cons.mp hb with rfl | hb
    · exact ⟨_, he, fun _ q => nomatch q⟩
    · cases List.mem_singleton.mp hb
      exact ⟨o, ho, fun v q => by rw [hd] at q; cases q⟩
  keep := by
    rintro i h h' ⟨⟨old, he⟩, hi, hne⟩ k
    exact ⟨⟨old, k e List.mem_cons_self _ he⟩, hi.at fun o q => k it (List.mem_cons_of_mem _ List.mem_cons_self) o q, hne⟩
  item := by
    intro X hP hw hK hc i pins s σ H E I hf st hg
    subst hP hw hK
    obtain ⟨⟨old, he⟩, hit, hne⟩ := st
    obtain ⟨xs, x, hq, hx⟩ := hg
    obtain ⟨its, rv, ht, _⟩ := I.tuple hq
    obtain ⟨u, hu, ru⟩ := rv.get hx
    have e1 : e < s.heap.objs.size := Heap.lt_size he
    have e2 : it < s.heap.objs.size := by obtain ⟨_, q, _⟩ := hit; exact Heap.lt_size q
    have hti : a ≠ it := by
      rintro rfl
      obtain ⟨o, ho, hc', _⟩ := id hit
      obtain ⟨o2, ho2, hc2, _⟩ := id ht
      rw [ho] at ho2; cases ho2
      rw [hc'] at hc2; exact absurd (Value.type.inj hc2) (by decide)
    have hea : e ≠ a := by
      rintro rfl
      obtain ⟨o2, ho2, hc2, _⟩ := id ht
      rw [he] at ho2; cases ho2
      exact absurd (Value.type.inj hc2) (by decide)
    have hin : i < its.toArray.size := by simpa using lt_of_get hu
    have hht : X.A.in1.handled = none := I.ok.hd hc
    refine wpAny_pyNext_enum_itemC (Draws.tuple hht it a hti its.toArray) he ⟨hit, ht⟩ hin hne (by simp [hne, hea]) fun y h' tk hy ho hst hT _ hk => ?_
    have hyu : y = u := by
      have : its.toArray[i]? = some u := by simpa using hu
      rw [this] at hy
      exact (Option.some.inj hy).symm
    subst hyu
    refine ⟨_, rfl, wpAny_letOwnedTupleGo_enum (s := { s with heap := h', toks := tk + 1 }) ho fun h'' he' sb => ?_⟩
    have hT2 : h''.get? s.heap.objs.size = some { cls := .type "tuple", data := .seq #[.int i tk, y] } := (sb.2 _ (Nat.ne_of_gt e1)).trans hT
    have new : ObjOk X.prog X.w (upd H s.heap.objs.size (.tup [.int (i : Nat), x])) h'' s.heap.objs.size (.tup [.int (i : Nat), x]) :=
      ⟨(by decide : 2 ≤ sizeLine), [.int i tk, y], .cons ⟨_, rfl⟩ (.cons ru .nil), _, hT2, rfl, _, rfl⟩
    have I1 := I.turnedNew (t' := tk + 1) (h' := h'') (ch := [e, it]) (fun b ob hb q => by
      simp only [List.mem_cons, List.not_mem_nil, or_false, not_or] at hb
      exact (sb.2 b hb.1).trans (hk b ob hb.1 hb.2 q)) hf (Nat.le_refl _) new
    refine ⟨.ref s.heap.objs.size, _, I1, rfl, ⟨_, x, rfl, I.hok.fresh (Nat.le_refl _), rfl, fun ys hys => by rw [I.tuple_inj hys hq]; exact hx⟩, ⟨⟨y, ?_⟩, hst.1.at fun o q => (sb.2 it (Ne.symm hne)).trans q, hne⟩, fun b hb => ?_⟩
    · rw [show ((i + 1 : Nat) : Int) = (i : Int) + 1 by omega]
      exact he'
    · have hb' : b < s.heap.objs.size := by
        rcases List.mem_cons.mp hb with rfl | hb
        · exact e1
        · rw [List.mem_singleton.mp hb]; exact e2
      rw [upd_ne (Nat.ne_of_lt hb')]
      exact (hf b hb).1
  done := by
    intro X hP hw hK hc i pins s σ H E I hf st hg
    subst hP hw hK
    obtain ⟨⟨old, he⟩, hit, hne⟩ := st
    obtain ⟨xs, hq, hx⟩ := hg
    obtain ⟨its, rv, ht, _⟩ := I.tuple hq
    obtain ⟨f0, f1, f2, f3, f4, f5⟩ := hf it (List.mem_cons_of_mem _ List.mem_cons_self)
    have hti : a ≠ it := by
      rintro rfl
      obtain ⟨o, ho, hc', _⟩ := id hit
      obtain ⟨o2, ho2, hc2, _⟩ := id ht
      rw [ho] at ho2; cases ho2
      rw [hc'] at hc2; exact absurd (Value.type.inj hc2) (by decide)
    have hsz : its.toArray.size = i := by rw [List.size_toArray, ← rv.length]; exact hx
    have hht : X.A.in1.handled = none := I.ok.hd hc
    refine wpAny_pyNext_enum_endD (Draws.tuple hht it a hti its.toArray) he (hsz ▸ ⟨hit, ht⟩) fun h' eb => ⟨rfl, ?_⟩
    exact I.turned (t' := s.toks) (fun b o hb q => eb b o hb q) f0 f1 f3 f4 f5
  self := fun A i s Q E st h => by
    obtain ⟨⟨_, he⟩, _⟩ := st
    exact wpAny_pyIter_enum he h
def iEnumT (K : PySem.W.Frag) (ta : TA) : TI := fun σ H R => ta σ H fun vs H1 => ∃ a xs, vs = [.ref a] ∧ ((SqL K H1 a xs ∧ R (Ite K a) H1) ∨ (SqT K H1 a xs ∧ R (IteT K a) H1))
theorem pi_enumT {X : Cx} {e : Expr} {ta : TA} {p pos tpos : Pos} {elts : List Expr} {kk : Nat} (hg : Gl X "enumerate") (hm : X.mg "enumerate" = none) (ha : PA X [e] ta) (he : plainE e = true) :
    PI X (.Tuple elts kk tpos) (.Call (.Name "enumerate" p) [e] [] pos) (iEnumT X.K ta) := by
  have hs : starEach [e] X.env = [(false, eval e X.env)] := by rw [star_plain he]; rfl
  refine ⟨fun pins s σ H R I h => ?_⟩
  refine Call_ (ld_blt I hg hm boot_enumerate (PyProof.Rows.callWith_type1 (thn (ha.run pos pins s σ H _ I h) fun us s1 ⟨vs, H1, I1, r1, q1⟩ => ?_) hs rfl))
  obtain ⟨a, xs, rfl, q1⟩ := q1
  obtain ⟨u, rfl, ru⟩ := vals1 r1
  obtain rfl : u = Value.ref a := ru
  have fpk : ∀ b ∈ [s1.heap.objs.size + 1, s1.heap.objs.size], s1.heap.objs.size ≤ b := fun b hb => by
    rcases List.mem_cons.mp hb with rfl | hb
    · exact Nat.le_succ _
    · rw [List.mem_singleton.mp hb]; exact Nat.le_refl _
  rcases q1 with ⟨hq, q⟩ | ⟨hq, q⟩
  · obtain ⟨its, rv, p', hz⟩ := I1.list hq
    refine call_enumerate_list p'.isList fun h' he hit hsz hk => wpAny_pyIter_enum he ?_
    exact ⟨s1.heap.objs.size + 1, [s1.heap.objs.size + 1, s1.heap.objs.size], _, _, H1, rfl, I1.kept (t' := s1.toks) hk, turn_enum a (s1.heap.objs.size + 1) s1.heap.objs.size, ⟨⟨.none, he⟩, hit, Nat.succ_ne_self _⟩, fun b hb => I1.fpOk (fpk b hb) (I1.hok.fresh (fpk b hb)), q⟩
  · obtain ⟨its, rv, p', hz⟩ := I1.tuple hq
    refine enum_made (begins_tuple a its.toArray) p' fun h' he hit hk => wpAny_pyIter_enum he ?_
    exact ⟨s1.heap.objs.size + 1, [s1.heap.objs.size + 1, s1.heap.objs.size], _, _, H1, rfl, I1.kept (t' := s1.toks) hk, turn_enumT a (s1.heap.objs.size + 1) s1.heap.objs.size, ⟨⟨.none, he⟩, ⟨_, hit, rfl, rfl⟩, Nat.succ_ne_self _⟩, fun b hb => I1.fpOk (fpk b hb) (I1.hok.fresh (fpk b hb)), q⟩
end BP
end

section
set_option maxHeartbeats 1000000
/-! Bs3: zip of a tuple with a list (printed by mkzip.py: the proofs for two tuples, turned). -/
namespace BP
open PySem PySem.Spec PyProof.Rows L2 RZ
open PySem.Sem (wp)
section
variable {prog : Program} {w : World} {A : Around} {E : Value → Shared → Prop} {s : Shared}
theorem zipTL_next_item {z TI TO i1 i2 l1 l2 : Addr} {k1 k2 : Nat} {xs ys : Array Value} {x y a b : Value} {Q : Value → Shared → Prop} (D : ZipApart z TI TO i1 i2 l1 l2)
    (hz : IsZip s.heap z TI TO .none) (hTI : IsPair s.heap TI (.ref i1) (.ref i2)) (hTO : IsPair s.heap TO a b)
    (h1 : s.heap.IsTupleIter i1 l1 k1) (h2 : s.heap.IsListIter i2 l2 k2) (hl1 : s.heap.IsTuple l1 xs) (hl2 : s.heap.IsList l2 ys) (hx : xs[k1]? = some x) (hy : ys[k2]? = some y)
    (hQ : ∀ h', IsZip h' z TI TO (rawInt s.heap.objs.size) → IsPair h' TO x y → h'.IsTupleIter i1 l1 (k1 + 1) → h'.IsListIter i2 l2 (k2 + 1) → IsPair h' s.heap.objs.size x y → h'.objs.size = s.heap.objs.size + 1 →
      (∀ c o, c ≠ z → c ≠ TO → c ≠ i1 → c ≠ i2 → s.heap.get? c = some o → h'.get? c = some o) → Q (.ref s.heap.objs.size) { s with heap := h' }) :
    wpAny (model prog w) A (Builtin.«zip.__next__» ⟨[.ref z], []⟩) (fun fin s' => ∃ v, fin = .done (.ret v) ∧ Q v s') E s := by
  show wpAny _ _ (field (.ref z) 2 >>= _) _ _ _
  refine wpAny_bind (wpAny_field hz rfl (x := .bool false) rfl ?_)
  show wpAny _ _ (field (.ref z) 3 >>= _) _ _ _
  refine wpAny_bind (wpAny_field hz rfl (x := .ref TI) rfl ?_)
  refine wpAny_bind (wpAny_seqItems hTI rfl ?_)
  show wpAny _ _ (Builtin.SmallTypes.ownedTupleIsFree (.ref z) >>= _) _ _ _
  refine wpAny_bind ?_
  unfold Builtin.SmallTypes.ownedTupleIsFree
  refine wpAny_bind (wpAny_field hz rfl (x := .none) rfl (wpAny_pure ?_))
  simp only [if_true]
  refine wpAny_bind (wpAny_rule ?_)
  refine wpAny_bind (wpAny_field hz rfl (x := .ref TO) rfl ?_)
  refine wpAny_bind (wpAny_setField_rec hz (by simp) fun h₁ hz₁ hs₁ => ?_)
  replace hz₁ : IsZip h₁ z TI TO .ellipsis := hz₁
  refine wpAny_bind ?_
  simp only [List.zipIdx_cons, List.zipIdx_nil, List.forIn_cons, List.forIn_nil]

  refine wpAny_bind (wpAny_bind (wpAny_onRaise ?_))
  show wpAny _ _ (Builtin.SmallTypes.nextOf (.ref i1) >>= _) _ _ _
  refine wpAny_bind (nextOf_tuple_item (h1.extBut hs₁.extBut D.i1z) (hl1.extBut hs₁.extBut D.l1z) hx fun h₂ h1₂ hs₂ => wpAny_pure ?_)
  have hTO₂ : IsPair h₂ TO a b := hs₂.extBut _ _ D.TOi1 (hs₁.extBut _ _ D.TOz hTO)
  refine wpAny_bind (wpAny_seqItems hTO₂ rfl ?_)
  refine wpAny_bind (wpAny_updateSeq_pair hTO₂ fun h₃ hTO₃ hs₃ => ?_)
  replace hTO₃ : IsPair h₃ TO x b := hTO₃
  refine wpAny_bind (wpAny_letGo (wpAny_pure ?_))

  refine wpAny_bind (wpAny_bind (wpAny_onRaise ?_))
  show wpAny _ _ (Builtin.SmallTypes.nextOf (.ref i2) >>= _) _ _ _
  refine wpAny_bind (wpAny_nextOf_list_item (((h2.extBut hs₁.extBut D.i2z).extBut hs₂.extBut D.i12.symm).extBut hs₃.extBut D.TOi2.symm)
    (((hl2.extBut hs₁.extBut D.l2z).extBut hs₂.extBut D.l2i1).extBut hs₃.extBut D.l2TO) hy fun h₄ h2₄ hs₄ => wpAny_pure ?_)
  have hTO₄ : IsPair h₄ TO x b := hs₄.extBut _ _ D.TOi2 hTO₃
  refine wpAny_bind (wpAny_seqItems hTO₄ rfl ?_)
  refine wpAny_bind (wpAny_updateSeq_pair hTO₄ fun h₅ hTO₅ hs₅ => ?_)
  replace hTO₅ : IsPair h₅ TO x y := hTO₅
  refine wpAny_bind (wpAny_letGo (wpAny_pure (wpAny_pure ?_)))

  refine wpAny_bind (wpAny_seqItems hTO₅ rfl ?_)
  refine wpAny_bind (wpAny_newTuple ?_)
  have hsz : h₅.objs.size = s.heap.objs.size := by rw [hs₅.1, hs₄.1, hs₃.1, hs₂.1, hs₁.1]
  have hz₅ : IsZip h₅ z TI TO .ellipsis := hs₅.extBut _ _ D.TOz.symm (hs₄.extBut _ _ D.i2z.symm (hs₃.extBut _ _ D.TOz.symm (hs₂.extBut _ _ D.i1z.symm hz₁)))
  have hk₅ : ∀ c o, c ≠ z → c ≠ TO → c ≠ i1 → c ≠ i2 → s.heap.get? c = some o → h₅.get? c = some o := fun c o c1 c2 c3 c4 e =>
    hs₅.extBut _ _ c2 (hs₄.extBut _ _ c4 (hs₃.extBut _ _ c2 (hs₂.extBut _ _ c3 (hs₁.extBut _ _ c1 e))))
  have h1₅ : h₅.IsTupleIter i1 l1 (k1 + 1) := ((h1₂.extBut hs₃.extBut D.TOi1.symm).extBut hs₄.extBut D.i12).extBut hs₅.extBut D.TOi1.symm
  have h2₅ : h₅.IsListIter i2 l2 (k2 + 1) := h2₄.extBut hs₅.extBut D.TOi2.symm
  have hzlt : z < h₅.objs.size := Heap.lt_size hz₅
  have hTOlt : TO < h₅.objs.size := Heap.lt_size hTO₅
  have hi1lt : i1 < h₅.objs.size := by obtain ⟨_, e, _⟩ := h1₅; exact Heap.lt_size e
  have hi2lt : i2 < h₅.objs.size := by obtain ⟨_, e, _⟩ := h2₅; exact Heap.lt_size e
  show wpAny _ _ (Builtin.SmallTypes.ownedTupleHandOut (.ref z) (.ref h₅.objs.size) >>= _) _ _ _
  refine wpAny_bind ?_
  unfold Builtin.SmallTypes.ownedTupleHandOut
  have hz₆ : IsZip (h₅.push { cls := .type "tuple", data := .seq #[x, y] }) z TI TO .ellipsis := Heap.get?_push_of_some _ hz₅
  refine wpAny_bind (wpAny_setField_rec hz₆ (by simp) fun h₇ hz₇ hs₇ => ?_)
  replace hz₇ : IsZip h₇ z TI TO (rawInt h₅.objs.size) := hz₇
  refine wpAny_setField_rec hz₇ (by simp) fun h₈ hz₈ hs₈ => ?_
  replace hz₈ : IsZip h₈ z TI TO (rawInt h₅.objs.size) := hz₈
  have up : ∀ c o, c ≠ z → h₅.get? c = some o → h₈.get? c = some o := fun c o c1 e => hs₈.extBut _ _ c1 (hs₇.extBut _ _ c1 (Heap.get?_push_of_some _ e))
  have hT₈ : IsPair h₈ h₅.objs.size x y := hs₈.extBut _ _ (Nat.ne_of_gt hzlt) (hs₇.extBut _ _ (Nat.ne_of_gt hzlt) (Heap.get?_push_size _ rfl))
  have hz8 : h₈.objs.size = h₅.objs.size + 1 := by rw [hs₈.1, hs₇.1, Heap.size_push]
  rw [hsz] at hz₈ hT₈ hz8
  refine wpAny_pure ⟨_, rfl, ?_⟩
  show Q (.ref h₅.objs.size) _
  rw [hsz]
  exact hQ h₈ hz₈ (up _ _ D.TOz hTO₅) (h1₅.at fun o e => up _ o D.i1z e) (h2₅.at fun o e => up _ o D.i2z e) hT₈ hz8 fun c o c1 c2 c3 c4 e => up c o c1 (hk₅ c o c1 c2 c3 c4 e)

theorem zipTL_next_end {z TI TO i1 i2 l1 l2 : Addr} {k1 k2 : Nat} {xs ys : Array Value} {a b : Value} {Q : Fin → Shared → Prop} (hh : A.handled = none) (D : ZipApart z TI TO i1 i2 l1 l2)
    (hz : IsZip s.heap z TI TO .none) (hTI : IsPair s.heap TI (.ref i1) (.ref i2)) (hTO : IsPair s.heap TO a b)
    (h1 : s.heap.IsTupleIter i1 l1 k1) (h2 : s.heap.IsListIter i2 l2 k2) (hl1 : s.heap.IsTuple l1 xs) (hl2 : s.heap.IsList l2 ys) (hend : xs[k1]? = none ∨ ys[k2]? = none)
    (hE : ∀ h' e, (∀ c o, c ≠ z → c ≠ TO → c ≠ i1 → c ≠ i2 → s.heap.get? c = some o → h'.get? c = some o) → (∃ o, h'.get? e = some o ∧ o.cls = .type "StopIteration") → E (.ref e) { s with heap := h' }) :
    wpAny (model prog w) A (Builtin.«zip.__next__» ⟨[.ref z], []⟩) Q E s := by
  show wpAny _ _ (field (.ref z) 2 >>= _) _ _ _
  refine wpAny_bind (wpAny_field hz rfl (x := .bool false) rfl ?_)
  show wpAny _ _ (field (.ref z) 3 >>= _) _ _ _
  refine wpAny_bind (wpAny_field hz rfl (x := .ref TI) rfl ?_)
  refine wpAny_bind (wpAny_seqItems hTI rfl ?_)
  show wpAny _ _ (Builtin.SmallTypes.ownedTupleIsFree (.ref z) >>= _) _ _ _
  refine wpAny_bind ?_
  unfold Builtin.SmallTypes.ownedTupleIsFree
  refine wpAny_bind (wpAny_field hz rfl (x := .none) rfl (wpAny_pure ?_))
  simp only [if_true]
  refine wpAny_bind (wpAny_rule ?_)
  refine wpAny_bind (wpAny_field hz rfl (x := .ref TO) rfl ?_)
  refine wpAny_bind (wpAny_setField_rec hz (by simp) fun h₁ hz₁ hs₁ => ?_)
  replace hz₁ : IsZip h₁ z TI TO .ellipsis := hz₁
  refine wpAny_bind ?_
  simp only [List.zipIdx_cons, List.zipIdx_nil, List.forIn_cons, List.forIn_nil]
  refine wpAny_bind (wpAny_bind (wpAny_onRaise ?_))
  show wpAny _ _ (Builtin.SmallTypes.nextOf (.ref i1) >>= _) _ _ _
  cases hx : xs[k1]? with
  | none =>
    refine wpAny_bind (nextOf_tuple_end hh (h1.extBut hs₁.extBut D.i1z) (hl1.extBut hs₁.extBut D.l1z) hx fun h₂ e hs₂ he => ?_)
    obtain ⟨oe, hoe, hce⟩ := he
    have hz₂ : IsZip h₂ z TI TO .ellipsis := hs₂ _ _ D.i1z.symm hz₁
    have hez : e ≠ z := fun x => by subst x; rw [hz₂] at hoe; cases hoe; simp at hce
    refine wpAny_setField_rec hz₂ (by simp) fun h₃ _ hs₃ => hE h₃ e (fun c o c1 _ c3 _ x => hs₃.extBut _ _ c1 (hs₂ _ _ c3 (hs₁.extBut _ _ c1 x))) ⟨oe, hs₃.extBut _ _ hez hoe, hce⟩
  | some x =>
    have hy : ys[k2]? = none := by rcases hend with h | h; rw [hx] at h; cases h; exact h
    refine wpAny_bind (nextOf_tuple_item (h1.extBut hs₁.extBut D.i1z) (hl1.extBut hs₁.extBut D.l1z) hx fun h₂ h1₂ hs₂ => wpAny_pure ?_)
    have hTO₂ : IsPair h₂ TO a b := hs₂.extBut _ _ D.TOi1 (hs₁.extBut _ _ D.TOz hTO)
    refine wpAny_bind (wpAny_seqItems hTO₂ rfl ?_)
    refine wpAny_bind (wpAny_updateSeq_pair hTO₂ fun h₃ hTO₃ hs₃ => ?_)
    refine wpAny_bind (wpAny_letGo (wpAny_pure ?_))
    refine wpAny_bind (wpAny_bind (wpAny_onRaise ?_))
    show wpAny _ _ (Builtin.SmallTypes.nextOf (.ref i2) >>= _) _ _ _
    refine wpAny_bind (wpAny_nextOf_list_end hh (((h2.extBut hs₁.extBut D.i2z).extBut hs₂.extBut D.i12.symm).extBut hs₃.extBut D.TOi2.symm)
      (((hl2.extBut hs₁.extBut D.l2z).extBut hs₂.extBut D.l2i1).extBut hs₃.extBut D.l2TO) hy fun h₄ e hs₄ he => ?_)
    obtain ⟨oe, hoe, hce⟩ := he
    have hz₄ : IsZip h₄ z TI TO .ellipsis := hs₄ _ _ D.i2z.symm (hs₃.extBut _ _ D.TOz.symm (hs₂.extBut _ _ D.i1z.symm hz₁))
    have hez : e ≠ z := fun x => by subst x; rw [hz₄] at hoe; cases hoe; simp at hce
    refine wpAny_setField_rec hz₄ (by simp) fun h₅ _ hs₅ => hE h₅ e (fun c o c1 c2 c3 c4 x => hs₅.extBut _ _ c1 (hs₄ _ _ c4 (hs₃.extBut _ _ c2 (hs₂.extBut _ _ c3 (hs₁.extBut _ _ c1 x))))) ⟨oe, hs₅.extBut _ _ hez hoe, hce⟩

theorem pyNext_zipTL_item {z TI TO i1 i2 l1 l2 : Addr} {k1 k2 : Nat} {xs ys : Array Value} {x y a b : Value} {Q : Option Value → Shared → Prop} (D : ZipApart z TI TO i1 i2 l1 l2)
    (hz : IsZip s.heap z TI TO .none) (hTI : IsPair s.heap TI (.ref i1) (.ref i2)) (hTO : IsPair s.heap TO a b)
    (h1 : s.heap.IsTupleIter i1 l1 k1) (h2 : s.heap.IsListIter i2 l2 k2) (hl1 : s.heap.IsTuple l1 xs) (hl2 : s.heap.IsList l2 ys) (hx : xs[k1]? = some x) (hy : ys[k2]? = some y)
    (hQ : ∀ h', IsZip h' z TI TO (rawInt s.heap.objs.size) → IsPair h' TO x y → h'.IsTupleIter i1 l1 (k1 + 1) → h'.IsListIter i2 l2 (k2 + 1) → IsPair h' s.heap.objs.size x y → h'.objs.size = s.heap.objs.size + 1 →
      (∀ c o, c ≠ z → c ≠ TO → c ≠ i1 → c ≠ i2 → s.heap.get? c = some o → h'.get? c = some o) → Q (some (.ref s.heap.objs.size)) { s with heap := h' }) :
    wpAny (model prog w) A (pyNext (.ref z)) Q E s := by
  have hT : s.TypeIs (.ref z) "zip" := ⟨_, hz, rfl⟩
  unfold pyNext
  exact wpAny_bind (wpAny_attempt (wpAny_callSpecial?_slot (name := Str.ofString "__next__") hT F.slot_zip_next
    (wpAny_call_entry F.slot_zip_next hT F.entry_zip_next
      (zipTL_next_item D hz hTI hTO h1 h2 hl1 hl2 hx hy fun h' a1 a2 a3 a4 a5 a6 a7 => wpAny_pure (hQ h' a1 a2 a3 a4 a5 a6 a7)) (F.args_zip_next_1 _))))

theorem pyNext_zipTL_end {z TI TO i1 i2 l1 l2 : Addr} {k1 k2 : Nat} {xs ys : Array Value} {a b : Value} {Q : Option Value → Shared → Prop} (hh : A.handled = none) (D : ZipApart z TI TO i1 i2 l1 l2)
    (hz : IsZip s.heap z TI TO .none) (hTI : IsPair s.heap TI (.ref i1) (.ref i2)) (hTO : IsPair s.heap TO a b)
    (h1 : s.heap.IsTupleIter i1 l1 k1) (h2 : s.heap.IsListIter i2 l2 k2) (hl1 : s.heap.IsTuple l1 xs) (hl2 : s.heap.IsList l2 ys) (hend : xs[k1]? = none ∨ ys[k2]? = none)
    (hQ : ∀ h', (∀ c o, c ≠ z → c ≠ TO → c ≠ i1 → c ≠ i2 → s.heap.get? c = some o → h'.get? c = some o) → Q none { s with heap := h' }) : wpAny (model prog w) A (pyNext (.ref z)) Q E s := by
  have hT : s.TypeIs (.ref z) "zip" := ⟨_, hz, rfl⟩
  unfold pyNext
  refine wpAny_bind (wpAny_attempt (wpAny_callSpecial?_slot (name := Str.ofString "__next__") hT F.slot_zip_next
    (wpAny_call_entry F.slot_zip_next hT F.entry_zip_next (zipTL_next_end hh D hz hTI hTO h1 h2 hl1 hl2 hend fun h' e hk he => ?_) (F.args_zip_next_1 _))))
  obtain ⟨o, ho, hc⟩ := he
  refine wpAny_bind (wpAny_isInstance (T := "StopIteration") (b := true) ⟨o, ho, hc⟩ isSubtype_stop ?_)
  exact wpAny_pure (hQ _ hk)
end
abbrev zipTLH1 (h : Heap) (l1 : Addr) : Heap := h.push { cls := .type "tuple_iterator", data := .fields #[.ref l1, .int 0 0] }
abbrev zipTLH2 (h : Heap) (l1 l2 : Addr) : Heap := (zipTLH1 h l1).push { cls := .type "list_iterator", data := .fields #[.ref l2, .int 0 0] }
abbrev zipTLH3 (h : Heap) (l1 l2 : Addr) : Heap := (zipTLH2 h l1 l2).push { cls := .type "tuple", data := .seq #[.ref h.objs.size, .ref (zipTLH1 h l1).objs.size] }
abbrev zipTLH4 (h : Heap) (l1 l2 : Addr) : Heap := (zipTLH3 h l1 l2).push { cls := .type "tuple", data := .seq #[.none, .none] }
abbrev zipTLH5 (h : Heap) (l1 l2 : Addr) : Heap := (zipTLH4 h l1 l2).push { cls := .type "zip", data := .fields #[.none, .bool false, .bool false, .ref (zipTLH2 h l1 l2).objs.size, .ref (zipTLH3 h l1 l2).objs.size] }
theorem meets_zipTL_new (l1 l2 : Addr) (xs ys : Array Value) :
    Meets (Builtin.«zip.__new__» ⟨[.type "zip", .ref l1, .ref l2], []⟩) (fun _ R s => s.heap.IsTuple l1 xs ∧ s.heap.IsList l2 ys ∧
      R (.ok (.ret (.ref (zipTLH4 s.heap l1 l2).objs.size))) { s with heap := zipTLH5 s.heap l1 l2 }) :=
  .of_wp fun prog w A R s h => by
    obtain ⟨hp, g, d, tk, os⟩ := s; obtain ⟨hl1, hl2, h⟩ := h
    have hsub := sub_zip
    have hL1 : Heap.IsTuple (Shared.heap ⟨hp, g, d, tk, os⟩) l1 xs := hl1
    have hL2 : Heap.IsList (Shared.heap ⟨hp.push { cls := .type "tuple_iterator", data := .fields #[.ref l1, .int 0 0] }, g, d, tk, os⟩) l2 ys := Heap.IsList.push hl2 _
    wp_walk using wpAny_pyIter_tuple hL1, wpAny_pyIter_list hL2
    exact ⟨_, rfl, h⟩

section
variable {prog : Program} {w : World} {A : Around} {E : Value → Shared → Prop} {s : Shared}
theorem call_zipTL {l1 l2 : Addr} {xs ys : Array Value} {Q : Value → Shared → Prop} (hl1 : s.heap.IsTuple l1 xs) (hl2 : s.heap.IsList l2 ys)
    (h : ∀ h', IsZip h' (s.heap.objs.size + 4) (s.heap.objs.size + 2) (s.heap.objs.size + 3) .none → IsPair h' (s.heap.objs.size + 2) (.ref s.heap.objs.size) (.ref (s.heap.objs.size + 1)) →
      IsPair h' (s.heap.objs.size + 3) .none .none → h'.IsTupleIter s.heap.objs.size l1 0 → h'.IsListIter (s.heap.objs.size + 1) l2 0 → h'.objs.size = s.heap.objs.size + 5 →
      (∀ c o, s.heap.get? c = some o → h'.get? c = some o) → Q (.ref (s.heap.objs.size + 4)) { s with heap := h' }) :
    wpAny (model prog w) A (call (.type "zip") [.ref l1, .ref l2]) Q E s := by
  refine callType_new F.called_zip (by decide) (F.typeCall_zip_2 _ _) (F.newCall_zip_2 _ _) (fun obj => F.args_object_init_3 obj _ _) F.entry_zip_new
    (meets_zipTL_new l1 l2 xs ys) ⟨hl1, hl2, ?_⟩
  have z1 : (zipTLH1 s.heap l1).objs.size = s.heap.objs.size + 1 := Heap.size_push ..
  have z2 : (zipTLH2 s.heap l1 l2).objs.size = s.heap.objs.size + 2 := by rw [Heap.size_push, z1]
  have z3 : (zipTLH3 s.heap l1 l2).objs.size = s.heap.objs.size + 3 := by rw [Heap.size_push, z2]
  have z4 : (zipTLH4 s.heap l1 l2).objs.size = s.heap.objs.size + 4 := by rw [Heap.size_push, z3]
  have z5 : (zipTLH5 s.heap l1 l2).objs.size = s.heap.objs.size + 5 := by rw [Heap.size_push, z4]
  have g5 : (zipTLH5 s.heap l1 l2).get? (zipTLH4 s.heap l1 l2).objs.size = some _ := Heap.get?_push_size _ rfl
  have g4 : (zipTLH5 s.heap l1 l2).get? (zipTLH3 s.heap l1 l2).objs.size = some _ := Heap.get?_push_of_some _ (Heap.get?_push_size _ rfl)
  have g3 : (zipTLH5 s.heap l1 l2).get? (zipTLH2 s.heap l1 l2).objs.size = some _ := Heap.get?_push_of_some _ (Heap.get?_push_of_some _ (Heap.get?_push_size _ rfl))
  have g2 : (zipTLH5 s.heap l1 l2).get? (zipTLH1 s.heap l1).objs.size = some _ := Heap.get?_push_of_some _ (Heap.get?_push_of_some _ (Heap.get?_push_of_some _ (Heap.get?_push_size _ rfl)))
  have g1 : (zipTLH5 s.heap l1 l2).get? s.heap.objs.size = some _ := Heap.get?_push_of_some _ (Heap.get?_push_of_some _ (Heap.get?_push_of_some _ (Heap.get?_push_of_some _ (Heap.get?_push_size _ rfl))))
  show _ ∧ _
  rw [z2, z3, z4] at g5
  rw [z1, z2] at g3
  rw [z3] at g4
  rw [z1] at g2
  rw [z4]
  exact ⟨⟨_, g5, rfl⟩, h _ g5 g3 g4 ⟨_, g1, rfl, rfl⟩ ⟨_, g2, rfl, rfl⟩ z5 fun c o x =>
    Heap.get?_push_of_some _ (Heap.get?_push_of_some _ (Heap.get?_push_of_some _ (Heap.get?_push_of_some _ (Heap.get?_push_of_some _ x))))⟩
end
def ItzTL (K : PySem.W.Frag) (a b : Addr) : It :=
  ⟨fun i H => ∃ (xs ys : List V) (x y : V), SqT K H a xs ∧ SqL K H b ys ∧ xs[i]? = some x ∧ ys[i]? = some y,
    fun i H v H' => ∃ T x y, v = .ref T ∧ H T = none ∧ H' = upd H T (.tup [x, y]) ∧ (∀ xs, SqT K H a xs → xs[i]? = some x) ∧ ∀ ys, SqL K H b ys → ys[i]? = some y,
    fun i H => ∃ xs ys : List V, SqT K H a xs ∧ SqL K H b ys ∧ (xs.length ≤ i ∨ ys.length ≤ i)⟩
theorem turn_zipTL {P : Program} {w : World} {K : PySem.W.Frag} {elts : List Expr} {kk : Nat} {tpos : Pos} {a b z TI TO i1 i2 : Addr} (D : ZipApart z TI TO i1 i2 a b) :
    Turn P w K (.Tuple elts kk tpos) (ItzTL K a b) [z, TI, TO, i1, i2] z (fun i h => IsZip h z TI TO .none ∧ IsPair h TI (.ref i1) (.ref i2) ∧ (∃ x y, IsPair h TO x y) ∧ h.IsTupleIter i1 a i ∧ h.IsListIter i2 b i) where
  mem := by simp
  obj := fun i h st c hc => by
    obtain ⟨hz, hTI, ⟨x, y, hTO⟩, ⟨o1, e1, _, d1⟩, ⟨o2, e2, _, d2⟩⟩ := st
    have e' : c = z ∨ c = TI ∨ c = TO ∨ c = i1 ∨ c = i2 := by simpa using hc
    rcases e' with q | q | q | q | q
    · rw [q]; exact ⟨_, hz, fun v q => nomatch q⟩
    · rw [q]; exact ⟨_, hTI, fun v q => nomatch q⟩
    · rw [q]; exact ⟨_, hTO, fun v q => nomatch q⟩
    · rw [q]; exact ⟨o1, e1, fun v q => by rw [d1] at q; cases q⟩
    · rw [q]; exact ⟨o2, e2, fun v q => by rw [d2] at q; cases q⟩
  keep := fun i h h' st k => by
    obtain ⟨hz, hTI, ⟨x, y, hTO⟩, h1, h2⟩ := st
    exact ⟨k z (by simp) _ hz, k TI (by simp) _ hTI, ⟨x, y, k TO (by simp) _ hTO⟩, h1.at fun o q => k i1 (by simp) o q, h2.at fun o q => k i2 (by simp) o q⟩
  item := by
    intro X hP hw hK hc i pins s σ H E I hf st hg
    subst hP hw hK
    obtain ⟨hz, hTI, ⟨x0, y0, hTO⟩, h1, h2⟩ := st
    obtain ⟨xs, ys, x, y, hqx, hqy, hx, hy⟩ := hg
    obtain ⟨its, rv, p, _⟩ := I.tuple hqx
    obtain ⟨its2, rv2, p2, _⟩ := I.list hqy
    obtain ⟨u, hu, ru⟩ := rv.get hx
    obtain ⟨u2, hu2, ru2⟩ := rv2.get hy
    have hzl : z < s.heap.objs.size := Heap.lt_size hz
    refine pyNext_zipTL_item D hz hTI hTO h1 h2 p p2.isList (x := u) (y := u2) (by simpa using hu) (by simpa using hu2) fun h' z' TO' h1' h2' hT hsz hk => ?_
    refine ⟨_, rfl, wpAny_letOwnedTupleGo_zip (s := { s with heap := h' }) z' fun h'' z'' sb => ?_⟩
    have hT2 : h''.get? s.heap.objs.size = some { cls := .type "tuple", data := .seq #[u, u2] } := (sb.2 _ (Nat.ne_of_gt hzl)).trans hT
    have new : ObjOk X.prog X.w (upd H s.heap.objs.size (.tup [x, y])) h'' s.heap.objs.size (.tup [x, y]) :=
      ⟨by show 2 ≤ sizeLine; decide, [u, u2], .cons ru (.cons ru2 .nil), ⟨_, hT2, rfl, _, rfl⟩⟩
    have I1 : Inv X pins σ (upd H s.heap.objs.size (.tup [x, y])) { s with heap := h'' } :=
      I.turnedNew (t' := s.toks) (ch := [z, TI, TO, i1, i2]) (fun c o hb q => (sb.2 c (fun q' => hb (by simp [q']))).trans (hk c o (fun q' => hb (by simp [q'])) (fun q' => hb (by simp [q'])) (fun q' => hb (by simp [q'])) (fun q' => hb (by simp [q'])) q)) hf (Nat.le_refl _) new
    refine ⟨.ref s.heap.objs.size, _, I1, rfl, ⟨_, x, y, rfl, I.hok.fresh (Nat.le_refl _), rfl, fun l hl => by rw [I.tuple_inj hl hqx]; exact hx, fun l hl => by rw [I.list_inj hl hqy]; exact hy⟩, ⟨z'', ?_, ⟨u, u2, ?_⟩, ?_, ?_⟩, fun c hcm => ?_⟩
    · exact (sb.2 _ D.TIz).trans (hk _ _ D.TIz D.TITO D.TIi1 D.TIi2 hTI)
    · exact (sb.2 _ D.TOz).trans TO'
    · exact h1'.at fun o q => (sb.2 _ D.i1z).trans q
    · exact h2'.at fun o q => (sb.2 _ D.i2z).trans q
    · have hlt : c < s.heap.objs.size := by
        have e' : c = z ∨ c = TI ∨ c = TO ∨ c = i1 ∨ c = i2 := by simpa using hcm
        rcases e' with q | q | q | q | q
        · rw [q]; exact hzl
        · rw [q]; exact Heap.lt_size hTI
        · rw [q]; exact Heap.lt_size hTO
        · rw [q]; obtain ⟨_, e1, _⟩ := h1; exact Heap.lt_size e1
        · rw [q]; obtain ⟨_, e2, _⟩ := h2; exact Heap.lt_size e2
      rw [upd_ne (Nat.ne_of_lt hlt)]
      exact (hf c hcm).1
  done := by
    intro X hP hw hK hc i pins s σ H E I hf st hg
    subst hP hw hK
    obtain ⟨hz, hTI, ⟨x0, y0, hTO⟩, h1, h2⟩ := st
    obtain ⟨xs, ys, hqx, hqy, hend⟩ := hg
    obtain ⟨its, rv, p, _⟩ := I.tuple hqx
    obtain ⟨its2, rv2, p2, _⟩ := I.list hqy
    have l1 := rv.length
    have l2 := rv2.length
    have he : its.toArray[i]? = none ∨ its2.toArray[i]? = none := by
      rcases hend with q | q
      · exact .inl (by simp; omega)
      · exact .inr (by simp; omega)
    exact pyNext_zipTL_end (I.ok.hd hc) D hz hTI hTO h1 h2 p p2.isList he fun h' hk => ⟨rfl, I.turnedL (t' := s.toks) (ch := [z, TI, TO, i1, i2]) (fun c o hb q =>
      hk c o (fun q' => hb (by simp [q'])) (fun q' => hb (by simp [q'])) (fun q' => hb (by simp [q'])) (fun q' => hb (by simp [q'])) q) hf⟩
  self := fun A i s Q E st h => wpAny_pyIter_zip st.1 h

def iZipB (K : PySem.W.Frag) (ta : TA) : TI := fun σ H R => ta σ H fun vs H1 => ∃ a b xs ys, vs = [.ref a, .ref b] ∧ ((SqL K H1 a xs ∧ SqL K H1 b ys ∧ R (Itz K a b) H1) ∨ (SqT K H1 a xs ∧ SqT K H1 b ys ∧ R (ItzT K a b) H1) ∨ (SqT K H1 a xs ∧ SqL K H1 b ys ∧ R (ItzTL K a b) H1))
theorem pi_zipB {X : Cx} {e e2 : Expr} {ta : TA} {p pos tpos : Pos} {elts : List Expr} {kk : Nat} (hg : Gl X "zip") (hm : X.mg "zip" = none) (ha : PA X [e, e2] ta)
    (hs : starEach [e, e2] X.env = (false, eval e X.env) :: starEach [e2] X.env := by rfl) (hpl : (backTo pos (starEach [e2] X.env)).any (·.1) = false := by rfl) :
    PI X (.Tuple elts kk tpos) (.Call (.Name "zip" p) [e, e2] [] pos) (iZipB X.K ta) := by
  refine ⟨fun pins s σ H R I h => ?_⟩
  refine Call_ (ld_blt I hg hm PyProof.Rows.boot_zip (PyProof.Rows.callWith_type1 (thn (ha.run pos pins s σ H _ I h) fun us s1 ⟨vs, H1, I1, r1, q1⟩ => ?_) hs hpl))
  obtain ⟨a, b, xs, ys, ex, q1⟩ := q1
  subst ex
  cases r1 with
  | cons r rr =>
    cases rr with
    | cons r' rr =>
      cases rr
      cases r
      cases r'
      have fresh5 : ∀ c, c ∈ [s1.heap.objs.size + 4, s1.heap.objs.size + 2, s1.heap.objs.size + 3, s1.heap.objs.size, s1.heap.objs.size + 1] → FpOk X pins H1 c := fun c hcm => by
        have e' : c = s1.heap.objs.size + 4 ∨ c = s1.heap.objs.size + 2 ∨ c = s1.heap.objs.size + 3 ∨ c = s1.heap.objs.size ∨ c = s1.heap.objs.size + 1 := by simpa using hcm
        have hle : s1.heap.objs.size ≤ c := by
          rcases e' with z | z | z | z | z
          · rw [z]; exact Nat.le_add_right _ _
          · rw [z]; exact Nat.le_add_right _ _
          · rw [z]; exact Nat.le_add_right _ _
          · rw [z]; exact Nat.le_refl _
          · rw [z]; exact Nat.le_add_right _ _
        exact I1.fpOk hle (I1.hok.fresh hle)
      rcases q1 with ⟨hqx, hqy, q⟩ | ⟨hqx, hqy, q⟩ | ⟨hqx, hqy, q⟩
      · obtain ⟨its, rv, p1, _⟩ := I1.list hqx
        obtain ⟨its2, rv2, p2, _⟩ := I1.list hqy
        refine call_zip_2 p1.isList p2.isList fun h' hz hTI hTO h1 h2 hsz hk => wpAny_pyIter_zip hz ?_
        have I2 : Inv X pins σ H1 { s1 with heap := h' } := I1.kept (t' := s1.toks) hk
        exact ⟨s1.heap.objs.size + 4, [s1.heap.objs.size + 4, s1.heap.objs.size + 2, s1.heap.objs.size + 3, s1.heap.objs.size, s1.heap.objs.size + 1], _, _, H1, rfl, I2, turn_zip (PySem.W.ktu_apart s1.heap.objs.size a b p1.lt p2.lt), ⟨hz, hTI, ⟨_, _, hTO⟩, h1, h2⟩, fresh5, q⟩
      · obtain ⟨its, rv, p1, _⟩ := I1.tuple hqx
        obtain ⟨its2, rv2, p2, _⟩ := I1.tuple hqy
        obtain ⟨o1, ho1, _⟩ := id p1
        obtain ⟨o2, ho2, _⟩ := id p2
        refine call_zipT (show s1.heap.IsTuple a its.toArray from p1) (show s1.heap.IsTuple b its2.toArray from p2) fun h' hz hTI hTO h1 h2 hsz hk => wpAny_pyIter_zip hz ?_
        have I2 : Inv X pins σ H1 { s1 with heap := h' } := I1.kept (t' := s1.toks) hk
        exact ⟨s1.heap.objs.size + 4, [s1.heap.objs.size + 4, s1.heap.objs.size + 2, s1.heap.objs.size + 3, s1.heap.objs.size, s1.heap.objs.size + 1], _, _, H1, rfl, I2, turn_zipT (PySem.W.ktu_apart s1.heap.objs.size a b (Heap.lt_size ho1) (Heap.lt_size ho2)), ⟨hz, hTI, ⟨_, _, hTO⟩, h1, h2⟩, fresh5, q⟩
      · obtain ⟨its, rv, p1, _⟩ := I1.tuple hqx
        obtain ⟨its2, rv2, p2, _⟩ := I1.list hqy
        obtain ⟨o1, ho1, _⟩ := id p1
        refine call_zipTL (show s1.heap.IsTuple a its.toArray from p1) p2.isList fun h' hz hTI hTO h1 h2 hsz hk => wpAny_pyIter_zip hz ?_
        have I2 : Inv X pins σ H1 { s1 with heap := h' } := I1.kept (t' := s1.toks) hk
        exact ⟨s1.heap.objs.size + 4, [s1.heap.objs.size + 4, s1.heap.objs.size + 2, s1.heap.objs.size + 3, s1.heap.objs.size, s1.heap.objs.size + 1], _, _, H1, rfl, I2, turn_zipTL (PySem.W.ktu_apart s1.heap.objs.size a b (Heap.lt_size ho1) p2.lt), ⟨hz, hTI, ⟨_, _, hTO⟩, h1, h2⟩, fresh5, q⟩
end BP
end

section
/-! Bp9: what is walked, targets. -/
namespace BP
open PySem PySem.Spec PyProof.Rows L2
/-- items, by turns, while es stands -/
structure WalkD (K : PySem.W.Frag) (J : It) (items : List PyData) (es : List Ent) : Prop where
  go : ∀ i H l, Rep K H (es ++ l) → i < items.length → J.go i H
  stop : ∀ H l, Rep K H (es ++ l) → J.stop items.length H
  yld : ∀ i H l x H' d, Rep K H (es ++ l) → items[i]? = some d → J.yld i H x H' → Rep K H' ((some x, some (.imm d)) :: (es ++ l))
def DI (X : Cx) (W : Nat → Hp → Prop) (tg iter : Expr) (f : Rho → Rs (List PyData)) : Prop :=
  ∃ wi, PI X tg iter wi ∧ ∀ σ H ρ fr R, σ.length = ρ.length → Rep X.K H (σ.zip ρ ++ fr) →
    Wish X.K W σ fr (f ρ) (fun items ρ' => ∀ J H' es, Rep X.K H' (es ++ (σ.zip ρ' ++ fr)) → WalkD X.K J items es → R J H') → wi σ H R
section
variable {X : Cx} {W : Nat → Hp → Prop} {tg e a b c : Expr} {es : List Expr} {f fa fb fc : Rho → Rs RV} {fs : Rho → Rs (List RV)} {pos : Pos}
theorem di_stuck {g : Rho → Rs (List PyData)} (h : ∀ ρ, g ρ = .stuck) : DI X W tg e g :=
  ⟨fun _ _ _ => False, ⟨fun _ _ _ _ _ _ h => h.elim⟩, fun σ H ρ fr Q _ _ w => by rw [h ρ] at w; exact w⟩
theorem PI.or {w1 w2 : TI} (h1 : PI X tg e w1) (h2 : PI X tg e w2) : PI X tg e (fun σ H R => w1 σ H R ∨ w2 σ H R) :=
  ⟨fun pins s σ H R I h => h.elim (h1.run pins s σ H R I) (h2.run pins s σ H R I)⟩
/-! ### the walks -/
theorem get_lt {α : Type} {l : List α} {i : Nat} (h : i < l.length) : ∃ x, l[i]? = some x := ⟨_, List.getElem?_eq_getElem h⟩
theorem walkD_list {K : PySem.W.Frag} {p : Addr} {ds : List PyData} : WalkD K (Itl K p) ds [(some (.ref p), some (.imm (.list ds)))] where
  go := by
    rintro i H l ⟨G, g⟩ hi
    obtain ⟨q, vs, e, h1, q1⟩ := (View.list g.sub (.inl g.imm))
    cases e
    obtain ⟨y, hv⟩ := get_lt (l := vs) (i := i) (by rw [q1.len]; exact hi)
    exact ⟨vs, _, .inl h1, hv⟩
  stop := by
    rintro H l ⟨G, g⟩
    obtain ⟨q, vs, e, h1, q1⟩ := (View.list g.sub (.inl g.imm))
    cases e
    exact ⟨vs, .inl h1, Nat.le_of_eq q1.len⟩
  yld := by
    rintro i H l x H' d ⟨G, g⟩ hd ⟨rfl, hx⟩
    obtain ⟨q, vs, e, h1, q1⟩ := (View.list g.sub (.inl g.imm))
    cases e
    obtain ⟨v, hv, dv⟩ := q1.get hd
    have := hx vs (.inl h1)
    rw [hv] at this
    cases this
    exact ⟨G, g.add dv⟩
theorem walkD_tup {K : PySem.W.Frag} {p : Addr} {ds : List PyData} : WalkD K (Itt K p) ds [(some (.ref p), some (.imm (.tuple ds)))] where
  go := by
    rintro i H l ⟨G, g⟩ hi
    obtain ⟨q, vs, e, h1, q1⟩ := (View.tuple g.sub (.inl g.imm))
    cases e
    obtain ⟨y, hv⟩ := get_lt (l := vs) (i := i) (by rw [q1.len]; exact hi)
    exact ⟨vs, _, h1, hv⟩
  stop := by
    rintro H l ⟨G, g⟩
    obtain ⟨q, vs, e, h1, q1⟩ := (View.tuple g.sub (.inl g.imm))
    cases e
    exact ⟨vs, h1, Nat.le_of_eq q1.len⟩
  yld := by
    rintro i H l x H' d ⟨G, g⟩ hd ⟨rfl, hx⟩
    obtain ⟨q, vs, e, h1, q1⟩ := (View.tuple g.sub (.inl g.imm))
    cases e
    obtain ⟨v, hv, dv⟩ := q1.get hd
    have := hx vs h1
    rw [hv] at this
    cases this
    exact ⟨G, g.add dv⟩
theorem enumL_len : ∀ (k : Nat) (xs : List PyData), (enumL k xs).length = xs.length
  | _, [] => rfl
  | k, x :: r => by unfold enumL; simp [enumL_len]
theorem enumL_get : ∀ (xs : List PyData) (k i : Nat) (d : PyData), (enumL k xs)[i]? = some d → ∃ x, xs[i]? = some x ∧ d = .tuple [.int ((k + i : Nat) : Int), x]
  | [], _, _, _, h => by simp [enumL] at h
  | x :: r, k, 0, d, h => by
    unfold enumL at h
    have : PyData.tuple [.int (k : Nat), x] = d := by simpa using h
    exact ⟨x, rfl, by rw [← this]; rfl⟩
  | x :: r, k, i + 1, d, h => by
    unfold enumL at h
    obtain ⟨y, h1, h2⟩ := enumL_get r (k + 1) i d (by simpa using h)
    exact ⟨y, by simpa using h1, by rw [h2]; congr 4; omega⟩
theorem made_pair {K : PySem.W.Frag} {G H : Hp} {p : Addr} {x y : V} {dx dy : PyData} (hp : H p = none) (h1 : Dq K G x dx) (h2 : Dq K G y dy) : Made K G H (.ref p) (.imm (.tuple [dx, dy])) (upd H p (.tup [x, y])) :=
  .inr ⟨p, _, _, rfl, hp, .cons h1 (.cons h2 .nil), .inl ⟨rfl, rfl⟩⟩
theorem walkD_enum {K : PySem.W.Frag} {p : Addr} {ds : List PyData} : WalkD K (Ite K p) (enumL 0 ds) [(some (.ref p), some (.imm (.list ds)))] where
  go := fun i H l h hi => walkD_list.go i H l h (by rw [enumL_len] at hi; exact hi)
  stop := fun H l h => by rw [enumL_len]; exact walkD_list.stop H l h
  yld := by
    rintro i H l x H' d ⟨G, g⟩ hd ⟨T, y, rfl, hT, rfl, hx⟩
    obtain ⟨z, hz, rfl⟩ := enumL_get ds 0 i d hd
    obtain ⟨q, vs, e, h1, q1⟩ := (View.list g.sub (.inl g.imm))
    cases e
    obtain ⟨v, hv, dv⟩ := q1.get hz
    have := hx vs (.inl h1)
    rw [hv] at this
    cases this
    rw [Nat.zero_add]
    exact g.made (made_pair hT (.int _) dv)
theorem walkD_enumT {K : PySem.W.Frag} {p : Addr} {ds : List PyData} : WalkD K (IteT K p) (enumL 0 ds) [(some (.ref p), some (.imm (.tuple ds)))] where
  go := fun i H l h hi => walkD_tup.go i H l h (by rw [enumL_len] at hi; exact hi)
  stop := by
    rintro H l ⟨G, g⟩
    obtain ⟨q, vs, e, h1, q1⟩ := (View.tuple g.sub (.inl g.imm))
    cases e
    exact ⟨vs, h1, by rw [enumL_len, q1.len]⟩
  yld := by
    rintro i H l x H' d ⟨G, g⟩ hd ⟨T, y, rfl, hT, rfl, hx⟩
    obtain ⟨z, hz, rfl⟩ := enumL_get ds 0 i d hd
    obtain ⟨q, vs, e, h1, q1⟩ := (View.tuple g.sub (.inl g.imm))
    cases e
    obtain ⟨v, hv, dv⟩ := q1.get hz
    have := hx vs h1
    rw [hv] at this
    cases this
    rw [Nat.zero_add]
    exact g.made (made_pair hT (.int _) dv)
theorem rangeL_get {lo : Int} {n i : Nat} {d : PyData} (h : (rangeL lo n)[i]? = some d) : i < n ∧ d = .int (lo + (i : Nat)) := by
  unfold rangeL at h
  rw [List.getElem?_map] at h
  rcases Nat.lt_or_ge i n with q | q
  · rw [List.getElem?_range q] at h
    exact ⟨q, by simpa using h.symm⟩
  · rw [List.getElem?_eq_none (by simpa using q)] at h; cases h
theorem walkD_range {K : PySem.W.Frag} {lo : Int} {n : Nat} : WalkD K (Itr lo n) (rangeL lo n) [] where
  go := fun i H l _ hi => by
    show i < n
    simpa [rangeL] using hi
  stop := fun H l _ => by
    show n ≤ (rangeL lo n).length
    simp [rangeL]
  yld := by
    rintro i H l x H' d ⟨G, g⟩ hd ⟨rfl, rfl⟩
    obtain ⟨_, rfl⟩ := rangeL_get hd
    exact ⟨G, g.add (.int _)⟩
theorem walkD_rangeC {K : PySem.W.Frag} {lo k : Int} {n : Nat} : WalkD K (Itc lo k n) ((List.range n).map fun j => .int (lo + (j : Nat) * k)) [] where
  go := fun i H l _ hi => by
    show i < n
    simpa using hi
  stop := fun H l _ => by
    show n ≤ _
    simp
  yld := by
    rintro i H l x H' d ⟨G, g⟩ hd ⟨rfl, rfl⟩
    rw [List.getElem?_map] at hd
    rcases Nat.lt_or_ge i n with q | q
    · rw [List.getElem?_range q] at hd
      have : PyData.int (lo + (i : Nat) * k) = d := by simpa using hd
      subst this
      exact ⟨G, g.add (.int _)⟩
    · rw [List.getElem?_eq_none (by simpa using q)] at hd; cases hd
theorem walkD_str {K : PySem.W.Frag} {z : Str} : WalkD K (Its z) (z.cps.toList.map fun c => .str ⟨#[c]⟩) [] where
  go := fun i H l _ hi => by
    show i < z.cps.size
    simpa using hi
  stop := fun H l _ => by
    show z.cps.size ≤ _
    simp
  yld := by
    rintro i H l x H' d ⟨G, g⟩ hd ⟨rfl, cc, hc, rfl⟩
    rw [List.getElem?_map] at hd
    have e : z.cps.toList[i]? = some cc := by simpa using hc
    rw [e] at hd
    have : PyData.str ⟨#[cc]⟩ = d := by simpa using hd
    subst this
    exact ⟨G, g.add (.str _)⟩
theorem zipL_get : ∀ (xs ys : List PyData) (i : Nat) (d : PyData), (zipL xs ys)[i]? = some d → ∃ x y, xs[i]? = some x ∧ ys[i]? = some y ∧ d = .tuple [x, y]
  | [], _, _, _, h => by simp [zipL] at h
  | _ :: _, [], _, _, h => by simp [zipL] at h
  | x :: xs, y :: ys, 0, d, h => by
    unfold zipL at h
    exact ⟨x, y, rfl, rfl, by simpa using h.symm⟩
  | x :: xs, y :: ys, i + 1, d, h => by
    unfold zipL at h
    obtain ⟨u, w, h1, h2, h3⟩ := zipL_get xs ys i d (by simpa using h)
    exact ⟨u, w, by simpa using h1, by simpa using h2, h3⟩
theorem zipL_len : ∀ (xs ys : List PyData), (zipL xs ys).length = min xs.length ys.length
  | [], _ => by simp [zipL]
  | _ :: _, [] => by simp [zipL]
  | x :: xs, y :: ys => by unfold zipL; simp [zipL_len]
theorem walkD_zip {K : PySem.W.Frag} {p q : Addr} {xs ys : List PyData} : WalkD K (Itz K p q) (zipL xs ys) [(some (.ref p), some (.imm (.list xs))), (some (.ref q), some (.imm (.list ys)))] where
  go := by
    rintro i H l ⟨G, g⟩ hi
    rw [zipL_len] at hi
    obtain ⟨p', vs, e, h1, q1⟩ := (View.list g.sub (.inl g.imm))
    cases e
    obtain ⟨p', ws, e, h2, q2⟩ := (View.list g.sub (.inl g.tail.imm))
    cases e
    obtain ⟨y, hv⟩ := get_lt (l := vs) (i := i) (by rw [q1.len]; omega)
    obtain ⟨y2, hw⟩ := get_lt (l := ws) (i := i) (by rw [q2.len]; omega)
    exact ⟨vs, ws, _, _, .inl h1, .inl h2, hv, hw⟩
  stop := by
    rintro H l ⟨G, g⟩
    obtain ⟨p', vs, e, h1, q1⟩ := (View.list g.sub (.inl g.imm))
    cases e
    obtain ⟨p', ws, e, h2, q2⟩ := (View.list g.sub (.inl g.tail.imm))
    cases e
    refine ⟨vs, ws, .inl h1, .inl h2, ?_⟩
    rw [zipL_len, q1.len, q2.len]
    omega
  yld := by
    rintro i H l x H' d ⟨G, g⟩ hd ⟨T, u, w, rfl, hT, rfl, hx, hy⟩
    obtain ⟨dx, dy, ex, ey, rfl⟩ := zipL_get xs ys i d hd
    obtain ⟨p', vs, e, h1, q1⟩ := (View.list g.sub (.inl g.imm))
    cases e
    obtain ⟨p', ws, e, h2, q2⟩ := (View.list g.sub (.inl g.tail.imm))
    cases e
    obtain ⟨v, hv, dv⟩ := q1.get ex
    obtain ⟨v', hv', dv'⟩ := q2.get ey
    have e1 := hx vs (.inl h1)
    rw [hv] at e1; cases e1
    have e2 := hy ws (.inl h2)
    rw [hv'] at e2; cases e2
    exact g.made (made_pair hT dv dv')
theorem walkD_zipT {K : PySem.W.Frag} {p q : Addr} {xs ys : List PyData} : WalkD K (RZ.ItzT K p q) (zipL xs ys) [(some (.ref p), some (.imm (.tuple xs))), (some (.ref q), some (.imm (.tuple ys)))] where
  go := by
    rintro i H l ⟨G, g⟩ hi
    rw [zipL_len] at hi
    obtain ⟨p', vs, e, h1, q1⟩ := (View.tuple g.sub (.inl g.imm))
    cases e
    obtain ⟨p', ws, e, h2, q2⟩ := (View.tuple g.sub (.inl g.tail.imm))
    cases e
    obtain ⟨y, hv⟩ := get_lt (l := vs) (i := i) (by rw [q1.len]; omega)
    obtain ⟨y2, hw⟩ := get_lt (l := ws) (i := i) (by rw [q2.len]; omega)
    exact ⟨vs, ws, _, _, h1, h2, hv, hw⟩
  stop := by
    rintro H l ⟨G, g⟩
    obtain ⟨p', vs, e, h1, q1⟩ := (View.tuple g.sub (.inl g.imm))
    cases e
    obtain ⟨p', ws, e, h2, q2⟩ := (View.tuple g.sub (.inl g.tail.imm))
    cases e
    refine ⟨vs, ws, h1, h2, ?_⟩
    rw [zipL_len, q1.len, q2.len]
    omega
  yld := by
    rintro i H l x H' d ⟨G, g⟩ hd ⟨T, u, w, rfl, hT, rfl, hx, hy⟩
    obtain ⟨dx, dy, ex, ey, rfl⟩ := zipL_get xs ys i d hd
    obtain ⟨p', vs, e, h1, q1⟩ := (View.tuple g.sub (.inl g.imm))
    cases e
    obtain ⟨p', ws, e, h2, q2⟩ := (View.tuple g.sub (.inl g.tail.imm))
    cases e
    obtain ⟨v, hv, dv⟩ := q1.get ex
    obtain ⟨v', hv', dv'⟩ := q2.get ey
    have e1 := hx vs h1
    rw [hv] at e1; cases e1
    have e2 := hy ws h2
    rw [hv'] at e2; cases e2
    exact g.made (made_pair hT dv dv')
theorem walkD_zipTL {K : PySem.W.Frag} {p q : Addr} {xs ys : List PyData} : WalkD K (ItzTL K p q) (zipL xs ys) [(some (.ref p), some (.imm (.tuple xs))), (some (.ref q), some (.imm (.list ys)))] where
  go := by
    rintro i H l ⟨G, g⟩ hi
    rw [zipL_len] at hi
    obtain ⟨p', vs, e, h1, q1⟩ := (View.tuple g.sub (.inl g.imm))
    cases e
    obtain ⟨p', ws, e, h2, q2⟩ := (View.list g.sub (.inl g.tail.imm))
    cases e
    obtain ⟨y, hv⟩ := get_lt (l := vs) (i := i) (by rw [q1.len]; omega)
    obtain ⟨y2, hw⟩ := get_lt (l := ws) (i := i) (by rw [q2.len]; omega)
    exact ⟨vs, ws, _, _, h1, .inl h2, hv, hw⟩
  stop := by
    rintro H l ⟨G, g⟩
    obtain ⟨p', vs, e, h1, q1⟩ := (View.tuple g.sub (.inl g.imm))
    cases e
    obtain ⟨p', ws, e, h2, q2⟩ := (View.list g.sub (.inl g.tail.imm))
    cases e
    refine ⟨vs, ws, h1, .inl h2, ?_⟩
    rw [zipL_len, q1.len, q2.len]
    omega
  yld := by
    rintro i H l x H' d ⟨G, g⟩ hd ⟨T, u, w, rfl, hT, rfl, hx, hy⟩
    obtain ⟨dx, dy, ex, ey, rfl⟩ := zipL_get xs ys i d hd
    obtain ⟨p', vs, e, h1, q1⟩ := (View.tuple g.sub (.inl g.imm))
    cases e
    obtain ⟨p', ws, e, h2, q2⟩ := (View.list g.sub (.inl g.tail.imm))
    cases e
    obtain ⟨v, hv, dv⟩ := q1.get ex
    obtain ⟨v', hv', dv'⟩ := q2.get ey
    have e1 := hx vs h1
    rw [hv] at e1; cases e1
    have e2 := hy ws (.inl h2)
    rw [hv'] at e2; cases e2
    exact g.made (made_pair hT dv dv')
/-! ### what is walked -/
/-- a value frozen, for a walk -/
theorem frz_use {K : PySem.W.Frag} {σ : L2.St} {H : Hp} {ρ : Rho} {fr : List Ent} {x : V} {rx : RV} {β : Type} {g : PyData → Rho → Rs β} {P : β → Rho → Prop} (hl : ρ.length = σ.length) (hR : Rep K H (ent x rx ++ (σ.zip ρ ++ fr))) (sx : side σ x rx)
    (hW : Wish K W σ fr ((Rs.ofOpt (frz ρ rx) ρ).bind fun p _ => g p.1 p.2) P) : ∃ d ρ', Rep K H ((some x, some (.imm d)) :: (σ.zip ρ' ++ fr)) ∧ ρ'.length = σ.length ∧ frz ρ rx = some (d, ρ') ∧ Wish K W σ fr (g d ρ') P := by
  cases e : frz ρ rx with
  | none => rw [e] at hW; exact hW.elim
  | some p =>
    obtain ⟨d, ρ'⟩ := p
    rw [e] at hW
    obtain ⟨h1, h2⟩ := hR.frz hl.symm sx e
    exact ⟨d, ρ', h1, h2.trans hl, rfl, hW⟩
def seqF (f : Rho → Rs RV) (ρ : Rho) : Rs (List PyData) := (f ρ).bind fun r ρ => (Rs.ofOpt (frz ρ r) ρ).bind fun p _ => Rs.ofOpt (seqItems p.1) p.2
theorem di_seq (h : DE X W e f) : DI X W tg e (seqF f) := by
  obtain ⟨t, p, r⟩ := h
  refine ⟨_, PI.or (pi_list p) (PI.or (pi_tup p) (pi_str p)), fun σ H ρ fr R hl hR hW => ?_⟩
  unfold seqF at hW
  -- which one it is, is told by the data
  cases q : f ρ with
  | stuck => rw [q] at hW; exact hW.elim
  | exc c ρ1 =>
    rw [q] at hW
    refine .inl (r σ H ρ fr _ hl hR ?_)
    rw [q]
    exact hW
  | ok rx ρ1 =>
    rw [q] at hW
    have hW : Wish X.K W σ fr ((Rs.ofOpt (frz ρ1 rx) ρ1).bind fun p _ => Rs.ofOpt (seqItems p.1) p.2) _ := hW
    cases e : frz ρ1 rx with
    | none => rw [e] at hW; exact hW.elim
    | some pr =>
      obtain ⟨d, ρ2⟩ := pr
      have main : ∀ (l1 : ρ1.length = σ.length) (v : V) (H' : Hp), Rep X.K H' (ent v rx ++ (σ.zip ρ1 ++ fr)) → side σ v rx → ∃ items, seqItems d = some items ∧ Rep X.K H' ((some v, some (.imm d)) :: (σ.zip ρ2 ++ fr)) ∧
          ∀ J es, Rep X.K H' (es ++ (σ.zip ρ2 ++ fr)) → WalkD X.K J items es → R J H' := fun l1 v H' hR1 sx => by
        obtain ⟨h1, h2⟩ := hR1.frz l1.symm sx e
        rw [e] at hW
        obtain ⟨items, hi, k⟩ := Wish.opt (x := seqItems d) hW (h2.trans l1)
        exact ⟨items, hi, h1, fun J es => k J H' es⟩
      cases d with
      | list ds =>
        refine .inl (r σ H ρ fr _ hl hR ?_)
        rw [q]
        intro l1 v H' hR1 sx
        obtain ⟨items, hi, h1, k⟩ := main l1 v H' hR1 sx
        cases hi
        obtain ⟨G, g⟩ := h1
        obtain ⟨w, vs, rfl, hq, q1⟩ := View.list g.sub (.inl g.imm)
        exact ⟨w, rfl, ⟨vs, .inl hq⟩, k _ _ ⟨G, g⟩ walkD_list⟩
      | tuple ds =>
        refine .inr (.inl (r σ H ρ fr _ hl hR ?_))
        rw [q]
        intro l1 v H' hR1 sx
        obtain ⟨items, hi, h1, k⟩ := main l1 v H' hR1 sx
        cases hi
        obtain ⟨G, g⟩ := h1
        obtain ⟨w, vs, rfl, hq, q1⟩ := View.tuple g.sub (.inl g.imm)
        exact ⟨w, rfl, ⟨vs, hq⟩, k _ _ ⟨G, g⟩ walkD_tup⟩
      | str z =>
        refine .inr (.inr (r σ H ρ fr _ hl hR ?_))
        rw [q]
        intro l1 v H' hR1 sx
        obtain ⟨items, hi, h1, k⟩ := main l1 v H' hR1 sx
        cases hi
        obtain ⟨G, g⟩ := h1
        have hv : v = .str z := View.str (K := X.K) (G := G) (H := H') (.inl g.imm)
        exact ⟨z, hv, k _ [] ⟨G, g.tail⟩ walkD_str⟩
      | _ => rw [e] at hW; exact hW.elim
theorem di_rng1 {p : Pos} (hg : Gl X "range") (hm : X.mg "range" = none) (ha : DE X W a fa) (hp : plainE a = true) :
    DI X W tg (.Call (.Name "range" p) [a] [] pos) (fun ρ => (fa ρ).bind fun r ρ => match dat ρ r with | some d => Rs.ofOpt (rng (.int 0) d) ρ | none => .stuck) := by
  obtain ⟨t, pt, rt⟩ := ha
  refine ⟨_, pi_range1 hg hm (pa_cons pt pa_nil (star_plain hp _ _)) (star_plain hp _ _), fun σ H ρ fr R hl hR hW => ?_⟩
  refine rt σ H ρ fr _ hl hR (hW.bind.mono fun rx ρ1 l1 hW1 x H1 hR1 sx => ?_)
  cases ea : dat ρ1 rx with
  | none => rw [ea] at hW1; exact hW1.elim
  | some d =>
    rw [ea] at hW1
    obtain ⟨items, hi, k⟩ := Wish.opt (x := rng (.int 0) d) hW1 l1
    obtain ⟨G, g⟩ := hR1
    have vw := g.view l1.symm sx ea
    cases d with
    | int j =>
      replace hi : (if -(2 ^ 62) ≤ (0 : Int) ∧ (0 : Int) < 2 ^ 62 ∧ -(2 ^ 62) ≤ j ∧ j < 2 ^ 62 then some (rangeL 0 (j - 0).toNat) else none) = some items := hi
      split at hi
      · rename_i hb
        cases hi
        refine ⟨j, by rw [vw.int], hb.2.2.1, hb.2.2.2, k _ H1 [] ⟨G, g.tails _⟩ ?_⟩
        rw [Int.sub_zero]
        exact walkD_range
      · cases hi
    | _ => cases hi
theorem di_rng2 {p : Pos} (hg : Gl X "range") (hm : X.mg "range" = none) (ha : DE X W a fa) (hb : DE X W b fb) (hp : plainE a = true) (hp2 : plainE b = true) :
    DI X W tg (.Call (.Name "range" p) [a, b] [] pos) (fun ρ => (fa ρ).bind fun x ρ => (fb ρ).bind fun y ρ => match dat ρ x, dat ρ y with | some d, some e => Rs.ofOpt (rng d e) ρ | _, _ => .stuck) := by
  obtain ⟨ta, pa, ra⟩ := ha
  obtain ⟨tb, pb, rb⟩ := hb
  have s2 : starEach [b] X.env = [(false, eval b X.env)] := star_plain hp2 _ _
  refine ⟨_, pi_range2 hg hm (pa_cons pa (pa_cons pb pa_nil s2) (star_plain hp _ _)) (by rw [star_plain hp, s2]) s2, fun σ H ρ fr R hl hR hW => ?_⟩
  refine ra σ H ρ fr _ hl hR (hW.bind.mono fun rx ρ1 l1 hW1 x H1 hR1 sx => ?_)
  refine rb σ H1 ρ1 (ent x rx ++ fr) _ l1.symm hR1.rot ((hW1.bind.frame _).mono fun ry ρ2 l2 hW2 y H2 hR2 sy => ?_)
  obtain ⟨G, g⟩ := hR2
  have g2 : RepG X.K G H2 (ent x rx ++ (σ.zip ρ2 ++ fr)) := (g.tails _).rot
  cases ea : dat ρ2 rx with
  | none => rw [ea] at hW2; exact hW2.elim
  | some d =>
    cases eb : dat ρ2 ry with
    | none => rw [ea, eb] at hW2; exact hW2.elim
    | some d' =>
      rw [ea, eb] at hW2
      obtain ⟨items, hi, k⟩ := Wish.opt (x := rng d d') hW2 l2
      have v1 := g2.view l2.symm sx ea
      have v2 := g.view l2.symm sy eb
      cases d with
      | int i => cases d' with
        | int j =>
          replace hi : (if -(2 ^ 62) ≤ i ∧ i < 2 ^ 62 ∧ -(2 ^ 62) ≤ j ∧ j < 2 ^ 62 then some (rangeL i (j - i).toNat) else none) = some items := hi
          split at hi
          · rename_i hb
            cases hi
            exact ⟨i, j, by rw [v1.int, v2.int], hb, k _ H2 [] ⟨G, g2.tails _⟩ walkD_range⟩
          · cases hi
        | _ => cases hi
      | _ => cases hi
theorem di_rng3 {p : Pos} (hg : Gl X "range") (hm : X.mg "range" = none) (ha : DE X W a fa) (hb : DE X W b fb) (hc : DE X W c fc) (hp : plainE a = true) (hp2 : plainE b = true) (hp3 : plainE c = true) :
    DI X W tg (.Call (.Name "range" p) [a, b, c] [] pos) (fun ρ => (fa ρ).bind fun x ρ => (fb ρ).bind fun y ρ => (fc ρ).bind fun z ρ => match dat ρ x, dat ρ y, dat ρ z with
      | some (.int i), some (.int j), some (.int (-1)) => Rs.ofOpt (rngDn i j) ρ
      | _, _, _ => .stuck) := by
  obtain ⟨ta, pa, ra⟩ := ha
  obtain ⟨tb, pb, rb⟩ := hb
  obtain ⟨tc, pc, rc⟩ := hc
  have s3 : starEach [c] X.env = [(false, eval c X.env)] := star_plain hp3 _ _
  have s2 : starEach [b, c] X.env = [(false, eval b X.env), (false, eval c X.env)] := by rw [star_plain hp2, s3]
  refine ⟨_, pi_range3 hg hm (pa_cons pa (pa_cons pb (pa_cons pc pa_nil s3) (star_plain hp2 _ _)) (star_plain hp _ _)) (by first | exact star_plain hp _ _ | rw [star_plain hp, s2]) (by first | exact any_star (by simp [hp2, hp3]) | exact s2), fun σ H ρ fr R hl hR hW => ?_⟩
  refine ra σ H ρ fr _ hl hR (hW.bind.mono fun rx ρ1 l1 hW1 x H1 hR1 sx => ?_)
  refine rb σ H1 ρ1 (ent x rx ++ fr) _ l1.symm hR1.rot ((hW1.bind.frame _).mono fun ry ρ2 l2 hW2 y H2 hR2 sy => ?_)
  refine rc σ H2 ρ2 (ent y ry ++ (ent x rx ++ fr)) _ l2.symm hR2.rot (((hW2.bind.frame _).frame _).mono fun rz ρ3 l3 hW3 z H3 hR3 sz => ?_)
  obtain ⟨G, g⟩ := hR3
  have g2 : RepG X.K G H3 (ent y ry ++ (σ.zip ρ3 ++ (ent x rx ++ fr))) := (g.tails _).rot
  have g3 : RepG X.K G H3 (ent x rx ++ (σ.zip ρ3 ++ fr)) := (g2.tails _).rot
  split at hW3
  · rename_i i j ea eb ec
    obtain ⟨items, hi, k⟩ := Wish.opt (x := rngDn i j) hW3 l3
    unfold rngDn at hi
    split at hi
    · rename_i hb
      cases hi
      have v1 := (g3.view l3.symm sx ea).int
      have v2 := (g2.view l3.symm sy eb).int
      have v3 := (g.view l3.symm sz ec).int
      exact ⟨i, j, -1, (i - j).toNat, by rw [v1, v2, v3], RgC.neg hb.1 hb.2.1 hb.2.2.1 hb.2.2.2, k _ H3 [] ⟨G, g3.tails _⟩ walkD_rangeC⟩
    · cases hi
  · exact hW3.elim
theorem di_enum {p tpos : Pos} {elts : List Expr} {kk : Nat} (hg : Gl X "enumerate") (hm : X.mg "enumerate" = none) (ha : DE X W a fa) (hp : plainE a = true) :
    DI X W (.Tuple elts kk tpos) (.Call (.Name "enumerate" p) [a] [] pos) (fun ρ => (fa ρ).bind fun r ρ => (Rs.ofOpt (frz ρ r) ρ).bind fun p _ => Rs.ofOpt (enumD p.1) p.2) := by
  obtain ⟨t, pt, rt⟩ := ha
  refine ⟨_, pi_enumT hg hm (pa_cons pt pa_nil (star_plain hp _ _)) hp, fun σ H ρ fr R hl hR hW => ?_⟩
  refine rt σ H ρ fr _ hl hR (hW.bind.mono fun rx ρ1 l1 hW1 x H1 hR1 sx => ?_)
  obtain ⟨d, ρ2, h2, l2, _, hW2⟩ := frz_use (g := fun d ρ => Rs.ofOpt (enumD d) ρ) l1 hR1 sx hW1
  obtain ⟨items, hi, k⟩ := Wish.opt (x := enumD d) hW2 l2
  obtain ⟨G, g⟩ := h2
  cases d with
  | list ds =>
    cases hi
    obtain ⟨w, vs, rfl, hq, q1⟩ := View.list g.sub (.inl g.imm)
    exact ⟨w, vs, rfl, .inl ⟨.inl hq, k _ _ [_] ⟨G, g⟩ walkD_enum⟩⟩
  | tuple ds =>
    cases hi
    obtain ⟨w, vs, rfl, hq, q1⟩ := View.tuple g.sub (.inl g.imm)
    exact ⟨w, vs, rfl, .inr ⟨hq, k _ _ [_] ⟨G, g⟩ walkD_enumT⟩⟩
  | _ => cases hi
theorem di_zip {p tpos : Pos} {elts : List Expr} {kk : Nat} (hg : Gl X "zip") (hm : X.mg "zip" = none) (ha : DA X W [a, b] fs) (hp : plainE a = true) (hp2 : plainE b = true) :
    DI X W (.Tuple elts kk tpos) (.Call (.Name "zip" p) [a, b] [] pos) (fun ρ => (fs ρ).bind fun rs ρ => (Rs.ofOpt (frzs ρ rs) ρ).bind fun p _ => match p.1 with
      | [x, y] => Rs.ofOpt (zipD x y) p.2
      | _ => .stuck) := by
  obtain ⟨t, pt, rt⟩ := ha
  refine ⟨_, pi_zipB hg hm pt (star_plain hp _ _) (any_star (by simp [hp2])), fun σ H ρ fr R hl hR hW => ?_⟩
  refine rt σ H ρ fr _ hl hR (hW.bind.mono fun rs ρ1 l1 hW1 vs H1 hR1 ss => ?_)
  obtain ⟨G, g⟩ := hR1
  cases e : frzs ρ1 rs with
  | none => rw [e] at hW1; exact hW1.elim
  | some pr =>
    obtain ⟨ds, ρ2⟩ := pr
    rw [e] at hW1
    obtain ⟨G', g', q, l2, _⟩ := g.frzs l1.symm ss e
    have hW1 : Wish X.K W σ fr (match ds with | [x, y] => Rs.ofOpt (zipD x y) ρ2 | _ => Rs.stuck) _ := hW1
    match ds, q, hW1 with
    | [], _, hW1 => exact hW1.elim
    | [_], _, hW1 => exact hW1.elim
    | _ :: _ :: _ :: _, _, hW1 => exact hW1.elim
    | [x, y], .cons q1 (.cons q2 .nil), hW1 =>
      obtain ⟨items, hi, k⟩ := Wish.opt (x := zipD x y) hW1 (l2.trans l1)
      have gg := (g'.add q2).add q1
      cases x with
      | list xs => cases y with
        | list ys =>
          cases hi
          obtain ⟨u, us, rfl, hu, _⟩ := View.list gg.sub (.inl gg.imm)
          obtain ⟨w, ws, rfl, hw, _⟩ := View.list gg.sub (.inl gg.tail.imm)
          exact ⟨u, w, us, ws, rfl, .inl ⟨.inl hu, .inl hw, k _ _ [_, _] ⟨G', gg⟩ walkD_zip⟩⟩
        | _ => cases hi
      | tuple xs => cases y with
        | tuple ys =>
          cases hi
          obtain ⟨u, us, rfl, hu, _⟩ := View.tuple gg.sub (.inl gg.imm)
          obtain ⟨w, ws, rfl, hw, _⟩ := View.tuple gg.sub (.inl gg.tail.imm)
          exact ⟨u, w, us, ws, rfl, .inr (.inl ⟨hu, hw, k _ _ [_, _] ⟨G', gg⟩ walkD_zipT⟩)⟩
        | list ys =>
          cases hi
          obtain ⟨u, us, rfl, hu, _⟩ := View.tuple gg.sub (.inl gg.imm)
          obtain ⟨w, ws, rfl, hw, _⟩ := View.list gg.sub (.inl gg.tail.imm)
          exact ⟨u, w, us, ws, rfl, .inr (.inr ⟨hu, .inl hw, k _ _ [_, _] ⟨G', gg⟩ walkD_zipTL⟩)⟩
        | _ => cases hi
      | _ => cases y <;> cases hi
end
end BP
end

section
/-! Bp10: targets, comprehensions. -/
namespace BP
open PySem PySem.Spec PyProof.Rows L2
def tgS : Tg → List Nat
  | .one i => [i]
  | .tup is => is
  | .pr a b => tgS a ++ tgS b
/-- the slots but those are as they were -/
structure Agree (st : List Nat) (σ σ' : L2.St) : Prop where
  len : σ'.length = σ.length
  eq : ∀ i, i ∉ st → σ'[i]? = σ[i]?
theorem Agree.refl (st : List Nat) (σ : L2.St) : Agree st σ σ := ⟨rfl, fun _ _ => rfl⟩
theorem Agree.trans {st st' : List Nat} {a b c : L2.St} (h : Agree st a b) (h' : Agree st' b c) : Agree (st ++ st') a c :=
  ⟨h'.len.trans h.len, fun i hi => (h'.eq i fun z => hi (List.mem_append_right _ z)).trans (h.eq i fun z => hi (List.mem_append_left _ z))⟩
theorem Agree.mono {st st' : List Nat} {a b : L2.St} (h : Agree st a b) (hs : ∀ i ∈ st, i ∈ st') : Agree st' a b := ⟨h.len, fun i hi => h.eq i fun z => hi (hs i z)⟩
theorem Agree.set (i : Nat) (v : Option V) (σ : L2.St) : Agree [i] σ (σ.set i v) := ⟨by simp, fun j hj => by rw [List.getElem?_set_ne (by simpa using Ne.symm (show j ≠ i by simpa using hj))]⟩
section
variable {K : PySem.W.Frag} {G H : Hp} {v : V} {c : Cn} {fr : List Ent} {σ : L2.St} {ρ ρ' : Rho} {i : Nat}
theorem RepG.put (h : RepG K G H ((some v, some c) :: (σ.zip ρ ++ fr))) (hl : σ.length = ρ.length) : RepG K G H ((σ.set i (some v)).zip (ρ.set i (some c)) ++ fr) := by
  rcases Nat.lt_or_ge i σ.length with q | q
  · exact h.store hl q
  · rw [List.set_eq_of_length_le q, List.set_eq_of_length_le (hl ▸ q)]; exact h.tail
def DG (X : Cx) (tg : Expr) (t : Tg) : Prop :=
  ∃ g, PG X tg g ∧ ∀ x d σ H ρ ρ' fr Q, σ.length = ρ.length → Rep X.K H ((some x, some (.imm d)) :: (σ.zip ρ ++ fr)) → bindT t d ρ = some ρ' →
    (∀ σ', Agree (tgS t) σ σ' → ρ'.length = σ'.length → Rep X.K H (σ'.zip ρ' ++ fr) → Q σ' H) → g x σ H Q
theorem setAll_len : ∀ (is : List Nat) (cs : List Cn) (ρ : Rho), (setAll is cs ρ).length = ρ.length
  | [], _, _ => by unfold setAll; rfl
  | _ :: _, [], _ => by unfold setAll; rfl
  | i :: is, c :: cs, ρ => by unfold setAll; rw [setAll_len]; simp
end
section
variable {X : Cx} {tg : Expr} {pos : Pos}
theorem dg_name {i : Nat} {x : Str} (hN : X.N.Nodup) (hx : X.N[i]? = some x) (hl : Loc X.env.scope x) (hf : X.fn x = true ∨ X.env.scope.names.lookup x = some .local) : DG X (.Name x pos) (.one i) := by
  refine ⟨_, pg_name hN hx hl hf, fun y d σ H ρ ρ' fr Q l hR e k => ?_⟩
  cases e
  obtain ⟨G, g⟩ := hR
  exact k _ (Agree.set i _ σ) (by simp [l]) ⟨G, g.put l⟩
/-- the names of a tuple's targets -/
def DGs (X : Cx) (tgs : List Expr) (is : List Nat) : Prop :=
  ∃ g, PGs X tgs g ∧ (assignEach tgs X.env).length = is.length ∧ List.findIdx? (fun x => x.1) (assignEach tgs X.env) = none ∧ tgs.length = is.length ∧
    ∀ vs cs σ H ρ fr Q, σ.length = ρ.length → vs.length = is.length → cs.length = is.length → Rep X.K H (argE vs cs ++ (σ.zip ρ ++ fr)) →
    (∀ σ', Agree is σ σ' → (setAll is cs ρ).length = σ'.length → Rep X.K H (σ'.zip (setAll is cs ρ) ++ fr) → Q σ' H) → g vs σ H Q
theorem dgs_nil : DGs X [] [] := ⟨_, pgs_nil, rfl, rfl, rfl, fun vs cs σ H ρ fr Q l hv hc hR k => by
  cases vs with
  | nil => cases cs with
    | nil => exact ⟨rfl, k σ (Agree.refl _ _) (by unfold setAll; exact l.symm) hR⟩
    | cons _ _ => cases hc
  | cons _ _ => cases hv⟩
theorem dgs_cons {i : Nat} {is : List Nat} {x : Str} {tgs : List Expr} (hN : X.N.Nodup) (hx : X.N[i]? = some x) (hl : Loc X.env.scope x) (hf : X.fn x = true ∨ X.env.scope.names.lookup x = some .local) (h : DGs X tgs is) : DGs X (.Name x pos :: tgs) (i :: is) := by
  obtain ⟨g, pg, h1, h2, h0, r⟩ := h
  refine ⟨_, pgs_cons (pg_name hN hx hl hf) pg rfl, ?_, ?_, by simp [h0], fun vs cs σ H ρ fr Q l hv hc hR k => ?_⟩
  · show (assignEach tgs X.env).length + 1 = _
    rw [h1]; rfl
  · show List.findIdx? (fun x => x.1) ((false, _) :: assignEach tgs X.env) = none
    rw [List.findIdx?_cons, h2]
    rfl
  · cases vs with
    | nil => cases hv
    | cons v vs => cases cs with
      | nil => cases hc
      | cons c cs =>
        refine ⟨v, vs, rfl, ?_⟩
        obtain ⟨G, gg⟩ := hR
        have g1 : RepG X.K G H (argE vs cs ++ ((σ.set i (some v)).zip (ρ.set i (some c)) ++ fr)) := by
          have : RepG X.K G H ((some v, some c) :: (σ.zip ρ ++ (argE vs cs ++ fr))) := gg.perm (List.Perm.cons _ (perm_rot _ _ _))
          exact (this.put (i := i) l).perm (perm_rot _ _ _)
        refine r vs cs _ H _ fr Q (by simp [l]) (by simpa using hv) (by simpa using hc) ⟨G, g1⟩ fun σ' ag l' hR' => ?_
        exact k σ' (((Agree.set i (some v) σ).trans ag).mono fun j hj => by simpa using hj) l' hR'
theorem argE_imm {K : PySem.W.Frag} {G H : Hp} {l : List Ent} : ∀ {vs : List V} {ds : List PyData}, RepG K G H l → DqAll K G vs ds → RepG K G H (argE vs (ds.map .imm) ++ l)
  | _, _, h, .nil => h
  | _, _, h, .cons a b => (argE_imm h b).add a
theorem dg_tup {is : List Nat} {es : List Expr} {k : Nat} (hc : X.calm = true) (h : DGs X es is) : DG X (.Tuple es k pos) (.tup is) := by
  obtain ⟨g, pg, h1, h2, h0, r⟩ := h
  refine ⟨_, pg_tup hc pg h1 h2, fun y d σ H ρ ρ' fr Q l hR e k => ?_⟩
  cases d with
  | tuple ds =>
    replace e : (if ds.length = is.length then some (setAll is (ds.map .imm) ρ) else none) = some ρ' := e
    split at e
    · rename_i hd
      cases e
      obtain ⟨G, gg⟩ := hR
      obtain ⟨p, vs, rfl, hq, q1⟩ := View.tuple gg.sub (.inl gg.imm)
      refine ⟨p, vs, rfl, hq, q1.len.trans hd, ?_⟩
      exact r vs _ σ H ρ fr Q l (q1.len.trans hd) (by simpa using hd) ⟨G, argE_imm gg.tail q1⟩ k
    · cases e
  | _ => cases e
end

section
variable {X : Cx} {pos : Pos}
theorem dg_pr {a b : Tg} {ea eb : Expr} {k : Nat} (hc : X.calm = true) (ha : DG X ea a) (hb : DG X eb b)
    (hs1 : (assignEach [ea, eb] X.env).map (·.2) = assign ea X.env :: (assignEach [eb] X.env).map (·.2)) (hs2 : (assignEach [eb] X.env).map (·.2) = assign eb X.env :: (assignEach [] X.env).map (·.2))
    (h1 : (assignEach [ea, eb] X.env).length = 2) (h2 : (assignEach [ea, eb] X.env).findIdx? (·.1) = none) : DG X (.Tuple [ea, eb] k pos) (.pr a b) := by
  obtain ⟨ga, pa, ra⟩ := ha
  obtain ⟨gb, pb, rb⟩ := hb
  refine ⟨_, pg_tup hc (pgs_cons pa (pgs_cons pb pgs_nil hs2) hs1) h1 h2, fun y d σ H ρ ρ' fr Q l hR e k => ?_⟩
  cases d with
  | tuple ds =>
    match ds, e with
    | [x, z], e =>
      replace e : (bindT a x ρ).bind (bindT b z) = some ρ' := e
      cases e1 : bindT a x ρ with
      | none => rw [e1] at e; cases e
      | some ρ1 =>
        rw [e1] at e
        replace e : bindT b z ρ1 = some ρ' := e
        obtain ⟨G, gg⟩ := hR
        obtain ⟨p, vs, rfl, hq, q1⟩ := View.tuple gg.sub (.inl gg.imm)
        cases q1 with
        | cons qa q2 => cases q2 with
          | cons qb q3 =>
            cases q3
            refine ⟨p, _, rfl, hq, rfl, _, _, rfl, ?_⟩
            have g1 : RepG X.K G H ((some _, some (.imm x)) :: (σ.zip ρ ++ ((some _, some (.imm z)) :: fr))) := ((gg.tail.add qb).perm List.perm_middle.symm).add qa
            refine ra _ x σ H ρ ρ1 _ _ l ⟨G, g1⟩ e1 fun σ1 ag1 l1 hR1 => ?_
            obtain ⟨G1, g2⟩ := hR1
            refine ⟨_, _, rfl, ?_⟩
            refine rb _ z σ1 H ρ1 ρ' fr _ l1.symm ⟨G1, g2.perm List.perm_middle⟩ e fun σ2 ag2 l2 hR2 => ?_
            exact ⟨rfl, k σ2 (ag1.trans ag2) l2 hR2⟩
    | [], e => cases e
    | [_], e => cases e
    | _ :: _ :: _ :: _, e => cases e
  | _ => cases e
end
/-! ### the slots of a comprehension's own names -/
theorem wipeR_len (ρ : Rho) : ∀ vs : List Nat, (wipeR ρ vs).length = ρ.length
  | [] => rfl
  | v :: vs => by unfold wipeR; rw [List.length_set, wipeR_len ρ vs]
theorem unwipe_len (ρ1 : Rho) : ∀ (vs : List Nat) (ρ : Rho), (unwipe ρ1 vs ρ).length = ρ.length
  | [], _ => rfl
  | v :: vs, ρ => by unfold unwipe; rw [List.length_set, unwipe_len ρ1 vs]
theorem wipe_get {σ : L2.St} {i : Nat} : ∀ {vs : List Nat}, i ∉ vs → (wipe σ vs)[i]? = σ[i]?
  | [], _ => rfl
  | v :: vs, h => by
    simp only [List.mem_cons, not_or] at h
    unfold wipe
    rw [List.getElem?_set_ne (Ne.symm h.1)]
    exact wipe_get h.2
theorem wipe_in_get {σ : L2.St} {i : Nat} : ∀ {vs : List Nat}, i ∈ vs → i < σ.length → (wipe σ vs)[i]? = some none
  | v :: vs, h, hl => by
    unfold wipe
    by_cases hv : v = i
    · subst hv
      rw [List.getElem?_set_self (by rw [wipe_length]; exact hl)]
    · rw [List.getElem?_set_ne hv]
      exact wipe_in_get (by rcases List.mem_cons.mp h with e | e; exact absurd e.symm hv; exact e) hl
theorem wipeR_get {ρ : Rho} {i : Nat} : ∀ {vs : List Nat}, i ∉ vs → (wipeR ρ vs)[i]? = ρ[i]?
  | [], _ => rfl
  | v :: vs, h => by
    simp only [List.mem_cons, not_or] at h
    unfold wipeR
    rw [List.getElem?_set_ne (Ne.symm h.1)]
    exact wipeR_get h.2
theorem wipe_agree {σ σ2 : L2.St} {vs st : List Nat} (h : Agree st (wipe σ vs) σ2) (hs : ∀ i ∈ st, i ∈ vs) : wipe σ2 vs = wipe σ vs := by
  apply List.ext_getElem?
  intro i
  by_cases hi : i ∈ vs
  · rcases Nat.lt_or_ge i σ.length with q | q
    · rw [wipe_in_get hi q, wipe_in_get hi (by rw [h.len, wipe_length]; exact q)]
    · rw [List.getElem?_eq_none (by rw [wipe_length, h.len, wipe_length]; exact q), List.getElem?_eq_none (by rw [wipe_length]; exact q)]
  · rw [wipe_get hi]
    exact h.eq i fun z => hi (hs i z)
def saved (σ : L2.St) (ρ : Rho) (vs : List Nat) : List Ent := vs.map fun v => ((σ[v]?).join, (ρ[v]?).join)
section
variable {K : PySem.W.Frag} {G H : Hp} {fr : List Ent} {σ : L2.St} {ρ ρ1 ρ2 : Rho}
theorem wipe_out (hl : σ.length = ρ.length) : ∀ {vs : List Nat}, vs.Nodup → RepG K G H (σ.zip ρ ++ fr) → RepG K G H ((wipe σ vs).zip (wipeR ρ vs) ++ (saved σ ρ vs ++ fr))
  | [], _, h => h
  | v :: vs, nd, h => by
    simp only [List.nodup_cons] at nd
    have ih := wipe_out hl nd.2 h
    show RepG K G H (((wipe σ vs).set v none).zip ((wipeR ρ vs).set v none) ++ (((σ[v]?).join, (ρ[v]?).join) :: (saved σ ρ vs ++ fr)))
    have hl' : (wipe σ vs).length = (wipeR ρ vs).length := by rw [wipe_length, wipeR_len]; exact hl
    rcases Nat.lt_or_ge v σ.length with q | q
    · obtain ⟨A, B, x, y, hx, hy, z1, z2, z3⟩ := zip_split hl' (by rw [wipe_length]; exact q)
      rw [wipe_get nd.1] at hx
      rw [wipeR_get nd.1] at hy
      rw [hx, hy, z3]
      rw [z1] at ih
      have h1 : RepG K G H ((none, none) :: (x, y) :: (A ++ (B ++ (saved σ ρ vs ++ fr)))) := RepG.blank (ih.perm (by
        rw [List.append_assoc, List.cons_append]; exact List.perm_middle))
      refine h1.perm ?_
      rw [List.append_assoc, List.cons_append]
      refine ((List.Perm.swap _ _ _).trans (List.Perm.cons _ List.perm_middle.symm)).trans ?_
      show ((x, y) :: (A ++ (none, none) :: (B ++ (saved σ ρ vs ++ fr)))).Perm (A ++ ((none, none) :: (B ++ ((x, y) :: (saved σ ρ vs ++ fr)))))
      refine List.perm_middle.symm.trans (List.Perm.append_left _ ?_)
      refine (List.Perm.swap _ _ _).trans (List.Perm.cons _ List.perm_middle.symm)
    · rw [List.set_eq_of_length_le (by rw [wipe_length]; exact q), List.set_eq_of_length_le (by rw [wipeR_len, ← hl]; exact q), List.getElem?_eq_none q, List.getElem?_eq_none (hl ▸ q)]
      exact (RepG.blank (x := none) ih).perm List.perm_middle.symm
theorem unwipe_set {v : Nat} {y : Option Cn} : ∀ {vs : List Nat} {ρ : Rho}, v ∉ vs → unwipe ρ1 vs (ρ.set v y) = (unwipe ρ1 vs ρ).set v y
  | [], _, _ => rfl
  | w :: vs, ρ, h => by
    simp only [List.mem_cons, not_or] at h
    unfold unwipe
    rw [unwipe_set h.2, List.set_comm _ _ h.1]
theorem wipe_in (h1 : σ.length = ρ1.length) : ∀ {vs : List Nat} {ρ2 : Rho}, σ.length = ρ2.length → vs.Nodup → RepG K G H ((wipe σ vs).zip ρ2 ++ (saved σ ρ1 vs ++ fr)) → RepG K G H (σ.zip (unwipe ρ1 vs ρ2) ++ fr)
  | [], ρ2, _, _, h => h
  | v :: vs, ρ2, h2, nd, h => by
    simp only [List.nodup_cons] at nd
    have h : RepG K G H (((wipe σ vs).set v none).zip ρ2 ++ (((σ[v]?).join, (ρ1[v]?).join) :: (saved σ ρ1 vs ++ fr))) := h
    show RepG K G H (σ.zip ((unwipe ρ1 vs ρ2).set v (ρ1.getD v none)) ++ fr)
    rw [← unwipe_set nd.1]
    refine wipe_in h1 (by simpa using h2) nd.2 ?_
    rcases Nat.lt_or_ge v σ.length with q | q
    · obtain ⟨A, B, x, y, hx, hy, z1, z2, z3⟩ := zip_split (l := wipe σ vs) (m := ρ2) (by rw [wipe_length]; exact h2) (by rw [wipe_length]; exact q)
      rw [wipe_get nd.1] at hx
      have e1 : ((wipe σ vs).set v none).zip ρ2 = A ++ (none, y) :: B := by
        have := z3 none y
        rw [show ρ2.set v y = ρ2 by
          apply List.ext_getElem?
          intro j
          by_cases hj : v = j
          · subst hj; rw [List.getElem?_set_self (lt_of_get hy)]; exact hy.symm
          · rw [List.getElem?_set_ne hj]] at this
        exact this
      have ey : ρ1[v]? = some (ρ1.getD v none) := by
        rw [List.getD_eq_getElem?_getD]
        have : v < ρ1.length := h1 ▸ q
        rw [List.getElem?_eq_getElem this]; rfl
      rw [z2]
      rw [e1, hx, ey] at h
      have h3 : RepG K G H ((none, y) :: (x, ρ1.getD v none) :: (A ++ (B ++ (saved σ ρ1 vs ++ fr)))) := h.perm (by
        rw [List.append_assoc, List.cons_append]
        refine List.perm_middle.trans (List.Perm.cons _ ?_)
        show (A ++ (B ++ ((x, ρ1.getD v none) :: (saved σ ρ1 vs ++ fr)))).Perm _
        rw [← List.append_assoc, ← List.append_assoc]
        exact List.perm_middle)
      refine h3.tail.perm ?_
      rw [List.append_assoc, List.cons_append]
      exact List.perm_middle.symm
    · rw [List.set_eq_of_length_le (by rw [wipe_length]; exact q)] at h
      rw [List.set_eq_of_length_le (by rw [← h2]; exact q)]
      exact (h.perm List.perm_middle).tail
theorem wipe_forget (hl : σ.length = ρ.length) {vs : List Nat} (nd : vs.Nodup) (h : RepG K G H (σ.zip ρ ++ fr)) : RepG K G H ((wipe σ vs).zip (wipeR ρ vs) ++ fr) := by
  have := wipe_out hl nd h
  exact (this.perm (perm_rot _ _ _)).tails _
end
/-! ### one reading for all blocks -/
section
variable {ι : Type} {Xf : ι → Cx} {K : PySem.W.Frag} {W : Nat → Hp → Prop} {e : Expr}
theorem fam_e {f : Rho → Rs RV} (hK : ∀ i, (Xf i).K = K) (h : ∀ i, DE (Xf i) W e f) : ∃ t, (∀ i, PE (Xf i) e t) ∧ ∀ σ H ρ fr Q, σ.length = ρ.length → Rep K H (σ.zip ρ ++ fr) →
    Wish K W σ fr (f ρ) (fun r ρ' => ∀ v H', Rep K H' (ent v r ++ (σ.zip ρ' ++ fr)) → side σ v r → Q v H') → t σ H Q := by
  refine ⟨fun σ H Q => ∀ i, (Classical.choose (h i)) σ H Q, fun i => ⟨fun pins s σ H Q I q => (Classical.choose_spec (h i)).1.run pins s σ H Q I (q i)⟩, fun σ H ρ fr Q hl hR hW i => ?_⟩
  exact (Classical.choose_spec (h i)).2 σ H ρ fr Q hl (by rw [hK i]; exact hR) (by rw [hK i]; exact hW)
theorem fam_g {tg : Expr} {t : Tg} (hK : ∀ i, (Xf i).K = K) (h : ∀ i, DG (Xf i) tg t) : ∃ g, (∀ i, PG (Xf i) tg g) ∧ ∀ x d σ H ρ ρ' fr Q, σ.length = ρ.length → Rep K H ((some x, some (.imm d)) :: (σ.zip ρ ++ fr)) → bindT t d ρ = some ρ' →
    (∀ σ', Agree (tgS t) σ σ' → ρ'.length = σ'.length → Rep K H (σ'.zip ρ' ++ fr) → Q σ' H) → g x σ H Q := by
  refine ⟨fun x σ H Q => ∀ i, (Classical.choose (h i)) x σ H Q, fun i => ⟨fun pins s σ H v u Q I r q => (Classical.choose_spec (h i)).1.run pins s σ H v u Q I r (q i)⟩, fun x d σ H ρ ρ' fr Q hl hR e k i => ?_⟩
  exact (Classical.choose_spec (h i)).2 x d σ H ρ ρ' fr Q hl (by rw [hK i]; exact hR) e (by rw [hK i]; exact k)
def DTs (X : Cx) (W : Nat → Hp → Prop) (ifs : List Expr) (f : Rho → Rs Bool) : Prop :=
  ∃ t, PTs X ifs t ∧ ∀ σ H ρ fr Q, σ.length = ρ.length → Rep X.K H (σ.zip ρ ++ fr) →
    Wish X.K W σ fr (f ρ) (fun b ρ' => ∀ H', Rep X.K H' (σ.zip ρ' ++ fr) → Q b H') → t σ H Q
theorem dts_nil {X : Cx} : DTs X W [] (fun ρ => .ok true ρ) := ⟨_, pts_nil, fun σ H ρ fr Q hl hR hW => hW hl.symm H hR⟩
theorem dts_one {X : Cx} {f : Rho → Rs Bool} (h : DT X W e f) : DTs X W [e] f := by
  obtain ⟨t, p, r⟩ := h
  exact ⟨_, pts_one p, r⟩
theorem fam_t {ifs : List Expr} {f : Rho → Rs Bool} (hK : ∀ i, (Xf i).K = K) (h : ∀ i, DTs (Xf i) W ifs f) : ∃ t, (∀ i, PTs (Xf i) ifs t) ∧ ∀ σ H ρ fr Q, σ.length = ρ.length → Rep K H (σ.zip ρ ++ fr) →
    Wish K W σ fr (f ρ) (fun b ρ' => ∀ H', Rep K H' (σ.zip ρ' ++ fr) → Q b H') → t σ H Q := by
  refine ⟨fun σ H Q => ∀ i, (Classical.choose (h i)) σ H Q, fun i => ⟨fun pins s σ H Q I q => (Classical.choose_spec (h i)).1.run pins s σ H Q I (q i)⟩, fun σ H ρ fr Q hl hR hW i => ?_⟩
  exact (Classical.choose_spec (h i)).2 σ H ρ fr Q hl (by rw [hK i]; exact hR) (by rw [hK i]; exact hW)
/-! ### comprehensions -/
/-- one turn -/
def turnC (t : Tg) (ft : Rho → Rs Bool) (fe : Rho → Rs RV) (vs : List Nat) (d : PyData) (ρ : Rho) : Rs (Option PyData) :=
  (Rs.ofOpt (bindT t d ρ) ρ).bind fun ρ' _ => (ft ρ').bind fun b ρ => if b then (fe ρ).bind fun r ρ => (Rs.ofOpt (frz ρ r) ρ).bind fun p _ => .ok (some p.1) (wipeR p.2 vs) else .ok none (wipeR ρ vs)
def compF (fi : Rho → Rs (List PyData)) (t : Tg) (ft : Rho → Rs Bool) (fe : Rho → Rs RV) (vs : List Nat) (ρ : Rho) : Rs RV :=
  (fi ρ).bind fun items ρ1 => (compL (turnC t ft fe vs) items (wipeR ρ1 vs)).noexc.bind fun ds ρ2 => if ds.length ≤ lim then .ok (.val (.lst ds)) (unwipe ρ1 vs ρ2) else .stuck
theorem bind_ok {α β : Type} {x : Rs α} {g : α → Rho → Rs β} {b : β} {ρ' : Rho} (h : x.bind g = .ok b ρ') : ∃ a ρ, x = .ok a ρ ∧ g a ρ = .ok b ρ' := by
  cases x with
  | ok a ρ => exact ⟨a, ρ, rfl, h⟩
  | exc _ _ => cases h
  | stuck => cases h
theorem ofOpt_ok {α : Type} {x : Option α} {ρ ρ' : Rho} {a : α} (h : Rs.ofOpt x ρ = .ok a ρ') : x = some a ∧ ρ = ρ' := by
  cases x with
  | none => cases h
  | some b => cases h; exact ⟨rfl, rfl⟩
def W0 : Nat → Hp → Prop := fun _ _ => False
theorem comp_parts {X : Cx} {W : Nat → Hp → Prop} {elt tg iter : Expr} {ifs : List Expr} {scope : Scope} {own : List (Str × Nat)} {pos : Pos} {fi : Rho → Rs (List PyData)} {t : Tg} {ft : Rho → Rs Bool} {fe : Rho → Rs RV}
    (hc : X.calm = true) (hN : X.N.Nodup) (hi : DI X W tg iter fi) (ok : BlkOk X.N X.env.scope scope own)
    (hg : ∀ (s : Shared) (H : Hp) (C : Addr) (cl : List (Str × Addr)) (fp : List Addr), DG (X.blk s H scope (compEnvC scope cl C X.env) fp) tg t)
    (ht : ∀ (s : Shared) (H : Hp) (C : Addr) (cl : List (Str × Addr)) (fp : List Addr), DTs (X.blk s H scope (compEnvC scope cl C X.env) fp) W0 ifs ft)
    (he : ∀ (s : Shared) (H : Hp) (C : Addr) (cl : List (Str × Addr)) (fp : List Addr), DE (X.blk s H scope (compEnvC scope cl C X.env) fp) W0 elt fe)
    (hs : ∀ x, foldedSetIterable iter X.env x = pure x) (hsub : ∀ i ∈ tgS t, i ∈ own.map (·.2)) (nd : (own.map (·.2)).Nodup) :
    ∃ wi g tt te, PI X tg iter wi ∧ (∀ (s : Shared) (H : Hp) (C : Addr) (cl : List (Str × Addr)) (fp : List Addr), PG (X.blk s H scope (compEnvC scope cl C X.env) fp) tg g) ∧
      (∀ (s : Shared) (H : Hp) (C : Addr) (cl : List (Str × Addr)) (fp : List Addr), PTs (X.blk s H scope (compEnvC scope cl C X.env) fp) ifs tt) ∧
      (∀ (s : Shared) (H : Hp) (C : Addr) (cl : List (Str × Addr)) (fp : List Addr), PE (X.blk s H scope (compEnvC scope cl C X.env) fp) elt te) ∧
      ∀ σ H ρ fr Q, σ.length = ρ.length → Rep X.K H (σ.zip ρ ++ fr) → Wish X.K W σ fr (compF fi t ft fe (own.map (·.2)) ρ) (fun r ρ' => ∀ v H', Rep X.K H' (ent v r ++ (σ.zip ρ' ++ fr)) → side σ v r → Q v H') → tLc wi g tt te (own.map (·.2)) σ H Q := by
  obtain ⟨wi, pi, ri⟩ := hi
  obtain ⟨g, pg, rg⟩ := fam_g (ι := Shared × Hp × Addr × List (Str × Addr) × List Addr) (Xf := fun z => X.blk z.1 z.2.1 scope (compEnvC scope z.2.2.2.1 z.2.2.1 X.env) z.2.2.2.2) (K := X.K) (fun _ => rfl) fun z => hg z.1 z.2.1 z.2.2.1 z.2.2.2.1 z.2.2.2.2
  obtain ⟨tt, pt, rt⟩ := fam_t (ι := Shared × Hp × Addr × List (Str × Addr) × List Addr) (Xf := fun z => X.blk z.1 z.2.1 scope (compEnvC scope z.2.2.2.1 z.2.2.1 X.env) z.2.2.2.2) (K := X.K) (fun _ => rfl) fun z => ht z.1 z.2.1 z.2.2.1 z.2.2.2.1 z.2.2.2.2
  obtain ⟨te, pe, re⟩ := fam_e (ι := Shared × Hp × Addr × List (Str × Addr) × List Addr) (Xf := fun z => X.blk z.1 z.2.1 scope (compEnvC scope z.2.2.2.1 z.2.2.1 X.env) z.2.2.2.2) (K := X.K) (fun _ => rfl) fun z => he z.1 z.2.1 z.2.2.1 z.2.2.2.1 z.2.2.2.2
  refine ⟨wi, g, tt, te, pi, (fun s H C cl fp => pg (s, H, C, cl, fp)), (fun s H C cl fp => pt (s, H, C, cl, fp)), (fun s H C cl fp => pe (s, H, C, cl, fp)), fun σ H ρ fr Q hl hR hW => ?_⟩
  generalize hvs : own.map (·.2) = vs at hsub nd hW
  refine ri σ H ρ fr _ hl hR (hW.bind.mono fun items ρ1 l1 hW1 J H1 es hR1 wk => ?_)
  -- the block as a whole ends well
  cases hcl : compL (turnC t ft fe vs) items (wipeR ρ1 vs) with
  | exc _ _ => rw [hcl] at hW1; exact hW1.elim
  | stuck => rw [hcl] at hW1; exact hW1.elim
  | ok ds ρe =>
    rw [hcl] at hW1
    have hW1 : Wish X.K W σ fr (if ds.length ≤ lim then Rs.ok (RV.val (.lst ds)) (unwipe ρ1 vs ρe) else .stuck) _ := hW1
    split at hW1
    case isFalse => exact hW1.elim
    rename_i hlim
    intro D hD
    obtain ⟨G1, g1⟩ := hR1
    have g2 : RepG X.K G1 H1 ((wipe σ vs).zip (wipeR ρ1 vs) ++ (saved σ ρ1 vs ++ (es ++ fr))) := wipe_out l1.symm nd (g1.perm (perm_rot _ _ _))
    have start : Rep X.K (upd H1 D (.lst [])) ((some (.ref D), some (.lst [])) :: ((wipe σ vs).zip (wipeR ρ1 vs) ++ (saved σ ρ1 vs ++ (es ++ fr)))) := g2.made (.inr ⟨D, [], [], rfl, hD, .nil, .inr ⟨rfl, rfl⟩⟩)
    let St : Nat → Hp → Prop := fun i H => ∃ (acc ds' : List PyData) (ρ : Rho), acc ++ ds' = ds ∧ compL (turnC t ft fe vs) (items.drop i) ρ = .ok ds' ρe ∧ ρ.length = σ.length ∧ Rep X.K H ((some (.ref D), some (.lst acc)) :: ((wipe σ vs).zip ρ ++ (saved σ ρ1 vs ++ (es ++ fr))))
    refine ⟨fun i m H => i + m = items.length ∧ St i H, ⟨items.length, by omega, [], ds, wipeR ρ1 vs, rfl, by simpa using hcl, by rw [wipeR_len]; exact l1, start⟩, ?_⟩
    rintro i m H2 ⟨him, acc, ds', ρ2, hacc, hrun, l2, hR2⟩
    have lw : (wipe σ vs).length = ρ2.length := by rw [wipe_length]; exact l2.symm
    -- es stands
    have hes : ∃ l, Rep X.K H2 (es ++ l) := ⟨(some (.ref D), some (.lst acc)) :: ((wipe σ vs).zip ρ2 ++ (saved σ ρ1 vs ++ fr)), hR2.perm (by
      have p1 := perm_mid2 [((some (V.ref D) : Option V), some (Cn.lst acc))] ((wipe σ vs).zip ρ2) (saved σ ρ1 vs) (es ++ fr)
      have p2 : (((wipe σ vs).zip ρ2) ++ (saved σ ρ1 vs ++ (([((some (V.ref D) : Option V), some (Cn.lst acc))] : List Ent) ++ (es ++ fr)))).Perm (es ++ ([((some (V.ref D) : Option V), some (Cn.lst acc))] ++ ((wipe σ vs).zip ρ2 ++ (saved σ ρ1 vs ++ fr)))) := by
        refine List.Perm.trans ?_ (perm_rot _ _ _)
        refine List.Perm.trans ?_ (List.Perm.append_left _ ?_) (l₂ := [((some (V.ref D) : Option V), some (Cn.lst acc))] ++ (((wipe σ vs).zip ρ2) ++ (saved σ ρ1 vs ++ (es ++ fr))))
        · exact (perm_mid2 _ _ _ _).symm
        · exact (List.Perm.append_left _ (perm_rot _ _ _)).trans (perm_rot _ _ _)
      exact p1.trans p2)⟩
    rcases Nat.lt_or_ge i items.length with hlt | hge
    case inr =>
      have hi0 : i = items.length := by omega
      subst hi0
      obtain ⟨l, hl0⟩ := hes
      refine .inl ⟨wk.stop H2 l hl0, ?_⟩
      rw [List.drop_length] at hrun
      cases hrun
      rw [List.append_nil] at hacc
      subst hacc
      obtain ⟨G2, g3⟩ := hR2
      refine hW1 (by rw [unwipe_len]; exact l2) (.ref D) H2 ⟨G2, ?_⟩ trivial
      have g4 : RepG X.K G2 H2 ((wipe σ vs).zip ρe ++ (saved σ ρ1 vs ++ ((some (.ref D), some (.lst acc)) :: fr))) := by
        have := g3.perm (l' := es ++ ((wipe σ vs).zip ρe ++ (saved σ ρ1 vs ++ ((some (.ref D), some (.lst acc)) :: fr)))) (by
          have p1 := perm_mid2 [((some (V.ref D) : Option V), some (Cn.lst acc))] ((wipe σ vs).zip ρe) (saved σ ρ1 vs) (es ++ fr)
          refine p1.trans ?_
          refine List.Perm.trans ?_ (perm_rot _ _ _)
          refine List.Perm.append_left _ ?_
          refine List.Perm.trans ?_ (perm_rot _ _ _)
          refine List.Perm.append_left _ ?_
          exact perm_rot _ _ _)
        exact this.tails _
      exact (wipe_in l1.symm l2.symm nd g4).perm List.perm_middle
    case inl =>
      obtain ⟨l0, hl0⟩ := hes
      obtain ⟨d, hd⟩ := get_lt hlt
      have hdrop : items.drop i = d :: items.drop (i + 1) := by
        rw [List.drop_eq_getElem_cons hlt]
        congr 1
        rw [List.getElem?_eq_getElem hlt] at hd
        exact Option.some.inj hd
      rw [hdrop] at hrun
      obtain ⟨o, ρ3, hturn, hrest⟩ := bind_ok (x := turnC t ft fe vs d ρ2) hrun
      obtain ⟨ds2, ρ4, hrest2, hfin⟩ := bind_ok hrest
      cases hfin
      refine .inr ⟨wk.go i H2 l0 hl0 hlt, St (i + 1), fun H' hs => ⟨m - 1, by omega, by omega, hs⟩, fun x H3 hy => ?_⟩
      -- the item is bound
      have fr' := (some (V.ref D), some (Cn.lst acc))
      have hR3 : Rep X.K H3 ((some x, some (.imm d)) :: ((wipe σ vs).zip ρ2 ++ ((some (.ref D), some (.lst acc)) :: (saved σ ρ1 vs ++ (es ++ fr))))) := by
        have h1 : Rep X.K H2 (es ++ ((some (.ref D), some (.lst acc)) :: ((wipe σ vs).zip ρ2 ++ (saved σ ρ1 vs ++ fr)))) := hR2.perm (by
          have p1 := perm_mid2 [((some (V.ref D) : Option V), some (Cn.lst acc))] ((wipe σ vs).zip ρ2) (saved σ ρ1 vs) (es ++ fr)
          refine p1.trans ?_
          refine List.Perm.trans ?_ (perm_mid2 [((some (V.ref D) : Option V), some (Cn.lst acc))] ((wipe σ vs).zip ρ2) (saved σ ρ1 vs) fr |>.symm.append_left es)
          refine List.Perm.trans ?_ (perm_rot _ _ _)
          refine List.Perm.append_left _ ?_
          refine List.Perm.trans ?_ (perm_rot _ _ _)
          refine List.Perm.append_left _ ?_
          exact perm_rot _ _ _)
        have h2 := wk.yld i H2 _ x H3 d h1 hd hy
        refine h2.perm (List.Perm.cons _ ?_)
        refine (perm_rot es [((some (V.ref D) : Option V), some (Cn.lst acc))] ((wipe σ vs).zip ρ2 ++ (saved σ ρ1 vs ++ fr))).trans ?_
        refine List.Perm.trans ?_ (perm_rot [((some (V.ref D) : Option V), some (Cn.lst acc))] ((wipe σ vs).zip ρ2) (saved σ ρ1 vs ++ (es ++ fr)))
        refine List.Perm.append_left _ ?_
        refine (perm_rot _ _ _).trans (List.Perm.append_left _ (perm_rot _ _ _))
      obtain ⟨ρb, _, hbind, hturn⟩ := bind_ok hturn
      obtain ⟨hbind, _⟩ := ofOpt_ok hbind
      refine rg x d (wipe σ vs) H3 ρ2 ρb _ _ lw hR3 hbind fun σ2 ag lb hR4 => ?_
      refine ⟨wipe_agree ag hsub, ?_⟩
      have l5 : σ2.length = σ.length := by rw [ag.len, wipe_length]
      obtain ⟨b, ρt, htest, hturn⟩ := bind_ok hturn
      refine rt σ2 H3 ρb _ _ lb.symm hR4 ?_
      rw [htest]
      intro lt H4 hR5
      have ew : wipe σ2 vs = wipe σ vs := wipe_agree ag hsub
      cases b with
      | false =>
        cases hturn
        show St (i + 1) H4
        obtain ⟨G5, g5⟩ := hR5
        have g6 := wipe_forget (vs := vs) lt.symm nd g5
        rw [ew] at g6
        exact ⟨acc, ds2, wipeR ρt vs, hacc, hrest2, by rw [wipeR_len, lt, l5], G5, g6.perm List.perm_middle⟩
      | true =>
        obtain ⟨r, ρx, helt, hturn⟩ := bind_ok hturn
        refine re σ2 H4 ρt _ _ lt.symm hR5 ?_
        rw [helt]
        intro lx y H5 hR6 sy
        obtain ⟨p, _, hfz, hturn⟩ := bind_ok hturn
        obtain ⟨hfz, _⟩ := ofOpt_ok hfz
        obtain ⟨dy, ρy⟩ := p
        cases hturn
        obtain ⟨hR7, ly⟩ := hR6.frz lx.symm sy hfz
        obtain ⟨G7, g7⟩ := hR7
        have g8 : RepG X.K G7 H5 ((some (.ref D), some (.lst acc)) :: ((some y, some (.imm dy)) :: (σ2.zip ρy ++ (saved σ ρ1 vs ++ (es ++ fr))))) := g7.perm (by
          refine (List.Perm.cons _ List.perm_middle).trans (List.Perm.swap _ _ _))
        obtain ⟨D', avs, eD, hD5, qacc, _⟩ := g8.lst
        cases eD
        have hlen : acc.length < lim := by
          have : (acc ++ (dy :: ds2)).length ≤ lim := by rw [hacc]; exact hlim
          simp at this
          omega
        refine ⟨avs, hD5, by rw [qacc.len]; exact lim_lt hlen, ?_⟩
        have g9 := g8.write (qacc.app (.cons g8.tail.imm .nil))
        have g10 := (g9.perm (List.Perm.swap _ _ _)).tail
        have g11 : RepG X.K G7 (upd H5 D (.lst (avs ++ [y]))) (σ2.zip ρy ++ ((some (.ref D), some (.lst (acc ++ [dy]))) :: (saved σ ρ1 vs ++ (es ++ fr)))) := g10.perm List.perm_middle.symm
        have g12 := wipe_forget (vs := vs) (lx.symm.trans ly.symm) nd g11
        rw [ew] at g12
        exact ⟨acc ++ [dy], ds2, wipeR ρy vs, by rw [List.append_assoc]; exact hacc, hrest2, by rw [wipeR_len, ly, lx, l5], G7, g12.perm List.perm_middle⟩
theorem de_comp {X : Cx} {W : Nat → Hp → Prop} {elt tg iter : Expr} {ifs : List Expr} {scope : Scope} {own : List (Str × Nat)} {pos : Pos} {fi : Rho → Rs (List PyData)} {t : Tg} {ft : Rho → Rs Bool} {fe : Rho → Rs RV}
    (hc : X.calm = true) (hN : X.N.Nodup) (hi : DI X W tg iter fi) (ok : BlkOk X.N X.env.scope scope own)
    (hg : ∀ (s : Shared) (H : Hp) (C : Addr) (cl : List (Str × Addr)) (fp : List Addr), DG (X.blk s H scope (compEnvC scope cl C X.env) fp) tg t)
    (ht : ∀ (s : Shared) (H : Hp) (C : Addr) (cl : List (Str × Addr)) (fp : List Addr), DTs (X.blk s H scope (compEnvC scope cl C X.env) fp) W0 ifs ft)
    (he : ∀ (s : Shared) (H : Hp) (C : Addr) (cl : List (Str × Addr)) (fp : List Addr), DE (X.blk s H scope (compEnvC scope cl C X.env) fp) W0 elt fe)
    (hs : ∀ x, foldedSetIterable iter X.env x = pure x) (hsub : ∀ i ∈ tgS t, i ∈ own.map (·.2)) (nd : (own.map (·.2)).Nodup) :
    DE X W (.ListComp elt [⟨tg, iter, ifs, 0⟩] scope pos) (compF fi t ft fe (own.map (·.2))) := by
  obtain ⟨wi, g, tt, te, p1, p2, p3, p4, r⟩ := comp_parts (pos := pos) hc hN hi ok hg ht he hs hsub nd
  exact ⟨_, pe_lc hc hN p1 ok p2 p3 p4 hs, r⟩
end
end BP
end

section
/-! Bp11: statements. -/
namespace BP
open PySem PySem.Spec PyProof.Rows L2
/-- what is wanted behind a statement, by its outcome -/
def WS (K : PySem.W.Frag) (W : Nat → Hp → Prop) (st : List Nat) (σ : L2.St) (fr : List Ent) (o : Rs Fl) (D : Ends) : Prop :=
  match o with
  | .ok .next ρ => ∀ σ' H', Agree st σ σ' → ρ.length = σ'.length → Rep K H' (σ'.zip ρ ++ fr) → D.nx σ' H'
  | .ok (.ret c) ρ => ∀ v σ' H', Agree st σ σ' → ρ.length = σ'.length → Rep K H' ((some v, some c) :: (σ'.zip ρ ++ fr)) → D.rt v H'
  | .exc e ρ => ∀ σ' H', Agree st σ σ' → ρ.length = σ'.length → Rep K H' (σ'.zip ρ ++ fr) → W e H'
  | .stuck => False
def DS (X : Cx) (W : Nat → Hp → Prop) (s : Stmt) (st : List Nat) (f : Rho → Rs Fl) : Prop :=
  ∃ t, PS X s t ∧ ∀ D σ H ρ fr, σ.length = ρ.length → Rep X.K H (σ.zip ρ ++ fr) → WS X.K W st σ fr (f ρ) D → t D σ H
def DSs (X : Cx) (W : Nat → Hp → Prop) (s : List Stmt) (st : List Nat) (f : Rho → Rs Fl) : Prop :=
  ∃ t, PSs X s t ∧ ∀ D σ H ρ fr, σ.length = ρ.length → Rep X.K H (σ.zip ρ ++ fr) → WS X.K W st σ fr (f ρ) D → t D σ H
section
variable {K : PySem.W.Frag} {W : Nat → Hp → Prop} {st st' : List Nat} {σ σ1 : L2.St} {fr : List Ent} {o : Rs Fl} {D : Ends} {α : Type}
theorem WS.mono (h : WS K W st' σ fr o D) (hs : ∀ i ∈ st, i ∈ st') : WS K W st σ fr o D := by
  cases o with
  | ok f ρ => cases f with
    | next => exact fun σ' H' a => h σ' H' (a.mono hs)
    | ret c => exact fun v σ' H' a => h v σ' H' (a.mono hs)
  | exc e ρ => exact fun σ' H' a => h σ' H' (a.mono hs)
  | stuck => exact h
theorem WS.after (h : WS K W (st ++ st') σ fr o D) (ag : Agree st σ σ1) : WS K W st' σ1 fr o D := by
  cases o with
  | ok f ρ => cases f with
    | next => exact fun σ' H' a => h σ' H' (ag.trans a)
    | ret c => exact fun v σ' H' a => h v σ' H' (ag.trans a)
  | exc e ρ => exact fun σ' H' a => h σ' H' (ag.trans a)
  | stuck => exact h
theorem WS.bind {x : Rs α} {g : α → Rho → Rs Fl} (h : WS K W st σ fr (x.bind g) D) : Wish K W σ fr x (fun a ρ => WS K W st σ fr (g a ρ) D) := by
  cases x with
  | ok a ρ => exact fun _ => h
  | exc c ρ => exact fun l H r => h σ H (Agree.refl _ _) l r
  | stuck => exact h
end
section
variable {X : Cx} {W : Nat → Hp → Prop} {s : Stmt} {ss : List Stmt} {st st' : List Nat} {e a b k : Expr} {fe fk : Rho → Rs RV} {f g : Rho → Rs Fl} {pos : Pos} {T : Tb}
theorem ds_stuck {g : Rho → Rs Fl} (h : ∀ ρ, g ρ = .stuck) : DS X W s st g :=
  ⟨fun _ _ _ => False, ⟨fun _ _ _ _ _ _ h => h.elim⟩, fun D σ H ρ fr _ _ w => by rw [h ρ] at w; exact w⟩
theorem DS.mono (h : DS X W s st f) (hs : ∀ i ∈ st, i ∈ st') : DS X W s st' f := by
  obtain ⟨t, p, r⟩ := h
  exact ⟨t, p, fun D σ H ρ fr hl hR hW => r D σ H ρ fr hl hR (hW.mono hs)⟩
theorem DSs.mono (h : DSs X W ss st f) (hs : ∀ i ∈ st, i ∈ st') : DSs X W ss st' f := by
  obtain ⟨t, p, r⟩ := h
  exact ⟨t, p, fun D σ H ρ fr hl hR hW => r D σ H ρ fr hl hR (hW.mono hs)⟩
theorem dss_nil : DSs X W [] [] (fun ρ => .ok .next ρ) := ⟨_, pss_nil, fun D σ H ρ fr hl hR hW => hW σ H (Agree.refl _ _) hl.symm hR⟩
theorem dss_cons (h1 : DS X W s st f) (h2 : DSs X W ss st' g) : DSs X W (s :: ss) (st ++ st') (fun ρ => (f ρ).bind (thenF g)) := by
  obtain ⟨t, p, r⟩ := h1
  obtain ⟨u, q, r2⟩ := h2
  refine ⟨_, pss_cons p q, fun D σ H ρ fr hl hR hW => ?_⟩
  refine r _ σ H ρ fr hl hR ?_
  replace hW : WS X.K W (st ++ st') σ fr ((f ρ).bind (thenF g)) D := hW
  cases e : f ρ with
  | stuck => rw [e] at hW; exact hW
  | exc c ρ1 =>
    rw [e] at hW
    exact fun σ' H' ag => hW σ' H' (ag.mono fun i hi => List.mem_append_left _ hi)
  | ok fl ρ1 =>
    rw [e] at hW
    cases fl with
    | next =>
      intro σ' H' ag l' hR'
      exact r2 D σ' H' ρ1 fr l'.symm hR' (WS.after hW ag)
    | ret c => exact fun v σ' H' ag => hW v σ' H' (ag.mono fun i hi => List.mem_append_left _ hi)
theorem ds_pass : DS X W (.Pass pos) [] (fun ρ => .ok .next ρ) := ⟨_, ps_pass, fun D σ H ρ fr hl hR hW => hW σ H (Agree.refl _ _) hl.symm hR⟩
theorem ds_drop (he : DE X W e fe) (hs : swapsWith e none pos.line X.env = pure false) : DS X W (.Expr e pos) [] (fun ρ => (fe ρ).bind fun _ ρ => .ok .next ρ) := by
  obtain ⟨t, p, r⟩ := he
  refine ⟨_, ps_expr p hs, fun D σ H ρ fr hl hR hW => ?_⟩
  exact r σ H ρ fr _ hl hR (hW.bind.mono fun rx ρ1 l1 hW1 x H1 hR1 sx => hW1 σ H1 (Agree.refl _ _) l1 hR1.tails)
theorem ds_ret (he : DE X W e fe) : DS X W (.Return (some e) pos) [] (fun ρ => (fe ρ).bind retF) := by
  obtain ⟨t, p, r⟩ := he
  refine ⟨_, ps_ret p, fun D σ H ρ fr hl hR hW => ?_⟩
  refine r σ H ρ fr _ hl hR (hW.bind.mono fun rx ρ1 l1 hW1 x H1 hR1 sx => ?_)
  cases rx with
  | val c => exact hW1 x σ H1 (Agree.refl _ _) l1 hR1
  | slot i =>
    replace hW1 : WS X.K W [] σ fr (match (ρ1[i]?).join with | some c => .ok (.ret c) (ρ1.set i none) | none => .stuck) D := hW1
    cases q : (ρ1[i]?).join with
    | none => rw [q] at hW1; exact hW1.elim
    | some c =>
      rw [q] at hW1
      obtain ⟨G, gg⟩ := hR1
      obtain ⟨w, hw, g1⟩ := RepG.out (fr := fr) gg l1.symm q
      have hwx : w = x := by
        have : some (some w) = some (some x) := hw.symm.trans sx
        simpa using this
      rw [hwx] at g1
      exact hW1 x σ H1 (Agree.refl _ _) (by simpa using l1) ⟨G, g1⟩
theorem ds_retN : DS X W (.Return none pos) [] (fun ρ => .ok (.ret (.imm .none)) ρ) :=
  ⟨_, ps_retN, fun D σ H ρ fr hl hR hW => hW .non σ H (Agree.refl _ _) hl.symm (hR.val fun G => .non)⟩
theorem ds_if {c : Expr} {A B : List Stmt} {gc : Rho → Rs Bool} (hc : DT X W c gc) (ha : DSs X W A st f) (hb : DSs X W B st' g) :
    DS X W (.If c A B pos) (st ++ st') (fun ρ => (gc ρ).bind fun k ρ => if k then f ρ else g ρ) := by
  obtain ⟨tc, pc, rc⟩ := hc
  obtain ⟨ta, pa, ra⟩ := ha.mono (st' := st ++ st') fun i hi => List.mem_append_left _ hi
  obtain ⟨tb, pb, rb⟩ := hb.mono (st' := st ++ st') fun i hi => List.mem_append_right _ hi
  refine ⟨_, ps_if pc pa pb, fun D σ H ρ fr hl hR hW => ?_⟩
  refine rc σ H ρ fr _ hl hR (hW.bind.mono fun k ρ1 l1 hW1 H1 hR1 => ?_)
  cases k with
  | true => exact ra D σ H1 ρ1 fr l1.symm hR1 hW1
  | false => exact rb D σ H1 ρ1 fr l1.symm hR1 hW1
/-! ### stores -/
def keepF (i : Nat) (r : RV) (ρ : Rho) : Rs Fl := (Rs.ofOpt (keep ρ r) ρ).bind fun p _ => .ok .next (p.2.set i (some p.1))
theorem keep_use {K : PySem.W.Frag} {σ : L2.St} {H : Hp} {ρ : Rho} {fr : List Ent} {x : V} {r : RV} {c : Cn} {ρ' : Rho} (hl : ρ.length = σ.length) (hR : Rep K H (ent x r ++ (σ.zip ρ ++ fr))) (sx : side σ x r) (e : keep ρ r = some (c, ρ')) :
    Rep K H ((some x, some c) :: (σ.zip ρ' ++ fr)) ∧ ρ'.length = σ.length := by
  cases r with
  | val c' => cases e; exact ⟨hR, hl⟩
  | slot j =>
    replace e : (frz ρ (.slot j)).map (fun p => (Cn.imm p.1, p.2)) = some (c, ρ') := e
    cases q : frz ρ (.slot j) with
    | none => rw [q] at e; cases e
    | some p =>
      rw [q] at e
      obtain ⟨d, ρ1⟩ := p
      cases e
      obtain ⟨h1, h2⟩ := hR.frz hl.symm sx q
      exact ⟨h1, h2.trans hl⟩
theorem put_use {K : PySem.W.Frag} {σ : L2.St} {H : Hp} {ρ : Rho} {fr : List Ent} {D : Ends} {x : V} {r : RV} {i : Nat} (hl : ρ.length = σ.length) (hR : Rep K H (ent x r ++ (σ.zip ρ ++ fr))) (sx : side σ x r)
    (hW : WS K W [i] σ fr (keepF i r ρ) D) : D.nx (σ.set i (some x)) H := by
  unfold keepF at hW
  cases e : keep ρ r with
  | none => rw [e] at hW; exact hW.elim
  | some p =>
    obtain ⟨c, ρ'⟩ := p
    rw [e] at hW
    obtain ⟨⟨G, g1⟩, l1⟩ := keep_use hl hR sx e
    exact hW _ _ (Agree.set i _ σ) (by simp [l1]) ⟨G, g1.put l1.symm⟩
theorem ds_set {i : Nat} {x : Str} {p : Pos} (hN : X.N.Nodup) (hx : X.N[i]? = some x) (hl : Loc X.env.scope x) (hf : X.fn x = true ∨ X.env.scope.names.lookup x = some .local) (he : DE X W e fe)
    (hs : swapsWith e (some (.Name x p)) pos.line X.env = pure false) : DS X W (.Assign [.Name x p] e pos) [i] (fun ρ => (fe ρ).bind (keepF i)) := by
  obtain ⟨t, pt, r⟩ := he
  refine ⟨_, ps_set hN hx hl pt hs hf, fun D σ H ρ fr hl hR hW => ?_⟩
  exact r σ H ρ fr _ hl hR (hW.bind.mono fun rx ρ1 l1 hW1 x H1 hR1 sx => put_use l1 hR1 sx hW1)
theorem ds_unpack {is : List Nat} {es : List Expr} {kk : Nat} {p : Pos} (hc : X.calm = true) (hg : DGs X es is) (he : DE X W e fe) (hs : swapsWithSole [.Tuple es kk p] e pos.line X.env = pure false) (hw : swappedStores [.Tuple es kk p] e X.env = pure none) :
    DS X W (.Assign [.Tuple es kk p] e pos) is (fun ρ => (fe ρ).bind fun r ρ => match dat ρ r with
      | some d => (Rs.ofOpt (bindT (.tup is) d ρ) ρ).bind fun ρ _ => .ok .next ρ
      | none => .stuck) := by
  obtain ⟨t, pt, r⟩ := he
  obtain ⟨g, pg, rg⟩ := dg_tup (pos := p) (k := kk) hc hg
  refine ⟨_, ps_asg pt pg hs hw rfl, fun D σ H ρ fr hl hR hW => ?_⟩
  refine r σ H ρ fr _ hl hR (hW.bind.mono fun rx ρ1 l1 hW1 x H1 hR1 sx => ?_)
  cases ea : dat ρ1 rx with
  | none => rw [ea] at hW1; exact hW1.elim
  | some d =>
    rw [ea] at hW1
    have hW1 : WS X.K W is σ fr ((Rs.ofOpt (bindT (.tup is) d ρ1) ρ1).bind fun ρ _ => Rs.ok Fl.next ρ) D := hW1
    cases eb : bindT (.tup is) d ρ1 with
    | none => rw [eb] at hW1; exact hW1.elim
    | some ρ2 =>
      rw [eb] at hW1
      obtain ⟨G, gg⟩ := hR1
      have vw := gg.view l1.symm sx ea
      have dq : Dq X.K G x d := by
        rcases vw with vw | ⟨_, _, _, _, rfl, _⟩
        · exact vw
        · cases eb
      exact rg x d σ H1 ρ1 ρ2 fr _ l1.symm ⟨G, (gg.tails _).add dq⟩ eb fun σ' ag l' hR' => hW1 σ' H1 ag l' hR'
/-! ### a, b = x, y -/
def setNF (is : List Nat) (rs : List RV) (ρ : Rho) : Rs Fl := (Rs.ofOpt (keeps ρ rs) ρ).bind fun p _ => if p.1.length = is.length then .ok .next (setAll is p.1 p.2) else .stuck
theorem keeps_use {K : PySem.W.Frag} {H : Hp} {σ : L2.St} {fr : List Ent} : ∀ {vs : List V} {rs : List RV} {ρ ρ' : Rho} {cs : List Cn}, Rep K H (ents vs rs ++ (σ.zip ρ ++ fr)) → σ.length = ρ.length → Sides σ vs rs → keeps ρ rs = some (cs, ρ') →
    Rep K H (argE vs cs ++ (σ.zip ρ' ++ fr)) ∧ ρ'.length = ρ.length ∧ cs.length = vs.length
  | _, _, ρ, ρ', cs, h, hl, .nil, e => by
    have : [] = cs ∧ ρ = ρ' := by simpa [keeps] using e
    obtain ⟨rfl, rfl⟩ := this
    exact ⟨h, rfl, rfl⟩
  | v :: vs, r :: rs, ρ, ρ', cs, h, hl, .cons s ss, e => by
    unfold keeps at e
    cases e1 : keep ρ r with
    | none => rw [e1] at e; cases e
    | some p =>
      rw [e1] at e
      obtain ⟨c, ρ1⟩ := p
      cases e2 : keeps ρ1 rs with
      | none => simp [e2] at e
      | some q =>
        obtain ⟨cs', ρ2⟩ := q
        have : c :: cs' = cs ∧ ρ2 = ρ' := by simpa [e2] using e
        obtain ⟨rfl, rfl⟩ := this
        have h : Rep K H (ent v r ++ (σ.zip ρ ++ (ents vs rs ++ fr))) := h.perm (by
          show ((ent v r ++ ents vs rs) ++ (σ.zip ρ ++ fr)).Perm _
          rw [List.append_assoc]
          exact List.Perm.append_left _ (perm_rot _ _ _))
        obtain ⟨h1, l1⟩ := keep_use hl.symm h s e1
        have h2 : Rep K H (ents vs rs ++ (σ.zip ρ1 ++ ((some v, some c) :: fr))) := h1.perm (by
          have := perm_mid2 [((some v : Option V), (some c))] (σ.zip ρ1) (ents vs rs) fr
          exact this.trans (perm_rot _ _ _))
        obtain ⟨h3, l3, l4⟩ := keeps_use h2 l1.symm ss e2
        refine ⟨h3.perm ?_, l3.trans (l1.trans hl), by simp [l4]⟩
        show (argE vs cs' ++ (σ.zip ρ2 ++ ((some v, some c) :: fr))).Perm ((some v, some c) :: (argE vs cs' ++ (σ.zip ρ2 ++ fr)))
        rw [← List.append_assoc, ← List.append_assoc]
        exact List.perm_middle
theorem setN_use {K : PySem.W.Frag} {σ : L2.St} {H : Hp} {ρ : Rho} {fr : List Ent} {D : Ends} {vs : List V} {rs : List RV} {is : List Nat} (hl : ρ.length = σ.length) (hR : Rep K H (ents vs rs ++ (σ.zip ρ ++ fr))) (ss : Sides σ vs rs) (hW : WS K W is σ fr (setNF is rs ρ) D) :
    ∃ cs ρ', cs.length = is.length ∧ vs.length = is.length ∧ ρ'.length = σ.length ∧ Rep K H (argE vs cs ++ (σ.zip ρ' ++ fr)) ∧ WS K W is σ fr (.ok .next (setAll is cs ρ')) D := by
  unfold setNF at hW
  cases e : keeps ρ rs with
  | none => rw [e] at hW; exact hW.elim
  | some p =>
    obtain ⟨cs, ρ'⟩ := p
    rw [e] at hW
    replace hW : WS K W is σ fr (if cs.length = is.length then .ok .next (setAll is cs ρ') else .stuck) D := hW
    split at hW
    · rename_i hc
      obtain ⟨h1, l1, l2⟩ := keeps_use hR hl.symm ss e
      exact ⟨cs, ρ', hc, l2.symm.trans hc, l1.trans hl, h1, hW⟩
    · exact hW.elim
/-- the plain way: a tuple is made and taken apart -/
theorem ds_setN {is : List Nat} {es vs : List Expr} {kk k2 : Nat} {p p2 : Pos} {fs : Rho → Rs (List RV)} (hc : X.calm = true) (hg : DGs X es is) (he : DA X W vs fs) (hw : swappedStores [.Tuple es kk p] (.Tuple vs k2 p2) X.env = pure none) (hsmall : is.length ≤ 1000) :
    DS X W (.Assign [.Tuple es kk p] (.Tuple vs k2 p2) pos) is (fun ρ => (fs ρ).bind (setNF is)) := by
  obtain ⟨t, pt, r⟩ := he
  obtain ⟨g, pg, h1, h2, h0, rg⟩ := hg
  refine ⟨_, ps_asg (pe_tup pt) (pg_tup hc pg h1 h2) rfl hw rfl, fun D σ H ρ fr hl hR hW => ?_⟩
  refine r σ H ρ fr _ hl hR (hW.bind.mono fun rs ρ1 l1 hW1 ws H1 hR1 ss => ?_)
  obtain ⟨cs, ρ2, lc, lv, l2, hR2, hW2⟩ := setN_use l1 hR1 ss hW1
  have hwl : ws.length ≤ sizeLine := by rw [lv]; exact Nat.le_trans hsmall (by decide)
  refine ⟨hwl, fun q hq => ?_⟩
  have sm : Rep X.K (upd H1 q (.tup ws)) (argE ws cs ++ (σ.zip ρ2 ++ fr)) := by
    obtain ⟨G, g2⟩ := hR2
    exact ⟨G, g2.alloc hq⟩
  exact ⟨q, ws, rfl, .inl (.inl upd_same), lv, rg ws cs σ _ ρ2 fr _ l2.symm lv lc sm fun σ' ag l' hR' => hW2 σ' _ ag l' hR'⟩
/-- two names, stored from the right -/
theorem ds_par2 {i j : Nat} {x y : Str} {px py p p2 : Pos} {kk k2 : Nat} {fs : Rho → Rs (List RV)} (hc : X.calm = true) (hN : X.N.Nodup) (hi : X.N[i]? = some x) (hj : X.N[j]? = some y) (hij : i ≠ j) (hx : X.env.scope.names.lookup x = some .local) (hy : X.env.scope.names.lookup y = some .local) (he : DA X W [a, b] fs)
    (hw : swappedStores [.Tuple [.Name x px, .Name y py] kk p] (.Tuple [a, b] k2 p2) X.env = pure (some [x, y])) :
    DS X W (.Assign [.Tuple [.Name x px, .Name y py] kk p] (.Tuple [a, b] k2 p2) pos) [i, j] (fun ρ => (fs ρ).bind (setNF [i, j])) := by
  obtain ⟨t, pt, r⟩ := he
  refine ⟨_, ps_par hc hN hi hj hij hx hy pt hw rfl, fun D σ H ρ fr hl hR hW => ?_⟩
  refine r σ H ρ fr _ hl hR (hW.bind.mono fun rs ρ1 l1 hW1 ws H1 hR1 ss => ?_)
  obtain ⟨cs, ρ2, lc, lv, l2, ⟨G, g⟩, hW2⟩ := setN_use l1 hR1 ss hW1
  match ws, cs, lv, lc with
  | [v, w], [c, c'], _, _ =>
    refine ⟨v, w, rfl, hW2 _ _ (((Agree.set i (some v) σ).trans (Agree.set j (some w) _)).mono fun z hz => by simpa using hz) (by simp [setAll, l2]) ⟨G, ?_⟩⟩
    have g1 : RepG X.K G H1 ((some v, some c) :: (σ.zip ρ2 ++ ((some w, some c') :: fr))) := g.perm (by
      show ((some v, some c) :: (some w, some c') :: (σ.zip ρ2 ++ fr)).Perm _
      exact List.Perm.cons _ List.perm_middle.symm)
    have g2 := (g1.put (i := i) l2.symm).perm List.perm_middle
    exact g2.put (i := j) (by simp [l2])
theorem ds_par3 {i j l : Nat} {x y z : Str} {px py pz p p2 : Pos} {kk k2 : Nat} {c : Expr} {fs : Rho → Rs (List RV)} (hc : X.calm = true) (hN : X.N.Nodup) (hi : X.N[i]? = some x) (hj : X.N[j]? = some y) (hl : X.N[l]? = some z) (hij : i ≠ j) (hil : i ≠ l) (hjl : j ≠ l)
    (hx : X.env.scope.names.lookup x = some .local) (hy : X.env.scope.names.lookup y = some .local) (hz : X.env.scope.names.lookup z = some .local) (he : DA X W [a, b, c] fs)
    (hw : swappedStores [.Tuple [.Name x px, .Name y py, .Name z pz] kk p] (.Tuple [a, b, c] k2 p2) X.env = pure (some [x, y, z])) :
    DS X W (.Assign [.Tuple [.Name x px, .Name y py, .Name z pz] kk p] (.Tuple [a, b, c] k2 p2) pos) [i, j, l] (fun ρ => (fs ρ).bind (setNF [i, j, l])) := by
  obtain ⟨t, pt, r⟩ := he
  refine ⟨_, ps_par3 hc hN hi hj hl hij hil hjl hx hy hz pt hw rfl, fun D σ H ρ fr hl hR hW => ?_⟩
  refine r σ H ρ fr _ hl hR (hW.bind.mono fun rs ρ1 l1 hW1 ws H1 hR1 ss => ?_)
  obtain ⟨cs, ρ2, lc, lv, l2, ⟨G, g⟩, hW2⟩ := setN_use l1 hR1 ss hW1
  match ws, cs, lv, lc with
  | [v, w, u], [c, c', c2], _, _ =>
    refine ⟨v, w, u, rfl, hW2 _ _ ((((Agree.set i (some v) σ).trans (Agree.set j (some w) _)).trans (Agree.set l (some u) _)).mono fun z hz => by simpa using hz) (by simp [setAll, l2]) ⟨G, ?_⟩⟩
    have g1 : RepG X.K G H1 ((some v, some c) :: (σ.zip ρ2 ++ ((some w, some c') :: (some u, some c2) :: fr))) := g.perm (by
      show ((some v, some c) :: (some w, some c') :: (some u, some c2) :: (σ.zip ρ2 ++ fr)).Perm _
      exact List.Perm.cons _ ((List.Perm.cons _ List.perm_middle.symm).trans List.perm_middle.symm))
    have g2 := (g1.put (i := i) l2.symm).perm List.perm_middle
    have g3 := (g2.put (i := j) (by simp [l2])).perm List.perm_middle
    exact g3.put (i := l) (by simp [l2])
/-! ### lists changed -/
theorem slot_lst {K : PySem.W.Frag} {G H : Hp} {σ : L2.St} {ρ : Rho} {fr : List Ent} {i : Nat} {xs : List PyData} (g : RepG K G H (σ.zip ρ ++ fr)) (hl : σ.length = ρ.length) (e : (ρ[i]?).join = some (.lst xs)) :
    ∃ p vs, σ[i]? = some (some (.ref p)) ∧ H p = some (.lst vs) ∧ DqAll K G vs xs ∧ ∀ vs' xs', DqAll K G vs' xs' → RepG K G (upd H p (.lst vs')) (σ.zip (ρ.set i (some (.lst xs'))) ++ fr) := by
  obtain ⟨v, hv, g1⟩ := g.out hl e
  obtain ⟨p, vs, rfl, e3, q, _⟩ := g1.lst
  exact ⟨p, vs, hv, e3, q, fun vs' xs' q' => (g1.write q').inn hl hv⟩
theorem ds_app {i : Nat} {x : Str} {p apos cpos : Pos} (hN : X.N[i]? = some x) (hv : Vis X.env.scope x) (hd : (x == ("__debug__" : Str)) = false) (hcd : (x == ("__classdict__" : Str)) = false) (he : DE X W e fe) (hp : plainE e = true) (hpos : (apos.endLine == cpos.line) = true) :
    DS X W (.Expr (.Call (.Attribute (.Name x p) "append" apos) [e] [] cpos) pos) [] (fun ρ => match (ρ[i]?).join with
      | some (.lst _) => (fe ρ).bind fun r ρ => (Rs.ofOpt (frz ρ r) ρ).bind fun p _ => appF i p.1 p.2
      | _ => .stuck) := by
  obtain ⟨t, pt, r⟩ := he
  refine ⟨_, ps_expr (pe_bm PySem.F.plainAttrs_list PySem.F.slot_list_append PySem.F.type_list_append mt_append (pe_var hN hv hd hcd) (pa_cons pt pa_nil (star_plain hp _ _)) rfl (by rw [star_plain hp]; rfl) hpos (star_plain hp _ _) rfl) rfl, fun D σ H ρ fr hl hR hW => ?_⟩
  cases q : (ρ[i]?).join with
  | none => simp only [q] at hW; exact hW.elim
  | some c =>
    cases c with
    | lst xs =>
      simp only [q] at hW
      obtain ⟨G, g⟩ := hR
      obtain ⟨a, vs, hv, ha, _, _⟩ := slot_lst g hl q
      refine ⟨.ref a, hv, .inl ⟨rfl, vs, .inl (.inl ha)⟩, ?_⟩
      refine r σ H ρ fr _ hl ⟨G, g⟩ (hW.bind.mono fun rx ρ1 l1 hW1 y H1 hR1 sy => ?_)
      cases ef : frz ρ1 rx with
      | none => rw [ef] at hW1; exact hW1.elim
      | some pr =>
        obtain ⟨d, ρ2⟩ := pr
        rw [ef] at hW1
        obtain ⟨⟨G2, g2⟩, l2⟩ := hR1.frz l1.symm sy ef
        replace hW1 : WS X.K W [] σ fr (appF i d ρ2) D := hW1
        unfold appF at hW1
        cases q2 : (ρ2[i]?).join with
        | none => simp only [q2] at hW1; exact hW1.elim
        | some c2 =>
          cases c2 with
          | lst ys =>
            simp only [q2] at hW1
            split at hW1
            · rename_i hlim
              obtain ⟨b, ws, hv2, hb, qw, wr⟩ := slot_lst (fr := (some y, some (.imm d)) :: fr) (g2.perm List.perm_middle.symm) (l1.symm.trans l2.symm) q2
              have eab : a = b := by
                have := hv.symm.trans hv2
                simpa using this
              subst eab
              refine ⟨a, ws, y, rfl, rfl, hb, by rw [qw.len]; exact lim_lt hlim, ?_⟩
              have g3 := wr (ws ++ [y]) (ys ++ [d]) (qw.app (.cons g2.imm .nil))
              exact hW1 σ _ (Agree.refl _ _) (by simp [l2, l1]) ⟨G2, (g3.perm List.perm_middle).tail⟩
            · exact hW1.elim
          | _ => simp only [q2] at hW1; exact hW1.elim
    | _ => simp only [q] at hW; exact hW.elim
theorem ds_ext {i : Nat} {x : Str} {p apos cpos : Pos} (hN : X.N[i]? = some x) (hv : Vis X.env.scope x) (hd : (x == ("__debug__" : Str)) = false) (hcd : (x == ("__classdict__" : Str)) = false) (he : DE X W e fe) (hp : plainE e = true) (hpos : (apos.endLine == cpos.line) = true) :
    DS X W (.Expr (.Call (.Attribute (.Name x p) "extend" apos) [e] [] cpos) pos) [] (fun ρ => match (ρ[i]?).join with
      | some (.lst _) => (fe ρ).bind fun r ρ => extF i r ρ
      | _ => .stuck) := by
  obtain ⟨t, pt, r⟩ := he
  refine ⟨_, ps_expr (pe_bm PySem.F.plainAttrs_list PySem.F.slot_list_extend PySem.F.type_list_extend mt_extend (pe_var hN hv hd hcd) (pa_cons pt pa_nil (star_plain hp _ _)) rfl (by rw [star_plain hp]; rfl) hpos (star_plain hp _ _) rfl) rfl, fun D σ H ρ fr hl hR hW => ?_⟩
  cases q : (ρ[i]?).join with
  | none => simp only [q] at hW; exact hW.elim
  | some c =>
    cases c with
    | lst xs =>
      simp only [q] at hW
      obtain ⟨G, g⟩ := hR
      obtain ⟨a, vs, hv, ha, _, _⟩ := slot_lst g hl q
      refine ⟨.ref a, hv, .inl ⟨rfl, vs, .inl (.inl ha)⟩, ?_⟩
      refine r σ H ρ fr _ hl ⟨G, g⟩ (hW.bind.mono fun rx ρ1 l1 hW1 y H1 hR1 sy => ?_)
      unfold extF at hW1
      split at hW1
      · rename_i ys xs' q2
        split at hW1
        · rename_i hlim
          obtain ⟨G2, g2⟩ := hR1
          have g2 : RepG X.K G2 H1 ((some y, some (.lst ys)) :: (σ.zip ρ1 ++ fr)) := g2
          obtain ⟨z, zs, rfl, hz, qz, _⟩ := g2.lst
          obtain ⟨b, ws, hv2, hb, qw, wr⟩ := slot_lst (fr := (some (.ref z), some (.lst ys)) :: fr) (g2.perm List.perm_middle.symm) l1.symm q2
          have eab : a = b := by
            have := hv.symm.trans hv2
            simpa using this
          subst eab
          refine ⟨a, z, ws, zs, rfl, rfl, hb, hz, by rw [qw.len, qz.len]; exact lim_line hlim, ?_⟩
          have g3 := wr (ws ++ zs) (xs' ++ ys) (qw.app qz)
          exact hW1 σ _ (Agree.refl _ _) (by simp [l1]) ⟨G2, (g3.perm List.perm_middle).tail⟩
        · exact hW1.elim
      · exact hW1.elim
    | _ => simp only [q] at hW; exact hW.elim
theorem de_popAt {i : Nat} {x : Str} {p apos cpos : Pos} (hN : X.N[i]? = some x) (hv : Vis X.env.scope x) (hd : (x == ("__debug__" : Str)) = false) (hcd : (x == ("__classdict__" : Str)) = false) (he : DE X W e fe) (hp : plainE e = true) (hpos : (apos.endLine == cpos.line) = true) :
    DE X W (.Call (.Attribute (.Name x p) "pop" apos) [e] [] cpos) (fun ρ => match (ρ[i]?).join with
      | some (.lst _) => (fe ρ).bind fun r ρ => popAtF i r ρ
      | _ => .stuck) := by
  obtain ⟨t, pt, r⟩ := he
  refine ⟨_, pe_bm PySem.F.plainAttrs_list PySem.F.slot_list_pop PySem.F.type_list_pop mt_popAt (pe_var hN hv hd hcd) (pa_cons pt pa_nil (star_plain hp _ _)) rfl (by rw [star_plain hp]; rfl) hpos (star_plain hp _ _) rfl, fun σ H ρ fr Q hl hR hW => ?_⟩
  cases q : (ρ[i]?).join with
  | none => simp only [q] at hW; exact hW.elim
  | some c =>
    cases c with
    | lst xs =>
      simp only [q] at hW
      obtain ⟨G, g⟩ := hR
      obtain ⟨a, vs, hv, ha, _, _⟩ := slot_lst g hl q
      refine ⟨.ref a, hv, .inl ⟨rfl, vs, .inl (.inl ha)⟩, ?_⟩
      refine r σ H ρ fr _ hl ⟨G, g⟩ (hW.bind.mono fun rx ρ1 l1 hW1 y H1 hR1 sy => ?_)
      unfold popAtF at hW1
      split at hW1
      · rename_i k ys q1 q2
        split at hW1
        · rename_i hk
          split at hW1
          · rename_i d hd
            obtain ⟨G2, g2⟩ := hR1
            have vk := (g2.view l1.symm sy q1).int
            obtain ⟨b, ws, hv2, hb, qw, wr⟩ := slot_lst (g2.tails _) l1.symm q2
            have eab : a = b := by
              have := hv.symm.trans hv2
              simpa using this
            subst eab
            obtain ⟨z, hz, dz⟩ := qw.get hd
            have hkk : k < 2 ^ 63 := by
              have := hk.2.2
              have hl : (lim : Int) < 2 ^ 63 := by decide
              omega
            refine ⟨a, ws, k, k.toNat, z, rfl, by rw [vk], hb, by omega, hkk, ?_, hz, ?_⟩
            · rw [qw.len]
              unfold seqIndex?
              have h0 : ¬ k < 0 := by omega
              simp only [if_neg h0]
              exact if_pos (by rw [decide_eq_true hk.1, decide_eq_true hk.2.1]; rfl)
            · have g3 := wr (ws.eraseIdx k.toNat) (ys.eraseIdx k.toNat) (qw.erase _)
              exact hW1 (by simp [l1]) z _ ⟨G2, g3.add dz⟩ trivial
          · exact hW1.elim
        · exact hW1.elim
      · exact hW1.elim
    | _ => simp only [q] at hW; exact hW.elim
theorem de_popL {i : Nat} {x : Str} {p apos cpos : Pos} (hN : X.N[i]? = some x) (hv : Vis X.env.scope x) (hd : (x == ("__debug__" : Str)) = false) (hcd : (x == ("__classdict__" : Str)) = false) (hpos : (apos.endLine == cpos.line) = true) :
    DE X W (.Call (.Attribute (.Name x p) "pop" apos) [] [] cpos) (evE T (.popL i)) := by
  refine ⟨_, pe_bm0 PySem.F.plainAttrs_list PySem.F.slot_list_pop PySem.F.type_list_pop mt_pop (pe_var hN hv hd hcd) rfl hpos, fun σ H ρ fr Q hl hR hW => ?_⟩
  unfold evE at hW
  cases q : (ρ[i]?).join with
  | none => simp only [q] at hW; exact hW.elim
  | some c =>
    cases c with
    | lst xs =>
      simp only [q] at hW
      cases e : xs.getLast? with
      | none => simp only [e] at hW; exact hW.elim
      | some d =>
        simp only [e] at hW
        obtain ⟨G, g⟩ := hR
        obtain ⟨a, vs, hv, ha, qv, wr⟩ := slot_lst g hl q
        rw [List.getLast?_eq_getElem?] at e
        obtain ⟨z, hz, dz⟩ := qv.get e
        refine ⟨.ref a, hv, .inl ⟨rfl, vs, .inl (.inl ha)⟩, a, vs, z, rfl, rfl, ha, by rw [qv.len]; exact hz, ?_⟩
        exact hW (by simp [hl]) z _ ⟨G, (wr _ _ qv.dropLast).add dz⟩ trivial
    | _ => simp only [q] at hW; exact hW.elim
theorem ds_setIx {i : Nat} {x : Str} {p sp : Pos} (hN : X.N[i]? = some x) (hv : Vis X.env.scope x) (hd : (x == ("__debug__" : Str)) = false) (hcd : (x == ("__classdict__" : Str)) = false) (he : DE X W e fe) (hk : DE X W k fk) (hns : noSlice k = true)
    (hsw : swapsWithSole [.Subscript (.Name x p) k sp] e pos.line X.env = pure false) :
    DS X W (.Assign [.Subscript (.Name x p) k sp] e pos) [] (fun ρ => (fe ρ).bind fun r ρ => (Rs.ofOpt (frz ρ r) ρ).bind fun p _ => match (p.2[i]?).join with
      | some (.lst _) => (fk p.2).bind fun q ρ => setIxF i p.1 q ρ
      | _ => .stuck) := by
  obtain ⟨t, pt, r⟩ := he
  obtain ⟨tk, pk, rk⟩ := hk
  have hasg : ∀ (v : Value), PySem.assign (.Subscript (.Name x p) k sp) X.env v = (do
      let ov ← holding [v] (eval (.Name x p) X.env)
      let iv ← holding [v, ov] (eval k X.env)
      standAt sp
      holding [v, ov, iv] (setItem ov iv v)
      release [v, ov, iv] []) := fun v => by cases k <;> first | rfl | cases hns
  refine ⟨_, ps_asg pt (pg_sub (pe_var hN hv hd hcd) pk set_list hasg) hsw rfl rfl, fun D σ H ρ fr hl hR hW => ?_⟩
  refine r σ H ρ fr _ hl hR (hW.bind.mono fun rx ρ1 l1 hW1 y H1 hR1 sy => ?_)
  cases ef : frz ρ1 rx with
  | none => rw [ef] at hW1; exact hW1.elim
  | some pr =>
    obtain ⟨d, ρ2⟩ := pr
    rw [ef] at hW1
    obtain ⟨h2, l2⟩ := hR1.frz l1.symm sy ef
    replace hW1 : WS X.K W [] σ fr (match (ρ2[i]?).join with | some (.lst _) => (fk ρ2).bind fun q ρ => setIxF i d q ρ | _ => .stuck) D := hW1
    cases q0 : (ρ2[i]?).join with
    | none => simp only [q0] at hW1; exact hW1.elim
    | some c0 =>
      cases c0 with
      | lst xs0 =>
        simp only [q0] at hW1
        obtain ⟨G2, g2⟩ := h2
        obtain ⟨a, vs, hva, ha, _, _⟩ := slot_lst g2.tail (l1.symm.trans l2.symm) q0
        refine ⟨.ref a, hva, ?_⟩
        refine rk σ H1 ρ2 ((some y, some (.imm d)) :: fr) _ (l1.symm.trans l2.symm) ⟨G2, g2.perm List.perm_middle.symm⟩ ((hW1.bind.frame [(some y, some (.imm d))]).mono fun rq ρ3 l3 hW2 z H2 hR2 sz => ?_)
        unfold setIxF at hW2
        split at hW2
        · rename_i j xs e1 e2
          obtain ⟨G3, g3⟩ := hR2
          have vz := (g3.view l3.symm sz e1).int
          obtain ⟨b, ws, hvb, hb, qw, wr⟩ := slot_lst (g3.tails _) l3.symm e2
          have eab : a = b := by
            have := hva.symm.trans hvb
            simpa using this
          subst eab
          cases e3 : ixN xs.length j with
          | none => rw [e3] at hW2; exact hW2.elim
          | some n =>
            rw [e3] at hW2
            refine ⟨a, ws, j, n, rfl, vz, hb, by rw [qw.len]; exact e3, ?_⟩
            have dy : Dq X.K G3 y d := (((g3.tails _).perm List.perm_middle) : RepG X.K G3 H2 ((some y, some (.imm d)) :: (σ.zip ρ3 ++ fr))).imm
            have g4 := wr (ws.set n y) (xs.set n d) (qw.set dy n)
            exact hW2 σ _ (Agree.refl _ _) (by simp [l3]) ⟨G3, (g4.perm List.perm_middle).tail⟩
        · exact hW2.elim
      | _ => simp only [q0] at hW1; exact hW1.elim
/-- x = [..], the name a local -/
theorem ds_setLc {i : Nat} {x : Str} {py : Pos} {elt tg iter : Expr} {ifs : List Expr} {scope : Scope} {own : List (Str × Nat)} {p2 : Pos} {fi : Rho → Rs (List PyData)} {t : Tg} {ft : Rho → Rs Bool} {fe : Rho → Rs RV}
    (hc : X.calm = true) (hN : X.N.Nodup) (hx : X.N[i]? = some x) (hxl : X.env.scope.names.lookup x = some .local) (hsw : swapsWith (.ListComp elt [⟨tg, iter, ifs, 0⟩] scope p2) (some (.Name x py)) pos.line X.env = pure true) (hi : DI X W tg iter fi) (ok : BlkOk X.N X.env.scope scope own)
    (hg : ∀ (s : Shared) (H : Hp) (C : Addr) (cl : List (Str × Addr)) (fp : List Addr), DG (X.blk s H scope (compEnvC scope cl C X.env) fp) tg t)
    (ht : ∀ (s : Shared) (H : Hp) (C : Addr) (cl : List (Str × Addr)) (fp : List Addr), DTs (X.blk s H scope (compEnvC scope cl C X.env) fp) W0 ifs ft)
    (he : ∀ (s : Shared) (H : Hp) (C : Addr) (cl : List (Str × Addr)) (fp : List Addr), DE (X.blk s H scope (compEnvC scope cl C X.env) fp) W0 elt fe)
    (hs : ∀ x, foldedSetIterable iter X.env x = pure x) (hsub : ∀ i ∈ tgS t, i ∈ own.map (·.2)) (nd : (own.map (·.2)).Nodup) :
    DS X W (.Assign [.Name x py] (.ListComp elt [⟨tg, iter, ifs, 0⟩] scope p2) pos) [i] (fun ρ => (compF fi t ft fe (own.map (·.2)) ρ).bind (keepF i)) := by
  obtain ⟨wi, g, tt, te, p1, p2', p3, p4, r⟩ := comp_parts (pos := p2) hc hN hi ok hg ht he hs hsub nd
  refine ⟨_, ps_setLc hc hN hx hxl hsw p1 ok p2' p3 p4 hs, fun D σ H ρ fr hl hR hW => ?_⟩
  exact r σ H ρ fr _ hl hR (hW.bind.mono fun rx ρ1 l1 hW1 x H1 hR1 sx => put_use l1 hR1 sx hW1)
end
end BP
end

section
/-! Bp12: +=, for, while. -/
namespace BP
open PySem PySem.Spec PyProof.Rows L2
section
variable {X : Cx} {W : Nat → Hp → Prop} {s : Stmt} {ss : List Stmt} {st st' : List Nat} {e a b k tg iter : Expr} {fe fk : Rho → Rs RV} {f g : Rho → Rs Fl} {pos : Pos} {T : Tb}
theorem ds_aug {i : Nat} {x : Str} {p : Pos} (hN : X.N.Nodup) (hx : X.N[i]? = some x) (hl : Loc X.env.scope x) (hf : X.fn x = true ∨ X.env.scope.names.lookup x = some .local) (he : DE X W e fe) :
    DS X W (.AugAssign (.Name x p) .Add e pos) [i] (fun ρ => match (ρ[i]?).join with
      | some (.imm (.int z)) => (fe ρ).bind (augF i z)
      | _ => .stuck) := by
  obtain ⟨t, pt, r⟩ := he
  refine ⟨_, ps_aug hN hx hl pt ip_add hf, fun D σ H ρ fr hl hR hW => ?_⟩
  cases q : (ρ[i]?).join with
  | none => simp only [q] at hW; exact hW.elim
  | some c =>
    cases c with
    | imm d =>
      cases d with
      | int z =>
        simp only [q] at hW
        obtain ⟨G, g⟩ := hR
        obtain ⟨v, hv, g1⟩ := g.out hl q
        have ez : v = .int z := View.int (K := X.K) (G := G) (H := H) (.inl g1.imm)
        subst ez
        refine ⟨.int z, hv, ?_⟩
        refine r σ H ρ fr _ hl ⟨G, g⟩ (hW.bind.mono fun rx ρ1 l1 hW1 y H1 hR1 sy => ?_)
        unfold augF at hW1
        cases ea : dat ρ1 rx with
        | none => rw [ea] at hW1; exact hW1.elim
        | some d =>
          rw [ea] at hW1
          cases d with
          | int w =>
            obtain ⟨G2, g2⟩ := hR1
            refine ⟨z, w, rfl, (g2.view l1.symm sy ea).int, ?_⟩
            exact hW1 _ _ (Agree.set i _ σ) (by simp [l1]) ⟨G2, ((g2.tails _).add (.int _)).put l1.symm⟩
          | _ => exact hW1.elim
      | _ => simp only [q] at hW; exact hW.elim
    | _ => simp only [q] at hW; exact hW.elim
theorem WS.frame {K : PySem.W.Frag} {σ : L2.St} {fr : List Ent} {o : Rs Fl} {D : Ends} (es : List Ent) (h : WS K W st σ fr o D) : WS K W st σ (es ++ fr) o D := by
  cases o with
  | ok f ρ => cases f with
    | next => exact fun σ' H' a l r => h σ' H' a l r.mid
    | ret c => exact fun v σ' H' a l r => h v σ' H' a l (Rep.mid (A := (some v, some c) :: σ'.zip ρ) r)
  | exc e ρ => exact fun σ' H' a l r => h σ' H' a l r.mid
  | stuck => exact h
def forB (t : Tg) (g : Rho → Rs Fl) (d : PyData) (ρ : Rho) : Rs Fl := (Rs.ofOpt (bindT t d ρ) ρ).bind fun ρ _ => g ρ
theorem ds_for {t : Tg} {fi : Rho → Rs (List PyData)} (hp : PassesOwn (model X.prog X.w) X.A X.env X.xe) (hc : X.calm = true) (hi : DI X W tg iter fi) (hg : DG X tg t) (hb : DSs X W ss st g) (hs : ∀ x, foldedSetIterable iter X.env x = pure x) :
    DS X W (.For tg iter ss [] pos) (tgS t ++ st) (fun ρ => (fi ρ).bind fun items ρ => forL (forB t g) items ρ) := by
  obtain ⟨wi, pi, ri⟩ := hi
  obtain ⟨gg, pg, rg⟩ := hg
  obtain ⟨tb, pb, rb⟩ := hb
  refine ⟨_, ps_for hp hc pi pg pb hs, fun D σ H ρ fr hl hR hW => ?_⟩
  refine ri σ H ρ fr _ hl hR (hW.bind.mono fun items ρ1 l1 hW1 J H1 es hR1 wk => ?_)
  refine ⟨fun i m σ' H' => i + m = items.length ∧ ∃ ρ', WS X.K W (tgS t ++ st) σ fr (forL (forB t g) (items.drop i) ρ') D ∧ Agree (tgS t ++ st) σ σ' ∧ ρ'.length = σ'.length ∧ Rep X.K H' (es ++ (σ'.zip ρ' ++ fr)),
    ⟨items.length, by omega, ρ1, by simpa using hW1, Agree.refl _ _, l1, hR1⟩, ?_⟩
  rintro i m σ2 H2 ⟨him, ρ2, hW2, ag, l2, hR2⟩
  rcases Nat.lt_or_ge i items.length with hlt | hge
  · obtain ⟨d, hd⟩ := get_lt hlt
    have hdrop : items.drop i = d :: items.drop (i + 1) := by
      rw [List.drop_eq_getElem_cons hlt]
      congr 1
      rw [List.getElem?_eq_getElem hlt] at hd
      exact Option.some.inj hd
    rw [hdrop] at hW2
    refine .inr ⟨wk.go i H2 _ hR2 hlt, fun σ' H' => ∃ ρ', WS X.K W (tgS t ++ st) σ fr (forL (forB t g) (items.drop (i + 1)) ρ') D ∧ Agree (tgS t ++ st) σ σ' ∧ ρ'.length = σ'.length ∧ Rep X.K H' (es ++ (σ'.zip ρ' ++ fr)), fun σ' H' h => ⟨m - 1, by omega, by omega, h⟩, fun x H3 hy => ?_⟩
    have hR3 := wk.yld i H2 _ x H3 d hR2 hd hy
    have hR4 : Rep X.K H3 ((some x, some (.imm d)) :: (σ2.zip ρ2 ++ (es ++ fr))) := hR3.perm (List.Perm.cons _ (perm_rot _ _ _))
    replace hW2 : WS X.K W (tgS t ++ st) σ fr ((forB t g d ρ2).bind fun f ρ => match f with | .next => forL (forB t g) (items.drop (i + 1)) ρ | .ret c => .ok (.ret c) ρ) D := hW2
    cases eb : bindT t d ρ2 with
    | none => simp only [forB, eb] at hW2; exact hW2.elim
    | some ρ3 =>
      have e1 : forB t g d ρ2 = g ρ3 := by simp only [forB, eb]; rfl
      rw [e1] at hW2
      refine rg x d σ2 H3 ρ2 ρ3 _ _ l2.symm hR4 eb fun σ3 ag3 l3 hR5 => ?_
      refine rb _ σ3 H3 ρ3 (es ++ fr) l3.symm hR5 ?_
      have agA : Agree (tgS t ++ st) σ σ3 := (ag.trans ag3).mono fun j hj => by
        rcases List.mem_append.mp hj with h | h
        · exact h
        · exact List.mem_append_left _ h
      have agB : ∀ {σ4 : L2.St}, Agree st σ3 σ4 → Agree (tgS t ++ st) σ σ4 := fun a4 => (agA.trans a4).mono fun j hj => by
        rcases List.mem_append.mp hj with h | h
        · exact h
        · exact List.mem_append_right _ h
      cases eg : g ρ3 with
      | stuck => rw [eg] at hW2; exact hW2
      | exc c ρ4 =>
        rw [eg] at hW2
        exact fun σ4 H4 a4 l4 r4 => hW2 σ4 H4 (agB a4) l4 r4.mid
      | ok fl ρ4 =>
        rw [eg] at hW2
        cases fl with
        | next => exact fun σ4 H4 a4 l4 r4 => ⟨ρ4, hW2, agB a4, l4, r4.rot⟩
        | ret c => exact fun v σ4 H4 a4 l4 r4 => hW2 v σ4 H4 (agB a4) l4 (Rep.mid (A := (some v, some c) :: σ4.zip ρ4) r4)
  · have hi0 : i = items.length := by omega
    subst hi0
    rw [List.drop_length] at hW2
    exact .inl ⟨wk.stop H2 _ hR2, hW2 σ2 H2 ag l2 hR2.tails⟩
/-! ### what is forgotten -/
theorem RepG.forgets {K : PySem.W.Frag} {G H : Hp} {σ : L2.St} {ρ : Rho} {fr : List Ent} (h : RepG K G H (σ.zip ρ ++ fr)) (hl : σ.length = ρ.length) : ∀ wp : List Nat, RepG K G H (σ.zip (wipeR ρ wp) ++ fr)
  | [] => h
  | i :: wp => RepG.forget (RepG.forgets h hl wp) (by rw [wipeR_len]; exact hl) i
theorem DSs.wipe (h : DSs X W ss st g) (wp : List Nat) : DSs X W ss st (fun ρ => (g ρ).bind (wipF wp)) := by
  obtain ⟨t, p, r⟩ := h
  refine ⟨t, p, fun D σ H ρ fr hl hR hW => r D σ H ρ fr hl hR ?_⟩
  replace hW : WS X.K W st σ fr ((g ρ).bind (wipF wp)) D := hW
  cases e : g ρ with
  | stuck => rw [e] at hW; exact hW
  | exc c ρ1 => rw [e] at hW; exact hW
  | ok fl ρ1 =>
    rw [e] at hW
    cases fl with
    | next =>
      intro σ' H' ag l ⟨G, hR'⟩
      exact hW σ' H' ag (by rw [wipeR_len]; exact l) ⟨G, hR'.forgets l.symm wp⟩
    | ret c =>
      intro v σ' H' ag l ⟨G, hR'⟩
      refine hW v σ' H' ag (by rw [wipeR_len]; exact l) ⟨G, ?_⟩
      have h1 : RepG X.K G H' (σ'.zip ρ1 ++ ((some v, some c) :: fr)) := hR'.perm List.perm_middle.symm
      exact (h1.forgets l.symm wp).perm List.perm_middle
/-! ### while -/
theorem whileN_mono (c : Rho → Rs Bool) (b : Rho → Rs Fl) : ∀ (n : Nat) (ρ : Rho), whileN c b n ρ ≠ .stuck → whileN c b (n + 1) ρ = whileN c b n ρ
  | 0, ρ, h => absurd rfl h
  | n + 1, ρ, h => by
    show ((c ρ).bind fun t ρ => if t then (b ρ).bind fun f ρ => (match f with | .next => whileN c b (n + 1) ρ | .ret v => .ok (.ret v) ρ) else .ok .next ρ) = ((c ρ).bind fun t ρ => if t then (b ρ).bind fun f ρ => (match f with | .next => whileN c b n ρ | .ret v => .ok (.ret v) ρ) else .ok .next ρ)
    replace h : ((c ρ).bind fun t ρ => if t then (b ρ).bind fun f ρ => (match f with | .next => whileN c b n ρ | .ret v => .ok (.ret v) ρ) else .ok .next ρ) ≠ .stuck := h
    cases hc : c ρ with
    | stuck => rfl
    | exc _ _ => rfl
    | ok t ρ1 =>
      rw [hc] at h
      cases t with
      | false => rfl
      | true =>
        simp only [Rs.ok_bind, if_true] at h ⊢
        cases hb : b ρ1 with
        | stuck => rfl
        | exc _ _ => rfl
        | ok f ρ2 =>
          rw [hb] at h
          cases f with
          | ret v => rfl
          | next => exact whileN_mono c b n ρ2 h
theorem whileN_le (c : Rho → Rs Bool) (b : Rho → Rs Fl) {n m : Nat} {ρ : Rho} (h : whileN c b n ρ ≠ .stuck) (hm : n ≤ m) : whileN c b m ρ = whileN c b n ρ := by
  induction hm with
  | refl => rfl
  | step _ ih => rw [whileN_mono c b _ ρ (by rw [ih]; exact h), ih]
theorem whileW_of {c : Rho → Rs Bool} {b : Rho → Rs Fl} {n : Nat} {ρ : Rho} (h : whileN c b n ρ ≠ .stuck) : whileW c b ρ = whileN c b n ρ := by
  have hx : ∃ n, whileN c b n ρ ≠ .stuck := ⟨n, h⟩
  unfold whileW
  rw [dif_pos hx]
  have hs := Classical.choose_spec hx
  rcases Nat.le_total n (Classical.choose hx) with q | q
  · exact whileN_le c b h q
  · exact (whileN_le c b hs q).symm
theorem whileW_ex {c : Rho → Rs Bool} {b : Rho → Rs Fl} {ρ : Rho} (h : whileW c b ρ ≠ .stuck) : ∃ n, whileN c b n ρ = whileW c b ρ := by
  by_cases hx : ∃ n, whileN c b n ρ ≠ .stuck
  · obtain ⟨n, hn⟩ := hx
    exact ⟨n, (whileW_of hn).symm⟩
  · exact absurd (by unfold whileW; rw [dif_neg hx]) h
/-- the loop's own equation -/
theorem whileW_eq (c : Rho → Rs Bool) (b : Rho → Rs Fl) (ρ : Rho) : whileW c b ρ = (c ρ).bind fun t ρ => if t then (b ρ).bind fun f ρ => (match f with
    | .next => whileW c b ρ
    | .ret v => .ok (.ret v) ρ) else .ok .next ρ := by
  have one : ∀ n, whileN c b (n + 1) ρ = (c ρ).bind fun t ρ => if t then (b ρ).bind fun f ρ => (match f with | .next => whileN c b n ρ | .ret v => .ok (.ret v) ρ) else .ok .next ρ := fun n => rfl
  cases hc : c ρ with
  | stuck =>
    by_cases hw : whileW c b ρ = .stuck
    · rw [hw]; rfl
    · obtain ⟨n, hn⟩ := whileW_ex hw
      cases n with
      | zero => exact absurd hn.symm hw
      | succ n => rw [one n, hc] at hn; exact absurd hn.symm hw
  | exc e ρ1 => rw [whileW_of (n := 1) (by rw [one 0, hc]; exact fun h => nomatch h), one 0, hc]; rfl
  | ok t ρ1 =>
    cases t with
    | false => rw [whileW_of (n := 1) (by rw [one 0, hc]; exact fun h => nomatch h), one 0, hc]; rfl
    | true =>
      cases hb : b ρ1 with
      | stuck =>
        simp only [Rs.ok_bind, if_true, hb, Rs.stuck_bind]
        by_cases hw : whileW c b ρ = .stuck
        · exact hw
        · obtain ⟨n, hn⟩ := whileW_ex hw
          cases n with
          | zero => exact absurd hn.symm hw
          | succ n =>
            rw [one n, hc] at hn
            simp only [Rs.ok_bind, if_true, hb, Rs.stuck_bind] at hn
            exact absurd hn.symm hw
      | exc e ρ2 =>
        have e1 : whileN c b 1 ρ = .exc e ρ2 := by rw [one 0, hc]; simp only [Rs.ok_bind, if_true, hb, Rs.exc_bind]
        rw [whileW_of (n := 1) (by rw [e1]; exact fun h => nomatch h), e1]
        simp only [Rs.ok_bind, if_true, hb, Rs.exc_bind]
      | ok f ρ2 =>
        cases f with
        | ret v =>
          have e1 : whileN c b 1 ρ = .ok (.ret v) ρ2 := by rw [one 0, hc]; simp only [Rs.ok_bind, if_true, hb]
          rw [whileW_of (n := 1) (by rw [e1]; exact fun h => nomatch h), e1]
          simp only [Rs.ok_bind, if_true, hb]
        | next =>
          simp only [Rs.ok_bind, if_true, hb]
          have two : ∀ n, whileN c b (n + 1) ρ = whileN c b n ρ2 := fun n => by rw [one n, hc]; simp only [Rs.ok_bind, if_true, hb]
          by_cases hw : whileW c b ρ2 = .stuck
          · rw [hw]
            by_cases hw2 : whileW c b ρ = .stuck
            · exact hw2
            · obtain ⟨n, hn⟩ := whileW_ex hw2
              cases n with
              | zero => exact absurd hn.symm hw2
              | succ n =>
                rw [two n] at hn
                have : whileN c b n ρ2 ≠ .stuck := by rw [hn]; exact hw2
                rw [whileW_of this] at hw
                exact absurd hw this
          · obtain ⟨n, hn⟩ := whileW_ex hw
            have : whileN c b (n + 1) ρ ≠ .stuck := by rw [two n, hn]; exact hw
            rw [whileW_of this, two n, hn]
theorem ds_while {c : Expr} {gc : Rho → Rs Bool} (hp : PassesOwn (model X.prog X.w) X.A X.env X.xe) (hc : DT X W c gc) (hb : DSs X W ss st g) : DS X W (.While c ss [] pos) st (fun ρ => whileW gc g ρ) := by
  obtain ⟨tc, pc, rc⟩ := hc
  obtain ⟨tb, pb, rb⟩ := hb
  refine ⟨_, ps_while hp pc pb, fun D σ H ρ fr hl hR hW => ?_⟩
  replace hW : WS X.K W st σ fr (whileW gc g ρ) D := hW
  have hns : whileW gc g ρ ≠ .stuck := fun e => by rw [e] at hW; exact hW
  obtain ⟨n, hn⟩ := whileW_ex hns
  rw [← hn] at hW
  refine ⟨fun m σ' H' => ∃ ρ', WS X.K W st σ fr (whileN gc g m ρ') D ∧ Agree st σ σ' ∧ ρ'.length = σ'.length ∧ Rep X.K H' (σ'.zip ρ' ++ fr), ⟨n, ρ, hW, Agree.refl _ _, hl.symm, hR⟩, ?_⟩
  rintro m σ1 H1 ⟨ρ1, hW1, ag, l1, hR1⟩
  cases m with
  | zero => exact hW1.elim
  | succ m =>
    have agB : ∀ {σ4 : L2.St}, Agree st σ1 σ4 → Agree st σ σ4 := fun a4 => (ag.trans a4).mono fun j hj => by
      rcases List.mem_append.mp hj with h | h <;> exact h
    replace hW1 : WS X.K W st σ fr ((gc ρ1).bind fun t ρ => if t then (g ρ).bind fun f ρ => (match f with | .next => whileN gc g m ρ | .ret v => .ok (.ret v) ρ) else .ok .next ρ) D := hW1
    refine rc σ1 H1 ρ1 fr _ l1.symm hR1 ?_
    cases ec : gc ρ1 with
    | stuck => rw [ec] at hW1; exact hW1
    | exc e ρ2 =>
      rw [ec] at hW1
      exact fun l2 H2 r2 => hW1 σ1 H2 ag l2 r2
    | ok t ρ2 =>
      rw [ec] at hW1
      intro l2 H2 hR2
      cases t with
      | false => exact hW1 σ1 H2 ag l2 hR2
      | true =>
        refine ⟨fun σ' H' => ∃ ρ', WS X.K W st σ fr (whileN gc g m ρ') D ∧ Agree st σ σ' ∧ ρ'.length = σ'.length ∧ Rep X.K H' (σ'.zip ρ' ++ fr), fun σ' H' h => ⟨m, Nat.lt_succ_self _, h⟩, ?_⟩
        refine rb _ σ1 H2 ρ2 fr l2.symm hR2 ?_
        replace hW1 : WS X.K W st σ fr ((g ρ2).bind fun f ρ => (match f with | .next => whileN gc g m ρ | .ret v => .ok (.ret v) ρ)) D := hW1
        cases eg : g ρ2 with
        | stuck => rw [eg] at hW1; exact hW1
        | exc e ρ3 =>
          rw [eg] at hW1
          exact fun σ4 H4 a4 l4 r4 => hW1 σ4 H4 (agB a4) l4 r4
        | ok fl ρ3 =>
          rw [eg] at hW1
          cases fl with
          | next => exact fun σ4 H4 a4 l4 r4 => ⟨ρ3, hW1, agB a4, l4, r4⟩
          | ret v => exact fun v σ4 H4 a4 l4 r4 => hW1 v σ4 H4 (agB a4) l4 r4
end
end BP
end

section
/-! Bp13: chains of comparisons, a conditional as a test. -/
namespace BP
open PySem PySem.Spec PyProof.Rows L2
section
variable {X : Cx} {W : Nat → Hp → Prop} {e a b c : Expr} {f fa fb fc : Rho → Rs RV} {pos : Pos}
def chainF (o1 o2 : Cop) (fa fb fc : Rho → Rs RV) (ρ : Rho) : Rs RV :=
  (fa ρ).bind fun x ρ => (fb ρ).bind fun y ρ => (op2 (fun u v => vb (cmpop o1 u v)) x y ρ).bind fun z ρ => (b2 z ρ).bind fun k ρ =>
      if k then (fc ρ).bind fun w ρ => op2 (fun u v => vb (cmpop o2 u v)) y w ρ else .ok (.val (.imm (.bool false))) ρ
theorem made_bool {K : PySem.W.Frag} {G H H' : Hp} {v : V} {k : Bool} (m : Made K G H v (.imm (.bool k)) H') : v = .bl k ∧ H' = H := by
  rcases m with ⟨rfl, d, e, q⟩ | ⟨p, vs, ds, _, _, _, ⟨e, _⟩ | ⟨e, _⟩⟩
  · cases e; cases q; exact ⟨rfl, rfl⟩
  · cases e
  · cases e
theorem chain_use {op op' : CmpOp} {Q : VK} {r r' : R2} {ta tb tc : TE} {σ : L2.St} {H : Hp} {ρ : Rho} {fr : List Ent} (hu : X.A.units + 65 < cLine)
    (rr : ∀ G H x y a b c Q, Same G H → View X.K G H x a → View X.K G H y b → vb (cmpop (copOf op) a b) = some c → (∀ v H', Made X.K G H v c H' → Q v H') → r x y H Q)
    (rr' : ∀ G H x y a b c Q, Same G H → View X.K G H x a → View X.K G H y b → vb (cmpop (copOf op') a b) = some c → (∀ v H', Made X.K G H v c H' → Q v H') → r' x y H Q)
    (ra : ∀ σ H ρ fr Q, σ.length = ρ.length → Rep X.K H (σ.zip ρ ++ fr) → Wish X.K W σ fr (fa ρ) (fun r ρ' => ∀ v H', Rep X.K H' (ent v r ++ (σ.zip ρ' ++ fr)) → side σ v r → Q v H') → ta σ H Q)
    (rb : ∀ σ H ρ fr Q, σ.length = ρ.length → Rep X.K H (σ.zip ρ ++ fr) → Wish X.K W σ fr (fb ρ) (fun r ρ' => ∀ v H', Rep X.K H' (ent v r ++ (σ.zip ρ' ++ fr)) → side σ v r → Q v H') → tb σ H Q)
    (rc : ∀ σ H ρ fr Q, σ.length = ρ.length → Rep X.K H (σ.zip ρ ++ fr) → Wish X.K W σ fr (fc ρ) (fun r ρ' => ∀ v H', Rep X.K H' (ent v r ++ (σ.zip ρ' ++ fr)) → side σ v r → Q v H') → tc σ H Q)
    (hl : σ.length = ρ.length) (hR : Rep X.K H (σ.zip ρ ++ fr)) (hW : Wish X.K W σ fr (chainF (copOf op) (copOf op') fa fb fc ρ) (fun r ρ' => ∀ v H', Rep X.K H' (ent v r ++ (σ.zip ρ' ++ fr)) → side σ v r → Q v H')) : tChain r r' ta tb tc σ H Q := by
  refine ra σ H ρ fr _ hl hR (hW.bind.mono fun rx ρ1 l1 hW1 x H1 hR1 sx => ?_)
  refine rb σ H1 ρ1 (ent x rx ++ fr) _ l1.symm hR1.rot ((hW1.bind.frame _).mono fun ry ρ2 l2 hW2 y H2 hR2 sy => ?_)
  have hR3 : Rep X.K H2 (σ.zip ρ2 ++ (ent y ry ++ fr)) := by
    have : Rep X.K H2 (ent x rx ++ (ent y ry ++ (σ.zip ρ2 ++ fr))) := hR2.perm ((List.Perm.append_left _ (perm_rot _ _ _)).trans (perm_rot _ _ _))
    exact this.tails.rot
  -- the first comparison
  have hWa : Wish X.K W σ fr (op2 (fun u v => vb (cmpop (copOf op) u v)) rx ry ρ2) (fun rz ρ' => ∀ v H', Rep X.K H' (ent v rz ++ (σ.zip ρ' ++ fr)) → side σ v rz → H' = H2 → ∃ k, v = .bl k ∧ if k = true then tc σ H' (fun w H4 => r' y w H4 Q) else Q (.bl false) H') := by
    have hW3 := hW2.bind
    unfold op2 at hW3 ⊢
    cases ea : dat ρ2 rx with
    | none => rw [ea] at hW3; exact hW3.elim
    | some p =>
      cases eb : dat ρ2 ry with
      | none => rw [ea, eb] at hW3; exact hW3.elim
      | some q =>
        rw [ea, eb] at hW3
        have hW4 : Wish X.K W σ fr ((Rs.ofOpt (vb (cmpop (copOf op) p q)) ρ2).bind fun c ρ => Rs.ok (RV.val c) ρ) _ := hW3
        show Wish X.K W σ fr ((Rs.ofOpt (vb (cmpop (copOf op) p q)) ρ2).bind fun c ρ => Rs.ok (RV.val c) ρ) _
        cases ec : vb (cmpop (copOf op) p q) with
        | none => rw [ec] at hW4; exact hW4.elim
        | some cc =>
          obtain ⟨k, _, rfl⟩ := vb_some ec
          rw [ec] at hW4
          intro _ v H' hRz _ hH
          subst hH
          have hv : v = .bl k := by
            obtain ⟨G, g⟩ := hRz
            exact View.bool (K := X.K) (G := G) (H := H') (.inl g.imm)
          refine ⟨k, hv, ?_⟩
          have hW5 := hW4 l2
          have hW6 : Wish X.K W σ fr (if k then (fc ρ2).bind fun w ρ => op2 (fun u v => vb (cmpop (copOf op') u v)) ry w ρ else .ok (.val (.imm (.bool false))) ρ2) _ := hW5
          cases k with
          | false => exact hW6 l2 _ _ (hRz.tails.val fun G => .bl _) trivial
          | true =>
            refine rc σ H' ρ2 (ent y ry ++ fr) _ l2.symm hR3 ((hW6.bind.frame _).mono fun rw_ ρ3 l3 hW7 w H4 hR4 sw => ?_)
            obtain ⟨G, p, q, c, s, va, vb, ec, kk⟩ := op2_use l3 hR4 sy sw hW7
            exact rr' G H4 y w p q c Q s va vb ec kk
  have hWa' : Wish X.K W σ fr (op2 (fun u v => vb (cmpop (copOf op) u v)) rx ry ρ2) (fun rz ρ' => ∀ v H', Rep X.K H' (ent v rz ++ (σ.zip ρ' ++ fr)) → side σ v rz → (H' = H2 → ∃ k, v = .bl k ∧ if k = true then tc σ H' (fun w H4 => r' y w H4 Q) else Q (.bl false) H')) := hWa
  obtain ⟨G, p, q, cc, s, va, vb, ec, kk⟩ := op2_use l2 hR2 sx sy hWa'
  refine rr G H2 x y p q cc _ s va vb ec fun v H' m => ?_
  obtain ⟨k, hk, rfl⟩ := vb_some ec
  obtain ⟨rfl, rfl⟩ := made_bool m
  exact kk _ _ m rfl
theorem de_chain {op op' : CmpOp} (hu : X.A.units + 65 < cLine) (ha : DE X W a fa) (hb : DE X W b fb) (hc : DE X W c fc) (hm : behindInMarks op' c = false) : DE X W (.Compare a [op, op'] [b, c] pos) (chainF (copOf op) (copOf op') fa fb fc) := by
  obtain ⟨ta, pa, ra⟩ := ha
  obtain ⟨tb, pb, rb⟩ := hb
  obtain ⟨tc, pc, rc⟩ := hc
  obtain ⟨r, pr, rr⟩ := opd_cmp hu op
  obtain ⟨r', pr', rr'⟩ := opd_cmp hu op'
  exact ⟨_, pe_chain pr pr' pa pb pc hm, fun σ H ρ fr Q hl hR hW => chain_use hu rr rr' ra rb rc hl hR hW⟩
theorem dt_chain {op op' : CmpOp} (hu : X.A.units + 65 < cLine) (ha : DE X W a fa) (hb : DE X W b fb) (hc : DE X W c fc) (hm : behindInMarks op' c = false) : DT X W (.Compare a [op, op'] [b, c] pos) (fun ρ => (chainF (copOf op) (copOf op') fa fb fc ρ).bind b2) := by
  obtain ⟨ta, pa, ra⟩ := ha
  obtain ⟨tb, pb, rb⟩ := hb
  obtain ⟨tc, pc, rc⟩ := hc
  obtain ⟨r, pr, rr⟩ := opd_cmp hu op
  obtain ⟨r', pr', rr'⟩ := opd_cmp hu op'
  refine ⟨_, pt_chain pr pr' pa pb pc hm, fun σ H ρ fr Q hl hR hW => ?_⟩
  refine chain_use hu rr rr' ra rb rc hl hR (hW.bind.mono fun rz ρ3 l3 hW4 v H' hR3 sz => ?_)
  obtain ⟨k, e, q⟩ := b2_use l3 hR3 sz hW4
  exact ⟨k, e, q H' hR3.tails⟩
theorem pt_ifE {tc ta tb : TT} (hc : PT X c tc) (ha : PT X a ta) (hb : PT X b tb) : PT X (.IfExp c a b pos) (fun σ H Q => tc σ H fun k H1 => if k = true then ta σ H1 Q else tb σ H1 Q) := by
  refine ⟨fun pins s σ H Q I h => ?_⟩
  show wpAny _ _ (PySem.isTrue c X.env (eval c X.env) >>= fun k => if k = true then PySem.isTrue a X.env (eval a X.env) else PySem.isTrue b X.env (eval b X.env)) _ _ s
  refine wpAny_bind (thn (hc.run pins s σ H _ I h) fun k s1 ⟨H1, I1, q1⟩ => ?_)
  cases k with
  | true => exact ha.run pins s1 σ H1 Q I1 q1
  | false => exact hb.run pins s1 σ H1 Q I1 q1
theorem dt_ite {gc ga gb : Rho → Rs Bool} (hc : DT X W c gc) (ha : DT X W a ga) (hb : DT X W b gb) : DT X W (.IfExp c a b pos) (fun ρ => (gc ρ).bind fun k ρ => if k then ga ρ else gb ρ) := by
  obtain ⟨tc, pc, rc⟩ := hc
  obtain ⟨ta, pa, ra⟩ := ha
  obtain ⟨tb, pb, rb⟩ := hb
  refine ⟨_, pt_ifE pc pa pb, fun σ H ρ fr Q hl hR hW => ?_⟩
  refine rc σ H ρ fr _ hl hR (hW.bind.mono fun k ρ1 l1 hW1 H1 hR1 => ?_)
  cases k with
  | true => exact ra σ H1 ρ1 fr _ l1.symm hR1 hW1
  | false => exact rb σ H1 ρ1 fr _ l1.symm hR1 hW1
end
end BP
end

section
/-! Bs1: sorted, of data that are alike. -/
namespace BP
open PySem PySem.Spec PyProof.Rows L2 PySem.W
section
variable {prog : Program} {w : World} {A : Around} {E : Value → Shared → Prop} {s : Shared}
/-- an iterable that is laid out into a new list -/
abbrev laidH (h : Heap) (us : List Value) : Heap := (h.push (seqObj "list" #[] 0)).update h.objs.size (Obj.mapSeq (· ++ us.toArray))
theorem collect_sq {T : String} {a : Addr} {o : Obj} {us : List Value} {n : Nat} {Q : List Value → Shared → Prop} (hT : T = "list" ∨ T = "tuple") (ho : s.heap.get? a = some o) (hc : o.cls = .type T) (hd : o.data = .seq us.toArray n) (hz : us.length ≤ sizeLine) (h : Q us { s with heap := laidH s.heap us }) : wpAny (model prog w) A (collect (.ref a)) Q E s := by
  unfold collect
  refine wpAny_bind (wpAny_runValue (codeAny_builtin entry_proto_collect' ?_))
  show wpAny (model prog w) _ (newList [] >>= fun z => again (.builtin "list.__iadd__" ⟨[z, .ref a], []⟩)) _ _ s
  refine wpAny_bind (wpAny_newList (wpAny_pure ⟨Code.quiet_builtin _ (by decide +kernel), codeAny_builtin entry_list_iadd' ?_⟩))
  show wpAny (model prog w) _ (Builtin.List.listExtendWith (.ref s.heap.objs.size) (.ref a) (.ref s.heap.objs.size)) _ _ _
  unfold Builtin.List.listExtendWith
  have ho2 : (s.heap.push (seqObj "list" #[] 0)).get? a = some o := Heap.get?_push_of_some _ ho
  refine wpAny_bind (wpAny_typeOf (T := T) ⟨o, ho2, hc⟩ ?_)
  have t1 : (Value.type "list" == Value.type "list") = true := by rfl
  have t2 : (Value.type "tuple" == Value.type "tuple") = true := by rfl
  rw [if_pos (by rcases hT with rfl | rfl <;> simp [t1, t2])]
  refine wpAny_bind (listItems_at ho2 hd ?_)
  refine wpAny_bind (listItems_at (n := 0) (xs := #[]) (Heap.get?_push_size _ rfl) rfl ?_)
  rw [if_neg (by simp)]
  have e0 : ((#[] : Array Value) ++ us.toArray).size = us.length := by simp
  refine wpAny_bind (listUpdate_at (n := 0) (xs := #[]) (Heap.get?_push_size _ rfl) rfl ?_ (Nat.zero_le _) (by show ((#[] : Array Value) ++ us.toArray).size ≤ _; rw [e0]; exact Nat.le_succ_of_le hz))
  refine wpAny_pure ?_
  show wpAny (model prog w) A (load s.heap.objs.size >>= fun o => match o.data with | .seq xs _ => pure xs.toList | _ => unsupported "internal:collect") Q E { s with heap := laidH s.heap us }
  refine wpAny_bind (wpAny_load (get?_update_seq (Heap.get?_push_size _ rfl) _) ?_)
  have e : ((#[] : Array Value) ++ us.toArray).toList = us := by simp
  show wpAny _ _ (pure ((#[] : Array Value) ++ us.toArray).toList) Q E _
  rw [e]
  exact wpAny_pure h
/-- sorted of what is laid out so, by a sort of the new list -/
theorem sorted_sq {a : Addr} {us : List Value} {κ : PyProof.Rows.KeyKind} {Q : Value → Shared → Prop} (hcol : ∀ (A : Around) (E : Value → Shared → Prop) (R : List Value → Shared → Prop), R us { s with heap := laidH s.heap us } → wpAny (model prog w) A (collect (.ref a)) R E s) (hz : us.length ≤ sizeLine)
    (S : SortsAt prog w A.in1.in1 { s with heap := sortingHeap (copyHeap s.heap us) (s.heap.objs.size + 1) us } κ us) (h : Q (.ref (s.heap.objs.size + 1)) { s with heap := sortedAll s.heap us (sortVals κ false us us).toArray }) : wpAny (model prog w) A (call (.builtin "sorted") [.ref a]) Q E s := by
  refine PySem.Calls.call_function_entry kind_sorted plain_sorted entry_sorted (args_sorted1 _) ?_
  unfold Builtin.«sorted»
  refine wpAny_bind (m := checkCount "sorted" 1 1 _) (wpAny_pure ?_)
  refine wpAny_bind (hcol _ _ _ ?_)
  refine wpAny_bind (wpAny_newList ?_ hz)
  have e1 : (laidH s.heap us).objs.size = s.heap.objs.size + 1 := by unfold laidH; rw [Heap.size_update, size_push']
  show wpAny _ _ _ _ _ { s with heap := copyHeap s.heap us }
  rw [e1]
  refine wpAny_bind (wpAny_holding (wpAny_call_entry slot_list_sort ⟨_, copyHeap_at s.heap us, rfl⟩ entry_list_sort ?_ (args_list_sort _)))
  refine list_sort_vals (s := { s with heap := copyHeap s.heap us }) (copyHeap_at s.heap us) S hz ⟨_, rfl, ?_⟩
  exact wpAny_pure ⟨_, rfl, h⟩
/-! ### tuples of which some are empty -/
theorem lt_tup1 {da db : List PyData} {a b : Value} {as bs : List Addr} {Q : Bool → Shared → Prop} (ra : Reads s.heap a (.tuple da) as) (rb : Reads s.heap b (.tuple db) bs) (h : alike (.tuple da) (.tuple db) = true) (hu : A.units + min (PyData.tuple da).depth (PyData.tuple db).depth < cLine) (hq : Q (dataLt (.tuple da) (.tuple db)) s) :
    wpAny (model prog w) A (oneLt' true a b) Q E s := by
  have hal : alikeAll da db = true := by simpa [alike] using h
  cases ra with
  | @tuple l o us n _ as1 h1 h2 h3 h4 =>
    cases rb with
    | @tuple l2 o2 us2 n2 _ bs1 k1 k2 k3 k4 =>
      have n1 : us.size = da.length := by simpa using SeqAt.ReadsAll.length _ _ _ h4
      have n2' : us2.size = db.length := by simpa using SeqAt.ReadsAll.length _ _ _ k4
      rw [dataLt_tuple, ← firstLt_toks da db hal, ← n1, ← n2'] at hq
      rw [oneLt'_eq]
      simp only [if_true]
      refine wpAny_bind (wpAny_cRoomFor (SeqAt.room_here hu) ?_)
      obtain ⟨c1, d1, dt1, s1⟩ := o
      obtain ⟨c2, d2, dt2, s2⟩ := o2
      simp only at h2 h3 k2 k3
      subst h2 h3 k2 k3
      refine wpAny_bind (wpAny_callSpecialIfBound?_slot (T := "tuple") ⟨_, h1, rfl⟩ F.slot_tuple_lt (call_meets F.slot_tuple_lt ⟨_, h1, rfl⟩ F.entry_tuple_lt (F.args_tuple_lt_2 _ _)
        (SeqAt.tuple_ltAt l l2 us us2 n n2 d1 d2 s1 s2 (SeqAt.pairEq da db) (fun j => dataLt (da.getD j .none) (db.getD j .none))) ⟨h1, k1, fun j j1 j2 => ?_, fun j j1 j2 hj => ?_, ?_⟩))
      · have := eqAt_alikeAll da db A.in1 s us.toList us2.toList _ _ h4 k4 hal (SeqAt.room_in hu) j (by simpa using j1) (by simpa using j2)
        simpa using this
      · have := rcLt_alikeAll da db A.in1 s us.toList us2.toList _ _ h4 k4 hal (SeqAt.room_in hu) j (by simpa using j1) (by simpa using j2) hj
        simpa using this
      · exact wpAny_truthy_bool hq
/-- the first items of tuples -/
def TupsO (h : Heap) : List Value → List (Option Value) → Prop
  | [], [] => True
  | v :: vs, f :: fs => (∃ a o xs n, v = .ref a ∧ h.get? a = some o ∧ o.cls = .type "tuple" ∧ o.data = .seq xs n ∧ xs[0]? = f) ∧ TupsO h vs fs
  | _, _ => False
theorem firsts_at : ∀ (vs : List Value) (fs : List (Option Value)) {Q : List (Option Value) → Shared → Prop}, TupsO s.heap vs fs → Q fs s → wpAny (model prog w) A (vs.mapM firstOfTuple') Q E s
  | [], [], _, _, h => by rw [List.mapM_nil]; exact wpAny_pure h
  | [], _ :: _, _, t, _ => t.elim
  | _ :: _, [], _, t, _ => t.elim
  | v :: vs, f :: fs, Q, t, h => by
    obtain ⟨⟨a, o, xs, n, rfl, ho, hc, hd, hf⟩, t⟩ := t
    rw [List.mapM_cons]
    refine wpAny_bind ?_
    rw [kas_first_eq]
    have lk : Looks (model prog w) s.heap (typeOf (.ref a)) o.cls := (Looks.ld ho).andThen .now
    refine wpAny_bind (lk.here ?_)
    rw [hc, if_neg (by first | decide | simp)]
    refine wpAny_bind (listItems_at ho hd (wpAny_pure ?_))
    rw [hf]
    exact wpAny_bind (firsts_at vs fs (Q := fun bs s' => wpAny (model prog w) A (pure (f :: bs)) Q E s') t (wpAny_pure h))
theorem tupsO_of {h : Heap} : ∀ {vs : List Value} {ds : List PyData}, EachIs (fun v d => ∃ as, Reads h v d as) vs ds → (∀ d ∈ ds, ∃ xs, d = .tuple xs) → ∃ fs, TupsO h vs fs ∧ fs.length = ds.length ∧ ∀ i : Nat, ((fs[i]?).join).isSome = true ↔ ∃ x r, ds[i]? = some (PyData.tuple (x :: r))
  | _, _, .nil, _ => ⟨[], trivial, rfl, fun i => by simp⟩
  | _, _, .cons (b := d) ⟨as, r⟩ t, ht => by
    obtain ⟨fs, h1, h2, h3⟩ := tupsO_of t fun d hd => ht d (List.mem_cons_of_mem _ hd)
    obtain ⟨ds1, rfl⟩ := ht d (List.mem_cons_self ..)
    cases r with
    | @tuple a o xs n _ _ ho hc hd hr =>
      refine ⟨xs[0]? :: fs, ⟨⟨a, o, xs, n, rfl, ho, hc, hd, rfl⟩, h1⟩, by simp [h2], fun i => ?_⟩
      cases i with
      | succ i => simpa using h3 i
      | zero =>
        rw [← Array.getElem?_toList]
        cases hx : xs.toList with
        | nil =>
          rw [hx] at hr
          cases hr
          simp
        | cons f fr =>
          rw [hx] at hr
          cases hr
          simp
theorem sorts_tups {vs : List Value} {ds : List PyData} (e : EachIs (fun v d => ∃ as, Reads s.heap v d as) vs ds) (hal : AllAlike ds) (ht : ∀ d ∈ ds, ∃ xs, d = .tuple xs) (hu : ∀ d, d ∈ ds → A.units + d.depth < cLine) : SortsAt prog w A s (dataKind s.heap ds) vs := by
  have room : ∀ {d d' : PyData}, d ∈ ds → A.units + min d.depth d'.depth < cLine := fun {d d'} hd => Nat.lt_of_le_of_lt (Nat.add_le_add_left (Nat.min_le_left _ _) _) (hu d hd)
  by_cases hall : ∀ d ∈ ds, ∃ x r, d = .tuple (x :: r)
  · exact SortsAt.data e hal (.inl hall) hu
  refine ⟨fun v hv => ?_, ?_⟩
  · obtain ⟨d, hd, as, r⟩ := e.left v hv
    exact ⟨_, dataKind_some hal hd r⟩
  obtain ⟨fs, f1, f2, f3⟩ := tupsO_of e ht
  have hno : (fs.toArray.all fun x => x.isSome) = false := by
    rw [List.all_toArray, Bool.eq_false_iff]
    intro q
    apply hall
    intro d hd
    obtain ⟨i, hi, rfl⟩ := List.mem_iff_getElem.mp hd
    have hi2 : i < fs.length := by omega
    have := List.all_eq_true.mp q _ (List.getElem_mem hi2)
    obtain ⟨x, r, e2⟩ := (f3 i).mp (by rw [List.getElem?_eq_getElem hi2]; exact this)
    rw [List.getElem?_eq_getElem hi] at e2
    exact ⟨x, r, by simpa using e2⟩
  have ltG : H.LtAt prog w A s (dataKind s.heap ds) general' := by
    intro E x y a b Q ha hb hq
    obtain ⟨d, as, hd, ra, rfl⟩ := dataKind_inv ha
    obtain ⟨d', as', hd', rb, rfl⟩ := dataKind_inv hb
    obtain ⟨xs, e1⟩ := ht d hd
    show wpAny _ _ (oneLt' false x y) _ _ _
    exact oneLt_alike (fun z => by cases z) ra rb (hal d hd d' hd') (by rw [e1]; intro z; cases z) (room hd) hq
  have ltO : H.LtAt prog w A s (dataKind s.heap ds) oneType' := by
    intro E x y a b Q ha hb hq
    obtain ⟨d, as, hd, ra, rfl⟩ := dataKind_inv ha
    obtain ⟨d', as', hd', rb, rfl⟩ := dataKind_inv hb
    obtain ⟨xs, rfl⟩ := ht d hd
    obtain ⟨ys, rfl⟩ := ht d' hd'
    rw [keyLt'_oneType]
    exact lt_tup1 ra rb (hal _ hd _ hd') (room hd) hq
  by_cases h0 : (fs.toArray[0]?.bind id).isSome = true
  · refine ⟨general', ltG, fun h2 E Q hq => ?_⟩
    rw [kat_kind_eq, List.mapM_toArray, map_eq_pure_bind]
    refine wpAny_bind (wpAny_bind (firsts_at vs fs f1 (wpAny_pure ?_)))
    rw [if_neg (by rw [hno]; exact Bool.false_ne_true), if_pos h0]
    exact wpAny_pure hq
  · refine ⟨oneType', ltO, fun h2 E Q hq => ?_⟩
    rw [kat_kind_eq, List.mapM_toArray, map_eq_pure_bind]
    refine wpAny_bind (wpAny_bind (firsts_at vs fs f1 (wpAny_pure ?_)))
    rw [if_neg (by rw [hno]; exact Bool.false_ne_true), if_neg h0]
    rw [oneTypeOnly'_eq, List.mapM_toArray, map_eq_pure_bind]
    refine wpAny_bind (wpAny_bind (wpAny_bind (kas_mapM (r := Value.type "tuple") _ (fun v hv Q' hq => ?_) (wpAny_pure ?_))))
    · obtain ⟨d, hd, as, r⟩ := e.left v hv
      obtain ⟨xs, rfl⟩ := ht d hd
      exact (looks_reads (M := model prog w) r).here hq
    · obtain ⟨v0, vr, rfl⟩ : ∃ v0 vr, vs = v0 :: vr := by
        cases vs with
        | nil => simp at h2
        | cons a b => exact ⟨a, b, rfl⟩
      have hall2 : ((List.map (fun _ => Value.type "tuple") (v0 :: vr)).toArray.all fun x => x == Value.type "tuple") = true := by
        simp only [List.all_toArray, List.all_map, List.all_eq_true]
        intro _ _
        rfl
      have hz : (List.map (fun _ => Value.type "tuple") (v0 :: vr)).toArray[0]? = some (Value.type "tuple") := by simp
      rw [hz]
      simp only [hall2, if_true]
      exact wpAny_pure (wpAny_pure hq)
end
section
variable {X : Cx}
/-- a sorted list: the values with what they are worth -/
abbrev leP (a b : V × PyData) : Bool := !dataLt b.2 a.2
def rSortD (K : PySem.W.Frag) : List V → Hp → VK → Prop := fun vs H Q => ∃ (a : Addr) (xs : List V) (ds : List PyData), vs = [.ref a] ∧ (Rd H a (.lst xs) ∨ SqT K H a xs) ∧ DpAll K H xs ds ∧ sortOk ds = true ∧
  ∀ p, H p = none → Q (.ref p) (upd H p (.lst (((xs.zip ds).mergeSort leP).map (·.1))))
theorem dp_len {K : PySem.W.Frag} {H : Hp} : ∀ {vs : List V} {ds : List PyData}, DpAll K H vs ds → vs.length = ds.length
  | _, _, .nil => rfl
  | _, _, .cons _ b => by simp [dp_len b]
theorem each_rel {K : PySem.W.Frag} {H : Hp} : ∀ {vs : List V} {ds : List PyData} {us : List Value}, DpAll K H vs ds → Vals vs us → EachIs (fun u (b : V × PyData) => RelV b.1 u) us (vs.zip ds)
  | _, _, _, .nil, .nil => .nil
  | _, _, _, .cons _ b, .cons r rs => .cons r (each_rel b rs)
theorem vals_each : ∀ {us : List Value} {bs : List (V × PyData)}, EachIs (fun u (b : V × PyData) => RelV b.1 u) us bs → Vals (bs.map (·.1)) us
  | _, _, .nil => .nil
  | _, _, .cons r t => .cons r (vals_each t)
theorem zip_snd : ∀ {vs : List V} {ds : List PyData}, vs.length = ds.length → (vs.zip ds).map (·.2) = ds
  | [], [], _ => rfl
  | _ :: vs, _ :: ds, h => by simp [zip_snd (vs := vs) (ds := ds) (by simpa using h)]
  | [], _ :: _, h => by simp at h
  | _ :: _, [], h => by simp at h
theorem each_of {h : Heap} : ∀ {us : List Value} {vs : List V} {ds : List PyData} {as : List Addr}, ReadsAll h us ds as → vs.length = ds.length → EachIs (fun u (b : V × PyData) => ∃ as, Reads h u b.2 as) us (vs.zip ds)
  | _, [], _, _, .nil, _ => .nil
  | _, v :: vs, _, _, .cons r t, h => .cons ⟨_, r⟩ (each_of t (by simpa using h))
  | _, _ :: _, _, _, .nil, h => by simp at h
  | _, [], _, _, .cons _ _, h => by simp at h
theorem sort_shape {ds : List PyData} (h : sortOk ds = true) : ds.length ≤ lim ∧ AllAlike ds ∧ (∀ d ∈ ds, d ≠ .none) ∧ (∀ d ∈ ds, d.depth ≤ 60) := by
  unfold sortOk at h
  simp only [Bool.and_eq_true, decide_eq_true_eq] at h
  obtain ⟨⟨⟨h1, h2⟩, h3⟩, h4⟩ := h
  refine ⟨h1, fun d hd d' hd' => ?_, fun d hd => ok_none (List.all_eq_true.mp h3 d hd), fun d hd => by simpa using List.all_eq_true.mp h4 d hd⟩
  exact List.all_eq_true.mp (List.all_eq_true.mp h2 d hd) d' hd'
theorem sorts_any {prog : Program} {w : World} {A : Around} {s : Shared} {vs : List Value} {ds : List PyData} (e : EachIs (fun v d => ∃ as, Reads s.heap v d as) vs ds) (hal : AllAlike ds) (hn : ∀ d ∈ ds, d ≠ .none) (hu : ∀ d, d ∈ ds → A.units + d.depth < cLine) : SortsAt prog w A s (dataKind s.heap ds) vs := by
  by_cases ht : ∃ xs, PyData.tuple xs ∈ ds
  · obtain ⟨xs, ht⟩ := ht
    refine sorts_tups e hal (fun d hd => ?_) hu
    have := hal _ hd _ ht
    cases d with
    | tuple ys => exact ⟨ys, rfl⟩
    | _ => exact absurd this (by simp [alike])
  · exact SortsAt.data e hal (.inr fun d hd => ⟨hn d hd, fun xs z => ht ⟨xs, z ▸ hd⟩⟩) hu
theorem cr_sortD (hu : X.A.units + 65 < cLine) : CallR X (.builtin "sorted") (rSortD X.K) := by
  intro pins s σ H vs us Q I r h
  obtain ⟨a, xs, ds, rfl, hs, hd, ok, q⟩ := h
  obtain ⟨hlim, hal, hnn, hdep⟩ := sort_shape ok
  obtain ⟨u, rfl, ru⟩ := vals1 r
  obtain rfl : u = Value.ref a := ru
  have key : ∀ its : List Value, Vals xs its → its.length ≤ sizeLine → (∀ (A : Around) (E : Value → Shared → Prop) (R : List Value → Shared → Prop), R its { s with heap := laidH s.heap its } → wpAny (model X.prog X.w) A (collect (.ref a)) R E s) →
      wpAny (model X.prog X.w) X.A (call (.builtin "sorted") [.ref a]) (EP X pins σ Q) X.xe s := fun its rv hz hcol => by
    obtain ⟨as, rd⟩ := Dp.readsAll I ds xs its hd rv
    have hlen := dp_len hd
    have er := each_of (vs := xs) rd hlen
    have er' : EachIs (fun u (b : V × PyData) => ∃ as, Reads (sortingHeap (copyHeap s.heap its) (s.heap.objs.size + 1) its) u b.2 as) its (xs.zip ds) := er.mono fun _ _ ⟨as, r⟩ => ⟨as, PyProof.Rows.Reads.keeps (fun _ _ => sorting_copy_old) r⟩
    have em : (xs.zip ds).map (·.2) = ds := zip_snd hlen
    have hal' : AllAlike ((xs.zip ds).map (·.2)) := by rw [em]; exact hal
    have S : SortsAt X.prog X.w X.A.in1.in1 { s with heap := sortingHeap (copyHeap s.heap its) (s.heap.objs.size + 1) its } (dataKind (sortingHeap (copyHeap s.heap its) (s.heap.objs.size + 1) its) ((xs.zip ds).map (·.2))) its :=
      sorts_any (s := { s with heap := sortingHeap (copyHeap s.heap its) (s.heap.objs.size + 1) its }) (each_map (R := fun v d => ∃ as, Reads (sortingHeap (copyHeap s.heap its) (s.heap.objs.size + 1) its) v d as) (fun b : V × PyData => b.2) er') hal' (fun d h => hnn d (by rw [em] at h; exact h)) fun d h => by
        have h1 := hdep d (by rw [em] at h; exact h)
        show X.A.units + 2 + d.depth < _
        omega
    refine sorted_sq hcol hz S ?_
    have eo := sortVals_data false (each_rel hd rv) er' hal'
    have el : (sortVals (dataKind (sortingHeap (copyHeap s.heap its) (s.heap.objs.size + 1) its) ((xs.zip ds).map (·.2))) false its its).length = its.length := sortVals_length false rfl
    obtain ⟨n, hn⟩ := PyProof.Rows.sortedAll_at s.heap its (sortVals (dataKind (sortingHeap (copyHeap s.heap its) (s.heap.objs.size + 1) its) ((xs.zip ds).map (·.2))) false its its).toArray
    have hle : dataLe false (fun b : V × PyData => b.2) = leP := by funext a b; rfl
    rw [hle] at eo
    refine ⟨.ref _, upd H (s.heap.objs.size + 1) (.lst (((xs.zip ds).mergeSort leP).map (·.1))), I.laid (t' := s.toks) (fun _ _ => PyProof.Rows.sortedAll_old) (Nat.le_succ _) ⟨?_, _, n, vals_each eo, hn⟩, rfl, q _ (I.hok.fresh (Nat.le_succ _))⟩
    have := (vals_each eo).length
    rw [this, el]
    exact hz
  rcases hs with hs | hs
  · obtain ⟨its, rv, hl, hz⟩ := I.list (.inl hs)
    obtain ⟨o, ho, hc, n, hd'⟩ := hl.isList
    have hz : its.length ≤ sizeLine := by rw [← rv.length]; exact hz
    exact key its rv hz fun A E R hR => collect_sq (.inl rfl) ho hc hd' hz hR
  · obtain ⟨its, rv, ht, hz⟩ := I.tuple hs
    obtain ⟨o, ho, hc, n, hd'⟩ := ht
    have hz : its.length ≤ sizeLine := by rw [← rv.length]; exact hz
    exact key its rv hz fun A E R hR => collect_sq (.inr rfl) ho hc hd' hz hR
theorem dqAll_zip {K : PySem.W.Frag} {G : Hp} : ∀ {vs : List V} {ds : List PyData}, DqAll K G vs ds → ∀ b ∈ vs.zip ds, Dq K G b.1 b.2
  | _, _, .nil, b, h => by simp at h
  | _, _, .cons p q, b, h => by
    rcases List.mem_cons.mp h with rfl | h
    · exact p
    · exact dqAll_zip q b h
theorem dqAll_unzip {K : PySem.W.Frag} {G : Hp} : ∀ {bs : List (V × PyData)}, (∀ b ∈ bs, Dq K G b.1 b.2) → DqAll K G (bs.map (·.1)) (bs.map (·.2))
  | [], _ => .nil
  | b :: bs, h => .cons (h b (by simp)) (dqAll_unzip fun c hc => h c (by simp [hc]))
theorem dqAll_sort {K : PySem.W.Frag} {G : Hp} {vs : List V} {ds : List PyData} (h : DqAll K G vs ds) : DqAll K G (((vs.zip ds).mergeSort leP).map (·.1)) (sortD ds) := by
  have e : ((vs.zip ds).mergeSort leP).map (·.2) = sortD ds := by
    rw [List.map_mergeSort (s := fun a b => !dataLt b a) (fun a _ b _ => rfl), zip_snd h.len]
    rfl
  rw [← e]
  exact dqAll_unzip fun b hb => dqAll_zip h b (List.mem_mergeSort.mp hb)
theorem cd_sorted (hu : X.A.units + 65 < cLine) : CallD X (.builtin "sorted") (bltop .sorted) := by
  refine ⟨_, cr_sortD hu, fun G H vs ds c Q hs hv e k => ?_⟩
  match ds, hv, e with
  | [.list xs], hv, e =>
    obtain ⟨v, rfl, hw⟩ := hv.one
    replace e : (if sortOk xs = true then some (Cn.lst (sortD xs)) else none) = some c := e
    split at e
    · rename_i ok
      cases e
      obtain ⟨p, ws, rfl, h1, q1⟩ := hw.list hs
      exact ⟨p, ws, xs, rfl, .inl h1, dqAll_dp (dpAll_mono hs q1), ok, fun z hz => k _ _ (.inr ⟨z, _, _, rfl, hz, dqAll_sort q1, .inr ⟨rfl, rfl⟩⟩)⟩
    · cases e
  | [.tuple xs], hv, e =>
    obtain ⟨v, rfl, hw⟩ := hv.one
    replace e : (if sortOk xs = true then some (Cn.lst (sortD xs)) else none) = some c := e
    split at e
    · rename_i ok
      cases e
      obtain ⟨p, ws, rfl, h1, q1⟩ := hw.tuple hs
      exact ⟨p, ws, xs, rfl, .inr h1, dqAll_dp (dpAll_mono hs q1), ok, fun z hz => k _ _ (.inr ⟨z, _, _, rfl, hz, dqAll_sort q1, .inr ⟨rfl, rfl⟩⟩)⟩
    · cases e
end
end BP
end

section
/-! Bo1: objects in the heap. -/
namespace BP
open PySem L2
section
variable {K : PySem.W.Frag} {G G' H H' B : Hp} {v : V} {c : Str} {l : List Ent}
theorem FCells.get {x : Str} {f : Fc} : ∀ {vs : List (Str × V)} {fs : List (Str × Fc)} {A : List Addr}, FCells K H G vs fs A → fs.lookup x = some f → ∃ w A', vs.lookup x = some w ∧ FCell K H G w f A' ∧ ∀ a ∈ A', a ∈ A
  | _, _, _, .nil, e => by cases e
  | (y, w) :: vs, _, _, .cons (f := f') (A := A1) p q, e => by
    simp only [List.lookup] at e ⊢
    by_cases h : x == y
    · rw [h] at e ⊢
      cases e
      exact ⟨w, A1, rfl, p, fun a ha => List.mem_append_left _ ha⟩
    · rw [Bool.not_eq_true] at h
      rw [h] at e ⊢
      obtain ⟨w', A', h1, h2, h3⟩ := FCells.get q e
      exact ⟨w', A', h1, h2, fun a ha => List.mem_append_right _ (h3 a ha)⟩
theorem FCells.no {x : Str} : ∀ {vs : List (Str × V)} {fs : List (Str × Fc)} {A : List Addr}, FCells K H G vs fs A → fs.lookup x = none → vs.lookup x = none
  | _, _, _, .nil, _ => rfl
  | (y, w) :: vs, _, _, .cons p q, e => by
    simp only [List.lookup] at e ⊢
    by_cases h : x == y
    · rw [h] at e
      cases e
    · rw [Bool.not_eq_true] at h
      rw [h] at e ⊢
      exact FCells.no q e
theorem FCells.len : ∀ {vs : List (Str × V)} {fs : List (Str × Fc)} {A : List Addr}, FCells K H G vs fs A → vs.length = fs.length
  | _, _, _, .nil => rfl
  | _, _, _, .cons _ q => by simp [FCells.len q]
/-- a field stored -/
theorem FCells.put {x : Str} {w : V} {f : Fc} {Aw : List Addr} (hw : FCell K H G w f Aw) : ∀ {vs : List (Str × V)} {fs : List (Str × Fc)} {A : List Addr}, FCells K H G vs fs A → ∃ A', FCells K H G (putF x w vs) (putC x f fs) A' ∧ (∀ a ∈ A', a ∈ Aw ∨ a ∈ A) ∧ ((Aw ++ A).Nodup → A'.Nodup)
  | _, _, _, .nil => ⟨Aw ++ [], .cons hw .nil, fun a h => .inl (by simpa using h), fun h => by simpa using h⟩
  | (y, z) :: vs, _, _, .cons (f := f') (A := A1) (B := A2) p q => by
    unfold putF putC
    by_cases h : y = x
    · rw [if_pos h, if_pos h]
      refine ⟨Aw ++ A2, .cons hw q, fun a ha => ?_, fun nd => ?_⟩
      · rcases List.mem_append.mp ha with ha | ha
        · exact .inl ha
        · exact .inr (List.mem_append_right _ ha)
      · rw [← List.append_assoc] at nd
        have n1 := List.nodup_append.mp nd
        have n2 := List.nodup_append.mp n1.1
        exact List.nodup_append.mpr ⟨n2.1, n1.2.1, fun a ha b hb => n1.2.2 a (List.mem_append_left _ ha) b hb⟩
    · rw [if_neg h, if_neg h]
      obtain ⟨A', h1, h2, h3⟩ := FCells.put hw q
      refine ⟨A1 ++ A', .cons p h1, fun a ha => ?_, fun nd => ?_⟩
      · rcases List.mem_append.mp ha with ha | ha
        · exact .inr (List.mem_append_left _ ha)
        · rcases h2 a ha with hb | hb
          · exact .inl hb
          · exact .inr (List.mem_append_right _ hb)
      · have n0 : (A1 ++ (Aw ++ A2)).Nodup := by
          refine List.Perm.nodup_iff ?_ |>.mp nd
          rw [← List.append_assoc, ← List.append_assoc]
          exact List.perm_append_comm.append_right _
        have n1 := List.nodup_append.mp n0
        refine List.nodup_append.mpr ⟨n1.1, h3 n1.2.1, fun a ha b hb => n1.2.2 a ha b ?_⟩
        rcases h2 b hb with hb | hb
        · exact List.mem_append_left _ hb
        · exact List.mem_append_right _ hb
/-- a field's list written -/
theorem FCells.write {x : Str} {ds ds' : List PyData} {vs' : List V} (qd : DqAll K G vs' ds') : ∀ {vs : List (Str × V)} {fs : List (Str × Fc)} {A : List Addr}, FCells K H G vs fs A → A.Nodup → fs.lookup x = some (.lst ds) →
    ∃ p ws, vs.lookup x = some (.ref p) ∧ p ∈ A ∧ H p = some (.lst ws) ∧ DqAll K G ws ds ∧ FCells K (upd H p (.lst vs')) G vs (putC x (.lst ds') fs) A
  | _, _, _, .nil, _, e => by cases e
  | (y, z) :: vs, _, _, .cons (f := f') (A := A1) (B := A2) p q, nd, e => by
    simp only [List.lookup] at e ⊢
    have n1 := List.nodup_append.mp nd
    unfold putC
    by_cases h : x = y
    · subst h
      have hb : (x == x) = true := by simp
      rw [hb] at e ⊢
      cases e
      obtain ⟨a, ws, rfl, rfl, e1, e2⟩ := p
      refine ⟨a, ws, rfl, by simp, e1, e2, ?_⟩
      rw [if_pos rfl]
      refine .cons ⟨a, vs', rfl, rfl, upd_same, qd⟩ (q.stay (Same.refl _) fun b hb => upd_ne fun z => ?_)
      subst z
      exact n1.2.2 b (by simp) b hb rfl
    · have hb : (x == y) = false := by simpa using h
      rw [hb] at e ⊢
      obtain ⟨a, ws, h1, h2, h3, h4, h5⟩ := FCells.write qd q n1.2.1 e
      refine ⟨a, ws, h1, List.mem_append_right _ h2, h3, h4, ?_⟩
      rw [if_neg (fun z => h z.symm)]
      refine .cons (p.stay (Same.refl _) fun b hb => upd_ne fun z => ?_) h5
      subst z
      exact n1.2.2 b hb b h2 rfl
/-! ### in the relation -/
theorem own_nd {A : List Addr} {n : Nat} {R : List Clm} (h : (A.map (fun a => ((a, n) : Clm)) ++ R).Nodup) : A.Nodup ∧ R.Nodup ∧ ∀ a ∈ A, ((a, n) : Clm) ∉ R := by
  have h1 := List.nodup_append.mp h
  refine ⟨?_, h1.2.1, fun a ha hr => h1.2.2 (a, n) (List.mem_map.mpr ⟨a, ha, rfl⟩) _ hr rfl⟩
  exact List.Pairwise.of_map (fun a => ((a, n) : Clm)) (fun a b hab z => hab (by rw [z])) h1.1
theorem nd_own {A : List Addr} {n : Nat} {R : List Clm} (h1 : A.Nodup) (h2 : R.Nodup) (h3 : ∀ a ∈ A, ((a, n) : Clm) ∉ R) : (A.map (fun a => ((a, n) : Clm)) ++ R).Nodup := by
  refine List.nodup_append.mpr ⟨?_, h2, fun a ha b hb z => ?_⟩
  · exact List.pairwise_map.mpr (h1.imp fun hab z => hab (by simpa using z))
  · obtain ⟨x, hx, rfl⟩ := List.mem_map.mp ha
    subst z
    exact h3 x hx hb
/-- what may be read of an object -/
structure ORead (K : PySem.W.Frag) (G H : Hp) (v : V) (c : Str) (fs : List (Str × Fc)) : Prop where
  ex : ∃ a dx vfs H0 A, v = .ref a ∧ H a = some (.ins (He.ga K c) dx vfs) ∧ Same H0 H ∧ FCells K H0 G vfs fs A
  ok : OkC K c fs
theorem RepG.oread {fs : List (Str × Fc)} (h : RepG K G H ((some v, some (.obj c fs)) :: l)) : ORead K G H v c fs := by
  obtain ⟨hs, B, Fs, h1, _⟩ := h
  cases h1 with
  | cons p b =>
    obtain ⟨A, _, a, dx, vfs, A2, e0, _, e1, e2, q, ok⟩ := p
    exact ⟨⟨a, dx, vfs, H, A2, e0, e1, Same.refl _, q⟩, ok⟩
theorem RepG.rread {fs : List (Str × Fc)} (h : RepG K G H ((some v, some (.rob c fs)) :: l)) : ORead K G H v c fs := by
  obtain ⟨hs, B, Fs, h1, _, h3, _⟩ := h
  cases h1 with
  | cons p b =>
    obtain ⟨A, _, a, dx, vfs, A2, e0, _, e1, e2, q, ok⟩ := p
    exact ⟨⟨a, dx, vfs, B, A2, e0, h3 _ _ e1, h3, q⟩, ok⟩
theorem ORead.imm {fs : List (Str × Fc)} {x : Str} {d : PyData} (h : ORead K G H v c fs) (e : fs.lookup x = some (.imm d)) : ∃ a dx vfs w, v = .ref a ∧ H a = some (.ins (He.ga K c) dx vfs) ∧ vfs.lookup x = some w ∧ Dq K G w d := by
  obtain ⟨⟨a, dx, vfs, H0, A, e0, e1, s, q⟩, ok⟩ := h
  obtain ⟨w, A', h1, h2, _⟩ := q.get e
  exact ⟨a, dx, vfs, w, e0, e1, h1, h2.2⟩
theorem ORead.lst {fs : List (Str × Fc)} {x : Str} {ds : List PyData} (h : ORead K G H v c fs) (e : fs.lookup x = some (.lst ds)) : ∃ a dx vfs p ws, v = .ref a ∧ H a = some (.ins (He.ga K c) dx vfs) ∧ vfs.lookup x = some (.ref p) ∧ H p = some (.lst ws) ∧ DqAll K G ws ds := by
  obtain ⟨⟨a, dx, vfs, H0, A, e0, e1, s, q⟩, ok⟩ := h
  obtain ⟨w, A', h1, ⟨p, ws, rfl, _, h3, h4⟩, _⟩ := q.get e
  exact ⟨a, dx, vfs, p, ws, e0, e1, h1, s _ _ h3, h4⟩
theorem ORead.no {fs : List (Str × Fc)} {x : Str} (h : ORead K G H v c fs) (e : fs.lookup x = none) : ∃ a dx vfs, v = .ref a ∧ H a = some (.ins (He.ga K c) dx vfs) ∧ vfs.lookup x = none ∧ vfs.length = fs.length := by
  obtain ⟨⟨a, dx, vfs, H0, A, e0, e1, s, q⟩, ok⟩ := h
  exact ⟨a, dx, vfs, e0, e1, q.no e, q.len⟩
/-- a new object -/
theorem RepG.newObj {a dx : Addr} (hC : Cls K (He.ga K c)) (h : RepG K G H l) (ha : H a = none) (hd : H dx = none) (hne : dx ≠ a) : RepG K G (upd (upd H dx (.own a)) a (.ins (He.ga K c) dx [])) ((some (.ref a), some (.obj c [])) :: l) := by
  obtain ⟨hs, B, Fs, h1, h2, h3, h4, h5⟩ := h
  have no : ∀ x ∈ Fs.flatten, x.1 ≠ a ∧ x.1 ≠ dx := fun x hx => by
    obtain ⟨o, e⟩ := paired_there h1 h3 x hx
    exact ⟨fun z => (by rw [z, ha] at e; cases e), fun z => (by rw [z, hd] at e; cases e)⟩
  have sm : Same H (upd (upd H dx (.own a)) a (.ins (He.ga K c) dx [])) := (same_new hd).trans (same_new (by rw [upd_ne (Ne.symm hne)]; exact ha))
  refine ⟨hs.trans sm, B, [(a, 0), (dx, 0)] :: Fs, .cons ⟨[a, dx], rfl, a, dx, [], [], rfl, rfl, upd_same, by rw [upd_ne hne]; exact upd_same, .nil, hC, fun _ _ e => by cases e⟩ (paired_stay h1 (Same.refl _) (fun x hx _ => by rw [upd_ne (no x hx).1, upd_ne (no x hx).2]) fun _ _ _ => rfl), ?_, h3.trans sm, h4, fun x hx h0 => ?_⟩
  · simp only [List.flatten_cons, List.cons_append, List.nil_append, List.nodup_cons, List.mem_cons, not_or]
    exact ⟨⟨fun z => hne (by simpa using (Prod.mk.inj z).1.symm), fun z => (no _ z).1 rfl⟩, fun z => (no _ z).2 rfl, h2⟩
  · simp only [List.flatten_cons, List.cons_append, List.nil_append, List.mem_cons] at hx
    rcases hx with rfl | rfl | hx
    · exact ⟨hs.free ha, h3.free ha⟩
    · exact ⟨hs.free hd, h3.free hd⟩
    · exact h5 x hx h0
theorem lookup_putC (x y : Str) (f : Fc) : ∀ fs : List (Str × Fc), (putC x f fs).lookup y = if y = x then some f else fs.lookup y
  | [] => by
    show List.lookup y [(x, f)] = _
    by_cases h : y = x
    · rw [if_pos h, h]; simp [List.lookup]
    · have hb : (y == x) = false := by simpa using h
      rw [if_neg h]; simp [List.lookup, hb]
  | (g, z) :: r => by
    unfold putC
    by_cases hg : g = x
    · rw [if_pos hg]
      subst hg
      by_cases h : y = g
      · subst h; simp [List.lookup]
      · have hb : (y == g) = false := by simpa using h
        rw [if_neg h]; simp [List.lookup, hb]
    · rw [if_neg hg]
      simp only [List.lookup]
      by_cases h : y = g
      · subst h
        rw [if_neg hg]
        simp
      · have hb : (y == g) = false := by simpa using h
        rw [hb]
        exact lookup_putC x y f r
theorem okC_put {fs : List (Str × Fc)} {x : Str} {f : Fc} (ok : OkC K c fs) (hx : NoAttr K (He.ga K c) x) : OkC K c (putC x f fs) := by
  refine ⟨ok.1, fun y g e => ?_⟩
  rw [lookup_putC] at e
  split at e
  · rename_i h; rw [h]; exact hx
  · exact ok.2 y g e
theorem fcell_of {w : V} {k : Cn} {f : Fc} {F : List Clm} (h : Cell K H G B w k F) (e : fcOf k = some f) : ∃ A, F = A.map (·, 0) ∧ FCell K H G w f A := by
  cases k with
  | imm d => cases e; obtain ⟨rfl, q⟩ := h; exact ⟨[], rfl, rfl, q⟩
  | lst ds => cases e; obtain ⟨a, vs, e1, rfl, e2, q⟩ := h; exact ⟨[a], rfl, a, vs, e1, rfl, e2, q⟩
  | _ => cases e
theorem RepG.setF {fs : List (Str × Fc)} {w : V} {k : Cn} {f : Fc} {x : Str} (h : RepG K G H ((some w, some k) :: (some v, some (.obj c fs)) :: l)) (e : fcOf k = some f) (hx : NoAttr K (He.ga K c) x) : ∃ a dx vfs, v = .ref a ∧ H a = some (.ins (He.ga K c) dx vfs) ∧ vfs.length = fs.length ∧ Cls K (He.ga K c) ∧ RepG K G (upd H a (.ins (He.ga K c) dx (putF x w vfs))) ((some v, some (.obj c (putC x f fs))) :: l) := by
  obtain ⟨hs, B, Fs, h1, h2, h3, h4, h5⟩ := h
  cases h1 with
  | cons p b =>
    cases b with
    | cons p2 b =>
      rename_i Fr
      obtain ⟨Aw, rfl, hw⟩ := fcell_of p e
      obtain ⟨A, rfl, a, dx, vfs, A2, rfl, rfl, e1, e2, q, ok⟩ := p2
      simp only [List.flatten_cons] at h2 h5
      have hall : (((Aw ++ (a :: dx :: A2)).map (fun a => ((a, 0) : Clm))) ++ Fr.flatten).Nodup := by rw [List.map_append, List.append_assoc]; exact h2
      obtain ⟨nA, nR, dis⟩ := own_nd hall
      have nA1 := List.nodup_append.mp nA
      have na : G a = none ∧ B a = none := h5 (a, 0) (by simp) rfl
      have aw : a ∉ Aw := fun z => nA1.2.2 a z a (by simp) rfl
      have adx : a ≠ dx := by have := nA1.2.1; simp only [List.nodup_cons, List.mem_cons, not_or] at this; exact this.1.1
      have aA2 : a ∉ A2 := by have := nA1.2.1; simp only [List.nodup_cons, List.mem_cons, not_or] at this; exact this.1.2
      have keepO : ∀ b, b ≠ a → (upd H a (.ins (He.ga K c) dx (putF x w vfs))) b = H b := fun b hb => upd_ne hb
      obtain ⟨A', f1, f2, f3⟩ := FCells.put (x := x) (hw.stay (Same.refl _) fun b hb => keepO b fun z => aw (z ▸ hb)) (q.stay (Same.refl _) fun b hb => keepO b fun z => aA2 (z ▸ hb))
      have sub : ∀ z ∈ a :: dx :: A', z ∈ Aw ++ (a :: dx :: A2) := fun z hz => by
        simp only [List.mem_cons] at hz
        rcases hz with rfl | rfl | hz
        · simp
        · simp
        · rcases f2 z hz with h | h
          · exact List.mem_append_left _ h
          · exact List.mem_append_right _ (by simp [h])
      have nA' : (a :: dx :: A').Nodup := by
        have n2 := nA1.2.1
        simp only [List.nodup_cons, List.mem_cons, not_or] at n2 ⊢
        refine ⟨⟨n2.1.1, fun z => ?_⟩, fun z => ?_, f3 ?_⟩
        · rcases f2 a z with h | h
          · exact aw h
          · exact aA2 h
        · rcases f2 dx z with h | h
          · exact nA1.2.2 dx h dx (by simp) rfl
          · exact n2.2.1 h
        · refine List.nodup_append.mpr ⟨nA1.1, n2.2.2, fun z hz y hy => nA1.2.2 z hz y (by simp [hy])⟩
      refine ⟨a, dx, vfs, rfl, e1, q.len, ok.1, same_write hs na.1, B, ((a :: dx :: A').map (·, 0)) :: Fr, .cons ⟨_, rfl, a, dx, _, A', rfl, rfl, upd_same, by rw [keepO dx (Ne.symm adx)]; exact e2, f1, okC_put ok hx⟩ (paired_stay b (Same.refl _) (fun y hy h0 => keepO y.1 fun z => dis a (by simp) ?_) fun _ _ _ => rfl), ?_, same_write h3 na.2, h4, fun y hy h0 => ?_⟩
      · obtain ⟨y1, y2⟩ := y
        simp only at z h0
        subst z h0
        exact hy
      · rw [List.flatten_cons]
        exact nd_own nA' nR fun z hz => dis z (sub z hz)
      · rw [List.flatten_cons] at hy
        rcases List.mem_append.mp hy with hy | hy
        · obtain ⟨z, hz, rfl⟩ := List.mem_map.mp hy
          exact h5 (z, 0) (by
            rw [← List.append_assoc, ← List.map_append]
            exact List.mem_append_left _ (List.mem_map.mpr ⟨z, sub z hz, rfl⟩)) rfl
        · exact h5 y (List.mem_append_right _ (List.mem_append_right _ hy)) h0
/-- a field's list is changed -/
theorem RepG.writeF {fs : List (Str × Fc)} {x : Str} {ds ds' : List PyData} {vs' : List V} (h : RepG K G H ((some v, some (.obj c fs)) :: l)) (e : fs.lookup x = some (.lst ds)) (qd : DqAll K G vs' ds') :
    ∃ a dx vfs p ws, v = .ref a ∧ H a = some (.ins (He.ga K c) dx vfs) ∧ vfs.lookup x = some (.ref p) ∧ H p = some (.lst ws) ∧ DqAll K G ws ds ∧ RepG K G (upd H p (.lst vs')) ((some v, some (.obj c (putC x (.lst ds') fs))) :: l) := by
  obtain ⟨hs, B, Fs, h1, h2, h3, h4, h5⟩ := h
  cases h1 with
  | cons p b =>
    rename_i F1 Fr
    obtain ⟨A, rfl, a, dx, vfs, A2, rfl, rfl, e1, e2, q, ok⟩ := p
    simp only [List.flatten_cons] at h2 h5
    obtain ⟨nA, nR, dis⟩ := own_nd h2
    have n2 := nA
    simp only [List.nodup_cons, List.mem_cons, not_or] at n2
    obtain ⟨p, ws, q1, q2, q3, q4, q5⟩ := FCells.write qd q n2.2.2 e
    have np : G p = none ∧ B p = none := h5 (p, 0) (List.mem_append_left _ (List.mem_map.mpr ⟨p, by simp [q2], rfl⟩)) rfl
    refine ⟨a, dx, vfs, p, ws, rfl, e1, q1, q3, q4, same_write hs np.1, B, ((a :: dx :: A2).map (·, 0)) :: Fr, .cons ⟨_, rfl, a, dx, vfs, A2, rfl, rfl, ?_, ?_, q5, okC_put ok (ok.2 x _ e)⟩ (paired_stay b (Same.refl _) (fun y hy h0 => upd_ne fun z => dis p (by simp [q2]) ?_) fun _ _ _ => rfl), by rw [List.flatten_cons]; exact h2, same_write h3 np.2, h4, fun y hy => h5 y (by rw [List.flatten_cons] at hy; exact hy)⟩
    · rw [upd_ne (show a ≠ p from fun z => n2.1.2 (z ▸ q2))]; exact e1
    · rw [upd_ne (show dx ≠ p from fun z => n2.2.1 (z ▸ q2))]; exact e2
    · obtain ⟨y1, y2⟩ := y
      simp only at z h0
      subst z h0
      exact hy
/-! ### lent and taken back -/
theorem RepG.lend {fs : List (Str × Fc)} (h : RepG K G H ((some v, some (.obj c fs)) :: l)) : ∃ vfs, RepG K G H ((some v, some (.tkn c fs vfs)) :: (some v, some (.rob c fs)) :: l) := by
  obtain ⟨hs, B, Fs, h1, h2, h3, h4, h5⟩ := h
  cases h1 with
  | cons p b =>
    rename_i F1 Fr
    obtain ⟨A, rfl, q⟩ := p
    simp only [List.flatten_cons] at h2 h5
    obtain ⟨nA, nR, dis⟩ := own_nd h2
    have own : ∀ a ∈ A, G a = none ∧ B a = none := fun a ha => h5 (a, 0) (List.mem_append_left _ (List.mem_map.mpr ⟨a, ha, rfl⟩)) rfl
    let B' : Hp := fun a => if a ∈ A then H a else B a
    have bA : ∀ a ∈ A, B' a = H a := fun a ha => if_pos ha
    have bN : ∀ a, a ∉ A → B' a = B a := fun a ha => if_neg ha
    have bad : ∀ (n : Nat), n ≠ 0 → ∀ a ∈ A, ((a, n) : Clm) ∉ Fr.flatten := fun n hn a ha hm => by
      obtain ⟨F, hF, hm⟩ := List.mem_flatten.mp hm
      have key : ∀ {l : List Ent} {Fs : List (List Clm)}, Paired (Ent1 K H G B) l Fs → F ∈ Fs → ∃ o, B a = some o := by
        intro l Fs hp
        induction hp with
        | nil => intro z; simp at z
        | cons p r ih =>
          intro z
          rcases List.mem_cons.mp z with rfl | z
          · rename_i en _ _
            obtain ⟨x, y⟩ := en
            cases y with
            | none => cases p; simp at hm
            | some k =>
              cases x with
              | none => exact p.elim
              | some w =>
                cases k with
                | imm d => obtain ⟨rfl, _⟩ := p; simp at hm
                | lst ds =>
                  obtain ⟨b, vs, _, rfl, _⟩ := p
                  simp at hm
                  exact absurd hm.2 hn
                | dct _ => exact p.elim
                | obj _ _ =>
                  obtain ⟨A', rfl, _⟩ := p
                  obtain ⟨z, _, e⟩ := List.mem_map.mp hm
                  exact absurd (Prod.mk.inj e).2.symm hn
                | obv _ _ _ =>
                  obtain ⟨A', rfl, _⟩ := p
                  obtain ⟨z, _, e⟩ := List.mem_map.mp hm
                  exact absurd (Prod.mk.inj e).2.symm hn
                | rbv _ _ _ =>
                  obtain ⟨A', rfl, q'⟩ := p
                  obtain ⟨z, hz, e⟩ := List.mem_map.mp hm
                  have : z = a := (Prod.mk.inj e).1
                  subst this
                  exact q'.o.there z hz
                | rob _ _ =>
                  obtain ⟨A', rfl, q'⟩ := p
                  obtain ⟨z, hz, e⟩ := List.mem_map.mp hm
                  have : z = a := (Prod.mk.inj e).1
                  subst this
                  exact q'.there z hz
                | tkn _ _ _ =>
                  obtain ⟨A', rfl, q'⟩ := p
                  obtain ⟨z, hz, e⟩ := List.mem_map.mp hm
                  have : z = a := (Prod.mk.inj e).1
                  subst this
                  exact q'.o.there z hz
          · exact ih z
      obtain ⟨o, e⟩ := key b hF
      rw [(own a ha).2] at e
      cases e
    have oc : OCell K B' G v c fs A := q.stay (Same.refl _) bA
    obtain ⟨vfs, ov⟩ := oc.vs
    refine ⟨vfs, hs, B', A.map (·, 2) :: A.map (·, 1) :: Fr, .cons ⟨A, rfl, ov⟩ (.cons ⟨A, rfl, oc⟩ (paired_stay b (Same.refl _) (fun _ _ _ => rfl) fun y hy h0 => bN y.1 fun z => ?_)), ?_, fun a o e => ?_, fun a o e => ?_, fun y hy h0 => ?_⟩
    · exact bad y.2 h0 y.1 z hy
    · simp only [List.flatten_cons]
      refine nd_own nA (nd_own nA nR (bad 1 (by decide))) fun a ha hm => ?_
      rcases List.mem_append.mp hm with hm | hm
      · obtain ⟨z, _, e⟩ := List.mem_map.mp hm
        exact absurd (Prod.mk.inj e).2 (by decide)
      · exact bad 2 (by decide) a ha hm
    · by_cases ha : a ∈ A
      · rw [bA a ha] at e; exact e
      · rw [bN a ha] at e; exact h3 a o e
    · by_cases ha : a ∈ A
      · exact (own a ha).1
      · rw [bN a ha] at e; exact h4 a o e
    · simp only [List.flatten_cons] at hy
      rcases List.mem_append.mp hy with hy | hy
      · obtain ⟨z, _, rfl⟩ := List.mem_map.mp hy
        cases h0
      · rcases List.mem_append.mp hy with hy | hy
        · obtain ⟨z, _, rfl⟩ := List.mem_map.mp hy
          cases h0
        · have h6 := h5 y (List.mem_append_right _ hy) h0
          refine ⟨h6.1, ?_⟩
          rw [bN y.1 fun z => dis y.1 z (by obtain ⟨y1, y2⟩ := y; simp only at h0; subst h0; exact hy)]
          exact h6.2
theorem FCell.uniq {w : V} {f : Fc} {A A' : List Addr} (h : FCell K H G w f A) (h' : FCell K H G w f A') : A = A' := by
  cases f with
  | imm d => rw [h.1, h'.1]
  | lst ds =>
    obtain ⟨a, _, e, rfl, _⟩ := h
    obtain ⟨a', _, e', rfl, _⟩ := h'
    rw [e] at e'
    cases e'
    rfl
theorem FCells.uniq : ∀ {vs : List (Str × V)} {fs : List (Str × Fc)} {A A' : List Addr}, FCells K H G vs fs A → FCells K H G vs fs A' → A = A'
  | _, _, _, _, .nil, .nil => rfl
  | _, _, _, _, .cons p q, .cons p' q' => by rw [p.uniq p', FCells.uniq q q']
theorem OCell.uniq {fs : List (Str × Fc)} {A A' : List Addr} (h : OCell K H G v c fs A) (h' : OCell K H G v c fs A') : A = A' := by
  obtain ⟨a, dx, vfs, B, rfl, rfl, e1, e2, q, ok⟩ := h
  obtain ⟨a', dx', vfs', B', e0, rfl, e1', e2', q', _⟩ := h'
  cases e0
  rw [e1] at e1'
  cases e1'
  rw [q.uniq q']
theorem RepG.takeBack {fs : List (Str × Fc)} {vfs : List (Str × V)} (h : RepG K G H ((some v, some (.tkn c fs vfs)) :: (some v, some (.rob c fs)) :: l)) : RepG K G H ((some v, some (.obj c fs)) :: l) := by
  obtain ⟨hs, B, Fs, h1, h2, h3, h4, h5⟩ := h
  cases h1 with
  | cons p b =>
    cases b with
    | cons p2 b =>
      rename_i Fr
      obtain ⟨A, rfl, q⟩ := p
      replace q := q.o
      obtain ⟨A', rfl, q'⟩ := p2
      have := q.uniq q'
      subst this
      simp only [List.flatten_cons] at h2 h5
      obtain ⟨nA, n1, d1⟩ := own_nd h2
      obtain ⟨_, nR, d2⟩ := own_nd n1
      have thr : ∀ a ∈ A, ∃ o, B a = some o := q.there
      let B' : Hp := fun a => if a ∈ A then none else B a
      have bA : ∀ a ∈ A, B' a = none := fun a ha => if_pos ha
      have bN : ∀ a, a ∉ A → B' a = B a := fun a ha => if_neg ha
      have no0 : ∀ a ∈ A, ((a, 0) : Clm) ∉ Fr.flatten := fun a ha hm => by
        obtain ⟨o, e⟩ := thr a ha
        have := (h5 (a, 0) (List.mem_append_right _ (List.mem_append_right _ hm)) rfl).2
        rw [e] at this
        cases this
      have nob : ∀ y ∈ Fr.flatten, y.2 ≠ 0 → y.1 ∉ A := fun y hy h0 ha => by
        have three : y.2 = 1 ∨ y.2 = 2 := by
          obtain ⟨F, hF, hm⟩ := List.mem_flatten.mp hy
          have key : ∀ {l : List Ent} {Fs : List (List Clm)}, Paired (Ent1 K H G B) l Fs → F ∈ Fs → y.2 = 1 ∨ y.2 = 2 := by
            intro l Fs hp
            induction hp with
            | nil => intro z; simp at z
            | cons p r ih =>
              intro z
              rcases List.mem_cons.mp z with rfl | z
              · rename_i en _ _
                obtain ⟨x, k⟩ := en
                cases k with
                | none => cases p; simp at hm
                | some k =>
                  cases x with
                  | none => exact p.elim
                  | some w =>
                    cases k with
                    | imm d => obtain ⟨rfl, _⟩ := p; simp at hm
                    | lst ds =>
                      obtain ⟨b, vs, _, rfl, _⟩ := p
                      have : y = (b, 0) := by simpa using hm
                      subst this
                      exact absurd rfl h0
                    | dct _ => exact p.elim
                    | obj _ _ =>
                      obtain ⟨A', rfl, _⟩ := p
                      obtain ⟨z, _, rfl⟩ := List.mem_map.mp hm
                      exact absurd rfl h0
                    | obv _ _ _ =>
                      obtain ⟨A', rfl, _⟩ := p
                      obtain ⟨z, _, rfl⟩ := List.mem_map.mp hm
                      exact absurd rfl h0
                    | rbv _ _ _ =>
                      obtain ⟨A', rfl, q'⟩ := p
                      obtain ⟨z, hz, rfl⟩ := List.mem_map.mp hm
                      exact .inl rfl
                    | rob _ _ =>
                      obtain ⟨A', rfl, q'⟩ := p
                      obtain ⟨z, hz, rfl⟩ := List.mem_map.mp hm
                      exact .inl rfl
                    | tkn _ _ _ =>
                      obtain ⟨A', rfl, q'⟩ := p
                      obtain ⟨z, hz, rfl⟩ := List.mem_map.mp hm
                      exact .inr rfl
              · exact ih z
          exact key b hF
        obtain ⟨y1, y2⟩ := y
        simp only at ha three
        rcases three with rfl | rfl
        · exact d2 y1 ha hy
        · exact d1 y1 ha (List.mem_append_right _ hy)
      refine ⟨hs, B', A.map (·, 0) :: Fr, .cons ⟨A, rfl, q.stay (Same.refl _) fun a ha => ?_⟩ (paired_stay b (Same.refl _) (fun _ _ _ => rfl) fun y hy h0 => bN y.1 (nob y hy h0)), ?_, fun a o e => ?_, fun a o e => ?_, fun y hy h0 => ?_⟩
      · obtain ⟨o, e⟩ := thr a ha
        rw [e]
        exact h3 a o e
      · rw [List.flatten_cons]
        exact nd_own nA nR no0
      · by_cases ha : a ∈ A
        · rw [bA a ha] at e; cases e
        · rw [bN a ha] at e; exact h3 a o e
      · by_cases ha : a ∈ A
        · rw [bA a ha] at e; cases e
        · rw [bN a ha] at e; exact h4 a o e
      · rw [List.flatten_cons] at hy
        rcases List.mem_append.mp hy with hy | hy
        · obtain ⟨z, hz, rfl⟩ := List.mem_map.mp hy
          obtain ⟨o, e⟩ := thr z hz
          exact ⟨h4 z o e, bA z hz⟩
        · have h6 := h5 y (List.mem_append_right _ (List.mem_append_right _ hy)) h0
          refine ⟨h6.1, ?_⟩
          by_cases ha : y.1 ∈ A
          · exact bA y.1 ha
          · rw [bN y.1 ha]; exact h6.2
/-- what a token lets read -/
theorem RepG.tread {fs : List (Str × Fc)} {vfs : List (Str × V)} {x : Str} {ds : List PyData} (h : RepG K G H ((some v, some (.tkn c fs vfs)) :: l)) (e : fs.lookup x = some (.lst ds)) : ∃ a dx p ws, v = .ref a ∧ H a = some (.ins (He.ga K c) dx vfs) ∧ vfs.lookup x = some (.ref p) ∧ H p = some (.lst ws) ∧ DqAll K G ws ds := by
  obtain ⟨hs, B, Fs, h1, _, h3, _⟩ := h
  cases h1 with
  | cons p b =>
    obtain ⟨A, _, a, dx, A2, e0, _, e1, e2, q, ok⟩ := p
    obtain ⟨w, A', q1, ⟨p, ws, rfl, _, q3, q4⟩, _⟩ := q.get e
    exact ⟨a, dx, p, ws, e0, h3 _ _ e1, q1, h3 _ _ q3, q4⟩
/-! ### with the fields' values told -/
theorem RepG.headC {k k' : Cn} (h : RepG K G H ((some v, some k) :: l)) (q : ∀ B F, Cell K H G B v k F → Cell K H G B v k' F) : RepG K G H ((some v, some k') :: l) := by
  obtain ⟨hs, B, Fs, h1, h2⟩ := h
  cases h1 with
  | cons p b => exact ⟨hs, B, _, .cons (q B _ p) b, h2⟩
/-- an object to be read, whole -/
def whole : Cn → Option (Str × List (Str × Fc))
  | .obj c fs => some (c, fs)
  | .rob c fs => some (c, fs)
  | _ => none
/-- .. with its fields' values -/
def told : Cn → List (Str × V) → Cn
  | .obj c fs, vfs => .obv c fs vfs
  | .rob c fs, vfs => .rbv c fs vfs
  | k, _ => k
theorem RepG.tell {k : Cn} {fs : List (Str × Fc)} (h : RepG K G H ((some v, some k) :: l)) (e : whole k = some (c, fs)) : ∃ vfs, RepG K G H ((some v, some (told k vfs)) :: l) := by
  obtain ⟨hs, B, Fs, h1, h2⟩ := h
  cases h1 with
  | cons p b =>
    cases k with
    | obj c' fs' =>
      obtain ⟨A, rfl, q⟩ := p
      obtain ⟨vfs, qv⟩ := q.vs
      exact ⟨vfs, hs, B, _, .cons ⟨A, rfl, qv⟩ b, h2⟩
    | rob c' fs' =>
      obtain ⟨A, rfl, q⟩ := p
      obtain ⟨vfs, qv⟩ := q.vs
      exact ⟨vfs, hs, B, _, .cons ⟨A, rfl, qv⟩ b, h2⟩
    | _ => cases e
theorem RepG.untell {k : Cn} {fs : List (Str × Fc)} {vfs : List (Str × V)} (h : RepG K G H ((some v, some (told k vfs)) :: l)) (e : whole k = some (c, fs)) : RepG K G H ((some v, some k) :: l) := by
  cases k with
  | obj c' fs' => exact h.headC fun B F ⟨A, e, q⟩ => ⟨A, e, q.o⟩
  | rob c' fs' => exact h.headC fun B F ⟨A, e, q⟩ => ⟨A, e, q.o⟩
  | _ => cases e
/-- what is told of an object -/
structure OTold (K : PySem.W.Frag) (G H : Hp) (v : V) (c : Str) (fs : List (Str × Fc)) (vfs : List (Str × V)) : Prop where
  ex : ∃ a dx H0 A, v = .ref a ∧ H a = some (.ins (He.ga K c) dx vfs) ∧ Same H0 H ∧ FCells K H0 G vfs fs A
  ok : OkC K c fs
theorem RepG.otold {k : Cn} {fs : List (Str × Fc)} {vfs : List (Str × V)} (h : RepG K G H ((some v, some (told k vfs)) :: l)) (e : whole k = some (c, fs)) : OTold K G H v c fs vfs := by
  obtain ⟨hs, B, Fs, h1, _, h3, _⟩ := h
  cases h1 with
  | cons p b =>
    cases k with
    | obj c' fs' =>
      cases e
      obtain ⟨A, _, a, dx, A2, e0, _, e1, e2, q, ok⟩ := p
      exact ⟨⟨a, dx, H, A2, e0, e1, Same.refl _, q⟩, ok⟩
    | rob c' fs' =>
      cases e
      obtain ⟨A, _, a, dx, A2, e0, _, e1, e2, q, ok⟩ := p
      exact ⟨⟨a, dx, B, A2, e0, h3 _ _ e1, h3, q⟩, ok⟩
    | _ => cases e
theorem OTold.lst {fs : List (Str × Fc)} {vfs : List (Str × V)} {x : Str} {ds : List PyData} (h : OTold K G H v c fs vfs) (e : fs.lookup x = some (.lst ds)) : ∃ a dx p ws, v = .ref a ∧ H a = some (.ins (He.ga K c) dx vfs) ∧ vfs.lookup x = some (.ref p) ∧ H p = some (.lst ws) ∧ DqAll K G ws ds ∧ Cls K (He.ga K c) ∧ NoAttr K (He.ga K c) x := by
  obtain ⟨⟨a, dx, H0, A, e0, e1, s, q⟩, ok⟩ := h
  obtain ⟨w, A', h1, ⟨p, ws, rfl, _, h3, h4⟩, _⟩ := q.get e
  exact ⟨a, dx, p, ws, e0, e1, h1, s _ _ h3, h4, ok.1, ok.2 x _ e⟩
theorem OTold.imm {fs : List (Str × Fc)} {vfs : List (Str × V)} {x : Str} {d : PyData} (h : OTold K G H v c fs vfs) (e : fs.lookup x = some (.imm d)) : ∃ a dx w, v = .ref a ∧ H a = some (.ins (He.ga K c) dx vfs) ∧ vfs.lookup x = some w ∧ Dq K G w d ∧ Cls K (He.ga K c) ∧ NoAttr K (He.ga K c) x := by
  obtain ⟨⟨a, dx, H0, A, e0, e1, s, q⟩, ok⟩ := h
  obtain ⟨w, A', h1, h2, _⟩ := q.get e
  exact ⟨a, dx, w, e0, e1, h1, h2.2, ok.1, ok.2 x _ e⟩
end
end BP
end

section
/-! Bo2: expressions about objects. -/
namespace BP
open PySem PySem.Spec PyProof.Rows L2
section
variable {K : PySem.W.Frag} {G H : Hp} {σ : L2.St} {ρ : Rho} {fr : List Ent} {i : Nat} {c : Str} {fs : List (Str × Fc)}
theorem objOf_some (e : objOf ρ i = some (c, fs)) : ∃ k, (ρ[i]?).join = some k ∧ whole k = some (c, fs) := by
  unfold objOf at e
  cases q : (ρ[i]?).join with
  | none => rw [q] at e; cases e
  | some k =>
    rw [q] at e
    refine ⟨k, rfl, ?_⟩
    cases k with
    | obj _ _ => exact e
    | rob _ _ => exact e
    | _ => cases e
theorem obj_out (g : RepG K G H (σ.zip ρ ++ fr)) (hl : σ.length = ρ.length) (e : objOf ρ i = some (c, fs)) : ∃ v k vfs, (ρ[i]?).join = some k ∧ whole k = some (c, fs) ∧ σ[i]? = some (some v) ∧ RepG K G H ((some v, some (told k vfs)) :: (σ.zip (ρ.set i none) ++ fr)) := by
  obtain ⟨k, q, w⟩ := objOf_some e
  obtain ⟨v, hv, g1⟩ := g.out hl q
  obtain ⟨vfs, g2⟩ := g1.tell w
  exact ⟨v, k, vfs, q, w, hv, g2⟩
theorem obj_in {v : V} {k : Cn} {vfs : List (Str × V)} {l : List Ent} (g : RepG K G H ((some v, some (told k vfs)) :: (σ.zip ρ ++ fr))) (hl : σ.length = ρ.length) (w : whole k = some (c, fs)) (hv : σ[i]? = some (some v)) : RepG K G H (σ.zip (ρ.set i (some k)) ++ fr) := by
  have g1 := g.untell w
  have g2 : RepG K G H (σ.zip ρ ++ ((some v, some k) :: fr)) := g1.perm List.perm_middle.symm
  have g3 := g2.forget hl i
  have g4 : RepG K G H ((some v, some k) :: (σ.zip (ρ.set i none) ++ fr)) := g3.perm List.perm_middle
  exact g4.inn hl hv
theorem fldL_some {x : Str} {xs : List PyData} (e : fldL ρ i x = some xs) : ∃ c fs, objOf ρ i = some (c, fs) ∧ fs.lookup x = some (.lst xs) := by
  unfold fldL at e
  cases q : objOf ρ i with
  | none => rw [q] at e; cases e
  | some p =>
    obtain ⟨c, fs⟩ := p
    rw [q] at e
    replace e : (match fs.lookup x with | some (.lst xs) => some xs | _ => none) = some xs := e
    split at e
    · rename_i ys h
      cases e
      exact ⟨c, fs, rfl, h⟩
    · cases e
theorem fldI_some {x : Str} {d : PyData} (e : fldI ρ i x = some d) : ∃ c fs, objOf ρ i = some (c, fs) ∧ fs.lookup x = some (.imm d) := by
  unfold fldI at e
  cases q : objOf ρ i with
  | none => rw [q] at e; cases e
  | some p =>
    obtain ⟨c, fs⟩ := p
    rw [q] at e
    replace e : (match fs.lookup x with | some (.imm d) => some d | _ => none) = some d := e
    split at e
    · rename_i ys h
      cases e
      exact ⟨c, fs, rfl, h⟩
    · cases e
theorem ownO_some (e : ownO ρ i = some (c, fs)) : (ρ[i]?).join = some (.obj c fs) := by
  unfold ownO at e
  cases q : (ρ[i]?).join with
  | none => rw [q] at e; cases e
  | some k =>
    rw [q] at e
    cases k with
    | obj _ _ => cases e; rfl
    | _ => cases e
end
section
variable {X : Cx} {W : Nat → Hp → Prop} {e a b : Expr} {es : List Expr} {f fa fb : Rho → Rs RV} {fs' : Rho → Rs (List RV)} {pos : Pos} {i : Nat} {x y : Str} {p : Pos} {T : Tb}
theorem de_fget (hN : X.N[i]? = some y) (hv : Vis X.env.scope y) (hd : (y == ("__debug__" : Str)) = false) (hcd : (y == ("__classdict__" : Str)) = false) : DE X W (.Attribute (.Name y p) x pos) (fun ρ => (Rs.ofOpt (fldI ρ i x) ρ).bind fun d ρ => .ok (.val (.imm d)) ρ) := by
  refine ⟨_, pe_fld (pe_var hN hv hd hcd) rfl, fun σ H ρ fr Q hl hR hW => ?_⟩
  obtain ⟨d, ed, hW1⟩ := hW.bind.opt hl.symm
  obtain ⟨c, fs, eo, el⟩ := fldI_some ed
  obtain ⟨G, g⟩ := hR
  obtain ⟨v, k, vfs, q, w, hv, g1⟩ := obj_out g hl eo
  obtain ⟨a, dx, u, e0, e1, e2, e3, e4, e5⟩ := (g1.otold w).imm el
  exact ⟨v, hv, a, _, dx, vfs, u, e0, e1, e4, e5, e2, hW1 hl.symm u H ⟨G, g.add e3⟩ trivial⟩
theorem de_flen (hN : X.N[i]? = some y) (hv : Vis X.env.scope y) (hd : (y == ("__debug__" : Str)) = false) (hcd : (y == ("__classdict__" : Str)) = false) {p2 pos2 : Pos} (hg : Gl X "len") (hm : X.mg "len" = none) : DE X W (.Call (.Name "len" p2) [.Attribute (.Name y p) x pos] [] pos2) (fun ρ => (Rs.ofOpt (fldL ρ i x) ρ).bind fun xs ρ => .ok (.val (.imm (.int xs.length))) ρ) := by
  refine ⟨_, pe_callB call_len hg hm PySem.boot_len (pa_cons (pe_fld (pe_var hN hv hd hcd) rfl) pa_nil), fun σ H ρ fr Q hl hR hW => ?_⟩
  obtain ⟨ds, ed, hW1⟩ := hW.bind.opt hl.symm
  obtain ⟨c, fs, eo, el⟩ := fldL_some ed
  obtain ⟨G, g⟩ := hR
  obtain ⟨v, k, vfs, q, w, hv, g1⟩ := obj_out g hl eo
  obtain ⟨a, dx, u, ws, e0, e1, e2, e3, e4, e5, e6⟩ := (g1.otold w).lst el
  refine ⟨v, hv, a, _, dx, vfs, _, e0, e1, e5, e6, e2, .ref u, ds.length, rfl, .inl ⟨ws, .inl (.inl e3), e4.len.symm⟩, ?_⟩
  exact hW1 hl.symm _ H (Rep.val ⟨G, g⟩ fun G => .int _) trivial
theorem de_fall (hN : X.N[i]? = some y) (hv : Vis X.env.scope y) (hd : (y == ("__debug__" : Str)) = false) (hcd : (y == ("__classdict__" : Str)) = false) {p2 pos2 : Pos} (hg : Gl X "list") (hm : X.mg "list" = none) : DE X W (.Call (.Name "list" p2) [.Attribute (.Name y p) x pos] [] pos2) (fun ρ => (Rs.ofOpt (fldL ρ i x) ρ).bind fun xs ρ => .ok (.val (.lst xs)) ρ) := by
  refine ⟨_, pe_callTy call_list_of hg hm (by decide +kernel) (pa_cons (pe_fld (pe_var hN hv hd hcd) rfl) pa_nil), fun σ H ρ fr Q hl hR hW => ?_⟩
  obtain ⟨ds, ed, hW1⟩ := hW.bind.opt hl.symm
  obtain ⟨c, fs, eo, el⟩ := fldL_some ed
  obtain ⟨G, g⟩ := hR
  obtain ⟨v, k, vfs, q, w, hv, g1⟩ := obj_out g hl eo
  obtain ⟨a, dx, u, ws, e0, e1, e2, e3, e4, e5, e6⟩ := (g1.otold w).lst el
  refine ⟨v, hv, a, _, dx, vfs, _, e0, e1, e5, e6, e2, u, ws, rfl, .inl (.inl (.inl e3)), fun l hz => ?_⟩
  exact hW1 hl.symm _ _ (g.made (.inr ⟨l, _, _, rfl, hz, e4, .inr ⟨rfl, rfl⟩⟩)) trivial
theorem de_fix (hN : X.N[i]? = some y) (hv : Vis X.env.scope y) (hd : (y == ("__debug__" : Str)) = false) (hcd : (y == ("__classdict__" : Str)) = false) {pos2 : Pos} (hb : DE X W b fb) (hns : noSlice b = true) : DE X W (.Subscript (.Attribute (.Name y p) x pos) b pos2) (fun ρ => (Rs.ofOpt (fldL ρ i x) ρ).bind fun xs ρ => (fb (ρ.set i none)).bind (fixF xs i (ρ[i]?).join)) := by
  obtain ⟨tb, pb, rb⟩ := hb
  refine ⟨_, pe_ix ix_seq (pe_fld (pe_var hN hv hd hcd) rfl) pb (plainIx hns), fun σ H ρ fr Q hl hR hW => ?_⟩
  obtain ⟨ds, ed, hW1⟩ := hW.bind.opt hl.symm
  obtain ⟨c, fs, eo, el⟩ := fldL_some ed
  obtain ⟨G, g⟩ := hR
  obtain ⟨v, k, vfs, q, w, hv, g1⟩ := obj_out g hl eo
  obtain ⟨a, dx, u, ws, e0, e1, e2, e3, e4, e5, e6⟩ := (g1.otold w).lst el
  refine ⟨v, hv, a, _, dx, vfs, _, e0, e1, e5, e6, e2, ?_⟩
  have g2 : RepG X.K G H (σ.zip (ρ.set i none) ++ ((some v, some (told k vfs)) :: fr)) := g1.perm List.perm_middle.symm
  have hW1 : Wish X.K W σ fr ((fb (ρ.set i none)).bind (fixF ds i (ρ[i]?).join)) _ := hW1
  rw [q] at hW1
  -- an exception would leave the object in the frame alone
  cases ef : fb (ρ.set i none) with
  | stuck => rw [ef] at hW1; exact hW1.elim
  | exc ec ρ1 =>
    rw [ef] at hW1
    have hW2 : ρ1.length = σ.length → ∀ H, Rep X.K H (σ.zip ρ1 ++ fr) → W ec H := hW1
    refine rb σ H (ρ.set i none) ((some v, some (told k vfs)) :: fr) _ (by simpa using hl) ⟨G, g2⟩ ?_
    rw [ef]
    exact fun l1 H1 r1 => hW2 l1 H1 (Rep.mid (B := [(some v, some (told k vfs))]) r1)
  | ok ry ρ1 =>
    rw [ef] at hW1
    refine rb σ H (ρ.set i none) ((some v, some (told k vfs)) :: fr) _ (by simpa using hl) ⟨G, g2⟩ ?_
    rw [ef]
    intro l1 z H1 hR1 sz
    obtain ⟨G1, g3⟩ := hR1
    have hW2 : Wish X.K W σ fr (fixF ds i (some k) ry ρ1) _ := hW1
    unfold fixF at hW2
    cases ez : dat ρ1 ry with
    | none => rw [ez] at hW2; exact hW2.elim
    | some d =>
      rw [ez] at hW2
      have vw := g3.view l1.symm sz ez
      cases d with
      | int j =>
        have hW3 : Wish X.K W σ fr ((Rs.ofOpt (atI ds j) ρ1).bind fun y ρ => Rs.ok (RV.val (.imm y)) (ρ.set i (some k))) _ := hW2
        obtain ⟨d, ea, hW4⟩ := hW3.bind.opt l1
        have g4 : RepG X.K G1 H1 ((some v, some (told k vfs)) :: (σ.zip ρ1 ++ fr)) := (g3.tails _).perm List.perm_middle
        obtain ⟨a', dx', u', ws', f0, f1, f2, f3, f4, _, _⟩ := (g4.otold w).lst el
        rw [e2] at f2
        cases f2
        obtain ⟨zz, z1, z2⟩ := atI_map f4 ea
        refine .inl ⟨u, ws', j, zz, rfl, vw.int, .inl (.inl f3), z1, ?_⟩
        exact hW4 (by simpa using l1) zz H1 ⟨G1, (obj_in (l := []) g4 l1.symm w hv).add z2⟩ trivial
      | _ => exact hW2.elim
theorem de_fslice {lo hi : Option Expr} {fl fh : Rho → Rs (Option Int)} {p2 pos2 : Pos} (hN : X.N[i]? = some y) (hv : Vis X.env.scope y) (hd : (y == ("__debug__" : Str)) = false) (hcd : (y == ("__classdict__" : Str)) = false) (hlo : DO X W lo fl) (hhi : DO X W hi fh) :
    DE X W (.Subscript (.Attribute (.Name y p) x pos) (.Slice lo hi none p2) pos2) (fun ρ => (Rs.ofOpt (fldL ρ i x) ρ).bind fun xs ρ => (fl (ρ.set i none)).bind fun l ρ' => (fh ρ').bind fun h ρ' => .ok (.val (.lst (cutD xs l h))) (ρ'.set i (ρ[i]?).join)) := by
  obtain ⟨tl, pl, rl⟩ := hlo
  obtain ⟨th, ph, rh⟩ := hhi
  refine ⟨_, pe_slice sl_list (pe_fld (pe_var hN hv hd hcd) rfl) pl ph, fun σ H ρ fr Q hl hR hW => ?_⟩
  obtain ⟨ds, ed, hW1⟩ := hW.bind.opt hl.symm
  obtain ⟨c, fs, eo, el⟩ := fldL_some ed
  obtain ⟨G, g⟩ := hR
  obtain ⟨v, k, vfs, q, w, hv, g1⟩ := obj_out g hl eo
  obtain ⟨a, dx, u, ws, e0, e1, e2, e3, e4, e5, e6⟩ := (g1.otold w).lst el
  refine ⟨v, hv, a, _, dx, vfs, _, e0, e1, e5, e6, e2, ?_⟩
  have g2 : RepG X.K G H (σ.zip (ρ.set i none) ++ ((some v, some (told k vfs)) :: fr)) := g1.perm List.perm_middle.symm
  rw [q] at hW1
  refine rl σ H (ρ.set i none) ((some v, some (told k vfs)) :: fr) _ (by simpa using hl) ⟨G, g2⟩ ((hW1.bind.frame [(some v, some (told k vfs))]).mono fun lo' ρ1 l1 hW2 H1 hR1 => ?_)
  refine rh σ H1 ρ1 ((some v, some (told k vfs)) :: fr) _ l1.symm hR1 ((hW2.bind.frame [(some v, some (told k vfs))]).mono fun hi' ρ2 l2 hW3 H2 hR2 => ?_)
  obtain ⟨G2, g3⟩ := hR2
  have g4 : RepG X.K G2 H2 ((some v, some (told k vfs)) :: (σ.zip ρ2 ++ fr)) := g3.perm List.perm_middle
  obtain ⟨a', dx', u', ws', f0, f1, f2, f3, f4, _, _⟩ := (g4.otold w).lst el
  rw [e2] at f2
  cases f2
  refine ⟨u, ws', rfl, .inl (.inl f3), fun z hz => ?_⟩
  exact hW3 (by simpa using l2) _ _ ((obj_in (l := []) g4 l2.symm w hv).made (.inr ⟨z, _, _, rfl, hz, cut_all f4 lo' hi', .inr ⟨rfl, rfl⟩⟩)) trivial
end
end BP
end

section
/-! Bo3: methods called, objects made. -/
namespace BP
open PySem PySem.Spec PyProof.Rows L2
theorem isNone_iff' {α : Type} {o : Option α} (h : o.isNone = true) : o = none := by cases o with | none => rfl | some _ => cases h
theorem all_star {pos : Pos} {env : PySem.Env} : ∀ {es : List Expr}, es.all plainE = true → (backTo pos (starEach es env)).all (fun x => !x.1) = true
  | [], _ => rfl
  | e :: es, h => by
    simp only [List.all_cons, Bool.and_eq_true] at h
    rw [star_plain h.1]
    show ((false, _) :: backTo pos (starEach es env)).all (fun x => !x.1) = true
    rw [List.all_cons, all_star h.2]
    rfl
theorem meth_ht {es : List Expr} {y m : Str} {p apos pos : Pos} {env : PySem.Env} (hp : es.all plainE = true) (hlen : es.length < 30) (hline : (apos.endLine == pos.line) = true) :
   eval (.Call (.Attribute (.Name y p) m apos) es [] pos) env = (do
      let ov ← eval (.Name y p) env
      standAt apos.atName
      let (f, first) ← holding [ov] (calleeOf true (.Name y p) env ov m)
      callWith pos f first (backTo pos (starEach es env)) (backToKw pos (keywordEach [] env))) := by
  have hf : methodCallForm (es.length + ([] : List Keyword).length) (backTo pos (starEach es env)) (backToKw pos (keywordEach [] env)) = true := by
    unfold methodCallForm
    rw [all_star hp]
    show (true && true && decide (es.length + 0 + 0 < 30)) = true
    simpa using hlen
  have hpos : methodCallPos true (.Name y p) env apos pos = pure pos := by unfold methodCallPos; simp [hline]
  show (attributeBase (.Name y p) m env (eval (.Name y p) env) >>= fun ov => standAt apos.atName >>= fun _ => methodCall (.Name y p) m apos pos env ov (es.length + ([] : List Keyword).length) (backTo pos (starEach es env)) (backToKw pos (keywordEach [] env))) = _
  unfold methodCall
  rw [hf, hpos]
  rfl
section
variable {X : Cx} {W : Nat → Hp → Prop} {e a b : Expr} {es : List Expr} {fs' : Rho → Rs (List RV)} {pos : Pos} {i : Nat} {x y m : Str} {p apos : Pos} {T : Tb}
/-- from a call's worth to the def's promise -/
theorem call_use {xc : Nat → Value} {np : Nat} {F : Fden} {σ : L2.St} {H1 : Hp} {ρ1 : Rho} {fr : List Ent} {vs : List V} {rs : List RV} {Q : VK} (l1 : ρ1.length = σ.length) (hR1 : Rep X.K H1 (ents vs rs ++ (σ.zip ρ1 ++ fr))) (ss : Sides σ vs rs) (hnp : rs.length = np)
    (hW : Wish X.K W σ fr (callF F rs ρ1) (fun r ρ' => ∀ v H', Rep X.K H' (ent v r ++ (σ.zip ρ' ++ fr)) → side σ v r → Q v H')) : spD X.K xc np F vs H1 Q (EX xc W) := by
  unfold callF at hW
  split at hW
  · rename_i nd
    cases ea : argCs ρ1 rs with
    | none => rw [ea] at hW; exact hW.elim
    | some cs =>
      rw [ea] at hW
      obtain ⟨G, g⟩ := hR1
      obtain ⟨g1, lc⟩ := args_out g l1.symm ss nd ea
      refine ⟨by rw [ss.len, hnp], cs, σ.zip (clr rs ρ1) ++ fr, lc, ⟨G, g1⟩, ?_⟩
      cases ef : F cs with
      | ok c cs' =>
        simp only [ef] at hW ⊢
        intro hcl v H' hR'
        rw [if_pos hcl] at hW
        obtain ⟨G', g'⟩ := hR'
        have g2 : RepG X.K G' H' (argE vs cs' ++ (σ.zip (clr rs ρ1) ++ ((some v, some c) :: fr))) := g'.perm (by
          rw [← List.append_assoc, ← List.append_assoc]
          exact List.perm_middle.symm)
        have g3 := args_in g2 l1.symm ss nd (hcl.trans lc)
        exact hW (by rw [back_len]; exact l1) v H' ⟨G', g3.perm List.perm_middle⟩ trivial
      | exc ec cs' =>
        simp only [ef] at hW ⊢
        intro hcl H' hR'
        rw [if_pos hcl] at hW
        obtain ⟨G', g'⟩ := hR'
        exact ⟨ec, rfl, rfl, hW (by rw [back_len]; exact l1) H' ⟨G', args_in g' l1.symm ss nd (hcl.trans lc)⟩⟩
      | stuck => simp only [ef] at hW; exact hW.elim
  · exact hW.elim
def methF (c : Str) (F : Fden) (i : Nat) (m : Str) (fs : Rho → Rs (List RV)) (ρ : Rho) : Rs RV := (Rs.ofOpt (ownO ρ i) ρ).bind fun p ρ => if p.1 = c ∧ (p.2.lookup m).isNone = true then (fs ρ).bind fun rs ρ => callF F (.slot i :: rs) ρ else .stuck
theorem de_meth {xc : Nat → Value} {k np : Nat} {f : Addr} {fd : FuncData} {ps : List Str} {F : Fden} {c : Str} (ok : FnOk X.prog X.w X.K X.mg X.base (CX X.prog X.w) k f fd ps (spD X.K xc np F)) (hr : Room k X.A) (hC : Cls X.K (He.ga X.K c)) (hm : Meth X.K (He.ga X.K c) m f) (hb : Binds X.K fd ps []) (hx : Passes (CX X.prog X.w) X (EX xc W))
    (hN : X.N[i]? = some y) (hv : Vis X.env.scope y) (hd : (y == ("__debug__" : Str)) = false) (hcd : (y == ("__classdict__" : Str)) = false) (ha : DA X W (e :: es) fs') (hp : (e :: es).all plainE = true) (hl30 : (e :: es).length < 30) (hline : (apos.endLine == pos.line) = true) (hnp : (e :: es).length + 1 = np) (hlen : ∀ ρ rs ρ', fs' ρ = .ok rs ρ' → rs.length = (e :: es).length) :
    DE X W (.Call (.Attribute (.Name y p) m apos) (e :: es) [] pos) (methF c F i m fs') := by
  obtain ⟨t, pt, rt⟩ := ha
  have hp' := hp
  simp only [List.all_cons, Bool.and_eq_true] at hp'
  refine ⟨_, pe_meth (pl := do return (← importBound (.Name y p) X.env).getD true) (pe_var hN hv hd hcd) hC hm ok hr hb .nil hx pt (star_plain hp'.1 _ _) (any_star hp'.2) (meth_ht hp hl30 hline), fun σ H ρ fr Q hl hR hW => ?_⟩
  unfold methF at hW
  obtain ⟨q, eo, hW1⟩ := hW.bind.opt hl.symm
  obtain ⟨c', fs⟩ := q
  simp only at hW1
  split at hW1
  · rename_i hc
    obtain ⟨rfl, hnone⟩ := hc
    have hslot := ownO_some eo
    obtain ⟨G, g⟩ := hR
    obtain ⟨v, hv, g1⟩ := g.out hl hslot
    obtain ⟨a, dx, vfs, e0, e1, e2, _⟩ := g1.oread.no (isNone_iff' hnone)
    refine ⟨v, hv, a, dx, vfs, e0, e1, e2, ?_⟩
    cases ef : fs' ρ with
    | stuck => rw [ef] at hW1; exact hW1.elim
    | exc ec ρ1 =>
      rw [ef] at hW1
      refine rt σ H ρ fr _ hl ⟨G, g⟩ ?_
      rw [ef]
      exact hW1
    | ok rs ρ1 =>
      have hlr := hlen ρ rs ρ1 ef
      rw [ef] at hW1
      refine rt σ H ρ fr _ hl ⟨G, g⟩ ?_
      rw [ef]
      intro l1 vs H1 hR1 ss
      have hW2 : Wish X.K W σ fr (callF F (.slot i :: rs) ρ1) _ := hW1
      rw [List.append_nil]
      exact call_use (rs := .slot i :: rs) (vs := v :: vs) l1 hR1 (.cons hv ss) (by rw [List.length_cons, hlr, hnp]) hW2
  · exact hW1.elim
theorem de_meth0 {xc : Nat → Value} {k np : Nat} {f : Addr} {fd : FuncData} {ps : List Str} {F : Fden} {c : Str} (ok : FnOk X.prog X.w X.K X.mg X.base (CX X.prog X.w) k f fd ps (spD X.K xc np F)) (hr : Room k X.A) (hC : Cls X.K (He.ga X.K c)) (hm : Meth X.K (He.ga X.K c) m f) (hb : Binds X.K fd ps []) (hx : Passes (CX X.prog X.w) X (EX xc W))
    (hN : X.N[i]? = some y) (hv : Vis X.env.scope y) (hd : (y == ("__debug__" : Str)) = false) (hcd : (y == ("__classdict__" : Str)) = false) (hline : (apos.endLine == pos.line) = true) (hnp : 1 = np) :
    DE X W (.Call (.Attribute (.Name y p) m apos) [] [] pos) (methF c F i m (fun ρ => .ok [] ρ)) := by
  refine ⟨_, pe_meth0 (pl := do return (← importBound (.Name y p) X.env).getD true) (pe_var hN hv hd hcd) hC hm ok hr hb .nil hx (meth_ht rfl (by decide) hline), fun σ H ρ fr Q hl hR hW => ?_⟩
  unfold methF at hW
  obtain ⟨q, eo, hW1⟩ := hW.bind.opt hl.symm
  obtain ⟨c', fs⟩ := q
  simp only at hW1
  split at hW1
  · rename_i hc
    obtain ⟨rfl, hnone⟩ := hc
    have hslot := ownO_some eo
    obtain ⟨G, g⟩ := hR
    obtain ⟨v, hv, g1⟩ := g.out hl hslot
    obtain ⟨a, dx, vfs, e0, e1, e2, _⟩ := g1.oread.no (isNone_iff' hnone)
    refine ⟨v, hv, a, dx, vfs, e0, e1, e2, ?_⟩
    have hW2 : Wish X.K W σ fr (callF F [.slot i] ρ) _ := hW1
    have hR1 : Rep X.K H (ents [v] [.slot i] ++ (σ.zip ρ ++ fr)) := ⟨G, g⟩
    exact call_use (rs := [.slot i]) (vs := [v]) hl.symm hR1 (.cons hv .nil) hnp hW2
  · exact hW1.elim
/-! ### a new object -/
theorem new_use {xc : Nat → Value} {np : Nat} {F : Fden} {c : Str} {σ : L2.St} {H1 : Hp} {ρ1 : Rho} {fr : List Ent} {vs : List V} {rs : List RV} {Q : VK} {a dx : Addr} (hC : Cls X.K (He.ga X.K c)) (l1 : ρ1.length = σ.length) (hR1 : Rep X.K H1 (ents vs rs ++ (σ.zip ρ1 ++ fr))) (ss : Sides σ vs rs) (hnp : rs.length + 1 = np) (ha : H1 a = none) (hdx : H1 dx = none) (hne : dx ≠ a)
    (hW : Wish X.K W σ fr (newF c F rs ρ1) (fun r ρ' => ∀ v H', Rep X.K H' (ent v r ++ (σ.zip ρ' ++ fr)) → side σ v r → Q v H')) :
    spD X.K xc np F (.ref a :: vs) (upd (upd H1 dx (.own a)) a (.ins (He.ga X.K c) dx [])) (fun v H2 => v = .non ∧ Q (.ref a) H2) (EX xc W) := by
  unfold newF at hW
  split at hW
  · rename_i nd
    cases ea : argCs ρ1 rs with
    | none => rw [ea] at hW; exact hW.elim
    | some cs =>
      rw [ea] at hW
      obtain ⟨G, g⟩ := hR1
      obtain ⟨g1, lc⟩ := args_out g l1.symm ss nd ea
      have g2 := g1.newObj (c := c) hC ha hdx hne
      refine ⟨by rw [List.length_cons, ss.len, hnp], .obj c [] :: cs, σ.zip (clr rs ρ1) ++ fr, by simp [lc], ⟨G, g2⟩, ?_⟩
      cases ef : F (.obj c [] :: cs) with
      | ok k cs' =>
        simp only [ef] at hW ⊢
        intro hcl v H' hR'
        cases k with
        | imm d =>
          cases d with
          | none =>
            cases cs' with
            | nil => exact hW.elim
            | cons o cs2 =>
              simp only at hW
              split at hW
              · rename_i hcl2
                obtain ⟨G', g'⟩ := hR'
                have hv := g'.imm
                cases hv
                refine ⟨rfl, ?_⟩
                have g3 : RepG X.K G' H' ((some (.ref a), some o) :: (argE vs cs2 ++ (σ.zip (clr rs ρ1) ++ fr))) := g'.tail
                have g4 : RepG X.K G' H' (argE vs cs2 ++ (σ.zip (clr rs ρ1) ++ ((some (.ref a), some o) :: fr))) := g3.perm (by
                  rw [← List.append_assoc, ← List.append_assoc]
                  exact List.perm_middle.symm)
                have g5 := args_in g4 l1.symm ss nd (hcl2.trans lc)
                exact hW (by rw [back_len]; exact l1) (.ref a) H' ⟨G', g5.perm List.perm_middle⟩ trivial
              · exact hW.elim
          | _ => exact hW.elim
        | _ => exact hW.elim
      | exc ec cs' => simp only [ef] at hW; exact hW.elim
      | stuck => simp only [ef] at hW; exact hW.elim
  · exact hW.elim
theorem de_new {xc : Nat → Value} {k np : Nat} {f : Addr} {fd : FuncData} {ps : List Str} {F : Fden} {c : Str} (ok : FnOk X.prog X.w X.K X.mg X.base (CX X.prog X.w) k f fd ps (spD X.K xc np F)) (hr : Room (k + 1) X.A) (hC : Cls X.K (He.ga X.K c)) (M : Mk X.K (He.ga X.K c) f) (hg : Gl X c) (hmg : X.mg c = some (.ref (He.ga X.K c))) (hb : Binds X.K fd ps []) (hx : Passes (CX X.prog X.w) X (EX xc W))
    (hdb : (c == ("__debug__" : Str)) = false) (ha : DA X W (e :: es) fs') (hp : (e :: es).all plainE = true) (hnp : (e :: es).length + 1 = np) (hlen : ∀ ρ rs ρ', fs' ρ = .ok rs ρ' → rs.length = (e :: es).length) :
    DE X W (.Call (.Name c p) (e :: es) [] pos) (fun ρ => (fs' ρ).bind (newF c F)) := by
  obtain ⟨t, pt, rt⟩ := ha
  simp only [List.all_cons, Bool.and_eq_true] at hp
  refine ⟨_, pe_make M ok hr hg hmg hb .nil hx pt hdb (star_plain hp.1 _ _) (any_star hp.2), fun σ H ρ fr Q hl hR hW => ?_⟩
  replace hW : Wish X.K W σ fr ((fs' ρ).bind (newF c F)) _ := hW
  cases ef : fs' ρ with
  | stuck => rw [ef] at hW; exact hW.elim
  | exc ec ρ1 =>
    rw [ef] at hW
    refine rt σ H ρ fr _ hl hR ?_
    rw [ef]
    exact hW
  | ok rs ρ1 =>
    have hlr := hlen ρ rs ρ1 ef
    rw [ef] at hW
    refine rt σ H ρ fr _ hl hR ?_
    rw [ef]
    intro l1 vs H1 hR1 ss a dx ha hdx hne
    rw [List.append_nil]
    exact new_use hC l1 hR1 ss (by rw [hlr, hnp]) ha hdx hne hW
theorem de_new0 {xc : Nat → Value} {k np : Nat} {f : Addr} {fd : FuncData} {ps : List Str} {F : Fden} {c : Str} (ok : FnOk X.prog X.w X.K X.mg X.base (CX X.prog X.w) k f fd ps (spD X.K xc np F)) (hr : Room (k + 1) X.A) (hC : Cls X.K (He.ga X.K c)) (M : Mk X.K (He.ga X.K c) f) (hg : Gl X c) (hmg : X.mg c = some (.ref (He.ga X.K c))) (hb : Binds X.K fd ps []) (hx : Passes (CX X.prog X.w) X (EX xc W))
    (hdb : (c == ("__debug__" : Str)) = false) (hnp : 1 = np) : DE X W (.Call (.Name c p) [] [] pos) (fun ρ => newF c F [] ρ) := by
  refine ⟨_, pe_make0 M ok hr hg hmg hb .nil hx hdb, fun σ H ρ fr Q hl hR hW => ?_⟩
  intro a dx ha hdx hne
  exact new_use (rs := []) (vs := []) hC hl.symm hR .nil hnp ha hdx hne hW
end
end BP
end

section
/-! Bo4: statements about objects. -/
namespace BP
open PySem PySem.Spec PyProof.Rows L2
section
variable {K : PySem.W.Frag} {G H : Hp} {σ : L2.St} {ρ : Rho} {fr : List Ent} {i : Nat} {c : Str} {fs : List (Str × Fc)} {vfs : List (Str × V)}
theorem ownL_some {x : Str} {q : Str × List (Str × Fc) × List PyData} (e : ownL ρ i x = some q) : (ρ[i]?).join = some (.obj q.1 q.2.1) ∧ q.2.1.lookup x = some (.lst q.2.2) := by
  unfold ownL at e
  cases eo : ownO ρ i with
  | none => rw [eo] at e; cases e
  | some p =>
    obtain ⟨c, fs⟩ := p
    rw [eo] at e
    replace e : (match fs.lookup x with | some (.lst xs) => some (c, fs, xs) | _ => none) = some q := e
    split at e
    · rename_i ys h
      cases e
      exact ⟨ownO_some eo, h⟩
    · cases e
theorem walkD_tkn {v : V} {x : Str} {ds : List PyData} {p : Addr} (el : fs.lookup x = some (.lst ds)) (hx : vfs.lookup x = some (.ref p)) : WalkD K (Ite K p) (enumL 0 ds) [(some v, some (.tkn c fs vfs))] where
  go := by
    rintro i H l ⟨G, g⟩ hi
    obtain ⟨a, dx, p', ws, _, _, e2, e3, q1⟩ := g.tread el
    rw [hx] at e2
    cases e2
    rw [enumL_len] at hi
    obtain ⟨y, hv⟩ := get_lt (l := ws) (i := i) (by rw [q1.len]; exact hi)
    exact ⟨ws, _, .inl (.inl e3), hv⟩
  stop := by
    rintro H l ⟨G, g⟩
    obtain ⟨a, dx, p', ws, _, _, e2, e3, q1⟩ := g.tread el
    rw [hx] at e2
    cases e2
    rw [enumL_len]
    exact ⟨ws, .inl (.inl e3), Nat.le_of_eq q1.len⟩
  yld := by
    rintro i H l z H' d ⟨G, g⟩ hd ⟨T, y, rfl, hT, rfl, hy⟩
    obtain ⟨u, hz, rfl⟩ := enumL_get ds 0 i d hd
    obtain ⟨a, dx, p', ws, _, _, e2, e3, q1⟩ := g.tread el
    rw [hx] at e2
    cases e2
    obtain ⟨v', hv, dv⟩ := q1.get hz
    have := hy ws (.inl (.inl e3))
    rw [hv] at this
    cases this
    rw [Nat.zero_add]
    exact g.made (made_pair hT (.int _) dv)
theorem unl {v : V} (h : Rep K H (σ.zip ρ ++ ((some v, some (.tkn c fs vfs)) :: fr))) (hl : σ.length = ρ.length) (hv : σ[i]? = some (some v)) (e : (ρ[i]?).join = some (.rob c fs)) : Rep K H (σ.zip (ρ.set i (some (.obj c fs))) ++ fr) := by
  obtain ⟨G, g⟩ := h
  obtain ⟨w, hw, g1⟩ := g.out hl e
  have : w = v := by
    have : some (some w) = some (some v) := hw.symm.trans hv
    simpa using this
  subst this
  have g2 : RepG K G H ((some w, some (.tkn c fs vfs)) :: (some w, some (.rob c fs)) :: (σ.zip (ρ.set i none) ++ fr)) := g1.perm ((List.Perm.cons _ List.perm_middle).trans (List.Perm.swap _ _ _))
  exact ⟨G, g2.takeBack.inn hl hv⟩
end
section
variable {X : Cx} {W : Nat → Hp → Prop} {s : Stmt} {ss : List Stmt} {st st' : List Nat} {e a b k tg : Expr} {fe fk : Rho → Rs RV} {f g : Rho → Rs Fl} {pos : Pos} {T : Tb} {i : Nat} {x y : Str} {p ap : Pos}
theorem swaps_attr {o : Expr} {f : Str} {pa : Pos} {l : Nat} {env : PySem.Env} : swapsWith e (some (.Attribute o f pa)) l env = pure false := by
  cases e <;> rfl
theorem ds_setF (hN : X.N[i]? = some y) (hv : Vis X.env.scope y) (hd : (y == ("__debug__" : Str)) = false) (hcd : (y == ("__classdict__" : Str)) = false) (he : DE X W e fe) (hf : ∀ c, T.flds.contains (c, x) = true → NoAttr X.K (He.ga X.K c) x) :
    DS X W (.Assign [.Attribute (.Name y p) x ap] e pos) [] (fun ρ => (fe ρ).bind fun r ρ => (Rs.ofOpt (keep ρ r) ρ).bind fun p _ => setFF T i x p.1 p.2) := by
  obtain ⟨t, pt, r⟩ := he
  refine ⟨_, ps_fld (pe_var hN hv hd hcd) pt swaps_attr, fun D σ H ρ fr hl hR hW => ?_⟩
  refine r σ H ρ fr _ hl hR (hW.bind.mono fun rx ρ1 l1 hW1 w H1 hR1 sw => ?_)
  cases ek : keep ρ1 rx with
  | none => rw [ek] at hW1; exact hW1.elim
  | some pr =>
    obtain ⟨kc, ρ2⟩ := pr
    rw [ek] at hW1
    obtain ⟨h2, l2⟩ := keep_use l1 hR1 sw ek
    have hW2 : WS X.K W [] σ fr (setFF T i x kc ρ2) D := hW1
    unfold setFF at hW2
    split at hW2
    · rename_i c fs f' eo ef
      split at hW2
      · rename_i hc
        obtain ⟨G, g⟩ := h2
        have g0 : RepG X.K G H1 (σ.zip ρ2 ++ ((some w, some kc) :: fr)) := g.perm List.perm_middle.symm
        obtain ⟨v, hv', g1⟩ := g0.out l2.symm (ownO_some eo)
        have g2 : RepG X.K G H1 ((some w, some kc) :: (some v, some (.obj c fs)) :: (σ.zip (ρ2.set i none) ++ fr)) := g1.perm ((List.Perm.cons _ List.perm_middle).trans (List.Perm.swap _ _ _))
        obtain ⟨a, dx, vfs, e0, e1, e2, e3, g3⟩ := g2.setF ef (hf c hc.2)
        refine ⟨v, hv', a, _, dx, vfs, e0, e1, e3, hf c hc.2, by rw [e2]; omega, ?_⟩
        exact hW2 σ _ (Agree.refl _ _) (by simp [l2]) ⟨G, g3.inn l2.symm hv'⟩
      · exact hW2.elim
    · exact hW2.elim
theorem ds_appF {apos cpos : Pos} (hN : X.N[i]? = some y) (hv : Vis X.env.scope y) (hd : (y == ("__debug__" : Str)) = false) (hcd : (y == ("__classdict__" : Str)) = false) (he : DE X W e fe) (hp : plainE e = true) (hpos : (apos.endLine == cpos.line) = true) :
    DS X W (.Expr (.Call (.Attribute (.Attribute (.Name y p) x ap) "append" apos) [e] [] cpos) pos) [] (fun ρ => (Rs.ofOpt (ownL ρ i x) ρ).bind fun q ρ => (fe (ρ.set i none)).bind fun r ρ => (Rs.ofOpt (frz ρ r) ρ).bind fun p _ => if q.2.2.length < lim then .ok .next (p.2.set i (some (.obj q.1 (putC x (.lst (q.2.2 ++ [p.1])) q.2.1)))) else .stuck) := by
  obtain ⟨t, pt, r⟩ := he
  refine ⟨_, ps_expr (pe_bm PySem.F.plainAttrs_list PySem.F.slot_list_append PySem.F.type_list_append mt_append (pe_fld (pe_var hN hv hd hcd) rfl) (pa_cons pt pa_nil (star_plain hp _ _)) rfl (by rw [star_plain hp]; rfl) hpos (star_plain hp _ _) rfl) rfl, fun D σ H ρ fr hl hR hW => ?_⟩
  obtain ⟨q, eq, hW1⟩ := Wish.opt hW.bind hl.symm
  obtain ⟨eo, el⟩ := ownL_some eq
  obtain ⟨c, fs, ds⟩ := q
  simp only at eo el hW1
  obtain ⟨G, g⟩ := hR
  obtain ⟨v, hv', g0⟩ := g.out hl eo
  obtain ⟨vfs, g1⟩ := g0.tell (k := .obj c fs) rfl
  obtain ⟨a, dx, u, ws, e0, e1, e2, e3, e4, e5, e6⟩ := (g1.otold (k := .obj c fs) rfl).lst el
  refine ⟨v, hv', a, _, dx, vfs, _, e0, e1, e5, e6, e2, .inl ⟨rfl, ws, .inl (.inl e3)⟩, ?_⟩
  have g2 : RepG X.K G H (σ.zip (ρ.set i none) ++ ((some v, some (.obv c fs vfs)) :: fr)) := g1.perm List.perm_middle.symm
  refine r σ H (ρ.set i none) ((some v, some (.obv c fs vfs)) :: fr) _ (by simpa using hl) ⟨G, g2⟩ ((hW1.bind.frame [(some v, some (.obv c fs vfs))]).mono fun rx ρ1 l1 hW2 z H1 hR1 sz => ?_)
  cases ef : frz ρ1 rx with
  | none => rw [ef] at hW2; exact hW2.elim
  | some pr =>
    obtain ⟨d, ρ2⟩ := pr
    rw [ef] at hW2
    obtain ⟨⟨G2, g3⟩, l2⟩ := hR1.frz l1.symm sz ef
    have hW3 : WS X.K W [] σ fr (if ds.length < lim then .ok .next (ρ2.set i (some (.obj c (putC x (.lst (ds ++ [d])) fs)))) else .stuck) D := hW2
    split at hW3
    · rename_i hlim
      have dz := g3.imm
      have g4 : RepG X.K G2 H1 ((some v, some (.obv c fs vfs)) :: (σ.zip ρ2 ++ fr)) := g3.tail.perm List.perm_middle
      obtain ⟨a', dx', u', ws', f0, f1, f2, f3, f4, _, _⟩ := (g4.otold (k := .obj c fs) rfl).lst el
      rw [e2] at f2
      cases f2
      have g5 : RepG X.K G2 H1 ((some v, some (.obj c fs)) :: (σ.zip ρ2 ++ fr)) := g4.untell (k := .obj c fs) rfl
      obtain ⟨a2, dx2, vfs2, p2, ws2, h0, h1, h2, h3, h4, g6⟩ := g5.writeF (vs' := ws' ++ [z]) (ds' := ds ++ [d]) el (f4.app (.cons dz .nil))
      rw [h0] at f0
      cases f0
      rw [h1] at f1
      cases f1
      have hp2 : p2 = u := by
        have : some (V.ref p2) = some (V.ref u) := h2.symm.trans e2
        simpa using this
      rw [hp2] at g6
      refine ⟨_, ws', z, rfl, rfl, f3, by rw [f4.len]; exact lim_lt hlim, ?_⟩
      refine hW3 σ _ (Agree.refl _ _) (by simp [l2, l1]) ⟨G2, ?_⟩
      have hlen : σ.length = ρ2.length := l1.symm.trans l2.symm
      have g7 : RepG X.K G2 (upd H1 u (.lst (ws' ++ [z]))) (σ.zip ρ2 ++ ((some v, some (.obj c (putC x (.lst (ds ++ [d])) fs))) :: fr)) := g6.perm List.perm_middle.symm
      exact ((g7.forget hlen i).perm List.perm_middle).inn hlen hv'
    · exact hW3.elim
theorem ds_setIxF {sp : Pos} (hN : X.N[i]? = some y) (hv : Vis X.env.scope y) (hd : (y == ("__debug__" : Str)) = false) (hcd : (y == ("__classdict__" : Str)) = false) (he : DE X W e fe) (hk : DE X W k fk) (hns : noSlice k = true)
    (hsw : swapsWithSole [.Subscript (.Attribute (.Name y p) x ap) k sp] e pos.line X.env = pure false) :
    DS X W (.Assign [.Subscript (.Attribute (.Name y p) x ap) k sp] e pos) [] (fun ρ => (fe ρ).bind fun r ρ => (Rs.ofOpt (frz ρ r) ρ).bind fun p _ => (Rs.ofOpt (ownL p.2 i x) p.2).bind fun q ρ => (fk (ρ.set i none)).bind fun z ρ => match dat ρ z with
      | some (.int j) => (Rs.ofOpt (L2.ixN q.2.2.length j) ρ).bind fun n ρ => .ok .next (ρ.set i (some (.obj q.1 (putC x (.lst (q.2.2.set n p.1)) q.2.1))))
      | _ => .stuck) := by
  obtain ⟨t, pt, r⟩ := he
  obtain ⟨tk, pk, rk⟩ := hk
  have hasg : ∀ (v : Value), PySem.assign (.Subscript (.Attribute (.Name y p) x ap) k sp) X.env v = (do
      let ov ← holding [v] (eval (.Attribute (.Name y p) x ap) X.env)
      let iv ← holding [v, ov] (eval k X.env)
      standAt sp
      holding [v, ov, iv] (setItem ov iv v)
      release [v, ov, iv] []) := fun v => by cases k <;> first | rfl | cases hns
  refine ⟨_, ps_asg pt (pg_sub (pe_fld (pe_var hN hv hd hcd) rfl) pk set_list hasg) hsw rfl rfl, fun D σ H ρ fr hl hR hW => ?_⟩
  refine r σ H ρ fr _ hl hR (hW.bind.mono fun rx ρ1 l1 hW1 w H1 hR1 sw => ?_)
  cases ef : frz ρ1 rx with
  | none => rw [ef] at hW1; exact hW1.elim
  | some pr =>
    obtain ⟨d, ρ2⟩ := pr
    rw [ef] at hW1
    obtain ⟨⟨G, g⟩, l2⟩ := hR1.frz l1.symm sw ef
    have hl2 : ρ2.length = σ.length := l2.trans l1
    have hW2 : WS X.K W [] σ fr ((Rs.ofOpt (ownL ρ2 i x) ρ2).bind fun q ρ => (fk (ρ.set i none)).bind fun z ρ => match dat ρ z with
      | some (.int j) => (Rs.ofOpt (L2.ixN q.2.2.length j) ρ).bind fun n ρ => .ok .next (ρ.set i (some (.obj q.1 (putC x (.lst (q.2.2.set n d)) q.2.1))))
      | _ => .stuck) D := hW1
    obtain ⟨q, eq, hW3⟩ := Wish.opt hW2.bind hl2
    obtain ⟨eo, el⟩ := ownL_some eq
    obtain ⟨c, fs, ds⟩ := q
    simp only at eo el hW3
    have g0 : RepG X.K G H1 (σ.zip ρ2 ++ ((some w, some (.imm d)) :: fr)) := g.perm List.perm_middle.symm
    obtain ⟨v, hv', g1⟩ := g0.out hl2.symm eo
    obtain ⟨vfs, g2⟩ := g1.tell (k := .obj c fs) rfl
    obtain ⟨a, dx, u, ws, e0, e1, e2, e3, e4, e5, e6⟩ := (g2.otold (k := .obj c fs) rfl).lst el
    refine ⟨v, hv', a, _, dx, vfs, _, e0, e1, e5, e6, e2, ?_⟩
    have g3 : RepG X.K G H1 (σ.zip (ρ2.set i none) ++ ((some v, some (.obv c fs vfs)) :: (some w, some (.imm d)) :: fr)) := g2.perm List.perm_middle.symm
    refine rk σ H1 (ρ2.set i none) ((some v, some (.obv c fs vfs)) :: (some w, some (.imm d)) :: fr) _ (by simpa using hl2.symm) ⟨G, g3⟩ ((hW3.bind.frame [(some v, some (.obv c fs vfs)), (some w, some (.imm d))]).mono fun rz ρ3 l3 hW4 z H2 hR2 sz => ?_)
    obtain ⟨G3, g4⟩ := hR2
    cases ez : dat ρ3 rz with
    | none => rw [ez] at hW4; exact hW4.elim
    | some dz =>
      rw [ez] at hW4
      have vz := g4.view l3.symm sz ez
      cases dz with
      | int j =>
        have hW5 : WS X.K W [] σ fr ((Rs.ofOpt (L2.ixN ds.length j) ρ3).bind fun n ρ => .ok .next (ρ.set i (some (.obj c (putC x (.lst (ds.set n d)) fs))))) D := hW4
        obtain ⟨n, en, hW6⟩ := Wish.opt hW5.bind l3
        have g5 : RepG X.K G3 H2 ((some v, some (.obv c fs vfs)) :: (σ.zip ρ3 ++ ((some w, some (.imm d)) :: fr))) := (g4.tails _).perm List.perm_middle
        obtain ⟨a', dx', u', ws', f0, f1, f2, f3, f4, _, _⟩ := (g5.otold (k := .obj c fs) rfl).lst el
        rw [e2] at f2
        cases f2
        have dw : Dq X.K G3 w d := ((g5.tail.perm List.perm_middle) : RepG X.K G3 H2 ((some w, some (.imm d)) :: (σ.zip ρ3 ++ fr))).imm
        have g6 : RepG X.K G3 H2 ((some v, some (.obj c fs)) :: (σ.zip ρ3 ++ ((some w, some (.imm d)) :: fr))) := g5.untell (k := .obj c fs) rfl
        obtain ⟨a2, dx2, vfs2, p2, ws2, h0, h1, h2, h3, h4, g7⟩ := g6.writeF (vs' := ws'.set n w) (ds' := ds.set n d) el (f4.set dw n)
        rw [h0] at f0
        cases f0
        rw [h1] at f1
        cases f1
        have hp2 : p2 = u := by
          have : some (V.ref p2) = some (V.ref u) := h2.symm.trans e2
          simpa using this
        rw [hp2] at g7
        refine ⟨_, ws', j, n, rfl, vz.int, f3, by rw [f4.len]; exact en, ?_⟩
        refine hW6 σ _ (Agree.refl _ _) (by simp [l3]) ⟨G3, ?_⟩
        have g8 : RepG X.K G3 (upd H2 u (.lst (ws'.set n w))) ((some v, some (.obj c (putC x (.lst (ds.set n d)) fs))) :: (σ.zip ρ3 ++ fr)) := by
          have h : RepG X.K G3 (upd H2 u (.lst (ws'.set n w))) ((some w, some (.imm d)) :: (some v, some (.obj c (putC x (.lst (ds.set n d)) fs))) :: (σ.zip ρ3 ++ fr)) := g7.perm ((List.Perm.cons _ List.perm_middle).trans (List.Perm.swap _ _ _))
          exact h.tail
        have g9 : RepG X.K G3 (upd H2 u (.lst (ws'.set n w))) (σ.zip ρ3 ++ ((some v, some (.obj c (putC x (.lst (ds.set n d)) fs))) :: fr)) := g8.perm List.perm_middle.symm
        exact ((g9.forget l3.symm i).perm List.perm_middle).inn l3.symm hv'
      | _ => exact hW4.elim
end
end BP
end

section
/-! Bo5: a loop over an object's list. -/
namespace BP
open PySem PySem.Spec PyProof.Rows L2
section
variable {X : Cx} {W : Nat → Hp → Prop} {ss : List Stmt} {st : List Nat} {tg : Expr} {g : Rho → Rs Fl} {pos : Pos} {i : Nat} {x y : Str} {p ap : Pos}
noncomputable def forfF (i : Nat) (x : Str) (t : Tg) (g : Rho → Rs Fl) (ρ : Rho) : Rs Fl := (Rs.ofOpt (ownL ρ i x) ρ).bind fun q ρ => unlend i q.1 q.2.1 (forL (forB t g) (enumL 0 q.2.2) (ρ.set i (some (.rob q.1 q.2.1))))
theorem unl_next {K : PySem.W.Frag} {st : List Nat} {σ σ' : L2.St} {H' : Hp} {ρ : Rho} {fr : List Ent} {D : Ends} {c : Str} {fs : List (Str × Fc)} {vfs : List (Str × V)} {v : V} (hW : WS K W st σ fr (unlend i c fs (.ok .next ρ)) D) (ag : Agree st σ σ') (l : ρ.length = σ'.length) (hv : σ'[i]? = some (some v)) (hR : Rep K H' (σ'.zip ρ ++ ((some v, some (.tkn c fs vfs)) :: fr))) : D.nx σ' H' := by
  unfold unlend at hW
  simp only at hW
  split at hW
  · rename_i e
    exact hW σ' H' ag (by simpa using l) (unl hR l.symm hv e)
  · exact hW.elim
theorem unl_exc {K : PySem.W.Frag} {st : List Nat} {σ σ' : L2.St} {H' : Hp} {ρ : Rho} {fr : List Ent} {D : Ends} {c : Str} {fs : List (Str × Fc)} {vfs : List (Str × V)} {v : V} {ec : Nat} (hW : WS K W st σ fr (unlend i c fs (.exc ec ρ)) D) (ag : Agree st σ σ') (l : ρ.length = σ'.length) (hv : σ'[i]? = some (some v)) (hR : Rep K H' (σ'.zip ρ ++ ((some v, some (.tkn c fs vfs)) :: fr))) : W ec H' := by
  unfold unlend at hW
  simp only at hW
  split at hW
  · rename_i e
    exact hW σ' H' ag (by simpa using l) (unl hR l.symm hv e)
  · exact hW.elim
theorem unl_ret {K : PySem.W.Frag} {st : List Nat} {σ σ' : L2.St} {H' : Hp} {ρ : Rho} {fr : List Ent} {D : Ends} {c : Str} {fs : List (Str × Fc)} {vfs : List (Str × V)} {v w : V} {k : Cn} (hW : WS K W st σ fr (unlend i c fs (.ok (.ret k) ρ)) D) (ag : Agree st σ σ') (l : ρ.length = σ'.length) (hv : σ'[i]? = some (some v)) (hR : Rep K H' ((some w, some k) :: (σ'.zip ρ ++ ((some v, some (.tkn c fs vfs)) :: fr)))) : D.rt w H' := by
  unfold unlend at hW
  simp only at hW
  split at hW
  · rename_i e
    have h1 : Rep K H' (σ'.zip ρ ++ ((some v, some (.tkn c fs vfs)) :: ((some w, some k) :: fr))) := hR.perm (by
      refine List.perm_middle.symm.trans (List.Perm.append_left _ (List.Perm.swap _ _ _)))
    have h2 := unl h1 l.symm hv e
    exact hW w σ' H' ag (by simpa using l) (h2.perm List.perm_middle)
  · exact hW.elim
theorem ds_forf {t : Tg} {elts : List Expr} {kk : Nat} {tpos p2 pos2 : Pos} (hp : PassesOwn (model X.prog X.w) X.A X.env X.xe) (hc : X.calm = true) (hgE : Gl X "enumerate") (hmE : X.mg "enumerate" = none) (hN : X.N[i]? = some y) (hv : Vis X.env.scope y) (hd : (y == ("__debug__" : Str)) = false) (hcd : (y == ("__classdict__" : Str)) = false)
    (hg : DG X (.Tuple elts kk tpos) t) (hb : DSs X W ss st g) (hs : ∀ z, foldedSetIterable (.Call (.Name "enumerate" p2) [.Attribute (.Name y p) x ap] [] pos2) X.env z = pure z) (hni : i ∉ tgS t ++ st) :
    DS X W (.For (.Tuple elts kk tpos) (.Call (.Name "enumerate" p2) [.Attribute (.Name y p) x ap] [] pos2) ss [] pos) (tgS t ++ st) (forfF i x t g) := by
  obtain ⟨gg, pg, rg⟩ := hg
  obtain ⟨tb, pb, rb⟩ := hb
  refine ⟨_, ps_for hp hc (pi_enumT hgE hmE (pa_cons (pe_fld (pe_var hN hv hd hcd) rfl) pa_nil) rfl) pg pb hs, fun D σ H ρ fr hl hR hW => ?_⟩
  unfold forfF at hW
  obtain ⟨q, eq, hW1⟩ := Wish.opt hW.bind hl.symm
  obtain ⟨eo, el⟩ := ownL_some eq
  obtain ⟨c, fs, ds⟩ := q
  simp only at eo el hW1
  obtain ⟨G, g0⟩ := hR
  obtain ⟨v, hv', g1⟩ := g0.out hl eo
  obtain ⟨vfs, g2⟩ := g1.lend
  obtain ⟨a, dx, u, ws, e0, e1, e2, e3, e4⟩ := g2.tread el
  have okC := g1.oread.ok
  refine ⟨v, hv', a, _, dx, vfs, _, e0, e1, okC.1, okC.2 x _ el, e2, u, ws, rfl, .inl ⟨.inl (.inl e3), ?_⟩⟩
  have wk : WalkD X.K (Ite X.K u) (enumL 0 ds) [(some v, some (.tkn c fs vfs))] := walkD_tkn el e2
  have hR1 : Rep X.K H ([(some v, some (.tkn c fs vfs))] ++ (σ.zip (ρ.set i (some (.rob c fs))) ++ fr)) := by
    have g3 : RepG X.K G H ((some v, some (.rob c fs)) :: (σ.zip (ρ.set i none) ++ ((some v, some (.tkn c fs vfs)) :: fr))) := g2.perm ((List.Perm.swap _ _ _).trans (List.Perm.cons _ List.perm_middle.symm))
    exact ⟨G, (g3.inn hl hv').perm List.perm_middle⟩
  have hvA : ∀ {σ' : L2.St}, Agree (tgS t ++ st) σ σ' → σ'[i]? = some (some v) := fun ag => by rw [ag.eq i hni]; exact hv'
  refine ⟨fun j m σ' H' => j + m = (enumL 0 ds).length ∧ ∃ ρ', WS X.K W (tgS t ++ st) σ fr (unlend i c fs (forL (forB t g) ((enumL 0 ds).drop j) ρ')) D ∧ Agree (tgS t ++ st) σ σ' ∧ ρ'.length = σ'.length ∧ Rep X.K H' ([(some v, some (.tkn c fs vfs))] ++ (σ'.zip ρ' ++ fr)),
    ⟨(enumL 0 ds).length, by omega, ρ.set i (some (.rob c fs)), by simpa using hW1, Agree.refl _ _, by simp [hl], hR1⟩, ?_⟩
  rintro j m σ2 H2 ⟨hjm, ρ2, hW2, ag, l2, hR2⟩
  rcases Nat.lt_or_ge j (enumL 0 ds).length with hlt | hge
  · obtain ⟨d, hdj⟩ := get_lt hlt
    have hdrop : (enumL 0 ds).drop j = d :: (enumL 0 ds).drop (j + 1) := by
      rw [List.drop_eq_getElem_cons hlt]
      congr 1
      rw [List.getElem?_eq_getElem hlt] at hdj
      exact Option.some.inj hdj
    rw [hdrop] at hW2
    refine .inr ⟨wk.go j H2 _ hR2 hlt, fun σ' H' => ∃ ρ', WS X.K W (tgS t ++ st) σ fr (unlend i c fs (forL (forB t g) ((enumL 0 ds).drop (j + 1)) ρ')) D ∧ Agree (tgS t ++ st) σ σ' ∧ ρ'.length = σ'.length ∧ Rep X.K H' ([(some v, some (.tkn c fs vfs))] ++ (σ'.zip ρ' ++ fr)), fun σ' H' h => ⟨m - 1, by omega, by omega, h⟩, fun z H3 hy => ?_⟩
    have hR3 := wk.yld j H2 _ z H3 d hR2 hdj hy
    have hR4 : Rep X.K H3 ((some z, some (.imm d)) :: (σ2.zip ρ2 ++ ([(some v, some (.tkn c fs vfs))] ++ fr))) := hR3.perm (List.Perm.cons _ (perm_rot _ _ _))
    replace hW2 : WS X.K W (tgS t ++ st) σ fr (unlend i c fs ((forB t g d ρ2).bind fun f ρ => match f with | .next => forL (forB t g) ((enumL 0 ds).drop (j + 1)) ρ | .ret c => .ok (.ret c) ρ)) D := hW2
    cases eb : bindT t d ρ2 with
    | none => simp only [forB, eb] at hW2; exact hW2.elim
    | some ρ3 =>
      have e1 : forB t g d ρ2 = g ρ3 := by simp only [forB, eb]; rfl
      rw [e1] at hW2
      refine rg z d σ2 H3 ρ2 ρ3 _ _ l2.symm hR4 eb fun σ3 ag3 l3 hR5 => ?_
      refine rb _ σ3 H3 ρ3 ([(some v, some (.tkn c fs vfs))] ++ fr) l3.symm hR5 ?_
      have agA : Agree (tgS t ++ st) σ σ3 := (ag.trans ag3).mono fun j hj => by
        rcases List.mem_append.mp hj with h | h
        · exact h
        · exact List.mem_append_left _ h
      have agB : ∀ {σ4 : L2.St}, Agree st σ3 σ4 → Agree (tgS t ++ st) σ σ4 := fun a4 => (agA.trans a4).mono fun j hj => by
        rcases List.mem_append.mp hj with h | h
        · exact h
        · exact List.mem_append_right _ h
      cases eg : g ρ3 with
      | stuck => rw [eg] at hW2; exact hW2
      | exc ec ρ4 =>
        rw [eg] at hW2
        exact fun σ4 H4 a4 l4 r4 => unl_exc (D := D) (fr := fr) hW2 (agB a4) l4 (hvA (agB a4)) r4
      | ok fl ρ4 =>
        rw [eg] at hW2
        cases fl with
        | next => exact fun σ4 H4 a4 l4 r4 => ⟨ρ4, hW2, agB a4, l4, r4.rot⟩
        | ret k => exact fun w σ4 H4 a4 l4 r4 => unl_ret (D := D) (fr := fr) (st := tgS t ++ st) (σ := σ) (W := W) hW2 (agB a4) l4 (hvA (agB a4)) r4
  · have hj0 : j = (enumL 0 ds).length := by omega
    subst hj0
    rw [List.drop_length] at hW2
    exact .inl ⟨wk.stop H2 _ hR2, unl_next hW2 ag l2 (hvA ag) hR2.rot⟩
end
end BP
end

section
/-! Bp14: every text of the small language is worth what it says. -/
namespace BP
open PySem PySem.Spec PyProof.Rows L2
/-- the built-in names that a text may call -/
def bltNames : List Str := ["len", "tuple", "list", "sorted", "sum", "min", "max", "any", "all", "abs", "int", "str", "bool", "isinstance", "range", "enumerate", "zip", "set"]
/-- what is known where a text stands -/
structure Gx (T : Tb) (xc : Nat → Value) (k : Nat) (X : Cx) (W : Nat → Hp → Prop) (c : Tc) : Prop where
  N : X.N = c.N
  nd : c.N.Nodup
  sc : X.env.scope = c.sc
  fn : X.fn = c.fn
  calm : X.calm = true
  own : PassesOwn (model X.prog X.w) X.A X.env X.xe
  pass : Passes (CX X.prog X.w) X (EX xc W)
  room : Room k X.A
  call : ∀ (j : Nat) (F : Fden), T.fns[j]? = some F → ∃ x np f fd ps k', c.fns[j]? = some (x, np) ∧ k' ≤ k ∧ FnOk X.prog X.w X.K X.mg X.base (CX X.prog X.w) k' f fd ps (spD X.K xc np F) ∧ X.mg x = some (.ref f) ∧ PySem.W.keepIn X.K (.ref f) = true ∧ Binds X.K fd ps []
  cons : ∀ (j : Nat) (d : PyData), T.cons[j]? = some d → ∃ x v u, c.cons[j]? = some x ∧ X.mg x = some u ∧ RelV v u ∧ ∀ G, Dq X.K G v d
  blt : ∀ x ∈ bltNames, X.mg x = none
  meth : ∀ (j : Nat) (cl : Str) (F : Fden), T.meths[j]? = some (cl, F) → ∃ m np f fd ps k', c.meths[j]? = some (cl, m, np) ∧ k' ≤ k ∧ FnOk X.prog X.w X.K X.mg X.base (CX X.prog X.w) k' f fd ps (spD X.K xc np F) ∧ Cls X.K (He.ga X.K cl) ∧ Meth X.K (He.ga X.K cl) m f ∧ Binds X.K fd ps []
  new : ∀ (j : Nat) (cl : Str) (F : Fden), T.news[j]? = some (cl, F) → ∃ np f fd ps k', c.news[j]? = some (cl, np) ∧ k' + 1 ≤ k ∧ FnOk X.prog X.w X.K X.mg X.base (CX X.prog X.w) k' f fd ps (spD X.K xc np F) ∧ Cls X.K (He.ga X.K cl) ∧ Mk X.K (He.ga X.K cl) f ∧ X.mg cl = some (.ref (He.ga X.K cl)) ∧ Binds X.K fd ps []
  flds : ∀ cl x, T.flds.contains (cl, x) = true → NoAttr X.K (He.ga X.K cl) x
section
variable {T : Tb} {xc : Nat → Value} {k : Nat} {X : Cx} {W : Nat → Hp → Prop} {c : Tc}
theorem ixOf_get {x : Str} {l : List Str} {i : Nat} (h : ixOf x l = some i) : l[i]? = some x := by
  unfold ixOf at h
  obtain ⟨h1, h2, _⟩ := List.findIdx?_eq_some_iff_getElem.mp h
  rw [List.getElem?_eq_getElem h1]
  exact congrArg some (by simpa using h2)
theorem visK_of {o : Option NameKind} (h : visK o = true) : o = some .local ∨ o = some .cell ∨ o = some .free := by
  cases o with
  | none => cases h
  | some k => cases k <;> first | exact .inl rfl | exact .inr (.inl rfl) | exact .inr (.inr rfl) | cases h
theorem locK_of {o : Option NameKind} (h : locK o = true) : o = some .local ∨ o = some .cell := by
  cases o with
  | none => cases h
  | some k => cases k <;> first | exact .inl rfl | exact .inr rfl | cases h
theorem isLocal_of {o : Option NameKind} (h : isLocal o = true) : o = some .local := by
  cases o with
  | none => cases h
  | some k => cases k <;> first | rfl | cases h
theorem glK_of {o : Option NameKind} (h : glK o = true) : o = some .globalImplicit := by
  cases o with
  | none => cases h
  | some k => cases k <;> first | rfl | cases h
structure SlotOk (X : Cx) (i : Nat) (x : Str) : Prop where
  n : X.N[i]? = some x
  v : Vis X.env.scope x
  d1 : (x == ("__debug__" : Str)) = false
  d2 : (x == ("__classdict__" : Str)) = false
theorem Gx.slot (g : Gx T xc k X W c) {x : Str} {i : Nat} (h : slotOf c x = some i) : SlotOk X i x := by
  unfold slotOf at h
  split at h
  · rename_i hv
    simp only [Bool.and_eq_true, Bool.not_eq_true', odd, Bool.or_eq_false_iff] at hv
    exact ⟨by rw [g.N]; exact ixOf_get h, by unfold Vis; rw [g.sc]; exact visK_of hv.1, hv.2.1.1, hv.2.1.2⟩
  · cases h
structure SetOk (X : Cx) (i : Nat) (x : Str) : Prop where
  n : X.N[i]? = some x
  l : L2.Loc X.env.scope x
  f : X.fn x = true ∨ X.env.scope.names.lookup x = some .local
theorem Gx.setS (g : Gx T xc k X W c) {x : Str} {i : Nat} (h : setSlot c x = some i) : SetOk X i x := by
  unfold setSlot at h
  split at h
  · rename_i hv
    simp only [Bool.and_eq_true, Bool.or_eq_true] at hv
    refine ⟨by rw [g.N]; exact ixOf_get h, by unfold L2.Loc; rw [g.sc]; exact locK_of hv.1, ?_⟩
    rw [g.fn, g.sc]
    rcases hv.2 with q | q
    · exact .inl q
    · exact .inr (isLocal_of q)
  · cases h
theorem Gx.gl (g : Gx T xc k X W c) {x : Str} (h : glob c x = true) : Gl X x ∧ (x == ("__debug__" : Str)) = false ∧ x ≠ ("__name__" : Str) := by
  unfold glob at h
  simp only [Bool.and_eq_true, Bool.not_eq_true', odd, Bool.or_eq_false_iff] at h
  refine ⟨?_, h.2.1.1, fun e => ?_⟩
  · show X.env.scope.names.lookup x = _
    rw [g.sc]
    exact glK_of h.1
  · have := h.2.2
    rw [e] at this
    simp at this
theorem Gx.hu (g : Gx T xc k X W c) : X.A.units + 65 < cLine := by
  have := g.room.un
  omega
theorem passes0 {X : Cx} : Passes (CX X.prog X.w) X (EX xc W0) := fun _ _ _ _ _ _ _ h => by
  obtain ⟨_, _, _, _, _, _, _, _, _, _, _, _, z⟩ := h
  obtain ⟨_, _, _, z⟩ := z
  exact z.elim
/-- within a comprehension -/
theorem Gx.blk (g : Gx T xc k X W c) (scope : Scope) (s : Shared) (H : Hp) (C : Addr) (cl : List (Str × Addr)) (fp : List Addr) :
    Gx T xc k (X.blk s H scope (compEnvC scope cl C X.env) fp) W0 { c with sc := relS scope c.sc, fn := fun x => scope.names.lookup x == some .cell } where
  N := g.N
  nd := g.nd
  sc := by
    show relS scope X.env.scope = relS scope c.sc
    rw [g.sc]
  fn := rfl
  calm := g.calm
  own := PassesOwn.never
  pass := passes0
  room := g.room
  call := g.call
  cons := g.cons
  blt := g.blt
  meth := g.meth
  new := g.new
  flds := g.flds
theorem dgs_of (g : Gx T xc k X W c) : ∀ {es : List Expr} {is : List Nat}, namesOf c es = some is → DGs X es is
  | [], is, h => by cases h; exact dgs_nil
  | e :: es, is, h => by
    cases e with
    | Name x p =>
      unfold namesOf at h
      cases h1 : setSlot c x with
      | none => rw [h1] at h; cases h
      | some i =>
        cases h2 : namesOf c es with
        | none => rw [h1, h2] at h; cases h
        | some js =>
          rw [h1, h2] at h
          cases h
          have ok := g.setS h1
          exact dgs_cons (by rw [g.N]; exact g.nd) ok.n ok.l ok.f (dgs_of g h2)
    | _ => cases h
theorem dg_of1 (g : Gx T xc k X W c) {tg : Expr} {t : Tg} (h : tg1 c tg = some t) : DG X tg t := by
  cases tg with
  | Name x p =>
    replace h : (setSlot c x).map Tg.one = some t := h
    cases h1 : setSlot c x with
    | none => rw [h1] at h; cases h
    | some i =>
      rw [h1] at h
      cases h
      have ok := g.setS h1
      exact dg_name (by rw [g.N]; exact g.nd) ok.n ok.l ok.f
  | Tuple es kk p =>
    replace h : (namesOf c es).map Tg.tup = some t := h
    cases h1 : namesOf c es with
    | none => rw [h1] at h; cases h
    | some is =>
      rw [h1] at h
      cases h
      exact dg_tup g.calm (dgs_of g h1)
  | _ => cases h
theorem dg_of (g : Gx T xc k X W c) {tg : Expr} {t : Tg} (h : tgOf c tg = some t) : DG X tg t := by
  cases tg with
  | Name x p =>
    replace h : (setSlot c x).map Tg.one = some t := h
    cases h1 : setSlot c x with
    | none => rw [h1] at h; cases h
    | some i =>
      rw [h1] at h
      cases h
      have ok := g.setS h1
      exact dg_name (by rw [g.N]; exact g.nd) ok.n ok.l ok.f
  | Tuple es kk p =>
    replace h : (match namesOf c es with | some is => some (Tg.tup is) | none => tgPr c es) = some t := h
    cases h1 : namesOf c es with
    | none =>
      rw [h1] at h
      replace h : tgPr c es = some t := h
      match es, h with
      | [a, b], h =>
        replace h : (match tg1 c a, tg1 c b with | some s, some t => some (Tg.pr s t) | _, _ => none) = some t := h
        cases ha : tg1 c a with
        | none => rw [ha] at h; cases h
        | some s =>
          cases hb : tg1 c b with
          | none => rw [ha, hb] at h; cases h
          | some u =>
            rw [ha, hb] at h
            cases h
            have ka := dg_of1 g ha
            have kb := dg_of1 g hb
            cases a with
            | Name _ _ => cases b with
              | Name _ _ => exact dg_pr g.calm ka kb rfl rfl rfl rfl
              | Tuple _ _ _ => exact dg_pr g.calm ka kb rfl rfl rfl rfl
              | _ => cases hb
            | Tuple _ _ _ => cases b with
              | Name _ _ => exact dg_pr g.calm ka kb rfl rfl rfl rfl
              | Tuple _ _ _ => exact dg_pr g.calm ka kb rfl rfl rfl rfl
              | _ => cases hb
            | _ => cases ha
      | [], h => cases h
      | [_], h => cases h
      | _ :: _ :: _ :: _, h => cases h
    | some is =>
      rw [h1] at h
      cases h
      exact dg_tup g.calm (dgs_of g h1)
  | _ => cases h
theorem tgSL : ∀ t : Tg, tgS t = tgL t
  | .one _ => rfl
  | .tup _ => rfl
  | .pr a b => by unfold tgS tgL; rw [tgSL a, tgSL b]
theorem tgSA : ∀ t : Tg, tgS t = tgA t
  | .one _ => rfl
  | .tup _ => rfl
  | .pr a b => by unfold tgS tgA; rw [tgSA a, tgSA b]
theorem tgIn_sub {t : Tg} {l : List Nat} (h : tgIn t l = true) : ∀ i ∈ tgS t, i ∈ l := by
  induction t with
  | pr a b iha ihb =>
    replace h : (tgIn a l && tgIn b l) = true := h
    rw [Bool.and_eq_true] at h
    intro i hi
    rcases List.mem_append.mp hi with hi | hi
    · exact iha h.1 i hi
    · exact ihb h.2 i hi
  | one j =>
    intro i hi
    have : i = j := by simpa [tgS] using hi
    subst this
    simpa [tgIn] using h
  | tup is =>
    intro i hi
    have := List.all_eq_true.mp h i hi
    simpa using this
/-! ### the statement of soundness for expressions -/
structure SoundE (T : Tb) (xc : Nat → Value) (k n : Nat) : Prop where
  e : ∀ X W c, Gx T xc k X W c → ∀ e, DE X W e (evE T (trE n c e)) ∧ DT X W e (fun ρ => (evE T (trE n c e) ρ).bind b2)
  a : ∀ X W c, Gx T xc k X W c → ∀ es, es.all plainE = true → DA X W es (evA T (exsOf (trEs n c es)))
  an : ∀ X W c, Gx T xc k X W c → ∀ vs pos, DE X W (.BoolOp .And vs pos) (evE T (andL (trEs n c vs))) ∧ DW X W (.BoolOp .And vs pos) (fun ρ => (evE T (andL (trEs n c vs)) ρ).bind b2)
  orr : ∀ X W c, Gx T xc k X W c → ∀ vs pos, DE X W (.BoolOp .Or vs pos) (evE T (orL (trEs n c vs))) ∧ DW X W (.BoolOp .Or vs pos) (fun ρ => (evE T (orL (trEs n c vs)) ρ).bind b2)
  o : ∀ X W c, Gx T xc k X W c → ∀ e, DO X W e (evO T (trO n c e))
  i : ∀ X W c, Gx T xc k X W c → ∀ tg e, DI X W tg e (evI T (trI n c (isTupE tg) e))
theorem dw_stuck {e : Expr} {g : Rho → Rs Bool} (h : ∀ ρ, g ρ = .stuck) : DW X W e g :=
  ⟨fun _ _ _ => False, ⟨fun _ _ _ _ _ _ _ h => h.elim⟩, fun σ H ρ fr Q _ _ w => by rw [h ρ] at w; exact w⟩
theorem bad_both {e : Expr} : DE X W e (evE T .bad) ∧ DT X W e (fun ρ => (evE T .bad ρ).bind b2) := ⟨de_stuck fun _ => rfl, dt_stuck fun _ => rfl⟩
theorem do_stuck {e : Option Expr} {g : Rho → Rs (Option Int)} (h : ∀ ρ, g ρ = .stuck) : DO X W e g :=
  ⟨fun _ _ _ => False, ⟨fun _ _ _ _ _ _ h => h.elim⟩, fun σ H ρ fr Q _ _ w => by rw [h ρ] at w; exact w⟩
theorem DE.eqf {e : Expr} {f g : Rho → Rs RV} (h : DE X W e f) (q : ∀ ρ, f ρ = g ρ) : DE X W e g := by
  have : f = g := funext q
  rw [← this]; exact h
theorem DT.eqf {e : Expr} {f g : Rho → Rs Bool} (h : DT X W e f) (q : ∀ ρ, f ρ = g ρ) : DT X W e g := by
  have : f = g := funext q
  rw [← this]; exact h
theorem DW.eqf {e : Expr} {f g : Rho → Rs Bool} (h : DW X W e f) (q : ∀ ρ, f ρ = g ρ) : DW X W e g := by
  have : f = g := funext q
  rw [← this]; exact h
theorem bind_assoc {α β γ : Type} (x : Rs α) (f : α → Rho → Rs β) (g : β → Rho → Rs γ) : (x.bind f).bind g = x.bind fun a ρ => (f a ρ).bind g := by cases x <;> rfl
theorem b2_val {b : Bool} {ρ : Rho} : b2 (.val (.imm (.bool b))) ρ = .ok b ρ := rfl
/-- both, for a form that is tested as it stands -/
theorem both {e : Expr} {f : Rho → Rs RV} (h : DE X W e f) (he : ∀ whole, PySem.isTrue e X.env whole = (do let v ← whole; standAt e.pos; holding [v] (truthy v))) : DE X W e f ∧ DT X W e (fun ρ => (f ρ).bind b2) := ⟨h, dt_val h he⟩
theorem cd_none {f : Value} {g : List PyData → Option Cn} (h : ∀ ds, g ds = none) : CallD X f g := ⟨fun _ _ _ => False, fun _ _ _ _ _ _ _ _ _ h => h.elim, fun G H vs ds c Q _ _ e _ => by rw [h] at e; cases e⟩
/-- the calls of built-ins -/
theorem blt_call (g : Gx T xc k X W c) {x : Str} {bt : Blt} (hb : bltOf x = some bt) (hg : glob c x = true) {a : Expr} {as : List Expr} {p pos : Pos} {fs : Rho → Rs (List RV)} (hp : (a :: as).all plainE = true) (h : DA X W (a :: as) fs) :
    DE X W (.Call (.Name x p) (a :: as) [] pos) (fun ρ => (fs ρ).bind (bltE bt)) := by
  obtain ⟨g1, g2, g3⟩ := g.gl hg
  have key : ∀ (y : String), (Str.ofString y) ∈ bltNames → X.mg (Str.ofString y) = none := fun y hy => g.blt _ hy
  unfold bltOf at hb
  cases hf : bltTab.find? (fun p => Str.ofString p.1 == x) with
  | none => rw [hf] at hb; cases hb
  | some q =>
    rw [hf] at hb
    have hm := List.mem_of_find?_eq_some hf
    have hx : Str.ofString q.1 = x := by simpa using List.find?_some hf
    cases hb
    subst hx
    simp only [bltTab, List.mem_cons, List.not_mem_nil, or_false] at hm
    rcases hm with rfl | rfl | rfl | rfl | rfl | rfl | rfl | rfl | rfl | rfl | rfl | rfl
    · exact de_callB cd_len g1 (key _ (by decide)) (by decide +kernel) g3 g2 h hp
    · exact de_callT cd_tuple g1 (key _ (by decide)) (by decide +kernel) g3 g2 h hp
    · exact de_callT cd_list g1 (key _ (by decide)) (by decide +kernel) g3 g2 h hp
    · exact de_callB (id := "sorted") (cd_sorted g.hu) g1 (key _ (by decide)) (by decide +kernel) g3 g2 h hp
    · exact de_callB (cd_sum g.calm) g1 (key _ (by decide)) (by decide +kernel) g3 g2 h hp
    · exact de_callB (cd_min g.calm) g1 (key _ (by decide)) (by decide +kernel) g3 g2 h hp
    · exact de_callB (cd_max g.calm) g1 (key _ (by decide)) (by decide +kernel) g3 g2 h hp
    · exact de_callB (cd_any g.calm) g1 (key _ (by decide)) (by decide +kernel) g3 g2 h hp
    · exact de_callB (cd_all g.calm) g1 (key _ (by decide)) (by decide +kernel) g3 g2 h hp
    · exact de_callB cd_abs g1 (key _ (by decide)) (by decide +kernel) g3 g2 h hp
    · exact de_callT (T := "int") (cd_none fun ds => by unfold bltop; split <;> first | rfl | contradiction) g1 (key _ (by decide)) (by decide +kernel) g3 g2 h hp
    · exact de_callT (T := "str") (cd_none fun ds => by unfold bltop; split <;> first | rfl | contradiction) g1 (key _ (by decide)) (by decide +kernel) g3 g2 h hp
theorem fnIx_get {c : Tc} {x : Str} {n j : Nat} (h : fnIx c x n = some j) : c.fns[j]? = some (x, n) := by
  unfold fnIx at h
  obtain ⟨h1, h2, _⟩ := List.findIdx?_eq_some_iff_getElem.mp h
  rw [List.getElem?_eq_getElem h1]
  simp only [Bool.and_eq_true, beq_iff_eq] at h2
  exact congrArg some (Prod.ext h2.1 h2.2)
theorem tyTab_of {x : Str} {ty : Ty} (h : tyOf x = some ty) : x = Str.ofString (tyN ty) := by
  unfold tyOf at h
  cases hf : tyTab.find? (fun p => Str.ofString p.1 == x) with
  | none => rw [hf] at h; cases h
  | some q =>
    rw [hf] at h
    have hm := List.mem_of_find?_eq_some hf
    have hx : Str.ofString q.1 = x := by simpa using List.find?_some hf
    cases h
    subst hx
    simp only [tyTab, List.mem_cons, List.not_mem_nil, or_false] at hm
    rcases hm with rfl | rfl | rfl | rfl | rfl <;> rfl
theorem ty_blt (ty : Ty) : Str.ofString (tyN ty) ∈ bltNames := by cases ty <;> decide
theorem ty_boot (ty : Ty) : bootBuiltins (Str.ofString (tyN ty)) = some (.type (tyN ty)) := by cases ty <;> decide +kernel
theorem folded_ok {e : Expr} (h : noSet e = true) (env : PySem.Env) (x : Value) : foldedSetIterable e env x = pure x := by
  cases e <;> first | rfl | cases h
theorem trEs_succ (n : Nat) (c : Tc) (es : List Expr) : trEs (n + 1) c es = es.map (trE n c) := rfl
theorem trEs_zero (c : Tc) (es : List Expr) : trEs 0 c es = es.map fun _ => .bad := rfl
theorem sound_zero : SoundE T xc k 0 where
  e := fun X W c g e => bad_both
  a := fun X W c g es hp => by
    cases es with
    | nil => exact da_nil
    | cons e es =>
      rw [trEs_zero]
      refine ⟨fun _ _ _ => False, ⟨fun _ _ _ _ _ _ _ h => h.elim⟩, fun σ H ρ fr Q _ _ w => ?_⟩
      exact w
  an := fun X W c g vs pos => by
    rw [trEs_zero]
    cases vs with
    | nil => exact ⟨de_stuck fun _ => rfl, dw_stuck fun _ => rfl⟩
    | cons a r =>
      cases r with
      | nil => exact ⟨de_stuck fun _ => rfl, dw_stuck fun _ => rfl⟩
      | cons b r => exact ⟨de_stuck fun _ => rfl, dw_stuck fun _ => rfl⟩
  orr := fun X W c g vs pos => by
    rw [trEs_zero]
    cases vs with
    | nil => exact ⟨de_stuck fun _ => rfl, dw_stuck fun _ => rfl⟩
    | cons a r =>
      cases r with
      | nil => exact ⟨de_stuck fun _ => rfl, dw_stuck fun _ => rfl⟩
      | cons b r => exact ⟨de_stuck fun _ => rfl, dw_stuck fun _ => rfl⟩
  o := fun X W c g e => by
    cases e with
    | none => exact do_none
    | some e => exact do_stuck fun _ => rfl
  i := fun X W c g tg e => di_stuck fun _ => rfl
theorem sound_a {n : Nat} (S : SoundE T xc k n) (g : Gx T xc k X W c) : ∀ es, es.all plainE = true → DA X W es (evA T (exsOf (es.map (trE n c))))
  | [], _ => da_nil
  | e :: es, h => by
    simp only [List.all_cons, Bool.and_eq_true] at h
    exact da_cons (S.e X W c g e).1 (sound_a S g es h.2) h.1
theorem sound_an {n : Nat} (S : SoundE T xc k n) (g : Gx T xc k X W c) (pos : Pos) : ∀ vs, DE X W (.BoolOp .And vs pos) (evE T (andL (vs.map (trE n c)))) ∧ DW X W (.BoolOp .And vs pos) (fun ρ => (evE T (andL (vs.map (trE n c))) ρ).bind b2)
  | [] => ⟨de_stuck fun _ => rfl, dw_stuck fun _ => rfl⟩
  | [a] => ⟨de_one (S.e X W c g a).1, dw_and1 (S.e X W c g a).2⟩
  | a :: b :: r => by
    have ih := sound_an S g pos (b :: r)
    have ha := S.e X W c g a
    refine ⟨(de_and ha.1 ih.1).eqf fun ρ => rfl, (dw_and ha.2 ih.2).eqf fun ρ => ?_⟩
    show ((evE T (trE n c a) ρ).bind b2).bind (fun k ρ => if k then (evE T (andL ((b :: r).map (trE n c))) ρ).bind b2 else .ok false ρ) = ((evE T (trE n c a) ρ).bind fun x ρ => (b2 x ρ).bind fun k ρ => if k then evE T (andL ((b :: r).map (trE n c))) ρ else .ok (.val (.imm (.bool false))) ρ).bind b2
    rw [bind_assoc, bind_assoc]
    congr 1
    funext x ρ
    rw [bind_assoc]
    congr 1
    funext k ρ
    cases k <;> rfl
theorem sound_or {n : Nat} (S : SoundE T xc k n) (g : Gx T xc k X W c) (pos : Pos) : ∀ vs, DE X W (.BoolOp .Or vs pos) (evE T (orL (vs.map (trE n c)))) ∧ DW X W (.BoolOp .Or vs pos) (fun ρ => (evE T (orL (vs.map (trE n c))) ρ).bind b2)
  | [] => ⟨de_stuck fun _ => rfl, dw_stuck fun _ => rfl⟩
  | [a] => ⟨de_one (S.e X W c g a).1, dw_or1 (S.e X W c g a).2⟩
  | a :: b :: r => by
    have ih := sound_or S g pos (b :: r)
    have ha := S.e X W c g a
    refine ⟨(de_or ha.1 ih.1).eqf fun ρ => rfl, (dw_or ha.2 ih.2).eqf fun ρ => ?_⟩
    show ((evE T (trE n c a) ρ).bind b2).bind (fun k ρ => if k then .ok true ρ else (evE T (orL ((b :: r).map (trE n c))) ρ).bind b2) = ((evE T (trE n c a) ρ).bind fun x ρ => (b2 x ρ).bind fun k ρ => if k then .ok (.val (.imm (.bool true))) ρ else evE T (orL ((b :: r).map (trE n c))) ρ).bind b2
    rw [bind_assoc, bind_assoc]
    congr 1
    funext x ρ
    rw [bind_assoc]
    congr 1
    funext k ρ
    cases k <;> rfl
/-- a call -/
theorem fldOf_some {e : Expr} {i : Nat} {f : Str} (h : fldOf c e = some (i, f)) : ∃ y p ap, e = .Attribute (.Name y p) f ap ∧ slotOf c y = some i := by
  cases e with
  | Attribute o f' ap =>
    cases o with
    | Name y p =>
      replace h : (slotOf c y).map (fun i => (i, f')) = some (i, f) := h
      cases hs : slotOf c y with
      | none => rw [hs] at h; cases h
      | some i' =>
        rw [hs] at h
        cases h
        exact ⟨y, p, ap, rfl, hs⟩
    | _ => cases h
  | _ => cases h
theorem ix_get {α : Type} {l : List α} {q : α → Bool} {j : Nat} (h : l.findIdx? q = some j) : ∃ x, l[j]? = some x ∧ q x = true := by
  obtain ⟨h1, h2, _⟩ := List.findIdx?_eq_some_iff_getElem.mp h
  exact ⟨l[j], List.getElem?_eq_getElem h1, h2⟩
theorem args_len {n : Nat} {as : List Expr} : ∀ ρ rs ρ', evA T (exsOf (trEs n c as)) ρ = .ok rs ρ' → rs.length = as.length := fun ρ rs ρ' h => by
  have := evA_len T _ _ _ _ h
  rw [this]
  cases n with
  | zero => simp [trEs_zero]
  | succ n => simp [trEs_succ]
theorem sound_new {n : Nat} (S : SoundE T xc k n) (g : Gx T xc k X W c) {x : Str} {as : List Expr} {p pos : Pos} {j : Nat} (hg : glob c x = true) (hp : as.all plainE = true) (hj : newIx c x (as.length + 1) = some j) : DE X W (.Call (.Name x p) as [] pos) (evE T (.new j (exsOf (trEs n c as)))) := by
  obtain ⟨g1, g2, g3⟩ := g.gl hg
  cases hF : T.news[j]? with
  | none =>
    refine de_stuck fun ρ => ?_
    show (match T.news[j]? with | some (c, F) => _ | none => Rs.stuck) = _
    rw [hF]
  | some q =>
    obtain ⟨cl, F⟩ := q
    obtain ⟨np, fa, fd, ps, k', e1, hk, ok, hC, M, hm, b⟩ := g.new j cl F hF
    obtain ⟨z, hz, hq⟩ := ix_get hj
    rw [hz] at e1
    cases e1
    simp only [Bool.and_eq_true, beq_iff_eq] at hq
    obtain ⟨rfl, rfl⟩ := hq
    have ev : ∀ ρ, evE T (.new j (exsOf (trEs n c as))) ρ = (evA T (exsOf (trEs n c as)) ρ).bind (newF cl F) := fun ρ => by
      show (match T.news[j]? with | some (c, F) => _ | none => Rs.stuck) = _
      rw [hF]
    cases as with
    | nil =>
      refine DE.eqf (de_new0 ok (g.room.mono hk) hC M g1 hm b g.pass g2 rfl) fun ρ => ?_
      rw [ev]
      cases n <;> rfl
    | cons a as => exact DE.eqf (de_new ok (g.room.mono hk) hC M g1 hm b g.pass g2 (S.a X W c g (a :: as) hp) hp rfl args_len) fun ρ => (ev ρ).symm
theorem sound_meth {n : Nat} (S : SoundE T xc k n) (g : Gx T xc k X W c) {x m : Str} {as : List Expr} {p apos pos : Pos} {i j : Nat} (hs : slotOf c x = some i) (hp : as.all plainE = true) (h30 : as.length < 30) (hline : (apos.endLine == pos.line) = true) (hj : methIx c m (as.length + 1) = some j) : DE X W (.Call (.Attribute (.Name x p) m apos) as [] pos) (evE T (.meth i j m (exsOf (trEs n c as)))) := by
  have sl := g.slot hs
  cases hF : T.meths[j]? with
  | none =>
    refine de_stuck fun ρ => ?_
    show (match T.meths[j]? with | some (c, F) => _ | none => Rs.stuck) = _
    rw [hF]
  | some q =>
    obtain ⟨cl, F⟩ := q
    obtain ⟨m', np, fa, fd, ps, k', e1, hk, ok, hC, M, b⟩ := g.meth j cl F hF
    obtain ⟨z, hz, hq⟩ := ix_get hj
    rw [hz] at e1
    cases e1
    simp only [Bool.and_eq_true, beq_iff_eq] at hq
    obtain ⟨rfl, rfl⟩ := hq
    have ev : ∀ ρ, evE T (.meth i j m' (exsOf (trEs n c as))) ρ = methF cl F i m' (evA T (exsOf (trEs n c as))) ρ := fun ρ => by
      show (match T.meths[j]? with | some (c, F) => _ | none => Rs.stuck) = _
      rw [hF]
      rfl
    cases as with
    | nil =>
      refine DE.eqf (de_meth0 ok (g.room.mono hk) hC M b g.pass sl.n sl.v sl.d1 sl.d2 hline rfl) fun ρ => ?_
      rw [ev]
      cases n <;> rfl
    | cons a as => exact DE.eqf (de_meth ok (g.room.mono hk) hC M b g.pass sl.n sl.v sl.d1 sl.d2 (S.a X W c g (a :: as) hp) hp h30 hline rfl args_len) fun ρ => (ev ρ).symm
theorem fld1_some {as : List Expr} {i : Nat} {f : Str} (h : fld1 c as = some (i, f)) : ∃ y p ap, as = [.Attribute (.Name y p) f ap] ∧ slotOf c y = some i := by
  match as, h with
  | [a], h =>
    obtain ⟨y, p, ap, rfl, hs⟩ := fldOf_some (e := a) h
    exact ⟨y, p, ap, rfl, hs⟩
theorem sound_call {n : Nat} (S : SoundE T xc k n) (g : Gx T xc k X W c) (f : Expr) (as : List Expr) (ks : List Keyword) (pos : Pos) : DE X W (.Call f as ks pos) (evE T (trE (n + 1) c (.Call f as ks pos))) := by
  cases ks with
  | cons _ _ => cases f with
    | Attribute o m ap => cases o <;> exact de_stuck fun _ => rfl
    | _ => exact de_stuck fun _ => rfl
  | nil =>
    cases f with
    | Name x p =>
      show DE X W _ (evE T (if glob c x && as.all plainE then _ else .bad))
      split
      case isFalse => exact de_stuck fun _ => rfl
      rename_i hc
      simp only [Bool.and_eq_true] at hc
      obtain ⟨hg, hp⟩ := hc
      obtain ⟨g1, g2, g3⟩ := g.gl hg
      split
      · rename_i j hj
        exact sound_new S g hg hp hj
      · split
        · exact de_stuck fun _ => rfl
        · rename_i hne
          cases as with
          | nil => exact absurd rfl hne
          | cons a as =>
            have hA := S.a X W c g (a :: as) hp
            split
            · rename_i j hj
              have hj := fnIx_get hj
              cases hF : T.fns[j]? with
              | none =>
                refine de_stuck fun ρ => ?_
                show (match T.fns[j]? with | some F => _ | none => Rs.stuck) = _
                rw [hF]
              | some F =>
                obtain ⟨y, np, fa, fd, ps, k', e1, hk, ok, m, kp, b⟩ := g.call j F hF
                rw [hj] at e1
                cases e1
                refine DE.eqf (de_call ok (g.room.mono hk) g1 m kp b g.pass g2 hA hp rfl args_len) fun ρ => ?_
                show _ = (match T.fns[j]? with | some F => _ | none => Rs.stuck)
                rw [hF]
            · split
              · rename_i i f hf
                obtain ⟨y, p', ap, e, hs⟩ := fld1_some hf
                cases e
                have sl := g.slot hs
                split
                · rename_i hx
                  have hx : x = ("len" : Str) := by simpa using hx
                  subst hx
                  exact DE.eqf (de_flen sl.n sl.v sl.d1 sl.d2 g1 (g.blt _ (by decide))) fun ρ => rfl
                · split
                  · rename_i hx
                    have hx : x = ("list" : Str) := by simpa using hx
                    subst hx
                    exact DE.eqf (de_fall sl.n sl.v sl.d1 sl.d2 g1 (g.blt _ (by decide))) fun ρ => rfl
                  · exact de_stuck fun _ => rfl
              · split
                · rename_i bt hb
                  exact DE.eqf (blt_call g hb hg hp hA) fun ρ => rfl
                · split
                  case isFalse => exact de_stuck fun _ => rfl
                  rename_i hx
                  have hx : x = ("isinstance" : Str) := by simpa using hx
                  subst hx
                  split
                  · rename_i a' t p2 heq
                    cases heq
                    split
                    case isFalse => exact de_stuck fun _ => rfl
                    rename_i hgt
                    split
                    · rename_i ty hty
                      have ht := tyTab_of hty
                      subst ht
                      obtain ⟨t1, t2, t3⟩ := g.gl hgt
                      simp only [List.all_cons, Bool.and_eq_true] at hp
                      exact DE.eqf (de_isi g1 (g.blt _ (by decide)) t1 (g.blt _ (ty_blt ty)) (ty_boot ty) t3 t2 (S.e X W c g a).1 hp.1) fun ρ => rfl
                    · exact de_stuck fun _ => rfl
                  · exact de_stuck fun _ => rfl
    | Attribute o m apos =>
      cases o with
      | Name x p =>
        show DE X W _ (evE T (if apos.endLine == pos.line && as.all plainE && decide (as.length < 30) then _ else .bad))
        split
        case isFalse => exact de_stuck fun _ => rfl
        rename_i hm
        simp only [Bool.and_eq_true, decide_eq_true_eq] at hm
        obtain ⟨⟨hline, hp⟩, h30⟩ := hm
        split
        · rename_i i hs
          have ok := g.slot hs
          split
          · rename_i hx
            have hx : m = ("pop" : Str) := by simpa using hx
            subst hx
            split
            · exact de_popL ok.n ok.v ok.d1 ok.d2 hline
            · rename_i a
              have hp1 : plainE a = true := by simpa using hp
              exact DE.eqf (de_popAt ok.n ok.v ok.d1 ok.d2 (S.e X W c g a).1 hp1 hline) fun ρ => rfl
            · exact de_stuck fun _ => rfl
          · split
            · rename_i j hj
              exact sound_meth S g hs hp h30 hline hj
            · exact de_stuck fun _ => rfl
        · exact de_stuck fun _ => rfl
      | _ => exact de_stuck fun _ => rfl
    | _ => exact de_stuck fun _ => rfl
end
end BP
end

section
set_option maxHeartbeats 4000000
/-! Bs2: xs[lo::-1] of lists and tuples. -/
namespace BP
open PySem PySem.Spec PyProof.Rows HT
theorem rIx_some {n k : Nat} {i : Int} (h : rIx n (some i) = some k) : 0 ≤ i ∧ k = min (i.toNat + 1) n := by
  have h : (if 0 ≤ i then some (min (i.toNat + 1) n) else none) = some k := h
  by_cases h0 : 0 ≤ i
  · rw [if_pos h0] at h; cases h; exact ⟨h0, rfl⟩
  · rw [if_neg h0] at h; cases h
theorem rIx_le {n k : Nat} {lo : Option Int} (h : rIx n lo = some k) : k ≤ n := by
  cases lo with
  | none => cases h; exact Nat.le_refl _
  | some i =>
    obtain ⟨_, rfl⟩ := rIx_some h
    exact Nat.min_le_right _ _
theorem back_range (k : Nat) : (List.range k).map (fun m : Nat => ((k : Int) - 1 + (m : Int) * (-1)).toNat) = (List.range k).reverse := by
  apply List.ext_getElem
  · simp
  · intro i h1 h2
    simp only [List.getElem_map, List.getElem_range, List.getElem_reverse, List.length_range]
    omega
theorem back_pick {α : Type} (xs : Array α) (k : Nat) : ((List.range k).map (fun m : Nat => ((k : Int) - 1 + (m : Int) * (-1)).toNat)).filterMap (xs[·]?) = (xs.toList.take k).reverse := by
  rw [back_range, List.filterMap_reverse]
  have := pick_run xs 0 k
  simp only [Nat.zero_add, List.map_id', List.drop_zero] at this
  rw [this]
theorem slicePick_back (its : List Value) {lo : Option Int} {k : Nat} (h : rIx its.length lo = some k) : slicePick its.toArray lo none (some (-1)) = ((its.take k).reverse).toArray := by
  have hb : sliceBounds lo none (some (-1)) its.toArray.size = ((k : Int) - 1, -1, -1) := by
    cases lo with
    | none => cases h; rfl
    | some i =>
      obtain ⟨h0, rfl⟩ := rIx_some h
      unfold sliceBounds
      simp only [Option.getD_some, show ¬ ((-1 : Int) > 0) by decide, if_false, List.size_toArray, show ¬ i < 0 by omega]
      refine Prod.ext ?_ rfl
      dsimp only
      omega
  unfold slicePick
  rw [hb]
  have hr : sliceRange ((k : Int) - 1) (-1) (-1) = (List.range k).map (fun m : Nat => ((k : Int) - 1 + (m : Int) * (-1)).toNat) := by
    unfold sliceRange
    simp only [show ¬ ((-1 : Int) > 0) by decide, if_false]
    by_cases hk : (k : Int) - 1 > -1
    · simp only [hk, if_true]
      have e : (((k : Int) - 1 - -1 - -1 - 1) / - -1).toNat = k := by
        rw [show - -1 = (1 : Int) by decide, Int.ediv_one]
        omega
      rw [e]
      refine List.map_congr_left fun m _ => ?_
      rw [Int.mul_comm]
    · simp only [hk, if_false]
      have : k = 0 := by omega
      subst this
      rfl
  show ((sliceRange ((k : Int) - 1) (-1) (-1)).filterMap (its.toArray[·]?)).toArray = _
  rw [hr, back_pick]
section
variable {prog : Program} {w : World} {A : Around} {E : Value → Shared → Prop} {s : Shared}
theorem sliceApplied_back {sl : Addr} {vl : Value} {tk : Tok} {lo : Option Int} {n k : Nat} {Q : Int × Int × Nat → Shared → Prop} (hs : s.heap.IsSliceOf sl vl .none (.int (-1) tk)) (pl : IsPart vl lo) (hk : rIx n lo = some k)
    (h : Q ((k : Int) - 1, -1, k) s) : wpAny (model prog w) A (Builtin.Slice.sliceApplied (.ref sl) (pure (n : Int))) Q E s := by
  obtain ⟨os, hos, hcs, hds⟩ := id hs
  unfold Builtin.Slice.sliceApplied Builtin.Slice.sliceFields
  refine wpAny_bind (wpAny_bind (wpAny_field hos hds (x := vl) rfl (wpAny_bind (wpAny_field hos hds (x := .none) rfl (wpAny_bind (wpAny_field hos hds (x := .int (-1) tk) rfl (wpAny_pure ?_)))))))
  refine wpAny_bind (slicePart_ (.int (-1) tk) ?_)
  show wpAny _ _ (if ((-1 : Int) == 0) = true then _ else _) _ _ s
  rw [if_neg (by decide)]
  refine wpAny_bind (slicePart_ pl (wpAny_bind (slicePart_ .none (wpAny_bind (wpAny_pure ?_)))))
  show wpAny _ _ (match Builtin.Slice.sliceAdjust lo none (-1) (n : Int) with | (lo, hi) => pure (lo, (-1 : Int), Builtin.Slice.slicePlaces lo hi (-1))) _ _ s
  have ha : Builtin.Slice.sliceAdjust lo none (-1) (n : Int) = ((k : Int) - 1, -1) := by
    unfold Builtin.Slice.sliceAdjust
    simp only [show (-1 : Int) < 0 by decide, if_true]
    refine Prod.ext ?_ rfl
    cases lo with
    | none => cases hk; rfl
    | some i =>
      obtain ⟨h0, rfl⟩ := rIx_some hk
      simp only [show ¬ i < 0 by omega, if_false]
      omega
  rw [ha]
  have hp : Builtin.Slice.slicePlaces ((k : Int) - 1) (-1) (-1) = k := by
    unfold Builtin.Slice.slicePlaces
    simp only [show ¬ ((-1 : Int) > 0) by decide, if_false]
    by_cases h1 : (k : Int) - 1 > -1
    · simp only [h1, if_true]
      rw [show - -1 = (1 : Int) by decide, Int.ediv_one]
      omega
    · simp only [h1, if_false]
      omega
  show wpAny _ _ (pure ((k : Int) - 1, (-1 : Int), Builtin.Slice.slicePlaces ((k : Int) - 1) (-1) (-1))) _ _ s
  rw [hp]
  exact wpAny_pure h
theorem getItem_tuple_back {t sl : Addr} {items : Array Value} {vl : Value} {tk : Tok} {lo : Option Int} {k : Nat} {Q : Value → Shared → Prop} (ht : IsTup s.heap t items) (hs : s.heap.IsSliceOf sl vl .none (.int (-1) tk)) (pl : IsPart vl lo) (hk : rIx items.size lo = some k)
    (h : Q (.ref s.heap.objs.size) { s with heap := s.heap.push { cls := .type "tuple", data := .seq ((items.toList.take k).reverse).toArray } })
    (hsz : items.size ≤ sizeLine) : wpAny (model prog w) A (getItem (.ref t) (.ref sl)) Q E s := by
  have htake : sizeOk (.seq ((items.toList.take k).reverse).toArray) := by
    show ((items.toList.take k).reverse).toArray.size ≤ sizeLine
    rw [List.size_toArray, List.length_reverse, List.length_take, Array.length_toList]
    omega
  obtain ⟨os, hos, hcs, hds⟩ := id hs
  have hTs : s.TypeIs (.ref sl) "slice" := ⟨os, hos, hcs⟩
  unfold getItem
  try with_reducible refine wpAny_holding ?_
  first | refine wpAny_bind (wpAny_pure ?_) | skip
  refine wpAny_bind (wpAny_sequenceKey ht.typeIs (by decide) ?_)
  refine wpAny_bind (wpAny_callSpecial?_slot (name := Str.ofString "__getitem__") ht.typeIs PyProof.Rows.slot_tuple_getitem
    (wpAny_call_entry PyProof.Rows.slot_tuple_getitem ht.typeIs entry_tuple_getitem ?_ (args_tuple_getitem _ _)))
  show wpAny _ _ (Builtin.Tuple.tupleItemsOf (.ref t) >>= _) _ _ s
  refine wpAny_bind (tupleItemsOf_ ht ?_)
  refine wpAny_bind (wpAny_typeOf hTs ?_)
  rw [if_pos (by decide)]
  refine wpAny_bind (sliceApplied_back hs pl hk ?_)
  have hno : ¬ ((((k : Int) - 1) == 0 && (-1 : Int) == 1 && k == items.size) = true) := by
    intro q
    rw [Bool.and_eq_true, Bool.and_eq_true] at q
    exact absurd q.1.2 (by decide)
  show wpAny _ _ (if (((k : Int) - 1) == 0 && (-1 : Int) == 1 && k == items.size) = true then _ else _) _ _ s
  have hp : ((List.range k).filterMap fun (m : Nat) => items[((k : Int) - 1 + (m : Int) * (-1)).toNat]?).toArray = ((items.toList.take k).reverse).toArray := by
    have := back_pick items k
    rw [List.filterMap_map] at this
    rw [← this]
    rfl
  rw [if_neg hno, hp]
  first
    | exact wpAny_bind (m := Builtin.Tuple.tupleExact _) (wpAny_newObj_type (wpAny_pure ⟨_, rfl, wpAny_pure h⟩) htake)
    | exact wpAny_bind (m := Builtin.Tuple.tupleExact _) (wpAny_newObj_type (wpAny_bind (wpAny_pure (wpAny_pure ⟨_, rfl, wpAny_pure h⟩))) htake)
    | exact wpAny_bind (wpAny_bind (m := Builtin.Tuple.tupleExact _) (wpAny_newObj_type (wpAny_pure (wpAny_pure ⟨_, rfl, wpAny_pure h⟩)) htake))
    | exact wpAny_bind (wpAny_bind (m := Builtin.Tuple.tupleExact _) (wpAny_newObj_type (wpAny_pure ⟨_, rfl, wpAny_pure h⟩) htake))
end

section
open L2
variable {X : Cx} {W : Nat → Hp → Prop} {e a : Expr} {te : TE} {lo : Option Expr} {tl ts : TO} {fa : Rho → Rs RV} {pos p2 : Pos} {st : Expr}
def backV (xs : List V) (k : Nat) : List V := (xs.take k).reverse
def rBk (K : PySem.W.Frag) (x : V) (lo : Option Int) (H : Hp) (Q : VK) : Prop := ∃ b xs k, x = .ref b ∧ rIx xs.length lo = some k ∧
  ((SqL K H b xs ∧ ∀ p, H p = none → Q (.ref p) (upd H p (.lst (backV xs k)))) ∨ (SqT K H b xs ∧ ∀ p, H p = none → Q (.ref p) (upd H p (.tup (backV xs k)))))
theorem Vals.back {xs : List V} {us : List Value} (r : Vals xs us) (k : Nat) : Vals (backV xs k) ((us.take k).reverse) := L2.Vals.reverse (L2.Vals.take k r)
def tBk (K : PySem.W.Frag) (te : TE) (tl ts : TO) : TE := fun σ H Q => te σ H fun x H1 => tl σ H1 fun l H2 => ts σ H2 fun z H3 => z = some (-1) ∧ rBk K x l H3 Q
theorem pe_back (he : PE X e te) (hl : PO X lo tl) (hs : PO X (some st) ts) : PE X (.Subscript e (.Slice lo none (some st) p2) pos) (tBk X.K te tl ts) := by
  refine ⟨fun pins s σ H Q I h => ?_⟩
  refine Subscript_ (thn (he.run pins s σ H _ I h) fun v s1 ⟨x, H1, I1, r1, q1⟩ => ?_)
  refine wpAny_Slice (thn (hl.run pins s1 σ H1 _ I1 q1) fun vl s2 ⟨l, H2, I2, pl, q2⟩ => ?_)
  rw [evalPart_none]
  refine wpAny_pure ?_
  refine thn (hs.run pins s2 σ H2 _ I2 q2) fun vs s3 ⟨z, H3, I3, r3, q3⟩ => ?_
  obtain ⟨rfl, b, xs, k, rfl, hk, q⟩ := q3
  cases r3 with | int i tk =>
  cases r1
  have I4 : Inv X pins σ H3 { s3 with heap := s3.heap.push { cls := .type "slice", data := .fields #[vl, .none, .int (-1) tk] } } := I3.kept (t' := s3.toks) fun b ob q => Heap.get?_push_of_some _ q
  have hsl : ({ s3 with heap := s3.heap.push { cls := .type "slice", data := .fields #[vl, .none, .int (-1) tk] } } : Shared).heap.IsSliceOf s3.heap.objs.size vl .none (.int (-1) tk) := Heap.IsSliceOf.new ..
  show wpAny (model X.prog X.w) X.A (subscriptTail e (.Slice lo none (some st) p2) (.ref b) (.ref s3.heap.objs.size)) (EP X pins σ Q) X.xe { s3 with heap := s3.heap.push { cls := .type "slice", data := .fields #[vl, .none, .int (-1) tk] } }
  generalize ({ s3 with heap := s3.heap.push { cls := .type "slice", data := .fields #[vl, .none, .int (-1) tk] } } : Shared) = s4 at I4 hsl
  generalize s3.heap.objs.size = sl at hsl
  rcases q with ⟨hx, q⟩ | ⟨hx, q⟩
  · obtain ⟨its, r, ht, hz⟩ := I4.list hx
    have hlen := r.length
    refine tail_any (ops := [.ref b, .ref sl]) ht.isList.typeIs slot_list_getitem.lookup ?_ (by with_unfolding_all rfl)
    refine wpAny_getItem_list_slice ht.isList hsl pl .none (.int (-1) tk) (by simp) ?_ (by rw [List.size_toArray] <;> omega)
    rw [slicePick_back its (k := k) (by rw [← hlen]; exact hk)]
    have hr := Vals.back r k
    have hzz : (backV xs k).length ≤ sizeLine := by
      unfold backV
      rw [List.length_reverse, List.length_take]
      omega
    refine ⟨.ref s4.heap.objs.size, _, I4.laid (t' := s4.toks) (o := .lst (backV xs k)) (fun b ob q => Heap.get?_push_of_some _ q) (Nat.le_refl _) ?_, rfl, q _ (I4.hok.fresh (Nat.le_refl _))⟩
    exact ⟨hzz, _, 0, hr, Heap.get?_push_size _ rfl⟩
  · obtain ⟨its, r, ht, hz⟩ := I4.tuple hx
    have hlen : its.toArray.size = xs.length := by rw [List.size_toArray]; exact r.length.symm
    refine tail_any (ops := [.ref b, .ref sl]) ht.typeIs PyProof.Rows.slot_tuple_getitem.lookup ?_ (by with_unfolding_all rfl)
    refine getItem_tuple_back ht hsl pl (by rw [hlen]; exact hk) ?_ (by rw [hlen]; exact hz)
    have hr := Vals.back r k
    have hzz : (backV xs k).length ≤ sizeLine := by
      unfold backV
      rw [List.length_reverse, List.length_take]
      omega
    refine ⟨.ref s4.heap.objs.size, _, I4.laid (t' := s4.toks) (o := .tup (backV xs k)) (fun b ob q => Heap.get?_push_of_some _ q) (Nat.le_refl _) ?_, rfl, q _ (I4.hok.fresh (Nat.le_refl _))⟩
    exact ⟨hzz, _, hr, IsTup.new _ _⟩
theorem DqAll.reverse {K : PySem.W.Frag} {G : Hp} : ∀ {vs : List V} {ds : List PyData}, DqAll K G vs ds → DqAll K G vs.reverse ds.reverse
  | _, _, .nil => .nil
  | _, _, .cons h r => by
    rw [List.reverse_cons, List.reverse_cons]
    exact (DqAll.reverse r).app (.cons h .nil)
theorem de_back {lo : Option Expr} {fl fs : Rho → Rs (Option Int)} (ha : DE X W a fa) (hlo : DO X W lo fl) (hst : DO X W (some st) fs) :
    DE X W (.Subscript a (.Slice lo none (some st) p2) pos) (fun ρ => (fa ρ).bind fun x ρ => (fl ρ).bind fun l ρ => (fs ρ).bind fun h ρ => op1 (fun d => bkD d l h) x ρ) := by
  obtain ⟨ta, pa, ra⟩ := ha
  obtain ⟨tl, pl, rl⟩ := hlo
  obtain ⟨th, ph, rh⟩ := hst
  refine ⟨_, pe_back pa pl ph, fun σ H ρ fr Q hl hR hW => ?_⟩
  refine ra σ H ρ fr _ hl hR (hW.bind.mono fun rx ρ1 l1 hW1 x H1 hR1 sx => ?_)
  refine rl σ H1 ρ1 (ent x rx ++ fr) _ l1.symm hR1.rot ((hW1.bind.frame _).mono fun l ρ2 l2 hW2 H2 hR2 => ?_)
  refine rh σ H2 ρ2 (ent x rx ++ fr) _ l2.symm hR2 ((hW2.bind.frame _).mono fun h ρ3 l3 hW3 H3 hR3 => ?_)
  obtain ⟨G, g⟩ := hR3
  have g1 : RepG X.K G H3 (ent x rx ++ (σ.zip ρ3 ++ fr)) := g.rot
  unfold op1 at hW3
  cases ea : dat ρ3 rx with
  | none => rw [ea] at hW3; exact hW3.elim
  | some d =>
    rw [ea] at hW3
    have hs := g.sub
    have va := g1.view l3.symm sx ea
    by_cases h1 : h = some (-1)
    · subst h1
      refine ⟨rfl, ?_⟩
      cases d with
      | list ds =>
        obtain ⟨w, vs, rfl, h1, q1⟩ := va.list hs
        cases hk : rIx ds.length l with
        | none => simp [bkD, hk] at hW3; exact hW3.elim
        | some k =>
          have e : bkD (.list ds) l (some (-1)) = some (.lst (ds.take k).reverse) := by simp [bkD, hk]
          simp only [e] at hW3
          exact ⟨w, vs, k, rfl, by rw [q1.len]; exact hk, .inl ⟨.inl h1, fun p hp => hW3 l3 _ _ ((g1.tails _).made (.inr ⟨p, _, _, rfl, hp, DqAll.reverse (q1.take k), .inr ⟨rfl, rfl⟩⟩)) trivial⟩⟩
      | tuple ds =>
        obtain ⟨w, vs, rfl, h1, q1⟩ := va.tuple hs
        cases hk : rIx ds.length l with
        | none => simp [bkD, hk] at hW3; exact hW3.elim
        | some k =>
          have e : bkD (.tuple ds) l (some (-1)) = some (.imm (.tuple (ds.take k).reverse)) := by simp [bkD, hk]
          simp only [e] at hW3
          exact ⟨w, vs, k, rfl, by rw [q1.len]; exact hk, .inr ⟨h1, fun p hp => hW3 l3 _ _ ((g1.tails _).made (.inr ⟨p, _, _, rfl, hp, DqAll.reverse (q1.take k), .inl ⟨rfl, rfl⟩⟩)) trivial⟩⟩
      | _ => simp [bkD] at hW3; exact hW3.elim
    · have e : bkD d l h = none := by unfold bkD; rw [if_neg h1]
      simp only [e] at hW3
      exact hW3.elim
end
end BP
end

section
/-! Bp15: soundness of expressions. -/
namespace BP
open PySem PySem.Spec PyProof.Rows L2
section
variable {T : Tb} {xc : Nat → Value} {k : Nat} {X : Cx} {W : Nat → Hp → Prop} {c : Tc}
theorem sound_name {n : Nat} (g : Gx T xc k X W c) (x : Str) (pos : Pos) : DE X W (.Name x pos) (evE T (trE (n + 1) c (.Name x pos))) := by
  show DE X W _ (evE T (match slotOf c x with | some i => .var i | none => if glob c x then (match ixOf x c.cons with | some j => .glob j | none => .bad) else .bad))
  cases hs : slotOf c x with
  | some i =>
    have ok := g.slot hs
    exact de_var ok.n ok.v ok.d1 ok.d2 T
  | none =>
    show DE X W _ (evE T (if glob c x then (match ixOf x c.cons with | some j => .glob j | none => .bad) else .bad))
    split
    case isFalse => exact de_stuck fun _ => rfl
    rename_i hg
    obtain ⟨g1, g2, g3⟩ := g.gl hg
    cases hj : ixOf x c.cons with
    | none => exact de_stuck fun _ => rfl
    | some j =>
      cases hd : T.cons[j]? with
      | none =>
        refine de_stuck fun ρ => ?_
        show (Rs.ofOpt T.cons[j]? ρ).bind _ = _
        rw [hd]
        rfl
      | some d =>
        obtain ⟨y, v, u, e1, m, r, q⟩ := g.cons j d hd
        rw [ixOf_get hj] at e1
        cases e1
        exact de_glob (pe_glob g1 m r g2) hd q
theorem sound_const {n : Nat} (q : Const) (i : Nat) (pos : Pos) : DE X W (.Constant q i pos) (evE T (trE (n + 1) c (.Constant q i pos))) := by
  cases q with
  | int i => exact de_con pe_int (fun G => .int i) T
  | str i => exact de_con pe_str (fun G => .str i) T
  | bool i => exact de_con pe_bl (fun G => .bl i) T
  | none => exact de_con pe_non (fun G => .non) T
  | _ => exact de_stuck fun _ => rfl
theorem sound_comp {n : Nat} (S : SoundE T xc k n) (g : Gx T xc k X W c) (elt : Expr) (gs : List Comprehension) (scope : Scope) (pos : Pos) : DE X W (.ListComp elt gs scope pos) (evE T (trE (n + 1) c (.ListComp elt gs scope pos))) := by
  show DE X W _ (evE T (match gs with
      | [⟨tg, iter, ifs, 0⟩] => _
      | _ => .bad))
  split
  case h_2 => exact de_stuck fun _ => rfl
  rename_i tg iter ifs
  show DE X W _ (evE T (if blkC c.N c.sc scope (ownOf c.N scope.names) && noSet iter && decide (((ownOf c.N scope.names).map (·.2)).Nodup) then _ else .bad))
  split
  case isFalse => exact de_stuck fun _ => rfl
  rename_i hc
  simp only [Bool.and_eq_true, decide_eq_true_eq] at hc
  obtain ⟨⟨hb, hns⟩, hnd⟩ := hc
  have ok : BlkOk X.N X.env.scope scope (ownOf c.N scope.names) := by
    rw [g.N, g.sc]
    exact blkOk_by hb
  split
  · rename_i _ t ht
    split
    case isFalse => exact de_stuck fun _ => rfl
    rename_i hin
    refine DE.eqf (de_comp (ft := fun ρ => .ok true ρ) g.calm (by rw [g.N]; exact g.nd) (S.i X W c g tg iter) ok (fun s H C cl fp => dg_of (g.blk scope s H C cl fp) ht) (fun s H C cl fp => dts_nil) (fun s H C cl fp => (S.e _ _ _ (g.blk scope s H C cl fp) elt).1)
      (folded_ok hns _) (tgIn_sub hin) hnd) fun ρ => rfl
  · rename_i _ t i ht
    split
    case isFalse => exact de_stuck fun _ => rfl
    rename_i hin
    refine DE.eqf (de_comp g.calm (by rw [g.N]; exact g.nd) (S.i X W c g tg iter) ok (fun s H C cl fp => dg_of (g.blk scope s H C cl fp) ht) (fun s H C cl fp => dts_one (S.e _ _ _ (g.blk scope s H C cl fp) i).2) (fun s H C cl fp => (S.e _ _ _ (g.blk scope s H C cl fp) elt).1)
      (folded_ok hns _) (tgIn_sub hin) hnd) fun ρ => rfl
  · exact de_stuck fun _ => rfl
theorem sound_attr {n : Nat} (g : Gx T xc k X W c) (o : Expr) (f : Str) (pos : Pos) : DE X W (.Attribute o f pos) (evE T (trE (n + 1) c (.Attribute o f pos))) := by
  show DE X W _ (evE T (match fldOf c (.Attribute o f pos) with | some (i, x) => .fget i x | none => .bad))
  split
  · rename_i i x hf
    obtain ⟨y, p, ap, e, hs⟩ := fldOf_some hf
    cases e
    have sl := g.slot hs
    exact DE.eqf (de_fget sl.n sl.v sl.d1 sl.d2) fun ρ => rfl
  · exact de_stuck fun _ => rfl
theorem sound_sub {n : Nat} (S : SoundE T xc k n) (g : Gx T xc k X W c) (a b : Expr) (pos : Pos) : DE X W (.Subscript a b pos) (evE T (trE (n + 1) c (.Subscript a b pos))) := by
  have ha := (S.e X W c g a).1
  show DE X W _ (evE T (match fldOf c a with
      | some (i, f) => (match b with
        | .Slice lo hi st _ => (match st with
          | none => .fslice i f (trO n c lo) (trO n c hi)
          | some _ => .bad)
        | b => .fix i f (trE n c b))
      | none => (match b with
        | .Slice lo hi st _ => (match st with
          | none => .slice (trE n c a) (trO n c lo) (trO n c hi)
          | some st => (match hi with
            | none => .back (trE n c a) (trO n c lo) (trO n c (some st))
            | some _ => .bad))
        | b => .ix (trE n c a) (trE n c b))))
  cases hf : fldOf c a with
  | some q =>
    obtain ⟨i, f⟩ := q
    obtain ⟨y, p, ap, rfl, hs⟩ := fldOf_some hf
    have sl := g.slot hs
    cases b with
    | Slice lo hi st p =>
      cases st with
      | none => exact DE.eqf (de_fslice sl.n sl.v sl.d1 sl.d2 (S.o X W c g lo) (S.o X W c g hi)) fun ρ => rfl
      | some _ => exact de_stuck fun _ => rfl
    | _ => exact DE.eqf (de_fix sl.n sl.v sl.d1 sl.d2 (S.e X W c g _).1 rfl) fun ρ => rfl
  | none =>
    cases b with
    | Slice lo hi st p =>
      cases st with
      | none => exact DE.eqf (de_slice ha (S.o X W c g lo) (S.o X W c g hi)) fun ρ => rfl
      | some st =>
        cases hi with
        | none => exact DE.eqf (de_back ha (S.o X W c g lo) (S.o X W c g (some st))) fun ρ => rfl
        | some _ => exact de_stuck fun _ => rfl
    | _ => exact DE.eqf (de_ix ha (S.e X W c g _).1 rfl) fun ρ => rfl
theorem sound_i {n : Nat} (S : SoundE T xc k n) (g : Gx T xc k X W c) (tg e : Expr) : DI X W tg e (evI T (trI (n + 1) c (isTupE tg) e)) := by
  have dflt : DI X W tg e (evI T (.seq (trE n c e))) := di_seq (S.e X W c g e).1
  cases e with
  | Call f as ks pos =>
    cases f with
    | Name x p =>
      cases ks with
      | cons _ _ => exact dflt
      | nil =>
        show DI X W tg _ (evI T (if glob c x && as.all plainE && !as.isEmpty then _ else .bad))
        split
        case isFalse => exact di_stuck fun _ => rfl
        rename_i hc
        simp only [Bool.and_eq_true, Bool.not_eq_true'] at hc
        obtain ⟨⟨hg, hp⟩, hne⟩ := hc
        obtain ⟨g1, g2, g3⟩ := g.gl hg
        split
        · rename_i hx
          have hx : x = ("range" : Str) := by simpa using hx
          subst hx
          split
          · rename_i a
            have h1 : plainE a = true := by simpa using hp
            exact di_rng1 g1 (g.blt _ (by decide)) (S.e X W c g a).1 h1
          · rename_i a b
            have h1 : plainE a = true ∧ plainE b = true := by simpa using hp
            exact di_rng2 g1 (g.blt _ (by decide)) (S.e X W c g a).1 (S.e X W c g b).1 h1.1 h1.2
          · rename_i a b d
            have h1 : plainE a = true ∧ plainE b = true ∧ plainE d = true := by simpa using hp
            exact di_rng3 g1 (g.blt _ (by decide)) (S.e X W c g a).1 (S.e X W c g b).1 (S.e X W c g d).1 h1.1 h1.2.1 h1.2.2
          · exact di_stuck fun _ => rfl
        · split
          · rename_i hx
            have hx : x = ("enumerate" : Str) := by simpa using hx
            subst hx
            split
            · rename_i a
              split
              case isFalse => exact di_stuck fun _ => rfl
              rename_i ht
              have h1 : plainE a = true := by simpa using hp
              cases tg with
              | Tuple elts kk tp => exact di_enum g1 (g.blt _ (by decide)) (S.e X W c g a).1 h1
              | _ => cases ht
            · exact di_stuck fun _ => rfl
          · split
            · rename_i hx
              have hx : x = ("zip" : Str) := by simpa using hx
              subst hx
              split
              · rename_i a b
                split
                case isFalse => exact di_stuck fun _ => rfl
                rename_i ht
                have h1 : plainE a = true ∧ plainE b = true := by simpa using hp
                cases tg with
                | Tuple elts kk tp => exact di_zip g1 (g.blt _ (by decide)) (da_cons (S.e X W c g a).1 (da_cons (S.e X W c g b).1 da_nil h1.2) h1.1) h1.1 h1.2
                | _ => cases ht
              · exact di_stuck fun _ => rfl
            · exact dflt
    | _ => exact dflt
  | _ => exact dflt
theorem sound_cmp {n : Nat} (S : SoundE T xc k n) (g : Gx T xc k X W c) (a : Expr) (ops : List CmpOp) (bs : List Expr) (pos : Pos) :
    DE X W (.Compare a ops bs pos) (evE T (trE (n + 1) c (.Compare a ops bs pos))) ∧ DT X W (.Compare a ops bs pos) (fun ρ => (evE T (trE (n + 1) c (.Compare a ops bs pos)) ρ).bind b2) := by
  show DE X W _ (evE T (match ops, bs with
      | [op], [b] => if behindInMarks op b = false then .cmp (copOf op) (trE n c a) (trE n c b) else .bad
      | [o1, o2], [b, d] => if behindInMarks o1 b = false ∧ behindInMarks o2 d = false then .chain (copOf o1) (copOf o2) (trE n c a) (trE n c b) (trE n c d) else .bad
      | _, _ => .bad)) ∧ DT X W _ (fun ρ => (evE T (match ops, bs with
      | [op], [b] => if behindInMarks op b = false then .cmp (copOf op) (trE n c a) (trE n c b) else .bad
      | [o1, o2], [b, d] => if behindInMarks o1 b = false ∧ behindInMarks o2 d = false then .chain (copOf o1) (copOf o2) (trE n c a) (trE n c b) (trE n c d) else .bad
      | _, _ => .bad) ρ).bind b2)
  split
  · rename_i op b
    split
    case isFalse => exact bad_both
    rename_i hm
    exact ⟨DE.eqf (de_cmp (opd_cmp g.hu op) (S.e X W c g a).1 (S.e X W c g b).1 hm) fun ρ => rfl, DT.eqf (dt_cmp (opd_cmp g.hu op) (S.e X W c g a).1 (S.e X W c g b).1 hm) fun ρ => rfl⟩
  · rename_i o1 o2 b d
    split
    case isFalse => exact bad_both
    rename_i hm
    exact ⟨DE.eqf (de_chain g.hu (S.e X W c g a).1 (S.e X W c g b).1 (S.e X W c g d).1 hm.2) fun ρ => rfl, DT.eqf (dt_chain g.hu (S.e X W c g a).1 (S.e X W c g b).1 (S.e X W c g d).1 hm.2) fun ρ => rfl⟩
  · exact bad_both
theorem sound_e {n : Nat} (S : SoundE T xc k n) (g : Gx T xc k X W c) (e : Expr) : DE X W e (evE T (trE (n + 1) c e)) ∧ DT X W e (fun ρ => (evE T (trE (n + 1) c e) ρ).bind b2) := by
  cases e with
  | Name x pos => exact both (sound_name g x pos) fun _ => rfl
  | Constant q i pos => exact both (sound_const q i pos) fun _ => rfl
  | BinOp a op b pos =>
    refine both ?_ fun _ => rfl
    show DE X W _ (evE T (match bopOf op with
      | some o => if isMul o && isListE a then .rep (trE n c a) (trE n c b) else .bin o (trE n c a) (trE n c b)
      | none => .bad))
    cases ho : bopOf op with
    | none => exact de_stuck fun _ => rfl
    | some o =>
      show DE X W _ (evE T (if isMul o && isListE a then .rep (trE n c a) (trE n c b) else .bin o (trE n c a) (trE n c b)))
      split
      · rename_i h
        simp only [Bool.and_eq_true] at h
        have : op = .Mult := by
          cases op <;> cases ho <;> first | rfl | cases h.1
        subst this
        exact DE.eqf (de_rep (S.e X W c g a).1 (S.e X W c g b).1) fun ρ => rfl
      · exact DE.eqf (de_op (opd_bin ho) (S.e X W c g a).1 (S.e X W c g b).1) fun ρ => rfl
  | UnaryOp op a pos =>
    cases op with
    | USub => exact both (DE.eqf (de_neg (S.e X W c g a).1) fun ρ => rfl) fun _ => rfl
    | Not =>
      refine ⟨DE.eqf (de_not (S.e X W c g a).1) fun ρ => rfl, DT.eqf (dt_not (S.e X W c g a).2) fun ρ => ?_⟩
      show ((evE T (trE n c a) ρ).bind b2).bind (fun b ρ => Rs.ok (!b) ρ) = ((evE T (trE n c a) ρ).bind fun x ρ => (b2 x ρ).bind fun b ρ => .ok (.val (.imm (.bool (!b)))) ρ).bind b2
      rw [bind_assoc, bind_assoc]
      congr 1
      funext x ρ
      rw [bind_assoc]
      rfl
    | _ => exact bad_both
  | BoolOp op vs pos =>
    cases op with
    | And => exact ⟨(S.an X W c g vs pos).1, (S.an X W c g vs pos).2.dt⟩
    | Or => exact ⟨(S.orr X W c g vs pos).1, (S.orr X W c g vs pos).2.dt⟩
  | Compare a ops bs pos => exact sound_cmp S g a ops bs pos
  | IfExp t a b pos =>
    refine ⟨DE.eqf (de_ite (S.e X W c g t).2 (S.e X W c g a).1 (S.e X W c g b).1) fun ρ => ?_, DT.eqf (dt_ite (S.e X W c g t).2 (S.e X W c g a).2 (S.e X W c g b).2) fun ρ => ?_⟩
    · show ((evE T (trE n c t) ρ).bind b2).bind _ = (evE T (trE n c t) ρ).bind fun x ρ => (b2 x ρ).bind fun k ρ => if k then evE T (trE n c a) ρ else evE T (trE n c b) ρ
      rw [bind_assoc]
    · show ((evE T (trE n c t) ρ).bind b2).bind _ = ((evE T (trE n c t) ρ).bind fun x ρ => (b2 x ρ).bind fun k ρ => if k then evE T (trE n c a) ρ else evE T (trE n c b) ρ).bind b2
      rw [bind_assoc, bind_assoc]
      congr 1
      funext x ρ
      rw [bind_assoc]
      congr 1
      funext k ρ
      cases k <;> rfl
  | Tuple es kk pos =>
    refine both ?_ fun _ => rfl
    show DE X W _ (evE T (if es.all plainE then .tup (exsOf (trEs n c es)) else .bad))
    split
    · rename_i hp
      exact DE.eqf (de_tup (S.a X W c g es hp)) fun ρ => rfl
    · exact de_stuck fun _ => rfl
  | List es pos =>
    refine both ?_ fun _ => rfl
    show DE X W _ (evE T (if es.all plainE then .lst (exsOf (trEs n c es)) else .bad))
    split
    · rename_i hp
      exact DE.eqf (de_lst (S.a X W c g es hp)) fun ρ => rfl
    · exact de_stuck fun _ => rfl
  | Call f as ks pos => exact both (sound_call S g f as ks pos) fun _ => rfl
  | Subscript a b pos => exact both (sound_sub S g a b pos) fun _ => rfl
  | Attribute o f pos => exact both (sound_attr g o f pos) fun _ => rfl
  | ListComp elt gs scope pos => exact both (sound_comp S g elt gs scope pos) fun _ => rfl
  | _ => exact bad_both
end
theorem sound_expr {T : Tb} {xc : Nat → Value} {k : Nat} : ∀ n, SoundE T xc k n
  | 0 => sound_zero
  | n + 1 => by
    have S := sound_expr (T := T) (xc := xc) (k := k) n
    exact {
      e := fun X W c g e => sound_e S g e
      a := fun X W c g es hp => sound_a S g es hp
      an := fun X W c g vs pos => sound_an S g pos vs
      orr := fun X W c g vs pos => sound_or S g pos vs
      o := fun X W c g e => by
        cases e with
        | none => exact do_none
        | some e => exact do_some (S.e X W c g e).1
      i := fun X W c g tg e => sound_i S g tg e }
end BP
end

section
/-! Bp16: soundness of statements. -/
namespace BP
open PySem PySem.Spec PyProof.Rows L2
section
variable {T : Tb} {xc : Nat → Value} {k : Nat} {X : Cx} {W : Nat → Hp → Prop} {c : Tc}
theorem swaps_no {e : Expr} {t : Option Expr} {line : Nat} {env : PySem.Env} (h : isComp e = false) : swapsWith e t line env = pure false := by
  cases e <;> first | rfl | cases h
theorem swaps_tup {e : Expr} {ts : List Expr} {kk line : Nat} {p : Pos} {env : PySem.Env} : swapsWithSole [.Tuple ts kk p] e line env = pure false := by
  cases e <;> rfl
theorem swaps_sub {e a b : Expr} {line : Nat} {p : Pos} {env : PySem.Env} : swapsWithSole [.Subscript a b p] e line env = pure false := by
  cases e <;> rfl
theorem swapped_no {e : Expr} {ts : List Expr} {kk : Nat} {p : Pos} {env : PySem.Env} (h : isTuple2 e = none) : swappedStores [.Tuple ts kk p] e env = pure none := by
  cases e <;> first | rfl | cases h
theorem bk_of {env : PySem.Env} (h : env.scope.kind = .function) : env.blockKind = .function := by
  unfold PySem.Env.blockKind
  rw [h]
  rfl
theorem swaps_cell {elt : Expr} {gs : List Comprehension} {scope : Scope} {pos py : Pos} {y : Str} {l : Nat} {env : PySem.Env} (h : isLocal (env.scope.names.lookup y) = false) : swapsWith (.ListComp elt gs scope pos) (some (.Name y py)) l env = pure false := by
  have : (env.kindOf y == some NameKind.local) = false := by
    show (env.scope.names.lookup y == some NameKind.local) = false
    cases q : env.scope.names.lookup y with
    | none => rfl
    | some k => rw [q] at h; cases k <;> first | rfl | cases h
  unfold swapsWith
  simp only [this, Bool.and_false, Bool.false_and]
/-- the stars of plain values -/
theorem noStar {vs : List Expr} (h : vs.all plainE = true) : (vs.any fun e => match e with | .Starred .. => true | _ => false) = false := by
  rw [List.any_eq_false]
  intro e he
  have := List.all_eq_true.mp h e he
  cases e <;> first | exact Bool.false_ne_true | cases this
theorem sw_len {ts vs : List Expr} {kk k2 : Nat} {p p2 : Pos} {env : PySem.Env} (h : (ts.length == 2 || ts.length == 3) = false) : swappedStores [.Tuple ts kk p] (.Tuple vs k2 p2) env = pure none := by
  unfold swappedStores
  simp only [h, Bool.not_false, Bool.true_or, if_true]
theorem sw_folded {ts vs : List Expr} {kk k2 : Nat} {p p2 : Pos} {env : PySem.Env} (h : vs.all (foldedForSure 8) = true) : swappedStores [.Tuple ts kk p] (.Tuple vs k2 p2) env = pure none := by
  unfold swappedStores
  simp only [h, if_true]
  split
  · rfl
  split
  · rfl
  split <;> rfl
def locName (env : PySem.Env) (line : Nat) : Expr → Option Str
  | .Name id pos => if env.kindOf id == some .local && pos.line == line then some id else none
  | _ => none
theorem sw_mixed {ts vs : List Expr} {kk k2 : Nat} {p p2 : Pos} {env : PySem.Env} (h : (ts.filterMap (locName env (firstLine ts))).length ≠ ts.length) : swappedStores [.Tuple ts kk p] (.Tuple vs k2 p2) env = pure none := by
  have e1 : (ts.head?.map (·.pos.line)).getD 0 = firstLine ts := by cases ts <;> rfl
  have e2 : (fun e => match e with | Expr.Name id pos => if env.kindOf id == some .local && pos.line == firstLine ts then some id else none | _ => none) = locName env (firstLine ts) := by
    funext e
    cases e <;> rfl
  have e3 : ((ts.filterMap (locName env (firstLine ts))).length != ts.length) = true := by simpa using h
  unfold swappedStores
  simp only [e1]
  split
  · rfl
  split
  · rfl
  split
  · rfl
  · rename_i h3
    exfalso
    apply h3
    rw [Bool.or_eq_true]
    left
    refine Eq.trans ?_ e3
    congr 2
theorem allLoc_false (g : Gx T xc k X W c) (line : Nat) : ∀ {ts : List Expr} {is : List Nat}, namesOf c ts = some is → allLoc c line ts = false → (ts.filterMap (locName X.env line)).length ≠ ts.length
  | [], _, _, h => by cases h
  | e :: ts, is, hn, h => by
    cases e with
    | Name x p =>
      have hle : (ts.filterMap (locName X.env line)).length ≤ ts.length := List.length_filterMap_le _ _
      unfold namesOf at hn
      cases h2 : namesOf c ts with
      | none =>
        cases h1 : setSlot c x <;> rw [h1, h2] at hn <;> cases hn
      | some js =>
        rw [List.filterMap_cons]
        cases hx : (isLocal (c.sc.names.lookup x) && p.line == line) with
        | false =>
          have : locName X.env line (.Name x p) = none := by
            show (if X.env.kindOf x == some .local && p.line == line then some x else none) = none
            rw [if_neg]
            intro hh
            simp only [Bool.and_eq_true] at hh
            have h1 : X.env.scope.names.lookup x = some .local := by
              have : X.env.kindOf x = some .local := by simpa using hh.1
              exact this
            rw [g.sc] at h1
            rw [h1] at hx
            simp only [isLocal, Bool.true_and] at hx
            rw [hx] at hh
            exact absurd hh.2 Bool.false_ne_true
          rw [this]
          simp only [List.length_cons]
          omega
        | true =>
          have hr : allLoc c line ts = false := by
            unfold allLoc at h
            rw [hx, Bool.true_and] at h
            exact h
          have ih := allLoc_false g line h2 hr
          cases locName X.env line (.Name x p) with
          | none => simp only [List.length_cons]; omega
          | some _ => simp only [List.length_cons]; omega
    | _ => cases hn
theorem locName_yes {env : PySem.Env} {x : Str} {p : Pos} {line : Nat} (h : env.kindOf x = some .local) (hl : (p.line == line) = true) : locName env line (.Name x p) = some x := by
  show (if env.kindOf x == some .local && p.line == line then some x else none) = some x
  rw [if_pos]
  rw [h, hl]
  rfl
theorem sw_swap {ts vs : List Expr} {names : List Str} {kk k2 : Nat} {p p2 : Pos} {env : PySem.Env} (hk : env.blockKind = .function) (hlen : (ts.length == 2 || ts.length == 3) = true) (hvl : vs.length = ts.length) (hn : ts.filterMap (locName env (firstLine ts)) = names) (hnl : names.length = ts.length) (hnd : names.eraseDups.length = names.length)
    (hp : vs.all plainE = true) (h1 : (vs.all (foldedForSure 8)) = false) (h2 : (vs.all (constantsAlone 8)) = false) : swappedStores [.Tuple ts kk p] (.Tuple vs k2 p2) env = pure (some names) := by
  have e1 : (ts.head?.map (·.pos.line)).getD 0 = firstLine ts := by cases ts <;> rfl
  have e2 : (fun e => match e with | Expr.Name id pos => if env.kindOf id == some .local && pos.line == firstLine ts then some id else none | _ => none) = locName env (firstLine ts) := by
    funext e
    cases e <;> rfl
  have hs := noStar hp
  unfold swappedStores
  simp only [e1, h1, h2]
  split
  · rename_i hc
    rw [hlen, hvl, hk] at hc
    simp at hc
  split
  · rename_i hc
    exact absurd (hs.symm.trans hc) Bool.false_ne_true
  have hfm : (ts.filterMap fun e => match e with | Expr.Name id pos => if env.kindOf id == some .local && pos.line == firstLine ts then some id else none | _ => none) = names := by
    rw [← hn]
    congr 1
  split
  · rename_i hc
    exfalso
    have hc' : (((ts.filterMap (fun e => match e with | Expr.Name id pos => if env.kindOf id == some .local && pos.line == firstLine ts then some id else none | _ => none)).length != ts.length) || ((ts.filterMap (fun e => match e with | Expr.Name id pos => if env.kindOf id == some .local && pos.line == firstLine ts then some id else none | _ => none)).eraseDups.length != (ts.filterMap (fun e => match e with | Expr.Name id pos => if env.kindOf id == some .local && pos.line == firstLine ts then some id else none | _ => none)).length)) = true := hc
    rw [hfm, hnl, hnd, hnl] at hc'
    simp at hc'
  · refine Eq.trans ?_ (congrArg (fun z => pure (some z)) hfm)
    rfl
theorem filter_names (g : Gx T xc k X W c) (line : Nat) : ∀ {ts : List Expr} {is : List Nat}, namesOf c ts = some is → allLoc c line ts = true →
    ∃ names : List Str, ts.filterMap (locName X.env line) = names ∧ names.length = ts.length ∧ Paired (fun i x => X.N[i]? = some x ∧ X.env.scope.names.lookup x = some .local) is names ∧ Paired (fun e x => ∃ p, e = Expr.Name x p) ts names
  | [], is, hn, _ => by cases hn; exact ⟨[], rfl, rfl, .nil, .nil⟩
  | e :: ts, is, hn, h => by
    cases e with
    | Name x p =>
      unfold namesOf at hn
      cases h1 : setSlot c x with
      | none => rw [h1] at hn; cases hn
      | some i =>
        cases h2 : namesOf c ts with
        | none => rw [h1, h2] at hn; cases hn
        | some js =>
          rw [h1, h2] at hn
          cases hn
          unfold allLoc at h
          simp only [Bool.and_eq_true] at h
          obtain ⟨names, e1, e2, e3, e4⟩ := filter_names g line h2 h.2
          have hx : X.env.scope.names.lookup x = some .local := by rw [g.sc]; exact isLocal_of h.1.1
          refine ⟨x :: names, ?_, by simp [e2], .cons ⟨(g.setS h1).n, hx⟩ e3, .cons ⟨p, rfl⟩ e4⟩
          rw [List.filterMap_cons, locName_yes hx h.1.2, e1]
    | _ => cases hn
theorem dups2 {x y : Str} (h : x ≠ y) : ([x, y] : List Str).eraseDups.length = ([x, y] : List Str).length := by
  have h' : (y == x) = false := by simpa using (Ne.symm h)
  rw [List.eraseDups_cons]
  simp [h', List.eraseDups_cons]
theorem dups3 {x y z : Str} (h : x ≠ y) (h1 : x ≠ z) (h2 : y ≠ z) : ([x, y, z] : List Str).eraseDups.length = ([x, y, z] : List Str).length := by
  have a1 : (y == x) = false := by simpa using (Ne.symm h)
  have a2 : (z == x) = false := by simpa using (Ne.symm h1)
  have a3 : (z == y) = false := by simpa using (Ne.symm h2)
  rw [List.eraseDups_cons]
  simp [a1, a2, a3, List.eraseDups_cons]
theorem ne_ix (hN : X.N.Nodup) {i j : Nat} {x y : Str} (h1 : X.N[i]? = some x) (h2 : X.N[j]? = some y) (h : i ≠ j) : x ≠ y := fun e => h (nodup_ix hN h1 (e ▸ h2))
/-! ### a, b = x, y -/
theorem sound_swap (g : Gx T xc k X W c) (hb : X.env.blockKind = .function) {ts vs : List Expr} {is : List Nat} {names : List Str} {kk k2 : Nat} {p p2 pos : Pos} {fs : Rho → Rs (List RV)} (h23 : (ts.length == 2 || ts.length == 3) = true) (hp : vs.all plainE = true) (hl : vs.length = ts.length) (nd : is.Nodup) (hA : DA X W vs fs)
    (hf : (vs.all (foldedForSure 8)) = false) (hc : (vs.all (constantsAlone 8)) = false) (e1 : ts.filterMap (locName X.env (firstLine ts)) = names) (e2 : names.length = ts.length)
    (e3 : Paired (fun i x => X.N[i]? = some x ∧ X.env.scope.names.lookup x = some .local) is names) (e4 : Paired (fun e x => ∃ p, e = Expr.Name x p) ts names) :
    DS X W (.Assign [.Tuple ts kk p] (.Tuple vs k2 p2) pos) is (fun ρ => (fs ρ).bind (setNF is)) := by
  have hN : X.N.Nodup := by rw [g.N]; exact g.nd
  cases e4 with
  | nil => cases h23
  | cons a e4 =>
    obtain ⟨px, rfl⟩ := a
    cases e3 with
    | cons i3 e3 =>
      cases e4 with
      | nil => cases h23
      | cons a e4 =>
        obtain ⟨py, rfl⟩ := a
        cases e3 with
        | cons j3 e3 =>
          cases e4 with
          | nil =>
            cases e3
            cases vs with
            | nil => cases hl
            | cons a vs =>
              cases vs with
              | nil => cases hl
              | cons b vs =>
                cases vs with
                | cons _ _ => simp at hl
                | nil =>
                  simp only [List.nodup_cons, List.mem_cons, List.not_mem_nil, or_false] at nd
                  exact ds_par2 g.calm hN i3.1 j3.1 nd.1 i3.2 j3.2 hA (sw_swap hb h23 rfl e1 e2 (dups2 (ne_ix hN i3.1 j3.1 nd.1)) hp hf hc)
          | cons a e4 =>
            obtain ⟨pz, rfl⟩ := a
            cases e3 with
            | cons l3 e3 =>
              cases e4 with
              | cons _ _ => simp at h23
              | nil =>
                cases e3
                cases vs with
                | nil => cases hl
                | cons a vs =>
                  cases vs with
                  | nil => simp at hl
                  | cons b vs =>
                    cases vs with
                    | nil => simp at hl
                    | cons d vs =>
                      cases vs with
                      | cons _ _ => simp at hl
                      | nil =>
                        simp only [List.nodup_cons, List.mem_cons, List.not_mem_nil, or_false, not_or] at nd
                        exact ds_par3 g.calm hN i3.1 j3.1 l3.1 nd.1.1 nd.1.2 nd.2.1 i3.2 j3.2 l3.2 hA (sw_swap hb h23 rfl e1 e2 (dups3 (ne_ix hN i3.1 j3.1 nd.1.1) (ne_ix hN i3.1 l3.1 nd.1.2) (ne_ix hN j3.1 l3.1 nd.2.1)) hp hf hc)
theorem sound_setN {n : Nat} (g : Gx T xc k X W c) (hk : c.sc.kind = .function) {ts vs : List Expr} {is : List Nat} {kk k2 : Nat} {p p2 pos : Pos} {fs : Rho → Rs (List RV)} (hn : namesOf c ts = some is) (hp : vs.all plainE = true) (hl : vs.length = ts.length) (nd : is.Nodup) (sm : is.length ≤ 1000) (hA : DA X W vs fs)
    (hs : swK c ts vs = 1 ∨ swK c ts vs = 2) : DS X W (.Assign [.Tuple ts kk p] (.Tuple vs k2 p2) pos) is (fun ρ => (fs ρ).bind (setNF is)) := by
  have hN : X.N.Nodup := by rw [g.N]; exact g.nd
  have hb : X.env.blockKind = .function := bk_of (by rw [g.sc]; exact hk)
  unfold swK at hs
  split at hs
  · rename_i h23
    split at hs
    · rename_i hal
      split at hs
      · rename_i hf
        exact ds_setN g.calm (dgs_of g hn) hA (sw_folded hf) sm
      · rename_i hf
        split at hs
        · rcases hs with h | h <;> cases h
        · rename_i hc
          obtain ⟨names, e1, e2, e3, e4⟩ := filter_names g (firstLine ts) hn hal
          exact sound_swap g hb h23 hp hl nd hA (by simpa using hf) (by simpa using hc) e1 e2 e3 e4
    · rename_i hal
      exact ds_setN g.calm (dgs_of g hn) hA (sw_mixed (allLoc_false g _ hn (by simpa using hal))) sm
  · rename_i h23
    exact ds_setN g.calm (dgs_of g hn) hA (sw_len (by simpa using h23)) sm
/-! ### x = e -/
theorem sound_setE {n : Nat} (g : Gx T xc k X W c) (hk : c.sc.kind = .function) {x : Str} {i : Nat} {p pos : Pos} {e : Expr} (hs : setSlot c x = some i) (hc : compOk c x p e = true) : DS X W (.Assign [.Name x p] e pos) [i] (fun ρ => (evE T (trE n c e) ρ).bind (keepF i)) := by
  have hN : X.N.Nodup := by rw [g.N]; exact g.nd
  have ok := g.setS hs
  have plain : isComp e = false → DS X W (.Assign [.Name x p] e pos) [i] (fun ρ => (evE T (trE n c e) ρ).bind (keepF i)) := fun h => ds_set hN ok.n ok.l ok.f ((sound_expr n).e X W c g e).1 (swaps_no h)
  cases e with
  | ListComp elt gs scope pos' =>
    cases hloc : isLocal (c.sc.names.lookup x) with
    | false => exact ds_set hN ok.n ok.l ok.f ((sound_expr n).e X W c g _).1 (swaps_cell (by rw [g.sc]; exact hloc))
    | true =>
      have hc : (p.line == pos'.line && !(scope.names.any fun (n, k) => n == x && (k == .local || k == .cell))) = true := by
        have : (if isLocal (c.sc.names.lookup x) then p.line == pos'.line && !(scope.names.any fun (n, k) => n == x && (k == .local || k == .cell)) else true) = true := hc
        rw [hloc] at this
        exact this
      simp only [Bool.and_eq_true, Bool.not_eq_true'] at hc
      have hxl : X.env.scope.names.lookup x = some .local := by rw [g.sc]; exact isLocal_of hloc
      have hsw : swapsWith (.ListComp elt gs scope pos') (some (.Name x p)) pos.line X.env = pure true := sw_true (by rw [g.sc]; exact hk) hxl hc.1 hc.2
      cases n with
      | zero => exact ds_stuck fun _ => rfl
      | succ n =>
        have S := sound_expr (T := T) (xc := xc) (k := k) n
        show DS X W _ [i] (fun ρ => (evE T (match (generalizing := false) gs with
            | [⟨tg, iter, ifs, 0⟩] => _
            | _ => .bad) ρ).bind (keepF i))
        split
        case h_2 => exact ds_stuck fun _ => rfl
        rename_i tg iter ifs
        show DS X W _ [i] (fun ρ => (evE T (if blkC c.N c.sc scope (ownOf c.N scope.names) && noSet iter && decide (((ownOf c.N scope.names).map (·.2)).Nodup) then _ else .bad) ρ).bind (keepF i))
        split
        case isFalse => exact ds_stuck fun _ => rfl
        rename_i hcc
        simp only [Bool.and_eq_true, decide_eq_true_eq] at hcc
        obtain ⟨⟨hb, hns⟩, hnd⟩ := hcc
        have okb : BlkOk X.N X.env.scope scope (ownOf c.N scope.names) := by
          rw [g.N, g.sc]
          exact blkOk_by hb
        split
        · rename_i _ t ht
          split
          case isFalse => exact ds_stuck fun _ => rfl
          rename_i hin
          exact ds_setLc (ft := fun ρ => .ok true ρ) g.calm hN ok.n hxl hsw (S.i X W c g tg iter) okb (fun s H C cl fp => dg_of (g.blk scope s H C cl fp) ht) (fun s H C cl fp => dts_nil) (fun s H C cl fp => (S.e _ _ _ (g.blk scope s H C cl fp) elt).1) (folded_ok hns _) (tgIn_sub hin) hnd
        · rename_i _ t ii ht
          split
          case isFalse => exact ds_stuck fun _ => rfl
          rename_i hin
          exact ds_setLc g.calm hN ok.n hxl hsw (S.i X W c g tg iter) okb (fun s H C cl fp => dg_of (g.blk scope s H C cl fp) ht) (fun s H C cl fp => dts_one (S.e _ _ _ (g.blk scope s H C cl fp) ii).2) (fun s H C cl fp => (S.e _ _ _ (g.blk scope s H C cl fp) elt).1) (folded_ok hns _) (tgIn_sub hin) hnd
        · exact ds_stuck fun _ => rfl
  | SetComp _ _ _ _ => cases hc
  | DictComp _ _ _ _ _ => cases hc
  | _ => exact plain rfl
/-! ### all statements -/
theorem DS.eqf {s : Stmt} {st : List Nat} {f g : Rho → Rs Fl} (h : DS X W s st f) (q : ∀ ρ, f ρ = g ρ) : DS X W s st g := by
  have : f = g := funext q
  rw [← this]; exact h
def SoundS (T : Tb) (xc : Nat → Value) (k n : Nat) : Prop := ∀ X W c, Gx T xc k X W c → c.sc.kind = .function → ∀ s, DS X W s (stored (trS n c s)) (evS T (trS n c s))
theorem Gx.asg (g : Gx T xc k X W c) (a : List Nat) : Gx T xc k X W { c with asg := a } := ⟨g.N, g.nd, g.sc, g.fn, g.calm, g.own, g.pass, g.room, g.call, g.cons, g.blt, g.meth, g.new, g.flds⟩
theorem sound_ss {n : Nat} (S : SoundS T xc k n) (g : Gx T xc k X W c) (hk : c.sc.kind = .function) : ∀ (a : List Nat) (ss : List Stmt), DSs X W ss (storeds (sxsOf (seqS (fun a s => trS n { c with asg := a } s) a ss))) (evSs T (sxsOf (seqS (fun a s => trS n { c with asg := a } s) a ss)))
  | _, [] => dss_nil
  | a, s :: ss => dss_cons (S X W _ (g.asg a) hk s) (sound_ss S g hk _ ss)
theorem sound_ss0 (g : Gx T xc k X W c) : ∀ (a : List Nat) (ss : List Stmt), DSs X W ss (storeds (sxsOf (seqS (fun _ _ => .bad) a ss))) (evSs T (sxsOf (seqS (fun _ _ => .bad) a ss)))
  | _, [] => dss_nil
  | a, s :: ss => dss_cons (st := []) (ds_stuck fun _ => rfl) (sound_ss0 g _ ss)
theorem sound_sl {n : Nat} (S : ∀ m, m < n → SoundS T xc k m) (g : Gx T xc k X W c) (hk : c.sc.kind = .function) (ss : List Stmt) : DSs X W ss (storeds (trSs n c ss)) (evSs T (trSs n c ss)) := by
  cases n with
  | zero => exact sound_ss0 g _ ss
  | succ n => exact sound_ss (S n (Nat.lt_succ_self n)) g hk _ ss
theorem fldE_some {e : Expr} {i : Nat} {f : Str} (h : fldE c e = some (i, f)) : ∃ y p2 p ap pos2, e = .Call (.Name "enumerate" p2) [.Attribute (.Name y p) f ap] [] pos2 ∧ slotOf c y = some i ∧ glob c "enumerate" = true := by
  unfold fldE at h
  split at h
  · rename_i x p2 a pos2
    split at h
    · rename_i hc
      simp only [Bool.and_eq_true] at hc
      have hx : x = ("enumerate" : Str) := by simpa using hc.1
      subst hx
      obtain ⟨y, p, ap, rfl, hs⟩ := fldOf_some h
      exact ⟨y, p2, p, ap, pos2, rfl, hs, hc.2⟩
    · cases h
  · cases h
theorem sound_exprS {n : Nat} (E : SoundE T xc k n) (g : Gx T xc k X W c) (f : Expr) (as : List Expr) (ks : List Keyword) (cpos pos : Pos) : DS X W (.Expr (.Call f as ks cpos) pos) (stored (trS (n + 1) c (.Expr (.Call f as ks cpos) pos))) (evS T (trS (n + 1) c (.Expr (.Call f as ks cpos) pos))) := by
  have dflt : ∀ st, DS X W (.Expr (.Call f as ks cpos) pos) st (evS T (.drop (trE n c (.Call f as ks cpos)))) := fun st => (DS.eqf (ds_drop (E.e X W c g _).1 (swaps_no rfl)) fun ρ => rfl : DS X W _ [] _).mono fun i h => by simp at h
  cases f with
  | Attribute o m apos =>
    cases o with
    | Name x p =>
      cases ks with
      | cons _ _ => cases as with
        | nil => exact dflt _
        | cons a r => cases r <;> exact dflt _
      | nil =>
        cases as with
        | nil => exact dflt _
        | cons a r =>
          cases r with
          | cons _ _ => exact dflt _
          | nil =>
            show DS X W _ (stored (if (m == ("append" : Str) || m == ("extend" : Str)) then _ else .drop (trE n c (.Call (.Attribute (.Name x p) m apos) [a] [] cpos)))) (evS T (if (m == ("append" : Str) || m == ("extend" : Str)) then _ else .drop (trE n c (.Call (.Attribute (.Name x p) m apos) [a] [] cpos))))
            split
            · rename_i hm
              simp only [Bool.or_eq_true] at hm
              split
              · rename_i hc
                simp only [Bool.and_eq_true] at hc
                obtain ⟨hpos, hp⟩ := hc
                split
                · rename_i i hs
                  have ok := g.slot hs
                  split
                  · rename_i hx
                    have hx : m = ("append" : Str) := by simpa using hx
                    subst hx
                    exact DS.eqf (ds_app ok.n ok.v ok.d1 ok.d2 (E.e X W c g a).1 hp hpos) fun ρ => rfl
                  · rename_i hx
                    have hx : m = ("extend" : Str) := by
                      rcases hm with h | h
                      · exact absurd h hx
                      · simpa using h
                    subst hx
                    exact DS.eqf (ds_ext ok.n ok.v ok.d1 ok.d2 (E.e X W c g a).1 hp hpos) fun ρ => rfl
                · exact ds_stuck fun _ => rfl
              · exact ds_stuck fun _ => rfl
            · exact dflt _
    | Attribute o2 f2 p2 =>
      cases ks with
      | cons _ _ => cases as with
        | nil => exact dflt _
        | cons a r => cases r <;> exact dflt _
      | nil =>
        cases as with
        | nil => exact dflt _
        | cons a r =>
          cases r with
          | cons _ _ => exact dflt _
          | nil =>
            show DS X W _ (stored (if m == ("append" : Str) && apos.endLine == cpos.line && plainE a then _ else .bad)) (evS T (if m == ("append" : Str) && apos.endLine == cpos.line && plainE a then _ else .bad))
            split
            case isFalse => exact ds_stuck fun _ => rfl
            rename_i hc
            simp only [Bool.and_eq_true] at hc
            obtain ⟨⟨hm, hpos⟩, hp⟩ := hc
            have hm : m = ("append" : Str) := by simpa using hm
            subst hm
            split
            · rename_i i x hf
              obtain ⟨y, p3, ap, e0, hs⟩ := fldOf_some hf
              cases e0
              have ok := g.slot hs
              exact DS.eqf (ds_appF ok.n ok.v ok.d1 ok.d2 (E.e X W c g a).1 hp hpos) fun ρ => rfl
            · exact ds_stuck fun _ => rfl
    | _ => exact dflt _
  | _ => exact dflt _
theorem sound_s {n : Nat} (S : ∀ m, m < n + 1 → SoundS T xc k m) : SoundS T xc k (n + 1) := by
  intro X W c g hk s
  have E := sound_expr (T := T) (xc := xc) (k := k) n
  have sl : ∀ ss, DSs X W ss (storeds (trSs n c ss)) (evSs T (trSs n c ss)) := fun ss => sound_sl (fun m hm => S m (Nat.lt_succ_of_lt hm)) g hk ss
  have slc : ∀ a, Gx T xc k X W { c with asg := a } → ∀ ss, DSs X W ss (storeds (trSs n { c with asg := a } ss)) (evSs T (trSs n { c with asg := a } ss)) := fun a g ss => sound_sl (fun m hm => S m (Nat.lt_succ_of_lt hm)) g hk ss
  have hN : X.N.Nodup := by rw [g.N]; exact g.nd
  cases s with
  | Pass pos => exact ds_pass
  | Return v pos =>
    cases v with
    | none => exact ds_retN
    | some e => exact DS.eqf (ds_ret (E.e X W c g e).1) fun ρ => rfl
  | If t a b pos =>
    refine DS.eqf (ds_if (E.e X W c g t).2 (sl a) (sl b)) fun ρ => ?_
    show ((evE T (trE n c t) ρ).bind b2).bind _ = (evE T (trE n c t) ρ).bind fun x ρ => (b2 x ρ).bind fun k ρ => if k then evSs T (trSs n c a) ρ else evSs T (trSs n c b) ρ
    rw [bind_assoc]
  | For tg iter body els pos =>
    show DS X W _ (stored (match els, tgOf c tg with
      | [], some t => match fldE c iter, isTupE tg with
        | some (i, f), true => if (tgL t ++ storeds (trSs n { c with asg := c.asg ++ tgL t } body)).contains i then .bad else .forf i f t (trSs n { c with asg := c.asg ++ tgL t } body) (wpOf c (tgL t ++ storeds (trSs n { c with asg := c.asg ++ tgL t } body)))
        | _, _ => if noSet iter then .forr t (trI n c (isTupE tg) iter) (trSs n { c with asg := c.asg ++ tgL t } body) (wpOf c (tgL t ++ storeds (trSs n { c with asg := c.asg ++ tgL t } body))) else .bad
      | _, _ => .bad)) (evS T (match els, tgOf c tg with
      | [], some t => match fldE c iter, isTupE tg with
        | some (i, f), true => if (tgL t ++ storeds (trSs n { c with asg := c.asg ++ tgL t } body)).contains i then .bad else .forf i f t (trSs n { c with asg := c.asg ++ tgL t } body) (wpOf c (tgL t ++ storeds (trSs n { c with asg := c.asg ++ tgL t } body)))
        | _, _ => if noSet iter then .forr t (trI n c (isTupE tg) iter) (trSs n { c with asg := c.asg ++ tgL t } body) (wpOf c (tgL t ++ storeds (trSs n { c with asg := c.asg ++ tgL t } body))) else .bad
      | _, _ => .bad))
    split
    · rename_i t ht
      split
      · rename_i i f hf htup
        split
        · exact ds_stuck fun _ => rfl
        · rename_i hni
          obtain ⟨y, p2, p, ap, pos2, rfl, hs, hgl⟩ := fldE_some hf
          have sl := g.slot hs
          obtain ⟨g1, g2, g3⟩ := g.gl hgl
          cases tg with
          | Tuple elts kk tp =>
            have hni' : i ∉ tgS t ++ storeds (trSs n { c with asg := c.asg ++ tgL t } body) := fun z => hni (by
              rw [List.contains_eq_mem, decide_eq_true_eq]
              rw [tgSL t] at z
              exact z)
            have := ds_forf (pos := pos) g.own g.calm g1 (g.blt _ (by decide)) sl.n sl.v sl.d1 sl.d2 (dg_of g ht) ((slc _ (g.asg (c.asg ++ tgL t)) body).wipe (wpOf c (tgL t ++ storeds (trSs n { c with asg := c.asg ++ tgL t } body)))) (folded_ok (e := .Call (.Name "enumerate" p2) [.Attribute (.Name y p) f ap] [] pos2) rfl _) hni'
            cases t with
            | one i => exact DS.eqf this fun ρ => rfl
            | tup is => exact DS.eqf this fun ρ => rfl
            | pr a b =>
              rw [tgSA] at this
              exact DS.eqf this fun ρ => rfl
          | _ => cases htup
      · split
        case isFalse => exact ds_stuck fun _ => rfl
        rename_i hns
        have := ds_for (pos := pos) g.own g.calm (E.i X W c g tg iter) (dg_of g ht) ((slc _ (g.asg (c.asg ++ tgL t)) body).wipe (wpOf c (tgL t ++ storeds (trSs n { c with asg := c.asg ++ tgL t } body)))) (folded_ok hns _)
        cases t with
        | one i => exact DS.eqf this fun ρ => rfl
        | tup is => exact DS.eqf this fun ρ => rfl
        | pr a b =>
          rw [tgSA] at this
          exact DS.eqf this fun ρ => rfl
    · exact ds_stuck fun _ => rfl
  | While t body els pos =>
    cases els with
    | nil => exact DS.eqf (ds_while g.own (E.e X W c g t).2 ((sl body).wipe _)) fun ρ => rfl
    | cons _ _ => exact ds_stuck fun _ => rfl
  | AugAssign t op e pos =>
    cases t with
    | Name x p =>
      cases op with
      | Add =>
        show DS X W _ (stored (match setSlot c x with | some i => .aug i (trE n c e) | none => .bad)) (evS T (match setSlot c x with | some i => .aug i (trE n c e) | none => .bad))
        cases hs : setSlot c x with
        | none => exact ds_stuck fun _ => rfl
        | some i =>
          have ok := g.setS hs
          exact DS.eqf (ds_aug hN ok.n ok.l ok.f (E.e X W c g e).1) fun ρ => rfl
      | _ => exact ds_stuck fun _ => rfl
    | _ => exact ds_stuck fun _ => rfl
  | Expr e pos =>
    cases e with
    | Call f as ks cpos => exact sound_exprS E g f as ks cpos pos
    | _ => exact ds_stuck fun _ => rfl
  | Assign ts e pos =>
    cases ts with
    | nil => exact ds_stuck fun _ => rfl
    | cons t r =>
      cases r with
      | cons _ _ => cases t with
        | Subscript o _ _ => cases o <;> exact ds_stuck fun _ => rfl
        | _ => exact ds_stuck fun _ => rfl
      | nil =>
        cases t with
        | Name x p =>
          show DS X W _ (stored (match setSlot c x with | some i => if compOk c x p e then .set (.one i) (trE n c e) else .bad | none => .bad)) (evS T (match setSlot c x with | some i => if compOk c x p e then .set (.one i) (trE n c e) else .bad | none => .bad))
          cases hs : setSlot c x with
          | none => exact ds_stuck fun _ => rfl
          | some i =>
            show DS X W _ (stored (if compOk c x p e then .set (.one i) (trE n c e) else .bad)) (evS T (if compOk c x p e then .set (.one i) (trE n c e) else .bad))
            split
            · rename_i hc
              exact DS.eqf (sound_setE g hk hs hc) fun ρ => rfl
            · exact ds_stuck fun _ => rfl
        | Tuple es kk p =>
          show DS X W _ (stored (match namesOf c es with
            | some is => match isTuple2 e with
              | some vs => if vs.all plainE && vs.length == es.length && decide is.Nodup && decide (is.length ≤ 1000) then
                  (match swK c es vs with
                  | 1 => .setN is (exsOf (trEs n c vs))
                  | 2 => .setN is (exsOf (trEs n c vs))
                  | _ => .bad)
                else .bad
              | none => .set (.tup is) (trE n c e)
            | none => .bad)) (evS T (match namesOf c es with
            | some is => match isTuple2 e with
              | some vs => if vs.all plainE && vs.length == es.length && decide is.Nodup && decide (is.length ≤ 1000) then
                  (match swK c es vs with
                  | 1 => .setN is (exsOf (trEs n c vs))
                  | 2 => .setN is (exsOf (trEs n c vs))
                  | _ => .bad)
                else .bad
              | none => .set (.tup is) (trE n c e)
            | none => .bad))
          cases hn : namesOf c es with
          | none => exact ds_stuck fun _ => rfl
          | some is =>
            simp only
            cases h2 : isTuple2 e with
            | none => exact DS.eqf (ds_unpack g.calm (dgs_of g hn) (E.e X W c g e).1 swaps_tup (swapped_no h2)) fun ρ => rfl
            | some vs =>
              simp only
              split
              case isFalse => exact ds_stuck fun _ => rfl
              rename_i hc
              simp only [Bool.and_eq_true, decide_eq_true_eq, beq_iff_eq] at hc
              obtain ⟨⟨⟨hp, hl⟩, nd⟩, sm⟩ := hc
              cases e with
              | Tuple vs' k2 p2 =>
                have : vs' = vs := by simpa [isTuple2] using h2
                subst this
                split
                · rename_i hs
                  exact DS.eqf (sound_setN (n := n) g hk hn hp hl nd sm (E.a X W c g _ hp) (.inl hs)) fun ρ => rfl
                · rename_i hs
                  exact DS.eqf (sound_setN (n := n) g hk hn hp hl nd sm (E.a X W c g _ hp) (.inr hs)) fun ρ => rfl
                · exact ds_stuck fun _ => rfl
              | _ => cases h2
        | Subscript o kx p =>
          cases o with
          | Name x px =>
            show DS X W _ (stored (match slotOf c x with | some i => if noSlice kx then .setIx i (trE n c kx) (trE n c e) else .bad | none => .bad)) (evS T (match slotOf c x with | some i => if noSlice kx then .setIx i (trE n c kx) (trE n c e) else .bad | none => .bad))
            cases hs : slotOf c x with
            | none => exact ds_stuck fun _ => rfl
            | some i =>
              show DS X W _ (stored (if noSlice kx then .setIx i (trE n c kx) (trE n c e) else .bad)) (evS T (if noSlice kx then .setIx i (trE n c kx) (trE n c e) else .bad))
              split
              · rename_i hns
                have ok := g.slot hs
                exact DS.eqf (ds_setIx ok.n ok.v ok.d1 ok.d2 (E.e X W c g e).1 (E.e X W c g kx).1 hns swaps_sub) fun ρ => rfl
              · exact ds_stuck fun _ => rfl
          | Attribute o f pf =>
            show DS X W _ (stored (match fldOf c (.Attribute o f pf) with | some (i, x) => if noSlice kx then .setIxF i x (trE n c kx) (trE n c e) else .bad | none => .bad)) (evS T (match fldOf c (.Attribute o f pf) with | some (i, x) => if noSlice kx then .setIxF i x (trE n c kx) (trE n c e) else .bad | none => .bad))
            cases hf : fldOf c (.Attribute o f pf) with
            | none => exact ds_stuck fun _ => rfl
            | some q =>
              obtain ⟨i, x⟩ := q
              obtain ⟨y, p2, ap, e0, hs⟩ := fldOf_some hf
              cases e0
              show DS X W _ (stored (if noSlice kx then .setIxF i f (trE n c kx) (trE n c e) else .bad)) (evS T (if noSlice kx then .setIxF i f (trE n c kx) (trE n c e) else .bad))
              split
              · rename_i hns
                have ok := g.slot hs
                exact DS.eqf (ds_setIxF ok.n ok.v ok.d1 ok.d2 (E.e X W c g e).1 (E.e X W c g kx).1 hns swaps_sub) fun ρ => rfl
              · exact ds_stuck fun _ => rfl
          | _ => exact ds_stuck fun _ => rfl
        | Attribute o f pf =>
          show DS X W _ (stored (match fldOf c (.Attribute o f pf) with | some (i, x) => .setF i x (trE n c e) | none => .bad)) (evS T (match fldOf c (.Attribute o f pf) with | some (i, x) => .setF i x (trE n c e) | none => .bad))
          cases hf : fldOf c (.Attribute o f pf) with
          | none => exact ds_stuck fun _ => rfl
          | some q =>
            obtain ⟨i, x⟩ := q
            obtain ⟨y, p2, ap, e0, hs⟩ := fldOf_some hf
            cases e0
            have ok := g.slot hs
            exact DS.eqf (ds_setF ok.n ok.v ok.d1 ok.d2 (E.e X W c g e).1 fun cl h => g.flds cl f h) fun ρ => rfl
        | _ => exact ds_stuck fun _ => rfl
  | _ => exact ds_stuck fun _ => rfl
theorem sound_stmt : ∀ n, SoundS T xc k n := by
  intro n
  induction n using Nat.strongRecOn with
  | _ n ih =>
    cases n with
    | zero => exact fun X W c g hk s => ds_stuck fun _ => rfl
    | succ n => exact sound_s ih
end
end BP
end

section
/-! Bp17: a def of the text gives what its text in the small language gives. -/
namespace BP
open PySem PySem.Spec PyProof.Rows L2
/-- plain arguments, told twice -/
def dupE : List V → List Cn → List Ent
  | v :: vs, c :: cs => (some v, if isImm c then some c else none) :: dupE vs cs
  | _, _ => []
section
variable {K : PySem.W.Frag} {G H : Hp}
theorem dup_add : ∀ {vs : List V} {cs : List Cn} {l : List Ent}, RepG K G H (argE vs cs ++ l) → RepG K G H (argE vs cs ++ (dupE vs cs ++ l))
  | [], _, _, h => h
  | _ :: _, [], _, h => h
  | v :: vs, c :: cs, l, h => by
    have h0 : RepG K G H ((some v, some c) :: (argE vs cs ++ l)) := h
    have h1 : RepG K G H (argE vs cs ++ ((some v, some c) :: l)) := h0.perm List.perm_middle.symm
    have h2 := dup_add h1
    have h3 : RepG K G H ((some v, some c) :: (argE vs cs ++ (dupE vs cs ++ l))) := h2.perm (by
      rw [← List.append_assoc, ← List.append_assoc]
      exact List.perm_middle)
    have h4 : RepG K G H ((some v, if isImm c then some c else none) :: ((some v, some c) :: (argE vs cs ++ (dupE vs cs ++ l)))) := by
      cases c with
      | imm d => exact h3.add h3.imm
      | lst _ => exact h3.blank
      | _ => exact h3.blank
    refine h4.perm ?_
    refine (List.Perm.swap _ _ _).trans (List.Perm.cons _ ?_)
    exact List.perm_middle.symm
theorem zip_start : ∀ {vs : List V} {cs : List Cn} (m : Nat), cs.length = vs.length → (vs.map some ++ List.replicate m none).zip (cs.map some ++ List.replicate m none) = argE vs cs ++ List.replicate m ((none, none) : Ent)
  | [], [], m, _ => by simp [argE]
  | v :: vs, c :: cs, m, h => by
    have := zip_start (vs := vs) (cs := cs) m (by simpa using h)
    simp only [List.map_cons, List.cons_append, List.zip_cons_cons, this]
    rfl
  | [], _ :: _, _, h => by simp at h
  | _ :: _, [], _, h => by simp at h
theorem blanks : ∀ (m : Nat) {l : List Ent}, RepG K G H l → RepG K G H (List.replicate m ((none, none) : Ent) ++ l)
  | 0, _, h => h
  | m + 1, _, h => by rw [List.replicate_succ]; exact (blanks m h).blank
theorem outCs_set : ∀ (cs : List Cn) (k j : Nat) (ρ : Rho) (x : Option Cn), j < k → outCs k cs (ρ.set j x) = outCs k cs ρ
  | [], _, _, _, _, _ => by unfold outCs; rfl
  | c :: cs, k, j, ρ, x, h => by
    unfold outCs
    rw [List.getElem?_set_ne (by omega), outCs_set cs (k + 1) j ρ x (by omega)]
theorem out_args : ∀ {vs : List V} {cs cs' : List Cn} {k : Nat} {σ : L2.St} {ρ : Rho} {st : List Nat} {fr : List Ent}, RepG K G H (σ.zip ρ ++ (dupE vs cs ++ fr)) → σ.length = ρ.length → cs.length = vs.length → outCs k cs ρ = some cs' → freeOf st k cs = true → (∀ i v, i ∉ List.map (· - k) (st.filter (k ≤ ·)) → vs[i]? = some v → σ[k + i]? = some (some v)) →
    RepG K G H (argE vs cs' ++ fr) ∧ cs'.length = cs.length
  | [], [], cs', k, σ, ρ, st, fr, h, _, _, e, _, _ => by
    unfold outCs at e
    cases e
    exact ⟨h.tails _, rfl⟩
  | [], _ :: _, _, _, _, _, _, _, _, _, h, _, _, _ => by simp at h
  | _ :: _, [], _, _, _, _, _, _, _, _, h, _, _, _ => by simp at h
  | v :: vs, c :: cs, cs', k, σ, ρ, st, fr, h, hl, hc, e, hf, ha => by
    unfold freeOf at hf
    simp only [Bool.and_eq_true, Bool.or_eq_true, Bool.not_eq_true'] at hf
    have ha' : ∀ i w, i ∉ List.map (· - (k + 1)) (st.filter (k + 1 ≤ ·)) → vs[i]? = some w → σ[k + 1 + i]? = some (some w) := fun i w hi hw => by
      have := ha (i + 1) w (fun z => hi ?_) (by simpa using hw)
      · rw [← this]; congr 1; omega
      · simp only [List.mem_map, List.mem_filter, decide_eq_true_eq] at z ⊢
        obtain ⟨a, ⟨h1, h2⟩, h3⟩ := z
        exact ⟨a, ⟨h1, by omega⟩, by omega⟩
    unfold outCs at e
    cases hi : isImm c with
    | true =>
      rw [hi, if_pos rfl] at e
      simp only at e
      cases e2 : outCs (k + 1) cs ρ with
      | none => rw [e2] at e; cases e
      | some cs2 =>
        rw [e2] at e
        have e : c :: cs2 = cs' := by simpa using e
        subst e
        have h1 : RepG K G H (σ.zip ρ ++ (dupE vs cs ++ ((some v, some c) :: fr))) := h.perm (by
          show (σ.zip ρ ++ (((some v, if isImm c then some c else none) :: dupE vs cs) ++ fr)).Perm _
          rw [hi, if_pos rfl]
          exact List.Perm.append_left _ List.perm_middle.symm)
        obtain ⟨h2, l2⟩ := out_args h1 hl (by simpa using hc) e2 hf.2 ha'
        exact ⟨h2.perm List.perm_middle, by simp [l2]⟩
    | false =>
      rw [hi, if_neg (by simp)] at e
      rw [hi] at hf
      have nk : st.contains k = false := by rcases hf.1 with q | q; cases q; exact q
      cases e1 : (ρ[k]?).join with
      | none => rw [e1] at e; cases e
      | some c' =>
        rw [e1] at e
        simp only at e
        cases e2 : outCs (k + 1) cs ρ with
        | none => rw [e2] at e; cases e
        | some cs2 =>
          rw [e2] at e
          have e : c' :: cs2 = cs' := by simpa using e
          subst e
          obtain ⟨w, hw, h1⟩ := h.out hl e1
          have hv := ha 0 v (fun z => by
            simp only [List.mem_map, List.mem_filter, decide_eq_true_eq] at z
            obtain ⟨a, ⟨q1, q2⟩, q3⟩ := z
            have : a = k := by omega
            subst this
            rw [List.contains_eq_mem, decide_eq_false_iff_not] at nk
            exact nk q1) rfl
          have hwv : w = v := by
            have : some (some w) = some (some v) := hw.symm.trans hv
            simpa using this
          subst hwv
          have h2 : RepG K G H (σ.zip (ρ.set k none) ++ (dupE vs cs ++ ((some w, some c') :: fr))) := by
            have h1 : RepG K G H ((some w, some c') :: (σ.zip (ρ.set k none) ++ ((some w, if isImm c then some c else none) :: (dupE vs cs ++ fr)))) := h1
            have h1' : RepG K G H ((some w, if isImm c then some c else none) :: ((some w, some c') :: (σ.zip (ρ.set k none) ++ (dupE vs cs ++ fr)))) := h1.perm ((List.Perm.cons _ List.perm_middle).trans (List.Perm.swap _ _ _))
            exact h1'.tail.perm (by
              rw [← List.append_assoc, ← List.append_assoc]
              exact List.perm_middle.symm)
          obtain ⟨h3, l3⟩ := out_args h2 (by simpa using hl) (by simpa using hc) (by rw [outCs_set _ _ _ _ _ (Nat.lt_succ_self k)]; exact e2) hf.2 ha'
          exact ⟨h3.perm List.perm_middle, by simp [l3]⟩
end
/-- a def, by its body -/
structure Callee (P : Program) (w : World) (K : PySem.W.Frag) (mg : Str → Option Value) (base : Heap) (xc : Nat → Value) (k : Nat) (x : Str) (np : Nat) (F : Fden) : Prop where
  ex : ∃ f fd ps k', k' ≤ k ∧ FnOk P w K mg base (CX P w) k' f fd ps (spD K xc np F) ∧ mg x = some (.ref f) ∧ PySem.W.keepIn K (.ref f) = true ∧ Binds K fd ps []
theorem Callee.mono {P : Program} {w : World} {K : PySem.W.Frag} {mg : Str → Option Value} {base : Heap} {xc : Nat → Value} {k k' : Nat} {x : Str} {np : Nat} {F : Fden} (h : Callee P w K mg base xc k x np F) (hk : k ≤ k') : Callee P w K mg base xc k' x np F := by
  obtain ⟨f, fd, ps, j, a, b⟩ := h
  exact ⟨f, fd, ps, j, Nat.le_trans a hk, b⟩
/-- a method of a class, a class that is called -/
structure CalleeM (P : Program) (w : World) (K : PySem.W.Frag) (mg : Str → Option Value) (base : Heap) (xc : Nat → Value) (k : Nat) (cl m : Str) (np : Nat) (F : Fden) : Prop where
  ex : ∃ f fd ps k', k' ≤ k ∧ FnOk P w K mg base (CX P w) k' f fd ps (spD K xc np F) ∧ Cls K (He.ga K cl) ∧ Meth K (He.ga K cl) m f ∧ Binds K fd ps []
structure CalleeN (P : Program) (w : World) (K : PySem.W.Frag) (mg : Str → Option Value) (base : Heap) (xc : Nat → Value) (k : Nat) (cl : Str) (np : Nat) (F : Fden) : Prop where
  ex : ∃ f fd ps k', k' + 1 ≤ k ∧ FnOk P w K mg base (CX P w) k' f fd ps (spD K xc np F) ∧ Cls K (He.ga K cl) ∧ Mk K (He.ga K cl) f ∧ mg cl = some (.ref (He.ga K cl)) ∧ Binds K fd ps []
/-- a constant of the module -/
def ConsOk (K : PySem.W.Frag) (mg : Str → Option Value) (x : Str) (d : PyData) : Prop := ∃ v u, mg x = some u ∧ RelV v u ∧ ∀ G, Dq K G v d
section
variable {P : Program} {w : World} {K : PySem.W.Frag} {mg : Str → Option Value} {base : Heap} {xc : Nat → Value}
theorem fn_sound {x qual : Str} {st : Stmt} {f : Addr} {fd : FuncData} {N ps : List Str} {k np n : Nat} {T : Tb} {fns : List (Str × Nat)} {cons : List Str} {asg live : List Nat} {mts : List (Str × Str × Nat)} {nws : List (Str × Nat)} {ir : Sxs} (F : Fun K x qual st f fd) (S : FnScope N ps (defScope st)) (hps : ps.length = np)
    (calls : ∀ (j : Nat) (F : Fden), T.fns[j]? = some F → ∃ x np, fns[j]? = some (x, np) ∧ Callee P w K mg base xc k x np F)
    (hcons : ∀ (j : Nat) (d : PyData), T.cons[j]? = some d → ∃ x, cons[j]? = some x ∧ ConsOk K mg x d)
    (blt : ∀ x ∈ bltNames, mg x = none)
    (hmeths : ∀ (j : Nat) (cl : Str) (F : Fden), T.meths[j]? = some (cl, F) → ∃ m np, mts[j]? = some (cl, m, np) ∧ CalleeM P w K mg base xc k cl m np F)
    (hnews : ∀ (j : Nat) (cl : Str) (F : Fden), T.news[j]? = some (cl, F) → ∃ np, nws[j]? = some (cl, np) ∧ CalleeN P w K mg base xc k cl np F)
    (hflds : ∀ cl x, T.flds.contains (cl, x) = true → NoAttr K (He.ga K cl) x)
    (hir : trSs n ⟨N, defScope st, fun _ => true, fns, cons, asg, live, mts, nws⟩ (defBody st) = ir) :
    FnOk P w K mg base (CX P w) (k + 1) f fd ps (spD K xc np (evF T ⟨np, N.length, ir⟩)) := by
  refine F.okX S (fun vs H Q E h => h.1.trans hps.symm) fun cdv A outer s H vs Q E hr hsp => ?_
  obtain ⟨hvl, cs, fr, hcl, ⟨G, hR⟩, hF⟩ := hsp
  let X := cxOf (CX P w) P w K mg base N qual (defScope st) f cdv A outer s H E
  let W : Nat → Hp → Prop := fun e H => E (xc e) none H
  have tk : Takes X (fun cls d _ H => E cls d H) := takes_of rfl rfl rfl rfl
  have g : Gx T xc k X W ⟨N, defScope st, fun _ => true, fns, cons, asg, live, mts, nws⟩ := {
    N := rfl
    nd := S.nd
    sc := rfl
    fn := rfl
    calm := rfl
    own := passes_of rfl
    pass := passes_call tk fun cls d σ H h => by
      obtain ⟨e, rfl, rfl, h⟩ := h
      exact h
    room := hr
    call := fun j F h => by
      obtain ⟨x, np, h1, ⟨f, fd, ps, k', h2⟩⟩ := calls j F h
      exact ⟨x, np, f, fd, ps, k', h1, h2⟩
    cons := fun j d h => by
      obtain ⟨x, h1, v, u, h2⟩ := hcons j d h
      exact ⟨x, v, u, h1, h2⟩
    blt := blt
    meth := fun j cl F h => by
      obtain ⟨m, np, h1, ⟨f, fd, ps, k', h2⟩⟩ := hmeths j cl F h
      exact ⟨m, np, f, fd, ps, k', h1, h2⟩
    new := fun j cl F h => by
      obtain ⟨np, h1, ⟨f, fd, ps, k', h2⟩⟩ := hnews j cl F h
      exact ⟨np, f, fd, ps, k', h1, h2⟩
    flds := hflds }
  obtain ⟨t, pt, rt⟩ := sound_sl (n := n) (fun m _ => sound_stmt m) g S.kind (defBody st)
  refine ⟨t, pt, ?_⟩
  rw [hir] at rt
  have hnp : np ≤ N.length := by
    have := congrArg List.length S.pre
    rw [List.length_take] at this
    omega
  have hs0 : (L2.start N vs).zip (cs.map some ++ List.replicate (N.length - np) none) = argE vs cs ++ List.replicate (N.length - np) ((none, none) : Ent) := by
    unfold L2.start
    rw [hvl]
    exact zip_start _ hcl
  unfold evF at hF
  simp only at hF
  by_cases hcond : cs.length = np ∧ freeOf (storeds ir) 0 cs = true
  case neg => rw [if_neg hcond] at hF; exact hF.elim
  rw [if_pos hcond] at hF
  obtain ⟨_, hfree⟩ := hcond
  have hl0 : (L2.start N vs).length = (cs.map some ++ List.replicate (N.length - np) (none : Option Cn)).length := by
    unfold L2.start
    simp [hcl, hvl]
  have ag0 : ∀ i v, vs[i]? = some v → (L2.start N vs)[i]? = some (some v) := fun i v h => by
    unfold L2.start
    have hi := (List.getElem?_eq_some_iff.mp h).1
    rw [List.getElem?_append_left (by simpa using hi), List.getElem?_map, h]
    rfl
  refine rt _ (L2.start N vs) H _ (dupE vs cs ++ fr) hl0 ?_ ?_
  · rw [hs0, List.append_assoc]
    refine ⟨G, RepG.rot ?_⟩
    exact blanks _ (dup_add hR)
  · have fin : ∀ {σ' : L2.St} {ρ' : Rho} {H' : Hp} {fr' : List Ent} {cs'}, Agree (storeds ir) (L2.start N vs) σ' → ρ'.length = σ'.length → Rep K H' (fr' ++ (σ'.zip ρ' ++ (dupE vs cs ++ fr))) → outCs 0 cs ρ' = some cs' → Rep K H' (fr' ++ (argE vs cs' ++ fr)) ∧ cs'.length = cs.length := fun {σ' ρ' H' fr' cs'} ag hl hR' ho => by
      obtain ⟨G', g'⟩ := hR'
      have g1 : RepG K G' H' (σ'.zip ρ' ++ (dupE vs cs ++ (fr' ++ fr))) := g'.perm (perm_mid2 _ _ _ _)
      obtain ⟨g2, l2⟩ := out_args g1 hl.symm hcl ho hfree fun i v hi hv => by
        rw [Nat.zero_add, ag.eq i (fun z => hi (by
          simp only [List.mem_map, List.mem_filter, decide_eq_true_eq]
          exact ⟨i, ⟨z, Nat.zero_le _⟩, rfl⟩))]
        exact ag0 i v hv
      exact ⟨⟨G', g2.rot⟩, l2⟩
    cases eo : evSs T ir (cs.map some ++ List.replicate (N.length - np) none) with
    | stuck => simp only [eo] at hF
    | ok fl ρ' =>
      simp only [eo] at hF
      cases ho : outCs 0 cs ρ' with
      | none => simp only [ho] at hF
      | some cs' =>
        simp only [ho] at hF
        cases fl with
        | next =>
          intro σ' H' ag hl hR'
          have hR' : Rep K H' ([] ++ (σ'.zip ρ' ++ (dupE vs cs ++ fr))) := hR'
          obtain ⟨h1, h2⟩ := fin ag hl hR' ho
          exact hF h2 .non H' (h1.val fun _ => .non)
        | ret c =>
          intro v σ' H' ag hl hR'
          have hR' : Rep K H' ([((some v : Option V), some c)] ++ (σ'.zip ρ' ++ (dupE vs cs ++ fr))) := hR'
          obtain ⟨h1, h2⟩ := fin ag hl hR' ho
          exact hF h2 v H' h1
    | exc e ρ' =>
      simp only [eo] at hF
      cases ho : outCs 0 cs ρ' with
      | none => simp only [ho] at hF
      | some cs' =>
        simp only [ho] at hF
        intro σ' H' ag hl hR'
        have hR' : Rep K H' ([] ++ (σ'.zip ρ' ++ (dupE vs cs ++ fr))) := hR'
        obtain ⟨h1, h2⟩ := fin ag hl hR' ho
        exact hF h2 H' h1
theorem callee_of {x qual : Str} {st : Stmt} {f : Addr} {fd : FuncData} {ps : List Str} {k np : Nat} {F : Fden} (Fn : Fun K x qual st f fd) (ok : FnOk P w K mg base (CX P w) k f fd ps (spD K xc np F)) (hm : mg x = some (.ref f)) (hb : Binds K fd ps []) : Callee P w K mg base xc k x np F :=
  ⟨f, fd, ps, k, Nat.le_refl k, ok, hm, Fn.kp, hb⟩
end
end BP
end

section
/-! Bp18: how texts of the small language are worked out. -/
namespace BP
open PySem
section
variable {T : Tb} {ρ : Rho} {α β : Type}
@[simp] theorem Rs.bind_ok (a : α) (r : Rho) (f : α → Rho → Rs β) : (Rs.ok a r).bind f = f a r := rfl
/-! what follows a value; nothing of it is worked out before the value is there -/
def k2 {α : Type} (g : Rho → Rs α) (h : RV → α → Rho → Rs β) (x : RV) (ρ : Rho) : Rs β := (g ρ).bind (h x)
@[simp] theorem k2_app {γ : Type} (g : Rho → Rs γ) (h : RV → γ → Rho → Rs β) (x : RV) : k2 g h x ρ = (g ρ).bind (h x) := rfl
def varK (i : Nat) (ρ : Rho) : Option Cn → Rs RV
  | some (.imm d) => .ok (.val (.imm d)) ρ
  | some _ => .ok (.slot i) ρ
  | none => .stuck
@[simp] theorem varK_imm (i : Nat) (d : PyData) : varK i ρ (some (.imm d)) = .ok (.val (.imm d)) ρ := rfl
@[simp] theorem varK_lst (i : Nat) (d : List PyData) : varK i ρ (some (.lst d)) = .ok (.slot i) ρ := rfl
@[simp] theorem varK_none (i : Nat) : varK i ρ none = .stuck := rfl
@[simp] theorem ev_var (i : Nat) : evE T (.var i) ρ = varK i ρ (ρ[i]?).join := by
  rw [evE]
  cases (ρ[i]?).join with
  | none => rfl
  | some c => cases c <;> rfl
@[simp] theorem ev_con (d : PyData) : evE T (.con d) ρ = .ok (.val (.imm d)) ρ := by rw [evE]
def globK (d : PyData) (ρ : Rho) : Rs RV := .ok (.val (.imm d)) ρ
@[simp] theorem globK_app (d : PyData) : globK d ρ = .ok (.val (.imm d)) ρ := rfl
@[simp] theorem ev_glob (j : Nat) : evE T (.glob j) ρ = (Rs.ofOpt T.cons[j]? ρ).bind globK := by rw [evE]; rfl
@[simp] theorem ev_bin (o : Bop) (a b : Ex) : evE T (.bin o a b) ρ = (evE T a ρ).bind (k2 (evE T b) (op2 (binop o))) := by rw [evE]; rfl
@[simp] theorem ev_rep (a b : Ex) : evE T (.rep a b) ρ = (evE T a ρ).bind (k2 (evE T b) repop) := by rw [evE]; rfl
def negD : PyData → Option Cn
  | .int i => some (.imm (.int (-i)))
  | _ => none
@[simp] theorem negD_int (i : Int) : negD (.int i) = some (.imm (.int (-i))) := rfl
@[simp] theorem ev_neg (a : Ex) : evE T (.neg a) ρ = (evE T a ρ).bind (op1 negD) := by
  rw [evE]
  rfl
def notK (x : RV) (ρ : Rho) : Rs RV := (b2 x ρ).bind fun b ρ => .ok (.val (.imm (.bool (!b)))) ρ
@[simp] theorem notK_b (b : Bool) : notK (.val (.imm (.bool b))) ρ = .ok (.val (.imm (.bool (!b)))) ρ := rfl
@[simp] theorem ev_not (a : Ex) : evE T (.not a) ρ = (evE T a ρ).bind notK := by rw [evE]; rfl
def andK (g : Rho → Rs RV) (x : RV) (ρ : Rho) : Rs RV := (b2 x ρ).bind fun c ρ => if c then g ρ else .ok (.val (.imm (.bool false))) ρ
@[simp] theorem andK_b (g : Rho → Rs RV) (b : Bool) : andK g (.val (.imm (.bool b))) ρ = if b then g ρ else .ok (.val (.imm (.bool false))) ρ := rfl
@[simp] theorem ev_and (a b : Ex) : evE T (.and a b) ρ = (evE T a ρ).bind (andK (evE T b)) := by rw [evE]; rfl
def orK (g : Rho → Rs RV) (x : RV) (ρ : Rho) : Rs RV := (b2 x ρ).bind fun c ρ => if c then .ok (.val (.imm (.bool true))) ρ else g ρ
@[simp] theorem orK_b (g : Rho → Rs RV) (b : Bool) : orK g (.val (.imm (.bool b))) ρ = if b then .ok (.val (.imm (.bool true))) ρ else g ρ := rfl
@[simp] theorem ev_or (a b : Ex) : evE T (.or a b) ρ = (evE T a ρ).bind (orK (evE T b)) := by rw [evE]; rfl
def cmpV (o : Cop) (u v : PyData) : Option Cn := vb (cmpop o u v)
@[simp] theorem cmpV_eq (o : Cop) (u v : PyData) : cmpV o u v = vb (cmpop o u v) := rfl
@[simp] theorem ev_cmp (o : Cop) (a b : Ex) : evE T (.cmp o a b) ρ = (evE T a ρ).bind (k2 (evE T b) (op2 (cmpV o))) := by rw [evE]; rfl
def chK (o1 o2 : Cop) (g : Rho → Rs RV) (x y : RV) (ρ : Rho) : Rs RV := (op2 (cmpV o1) x y ρ).bind (andK (k2' g o2 y))
where k2' (g : Rho → Rs RV) (o2 : Cop) (y : RV) (ρ : Rho) : Rs RV := (g ρ).bind (op2 (cmpV o2) y)
@[simp] theorem chK_app (o1 o2 : Cop) (g : Rho → Rs RV) (x y : RV) : chK o1 o2 g x y ρ = (op2 (cmpV o1) x y ρ).bind (andK (chK.k2' g o2 y)) := rfl
@[simp] theorem chK2_app (o2 : Cop) (g : Rho → Rs RV) (y : RV) : chK.k2' g o2 y ρ = (g ρ).bind (op2 (cmpV o2) y) := rfl
@[simp] theorem ev_chain (o1 o2 : Cop) (a b c : Ex) : evE T (.chain o1 o2 a b c) ρ = (evE T a ρ).bind (k2 (evE T b) (chK o1 o2 (evE T c))) := by rw [evE]; rfl
def iteK (g h : Rho → Rs RV) (x : RV) (ρ : Rho) : Rs RV := (b2 x ρ).bind fun k ρ => if k then g ρ else h ρ
@[simp] theorem iteK_b (g h : Rho → Rs RV) (b : Bool) : iteK g h (.val (.imm (.bool b))) ρ = if b then g ρ else h ρ := rfl
@[simp] theorem ev_ite (c a b : Ex) : evE T (.ite c a b) ρ = (evE T c ρ).bind (iteK (evE T a) (evE T b)) := by rw [evE]; rfl
def tupR (p : List PyData × Rho) (_ : Rho) : Rs RV := if p.1.length ≤ lim then .ok (.val (.imm (.tuple p.1))) p.2 else .stuck
def tupK (rs : List RV) (ρ : Rho) : Rs RV := (Rs.ofOpt (frzs ρ rs) ρ).bind tupR
@[simp] theorem tupR_app (ds : List PyData) (ρ' : Rho) : tupR (ds, ρ') ρ = if ds.length ≤ lim then .ok (.val (.imm (.tuple ds))) ρ' else .stuck := rfl
@[simp] theorem tupK_app (rs : List RV) : tupK rs ρ = (Rs.ofOpt (frzs ρ rs) ρ).bind tupR := rfl
@[simp] theorem ev_tup (es : Exs) : evE T (.tup es) ρ = (evA T es ρ).bind tupK := by
  rw [evE]
  congr 1
  funext rs ρ
  unfold tupK
  cases frzs ρ rs <;> rfl
def lstR (p : List PyData × Rho) (_ : Rho) : Rs RV := if p.1.length ≤ lim then .ok (.val (.lst p.1)) p.2 else .stuck
def lstK (rs : List RV) (ρ : Rho) : Rs RV := (Rs.ofOpt (frzs ρ rs) ρ).bind lstR
@[simp] theorem lstR_app (ds : List PyData) (ρ' : Rho) : lstR (ds, ρ') ρ = if ds.length ≤ lim then .ok (.val (.lst ds)) ρ' else .stuck := rfl
@[simp] theorem lstK_app (rs : List RV) : lstK rs ρ = (Rs.ofOpt (frzs ρ rs) ρ).bind lstR := rfl
@[simp] theorem ev_lst (es : Exs) : evE T (.lst es) ρ = (evA T es ρ).bind lstK := by
  rw [evE]
  congr 1
  funext rs ρ
  unfold lstK
  cases frzs ρ rs <;> rfl
def backR (n : Nat) (rs : List RV) (ρ : Rho) : Fo → Rs RV
  | .ok c cs' => if cs'.length = n then .ok (.val c) (back rs cs' ρ) else .stuck
  | .exc e cs' => if cs'.length = n then .exc e (back rs cs' ρ) else .stuck
  | .stuck => .stuck
@[simp] theorem backR_ok (n : Nat) (rs : List RV) (c : Cn) (cs : List Cn) : backR n rs ρ (.ok c cs) = if cs.length = n then .ok (.val c) (back rs cs ρ) else .stuck := rfl
def callO (F : Fden) (rs : List RV) (ρ : Rho) : Option (List Cn) → Rs RV
  | some cs => backR cs.length rs ρ (F cs)
  | none => .stuck
@[simp] theorem callO_some (F : Fden) (rs : List RV) (cs : List Cn) : callO F rs ρ (some cs) = backR cs.length rs ρ (F cs) := rfl
def callK (F : Option Fden) (rs : List RV) (ρ : Rho) : Rs RV := match F with
  | some F => callF F rs ρ
  | none => .stuck
@[simp] theorem callK_some (F : Fden) (rs : List RV) : callK (some F) rs ρ = if (slotsOf rs).Nodup then callO F rs ρ (argCs ρ rs) else .stuck := by
  show callF F rs ρ = _
  unfold callF
  cases argCs ρ rs with
  | none => rfl
  | some cs =>
    simp only [callO]
    cases e : F cs <;> simp only [backR]
@[simp] theorem ev_call (j : Nat) (es : Exs) : evE T (.call j es) ρ = if T.fns[j]?.isSome then (evA T es ρ).bind (callK T.fns[j]?) else .stuck := by
  rw [evE]
  cases T.fns[j]? <;> rfl
def bltK (b : Blt) (rs : List RV) (ρ : Rho) : Rs RV := (Rs.ofOpt ((rs.mapM (dat ρ)).bind (bltop b)) ρ).bind fun c ρ => .ok (.val c) ρ
@[simp] theorem bltK_app (b : Blt) (rs : List RV) : bltK b rs ρ = (Rs.ofOpt ((rs.mapM (dat ρ)).bind (bltop b)) ρ).bind fun c ρ => .ok (.val c) ρ := rfl
@[simp] theorem ev_blt (b : Blt) (es : Exs) : evE T (.blt b es) ρ = (evA T es ρ).bind (bltK b) := by
  rw [evE]
  congr 1
  funext rs ρ
  unfold bltK
  cases rs.mapM (dat ρ) <;> rfl
def isiD (t : Ty) (d : PyData) : Option Cn := some (.imm (.bool (isTy d t)))
@[simp] theorem isiD_app (t : Ty) (d : PyData) : isiD t d = some (.imm (.bool (isTy d t))) := rfl
@[simp] theorem ev_isi (a : Ex) (t : Ty) : evE T (.isi a t) ρ = (evE T a ρ).bind (op1 (isiD t)) := by rw [evE]; rfl
def ixV (u v : PyData) : Option Cn := (ixD u v).map .imm
@[simp] theorem ixV_app (u v : PyData) : ixV u v = (ixD u v).map .imm := rfl
@[simp] theorem ev_ix (a b : Ex) : evE T (.ix a b) ρ = (evE T a ρ).bind (k2 (evE T b) (op2 ixV)) := by rw [evE]; rfl
def slK2 (x : RV) (l h : Option Int) (ρ : Rho) : Rs RV := op1 (fun d => slD d l h) x ρ
def slK1 (g : Rho → Rs (Option Int)) (x : RV) (l : Option Int) (ρ : Rho) : Rs RV := (g ρ).bind (slK2 x l)
@[simp] theorem slK2_app (x : RV) (l h : Option Int) : slK2 x l h ρ = op1 (fun d => slD d l h) x ρ := rfl
@[simp] theorem slK1_app (g : Rho → Rs (Option Int)) (x : RV) (l : Option Int) : slK1 g x l ρ = (g ρ).bind (slK2 x l) := rfl
def bkF (l h : Option Int) (d : PyData) : Option Cn := bkD d l h
@[simp] theorem bkF_app (l h : Option Int) (d : PyData) : bkF l h d = bkD d l h := rfl
def bkK2 (x : RV) (l h : Option Int) (ρ : Rho) : Rs RV := op1 (bkF l h) x ρ
@[simp] theorem bkK2_app (x : RV) (l h : Option Int) : bkK2 x l h ρ = op1 (bkF l h) x ρ := rfl
def bkK1 (f : Rho → Rs (Option Int)) (x : RV) (l : Option Int) (ρ : Rho) : Rs RV := (f ρ).bind (bkK2 x l)
@[simp] theorem bkK1_app (f : Rho → Rs (Option Int)) (x : RV) (l : Option Int) : bkK1 f x l ρ = (f ρ).bind (bkK2 x l) := rfl
@[simp] theorem ev_back (a : Ex) (lo st : Exo) : evE T (.back a lo st) ρ = (evE T a ρ).bind (k2 (evO T lo) (bkK1 (evO T st))) := by rw [evE]; rfl
@[simp] theorem ev_slice (a : Ex) (lo hi : Exo) : evE T (.slice a lo hi) ρ = (evE T a ρ).bind (k2 (evO T lo) (slK1 (evO T hi))) := by rw [evE]; rfl
/-- one turn of a comprehension -/
def turnE (own : List Nat) (r : RV) (ρ : Rho) : Rs (Option PyData) := (Rs.ofOpt (frz ρ r) ρ).bind fun p _ => .ok (some p.1) (wipeR p.2 own)
@[simp] theorem turnE_app (own : List Nat) (r : RV) : turnE own r ρ = (Rs.ofOpt (frz ρ r) ρ).bind fun p _ => .ok (some p.1) (wipeR p.2 own) := rfl
def turnB (g : Rho → Rs RV) (own : List Nat) (b : Bool) (ρ : Rho) : Rs (Option PyData) := if b then (g ρ).bind (turnE own) else .ok none (wipeR ρ own)
@[simp] theorem turnB_app (g : Rho → Rs RV) (own : List Nat) (b : Bool) : turnB g own b ρ = if b then (g ρ).bind (turnE own) else .ok none (wipeR ρ own) := rfl
def turn (T : Tb) (elt : Ex) (tg : Tg) (ifs : Exo) (own : List Nat) (d : PyData) (ρ : Rho) : Rs (Option PyData) :=
  (Rs.ofOpt (bindT tg d ρ) ρ).bind fun ρ' _ => (evC T ifs ρ').bind (turnB (evE T elt) own)
theorem ev_comp (elt : Ex) (tg : Tg) (it : Itb) (ifs : Exo) (own : List Nat) : evE T (.comp elt tg it ifs own) ρ = (evI T it ρ).bind fun items ρ1 =>
      (compL (turn T elt tg ifs own) items (wipeR ρ1 own)).noexc.bind fun ds ρ2 => if ds.length ≤ lim then .ok (.val (.lst ds)) (unwipe ρ1 own ρ2) else .stuck := by rw [evE]; rfl
@[simp] theorem ev_anil : evA T .nil ρ = .ok [] ρ := by rw [evA]
def consK2 (x : RV) (xs : List RV) (ρ : Rho) : Rs (List RV) := .ok (x :: xs) ρ
@[simp] theorem consK2_app (x : RV) (xs : List RV) : consK2 x xs ρ = .ok (x :: xs) ρ := rfl
@[simp] theorem ev_acons (e : Ex) (es : Exs) : evA T (.cons e es) ρ = (evE T e ρ).bind (k2 (evA T es) consK2) := by rw [evA]; rfl
@[simp] theorem ev_onone : evO T .none ρ = .ok none ρ := by rw [evO]
def oK (x : RV) (ρ : Rho) : Rs (Option Int) := match dat ρ x with
    | some (.int i) => .ok (some i) ρ
    | _ => .stuck
@[simp] theorem oK_int (i : Int) : oK (.val (.imm (.int i))) ρ = .ok (some i) ρ := rfl
@[simp] theorem ev_osome (e : Ex) : evO T (.some e) ρ = (evE T e ρ).bind oK := by rw [evO]; rfl
@[simp] theorem ev_cnone : evC T .none ρ = .ok true ρ := by rw [evC]
@[simp] theorem ev_csome (e : Ex) : evC T (.some e) ρ = (evE T e ρ).bind b2 := by rw [evC]
def seqR (p : PyData × Rho) (_ : Rho) : Rs (List PyData) := Rs.ofOpt (seqItems p.1) p.2
def seqK (r : RV) (ρ : Rho) : Rs (List PyData) := (Rs.ofOpt (frz ρ r) ρ).bind seqR
@[simp] theorem seqR_app (p : PyData × Rho) : seqR p ρ = Rs.ofOpt (seqItems p.1) p.2 := rfl
@[simp] theorem seqK_app (r : RV) : seqK r ρ = (Rs.ofOpt (frz ρ r) ρ).bind seqR := rfl
@[simp] theorem ev_iseq (e : Ex) : evI T (.seq e) ρ = (evE T e ρ).bind seqK := by rw [evI]; rfl
def rng1K (r : RV) (ρ : Rho) : Rs (List PyData) := Rs.ofOpt ((dat ρ r).bind fun d => rng (.int 0) d) ρ
@[simp] theorem rng1K_app (r : RV) : rng1K r ρ = Rs.ofOpt ((dat ρ r).bind fun d => rng (.int 0) d) ρ := rfl
@[simp] theorem ev_irng1 (a : Ex) : evI T (.rng1 a) ρ = (evE T a ρ).bind rng1K := by
  rw [evI]
  congr 1
  funext rs ρ
  unfold rng1K
  cases dat ρ rs <;> rfl
def rng2K (x y : RV) (ρ : Rho) : Rs (List PyData) := Rs.ofOpt ((dat ρ x).bind fun d => (dat ρ y).bind fun e => rng d e) ρ
@[simp] theorem rng2K_app (x y : RV) : rng2K x y ρ = Rs.ofOpt ((dat ρ x).bind fun d => (dat ρ y).bind fun e => rng d e) ρ := rfl
@[simp] theorem ev_irng2 (a b : Ex) : evI T (.rng2 a b) ρ = (evE T a ρ).bind (k2 (evE T b) rng2K) := by
  rw [evI]
  congr 1
  funext x ρ
  unfold k2
  congr 1
  funext y ρ
  unfold rng2K
  cases dat ρ x <;> cases dat ρ y <;> rfl
def enumR (p : PyData × Rho) (_ : Rho) : Rs (List PyData) := Rs.ofOpt (enumD p.1) p.2
def enumK (r : RV) (ρ : Rho) : Rs (List PyData) := (Rs.ofOpt (frz ρ r) ρ).bind enumR
@[simp] theorem enumR_app (p : PyData × Rho) : enumR p ρ = Rs.ofOpt (enumD p.1) p.2 := rfl
@[simp] theorem enumK_app (r : RV) : enumK r ρ = (Rs.ofOpt (frz ρ r) ρ).bind enumR := rfl
@[simp] theorem ev_ienum (e : Ex) : evI T (.enum e) ρ = (evE T e ρ).bind enumK := by rw [evI]; rfl
def zipR (p : List PyData × Rho) (_ : Rho) : Rs (List PyData) := match p.1 with
    | [x, y] => Rs.ofOpt (zipD x y) p.2
    | _ => .stuck
def zipK (rs : List RV) (ρ : Rho) : Rs (List PyData) := (Rs.ofOpt (frzs ρ rs) ρ).bind zipR
@[simp] theorem zipR_app (x y : PyData) (ρ' : Rho) : zipR ([x, y], ρ') ρ = Rs.ofOpt (zipD x y) ρ' := rfl
@[simp] theorem zipK_app (rs : List RV) : zipK rs ρ = (Rs.ofOpt (frzs ρ rs) ρ).bind zipR := rfl
@[simp] theorem ev_izip (es : Exs) : evI T (.zip es) ρ = (evA T es ρ).bind zipK := by rw [evI]; rfl
/-! statements -/
@[simp] theorem ev_nil : evSs T .nil ρ = .ok .next ρ := by rw [evSs]
@[simp] theorem ev_cons (s : Sx) (ss : Sxs) : evSs T (.cons s ss) ρ = (evS T s ρ).bind (thenF (evSs T ss)) := by rw [evSs]
@[simp] theorem ev_pass : evS T .pass ρ = .ok .next ρ := by rw [evS]
def setK (i : Nat) (r : RV) (ρ : Rho) : Rs Fl := (Rs.ofOpt (keep ρ r) ρ).bind fun p _ => .ok .next (p.2.set i (some p.1))
@[simp] theorem setK_app (i : Nat) (r : RV) : setK i r ρ = (Rs.ofOpt (keep ρ r) ρ).bind fun p _ => .ok .next (p.2.set i (some p.1)) := rfl
@[simp] theorem ev_set1 (i : Nat) (e : Ex) : evS T (.set (.one i) e) ρ = (evE T e ρ).bind (setK i) := by rw [evS]; rfl
def nextK (ρ' : Rho) (_ : Rho) : Rs Fl := .ok .next ρ'
@[simp] theorem nextK_app (ρ' : Rho) : nextK ρ' ρ = .ok .next ρ' := rfl
def setTK (is : List Nat) (r : RV) (ρ : Rho) : Rs Fl := (Rs.ofOpt ((dat ρ r).bind fun d => bindT (.tup is) d ρ) ρ).bind nextK
@[simp] theorem setTK_app (is : List Nat) (r : RV) : setTK is r ρ = (Rs.ofOpt ((dat ρ r).bind fun d => bindT (.tup is) d ρ) ρ).bind nextK := rfl
@[simp] theorem ev_setT (is : List Nat) (e : Ex) : evS T (.set (.tup is) e) ρ = (evE T e ρ).bind (setTK is) := by
  rw [evS]
  congr 1
  funext x ρ
  unfold setTK
  cases dat ρ x <;> rfl
def setNK (is : List Nat) (rs : List RV) (ρ : Rho) : Rs Fl := (Rs.ofOpt (keeps ρ rs) ρ).bind fun p _ => if p.1.length = is.length then .ok .next (setAll is p.1 p.2) else .stuck
@[simp] theorem setNK_app (is : List Nat) (rs : List RV) : setNK is rs ρ = (Rs.ofOpt (keeps ρ rs) ρ).bind fun p _ => if p.1.length = is.length then .ok .next (setAll is p.1 p.2) else .stuck := rfl
@[simp] theorem ev_setN (is : List Nat) (es : Exs) : evS T (.setN is es) ρ = (evA T es ρ).bind (setNK is) := by rw [evS]; rfl
@[simp] theorem ev_drop (e : Ex) : evS T (.drop e) ρ = (evE T e ρ).bind fun _ ρ => .ok .next ρ := by rw [evS]
@[simp] theorem ev_ret (e : Ex) : evS T (.ret e) ρ = (evE T e ρ).bind retF := by rw [evS]
@[simp] theorem ev_retN : evS T .retN ρ = .ok (.ret (.imm .none)) ρ := by rw [evS]
def ifK (g h : Rho → Rs Fl) (x : RV) (ρ : Rho) : Rs Fl := (b2 x ρ).bind fun k ρ => if k then g ρ else h ρ
@[simp] theorem ifK_b (g h : Rho → Rs Fl) (b : Bool) : ifK g h (.val (.imm (.bool b))) ρ = if b then g ρ else h ρ := rfl
@[simp] theorem ev_ifs (c : Ex) (a b : Sxs) : evS T (.ifs c a b) ρ = (evE T c ρ).bind (ifK (evSs T a) (evSs T b)) := by rw [evS]; rfl
/-- one turn of a loop -/
noncomputable def lap (T : Tb) (tg : Tg) (b : Sxs) (wp : List Nat) (d : PyData) (ρ : Rho) : Rs Fl := (Rs.ofOpt (bindT tg d ρ) ρ).bind fun ρ _ => (evSs T b ρ).bind (wipF wp)
@[simp] theorem wipF_app (wp : List Nat) (f : Fl) {ρ : Rho} : wipF wp f ρ = .ok f (wipeR ρ wp) := rfl
theorem ev_for (tg : Tg) (it : Itb) (b : Sxs) (wp : List Nat) : evS T (.forr tg it b wp) ρ = (evI T it ρ).bind (forL (lap T tg b wp)) := by rw [evS]; rfl
noncomputable def wlap (T : Tb) (b : Sxs) (wp : List Nat) (ρ : Rho) : Rs Fl := (evSs T b ρ).bind (wipF wp)
theorem ev_while (c : Ex) (b : Sxs) (wp : List Nat) : evS T (.whil c b wp) ρ = whileW (fun ρ => (evE T c ρ).bind b2) (wlap T b wp) ρ := by rw [evS]; rfl
def augK (i : Nat) (g : Rho → Rs RV) (ρ : Rho) : Option Cn → Rs Fl
  | some (.imm (.int x)) => (g ρ).bind (augF i x)
  | _ => .stuck
@[simp] theorem augK_int (i : Nat) (g : Rho → Rs RV) (x : Int) : augK i g ρ (some (.imm (.int x))) = (g ρ).bind (augF i x) := rfl
@[simp] theorem augF_int (i : Nat) (x y : Int) : augF i x (.val (.imm (.int y))) ρ = .ok .next (ρ.set i (some (.imm (.int (x + y))))) := rfl
@[simp] theorem ev_aug (i : Nat) (e : Ex) : evS T (.aug i e) ρ = augK i (evE T e) ρ (ρ[i]?).join := by
  rw [evS]
  cases (ρ[i]?).join with
  | none => rfl
  | some c => cases c with
    | imm d => cases d <;> rfl
    | _ => rfl
def appR (i : Nat) (p : PyData × Rho) (_ : Rho) : Rs Fl := appF i p.1 p.2
def appE (i : Nat) (r : RV) (ρ : Rho) : Rs Fl := (Rs.ofOpt (frz ρ r) ρ).bind (appR i)
def appK (i : Nat) (g : Rho → Rs RV) (ρ : Rho) : Option Cn → Rs Fl
  | some (.lst _) => (g ρ).bind (appE i)
  | _ => .stuck
@[simp] theorem appR_app (i : Nat) (p : PyData × Rho) : appR i p ρ = appF i p.1 p.2 := rfl
@[simp] theorem appE_app (i : Nat) (r : RV) : appE i r ρ = (Rs.ofOpt (frz ρ r) ρ).bind (appR i) := rfl
@[simp] theorem appK_lst (i : Nat) (g : Rho → Rs RV) (xs : List PyData) : appK i g ρ (some (.lst xs)) = (g ρ).bind (appE i) := rfl
@[simp] theorem ev_app (i : Nat) (e : Ex) : evS T (.app i e) ρ = appK i (evE T e) ρ (ρ[i]?).join := by
  rw [evS]
  cases (ρ[i]?).join with
  | none => rfl
  | some c => cases c <;> rfl
def extK (i : Nat) (g : Rho → Rs RV) (ρ : Rho) : Option Cn → Rs Fl
  | some (.lst _) => (g ρ).bind (extF i)
  | _ => .stuck
@[simp] theorem extK_lst (i : Nat) (g : Rho → Rs RV) (xs : List PyData) : extK i g ρ (some (.lst xs)) = (g ρ).bind (extF i) := rfl
@[simp] theorem ev_ext (i : Nat) (e : Ex) : evS T (.ext i e) ρ = extK i (evE T e) ρ (ρ[i]?).join := by
  rw [evS]
  cases (ρ[i]?).join with
  | none => rfl
  | some c => cases c <;> rfl
/-! objects -/
def fgetK (d : PyData) (ρ : Rho) : Rs RV := .ok (.val (.imm d)) ρ
@[simp] theorem fgetK_app (d : PyData) : fgetK d ρ = .ok (.val (.imm d)) ρ := rfl
@[simp] theorem ev_fget (i : Nat) (x : Str) : evE T (.fget i x) ρ = (Rs.ofOpt (fldI ρ i x) ρ).bind fgetK := by rw [evE]; rfl
def fixK (T : Tb) (i : Nat) (e : Ex) (xs : List PyData) (ρ : Rho) : Rs RV := (evE T e (ρ.set i none)).bind (fixF xs i (ρ[i]?).join)
@[simp] theorem fixK_app (i : Nat) (e : Ex) (xs : List PyData) : fixK T i e xs ρ = (evE T e (ρ.set i none)).bind (fixF xs i (ρ[i]?).join) := rfl
@[simp] theorem ev_fix (i : Nat) (x : Str) (e : Ex) : evE T (.fix i x e) ρ = (Rs.ofOpt (fldL ρ i x) ρ).bind (fixK T i e) := by rw [evE]; rfl
def fixR (i : Nat) (o : Option Cn) (y : PyData) (ρ : Rho) : Rs RV := .ok (.val (.imm y)) (ρ.set i o)
@[simp] theorem fixR_app (i : Nat) (o : Option Cn) (y : PyData) : fixR i o y ρ = .ok (.val (.imm y)) (ρ.set i o) := rfl
@[simp] theorem fixF_int (xs : List PyData) (i : Nat) (o : Option Cn) (k : Int) : fixF xs i o (.val (.imm (.int k))) ρ = (Rs.ofOpt (L2.atI xs k) ρ).bind (fixR i o) := rfl
def flenK (xs : List PyData) (ρ : Rho) : Rs RV := .ok (.val (.imm (.int xs.length))) ρ
@[simp] theorem flenK_app (xs : List PyData) : flenK xs ρ = .ok (.val (.imm (.int xs.length))) ρ := rfl
@[simp] theorem ev_flen (i : Nat) (x : Str) : evE T (.flen i x) ρ = (Rs.ofOpt (fldL ρ i x) ρ).bind flenK := by rw [evE]; rfl
def fallK (xs : List PyData) (ρ : Rho) : Rs RV := .ok (.val (.lst xs)) ρ
@[simp] theorem fallK_app (xs : List PyData) : fallK xs ρ = .ok (.val (.lst xs)) ρ := rfl
@[simp] theorem ev_fall (i : Nat) (x : Str) : evE T (.fall i x) ρ = (Rs.ofOpt (fldL ρ i x) ρ).bind fallK := by rw [evE]; rfl
def methA (T : Tb) (F : Fden) (i : Nat) (rs : List RV) (ρ : Rho) : Rs RV := callF F (.slot i :: rs) ρ
theorem callF_eq (F : Fden) (rs : List RV) (ρ : Rho) : callF F rs ρ = if (slotsOf rs).Nodup then callO F rs ρ (argCs ρ rs) else .stuck := callK_some (ρ := ρ) F rs
@[simp] theorem methA_app (F : Fden) (i : Nat) (rs : List RV) : methA T F i rs ρ = if (slotsOf (.slot i :: rs)).Nodup then callO F (.slot i :: rs) ρ (argCs ρ (.slot i :: rs)) else .stuck := callF_eq F _ ρ
def methK (T : Tb) (c : Str) (F : Fden) (i : Nat) (m : Str) (es : Exs) (p : Str × List (Str × Fc)) (ρ : Rho) : Rs RV := if p.1 = c ∧ (p.2.lookup m).isNone = true then (evA T es ρ).bind (methA T F i) else .stuck
@[simp] theorem methK_app (c : Str) (F : Fden) (i : Nat) (m : Str) (es : Exs) (p : Str × List (Str × Fc)) : methK T c F i m es p ρ = if p.1 = c ∧ (p.2.lookup m).isNone = true then (evA T es ρ).bind (methA T F i) else .stuck := rfl
theorem ev_meth {c : Str} {F : Fden} (i j : Nat) (m : Str) (es : Exs) (h : T.meths[j]? = some (c, F)) : evE T (.meth i j m es) ρ = (Rs.ofOpt (ownO ρ i) ρ).bind (methK T c F i m es) := by
  rw [evE, h]
  rfl
theorem ev_new {c : Str} {F : Fden} (j : Nat) (es : Exs) (h : T.news[j]? = some (c, F)) : evE T (.new j es) ρ = (evA T es ρ).bind (newF c F) := by
  rw [evE, h]
def setFR (T : Tb) (i : Nat) (x : Str) (p : Cn × Rho) (_ : Rho) : Rs Fl := setFF T i x p.1 p.2
@[simp] theorem setFR_app (i : Nat) (x : Str) (p : Cn × Rho) : setFR T i x p ρ = setFF T i x p.1 p.2 := rfl
def setFK (T : Tb) (i : Nat) (x : Str) (r : RV) (ρ : Rho) : Rs Fl := (Rs.ofOpt (keep ρ r) ρ).bind (setFR T i x)
@[simp] theorem setFK_app (i : Nat) (x : Str) (r : RV) : setFK T i x r ρ = (Rs.ofOpt (keep ρ r) ρ).bind (setFR T i x) := rfl
@[simp] theorem ev_setF (i : Nat) (x : Str) (e : Ex) : evS T (.setF i x e) ρ = (evE T e ρ).bind (setFK T i x) := by rw [evS]; rfl
def appFR (i : Nat) (x : Str) (q : Str × List (Str × Fc) × List PyData) (p : PyData × Rho) (_ : Rho) : Rs Fl := if q.2.2.length < lim then .ok .next (p.2.set i (some (.obj q.1 (putC x (.lst (q.2.2 ++ [p.1])) q.2.1)))) else .stuck
@[simp] theorem appFR_app (i : Nat) (x : Str) (q : Str × List (Str × Fc) × List PyData) (p : PyData × Rho) : appFR i x q p ρ = if q.2.2.length < lim then .ok .next (p.2.set i (some (.obj q.1 (putC x (.lst (q.2.2 ++ [p.1])) q.2.1)))) else .stuck := rfl
def appFE (i : Nat) (x : Str) (q : Str × List (Str × Fc) × List PyData) (r : RV) (ρ : Rho) : Rs Fl := (Rs.ofOpt (frz ρ r) ρ).bind (appFR i x q)
@[simp] theorem appFE_app (i : Nat) (x : Str) (q : Str × List (Str × Fc) × List PyData) (r : RV) : appFE i x q r ρ = (Rs.ofOpt (frz ρ r) ρ).bind (appFR i x q) := rfl
def appFK (T : Tb) (i : Nat) (x : Str) (e : Ex) (q : Str × List (Str × Fc) × List PyData) (ρ : Rho) : Rs Fl := (evE T e (ρ.set i none)).bind (appFE i x q)
@[simp] theorem appFK_app (i : Nat) (x : Str) (e : Ex) (q : Str × List (Str × Fc) × List PyData) : appFK T i x e q ρ = (evE T e (ρ.set i none)).bind (appFE i x q) := rfl
@[simp] theorem ev_appF (i : Nat) (x : Str) (e : Ex) : evS T (.appF i x e) ρ = (Rs.ofOpt (ownL ρ i x) ρ).bind (appFK T i x e) := by rw [evS]; rfl
def sixN (i : Nat) (x : Str) (d : PyData) (q : Str × List (Str × Fc) × List PyData) (n : Nat) (ρ : Rho) : Rs Fl := .ok .next (ρ.set i (some (.obj q.1 (putC x (.lst (q.2.2.set n d)) q.2.1))))
@[simp] theorem sixN_app (i : Nat) (x : Str) (d : PyData) (q : Str × List (Str × Fc) × List PyData) (n : Nat) : sixN i x d q n ρ = .ok .next (ρ.set i (some (.obj q.1 (putC x (.lst (q.2.2.set n d)) q.2.1)))) := rfl
def sixZ (i : Nat) (x : Str) (d : PyData) (q : Str × List (Str × Fc) × List PyData) (z : RV) (ρ : Rho) : Rs Fl := match dat ρ z with
    | some (.int j) => (Rs.ofOpt (L2.ixN q.2.2.length j) ρ).bind (sixN i x d q)
    | _ => .stuck
@[simp] theorem sixZ_int (i : Nat) (x : Str) (d : PyData) (q : Str × List (Str × Fc) × List PyData) (j : Int) : sixZ i x d q (.val (.imm (.int j))) ρ = (Rs.ofOpt (L2.ixN q.2.2.length j) ρ).bind (sixN i x d q) := rfl
def sixQ (T : Tb) (i : Nat) (x : Str) (k : Ex) (d : PyData) (q : Str × List (Str × Fc) × List PyData) (ρ : Rho) : Rs Fl := (evE T k (ρ.set i none)).bind (sixZ i x d q)
@[simp] theorem sixQ_app (i : Nat) (x : Str) (k : Ex) (d : PyData) (q : Str × List (Str × Fc) × List PyData) : sixQ T i x k d q ρ = (evE T k (ρ.set i none)).bind (sixZ i x d q) := rfl
def sixP (T : Tb) (i : Nat) (x : Str) (k : Ex) (p : PyData × Rho) (_ : Rho) : Rs Fl := (Rs.ofOpt (ownL p.2 i x) p.2).bind (sixQ T i x k p.1)
@[simp] theorem sixP_app (i : Nat) (x : Str) (k : Ex) (p : PyData × Rho) : sixP T i x k p ρ = (Rs.ofOpt (ownL p.2 i x) p.2).bind (sixQ T i x k p.1) := rfl
def sixK (T : Tb) (i : Nat) (x : Str) (k : Ex) (r : RV) (ρ : Rho) : Rs Fl := (Rs.ofOpt (frz ρ r) ρ).bind (sixP T i x k)
@[simp] theorem sixK_app (i : Nat) (x : Str) (k : Ex) (r : RV) : sixK T i x k r ρ = (Rs.ofOpt (frz ρ r) ρ).bind (sixP T i x k) := rfl
@[simp] theorem ev_setIxF (i : Nat) (x : Str) (k e : Ex) : evS T (.setIxF i x k e) ρ = (evE T e ρ).bind (sixK T i x k) := by
  rw [evS]
  rfl
noncomputable def forfK (T : Tb) (i : Nat) (tg : Tg) (b : Sxs) (wp : List Nat) (q : Str × List (Str × Fc) × List PyData) (ρ : Rho) : Rs Fl := unlend i q.1 q.2.1 (forL (lap T tg b wp) (enumL 0 q.2.2) (ρ.set i (some (.rob q.1 q.2.1))))
theorem forfK_app (i : Nat) (tg : Tg) (b : Sxs) (wp : List Nat) (q : Str × List (Str × Fc) × List PyData) : forfK T i tg b wp q ρ = unlend i q.1 q.2.1 (forL (lap T tg b wp) (enumL 0 q.2.2) (ρ.set i (some (.rob q.1 q.2.1)))) := rfl
theorem ev_forf (i : Nat) (x : Str) (tg : Tg) (b : Sxs) (wp : List Nat) : evS T (.forf i x tg b wp) ρ = (Rs.ofOpt (ownL ρ i x) ρ).bind (forfK T i tg b wp) := by rw [evS]; rfl
def setIxC (i : Nat) (d : PyData) (g : Rho → Rs RV) (ρ : Rho) : Option Cn → Rs Fl
  | some (.lst _) => (g ρ).bind (setIxF i d)
  | _ => .stuck
@[simp] theorem setIxC_lst (i : Nat) (d : PyData) (g : Rho → Rs RV) (xs : List PyData) : setIxC i d g ρ (some (.lst xs)) = (g ρ).bind (setIxF i d) := rfl
def setIxR (i : Nat) (g : Rho → Rs RV) (p : PyData × Rho) (_ : Rho) : Rs Fl := setIxC i p.1 g p.2 (p.2[i]?).join
@[simp] theorem setIxR_app (i : Nat) (g : Rho → Rs RV) (p : PyData × Rho) : setIxR i g p ρ = setIxC i p.1 g p.2 (p.2[i]?).join := rfl
def setIxK (i : Nat) (g : Rho → Rs RV) (r : RV) (ρ : Rho) : Rs Fl := (Rs.ofOpt (frz ρ r) ρ).bind (setIxR i g)
@[simp] theorem setIxK_app (i : Nat) (g : Rho → Rs RV) (r : RV) : setIxK i g r ρ = (Rs.ofOpt (frz ρ r) ρ).bind (setIxR i g) := rfl
@[simp] theorem ev_setIx (i : Nat) (k e : Ex) : evS T (.setIx i k e) ρ = (evE T e ρ).bind (setIxK i (evE T k)) := by
  rw [evS]
  rfl
end
/-! values -/
@[simp] theorem dat_val (ρ : Rho) (c : Cn) : dat ρ (.val c) = datC c := rfl
@[simp] theorem dat_slot (ρ : Rho) (i : Nat) : dat ρ (.slot i) = ((ρ[i]?).join).bind datC := rfl
@[simp] theorem datC_imm (d : PyData) : datC (.imm d) = some d := rfl
@[simp] theorem datC_lst (d : List PyData) : datC (.lst d) = some (.list d) := rfl
@[simp] theorem frz_val (ρ : Rho) (d : PyData) : frz ρ (.val (.imm d)) = some (d, ρ) := rfl
@[simp] theorem frz_lst (ρ : Rho) (d : List PyData) : frz ρ (.val (.lst d)) = some (.list d, ρ) := rfl
@[simp] theorem frz_slot (ρ : Rho) (i : Nat) : frz ρ (.slot i) = ((ρ[i]?).join.bind datC).map fun d => (d, ρ.set i (some (.imm d))) := rfl
@[simp] theorem frzs_nil (ρ : Rho) : frzs ρ [] = some ([], ρ) := rfl
def consP {α : Type} (d : α) (q : List α × Rho) : List α × Rho := (d :: q.1, q.2)
@[simp] theorem consP_app {α : Type} (d : α) (ds : List α) (ρ : Rho) : consP d (ds, ρ) = (d :: ds, ρ) := rfl
def frzK (rs : List RV) (p : PyData × Rho) : Option (List PyData × Rho) := (frzs p.2 rs).map (consP p.1)
@[simp] theorem frzK_app (rs : List RV) (d : PyData) (ρ : Rho) : frzK rs (d, ρ) = (frzs ρ rs).map (consP d) := rfl
@[simp] theorem frzs_cons (ρ : Rho) (r : RV) (rs : List RV) : frzs ρ (r :: rs) = (frz ρ r).bind (frzK rs) := rfl
@[simp] theorem keep_val (ρ : Rho) (c : Cn) : keep ρ (.val c) = some (c, ρ) := rfl
@[simp] theorem keep_slot (ρ : Rho) (i : Nat) : keep ρ (.slot i) = (frz ρ (.slot i)).map fun p => (.imm p.1, p.2) := rfl
@[simp] theorem keeps_nil (ρ : Rho) : keeps ρ [] = some ([], ρ) := rfl
def keepK (rs : List RV) (p : Cn × Rho) : Option (List Cn × Rho) := (keeps p.2 rs).map (consP p.1)
@[simp] theorem keepK_app (rs : List RV) (d : Cn) (ρ : Rho) : keepK rs (d, ρ) = (keeps ρ rs).map (consP d) := rfl
@[simp] theorem keeps_cons (ρ : Rho) (r : RV) (rs : List RV) : keeps ρ (r :: rs) = (keep ρ r).bind (keepK rs) := rfl
@[simp] theorem op1_eq (f : PyData → Option Cn) (x : RV) (ρ : Rho) : op1 f x ρ = (Rs.ofOpt ((dat ρ x).bind f) ρ).bind fun c ρ => .ok (.val c) ρ := by
  unfold op1
  cases dat ρ x <;> rfl
@[simp] theorem op2_eq (f : PyData → PyData → Option Cn) (x y : RV) (ρ : Rho) : op2 f x y ρ = (Rs.ofOpt ((dat ρ x).bind fun a => (dat ρ y).bind fun b => f a b) ρ).bind fun c ρ => .ok (.val c) ρ := by
  unfold op2
  cases dat ρ x <;> cases dat ρ y <;> rfl
@[simp] theorem b2_bool (b : Bool) (ρ : Rho) : b2 (.val (.imm (.bool b))) ρ = .ok b ρ := rfl
@[simp] theorem retF_val (c : Cn) (ρ : Rho) : retF (.val c) ρ = .ok (.ret c) ρ := rfl
@[simp] theorem thenF_next (g : Rho → Rs Fl) (ρ : Rho) : thenF g .next ρ = g ρ := rfl
@[simp] theorem thenF_ret (g : Rho → Rs Fl) (c : Cn) (ρ : Rho) : thenF g (.ret c) ρ = .ok (.ret c) ρ := rfl
@[simp] theorem vb_yes (b : Bool) : vb (some b) = some (.imm (.bool b)) := rfl
@[simp] theorem ite_ok {α : Type} (b : Prop) [Decidable b] (x y : α) (ρ : Rho) : (if b then Rs.ok x ρ else Rs.ok y ρ) = Rs.ok (if b then x else y) ρ := by split <;> rfl
/-! a def -/
theorem evF_eq {T : Tb} {np nn : Nat} {b : Sxs} {cs : List Cn} (h1 : cs.length = np) (h2 : freeOf (storeds b) 0 cs = true) : evF T ⟨np, nn, b⟩ cs = match evSs T b (cs.map some ++ List.replicate (nn - np) none) with
    | .ok fl ρ => match outCs 0 cs ρ with
      | some cs' => .ok (match fl with | .next => .imm .none | .ret c => c) cs'
      | none => .stuck
    | .exc e ρ => match outCs 0 cs ρ with
      | some cs' => .exc e cs'
      | none => .stuck
    | .stuck => .stuck := by
  unfold evF
  exact if_pos ⟨h1, h2⟩
/-- plain arguments, a value -/
theorem evF_ret {T : Tb} {np nn : Nat} {b : Sxs} {cs cs' : List Cn} {c : Cn} {ρ : Rho} (h1 : cs.length = np) (h2 : freeOf (storeds b) 0 cs = true) (h : evSs T b (cs.map some ++ List.replicate (nn - np) none) = .ok (.ret c) ρ) (h3 : outCs 0 cs ρ = some cs') : evF T ⟨np, nn, b⟩ cs = .ok c cs' := by
  rw [evF_eq h1 h2, h]
  simp only [h3]
theorem evF_nx {T : Tb} {np nn : Nat} {b : Sxs} {cs cs' : List Cn} {ρ : Rho} (h1 : cs.length = np) (h2 : freeOf (storeds b) 0 cs = true) (h : evSs T b (cs.map some ++ List.replicate (nn - np) none) = .ok .next ρ) (h3 : outCs 0 cs ρ = some cs') : evF T ⟨np, nn, b⟩ cs = .ok (.imm .none) cs' := by
  rw [evF_eq h1 h2, h]
  simp only [h3]
/-- plain data alone goes in -/
def imms (ds : List PyData) : List Cn := ds.map .imm
theorem free_imms (st : List Nat) : ∀ (k : Nat) (ds : List PyData), freeOf st k (imms ds) = true
  | _, [] => rfl
  | k, d :: ds => by
    have ih := free_imms st (k + 1) ds
    unfold imms at ih ⊢
    rw [List.map_cons, freeOf, ih]
    rfl
theorem out_imms : ∀ (k : Nat) (ds : List PyData) (ρ : Rho), outCs k (imms ds) ρ = some (imms ds)
  | _, [], _ => rfl
  | k, d :: ds, ρ => by
    have ih := out_imms (k + 1) ds ρ
    unfold imms at ih ⊢
    rw [List.map_cons, outCs, ih]
    rfl
theorem evF_imms {T : Tb} {np nn : Nat} {b : Sxs} {ds : List PyData} {c : Cn} {ρ : Rho} (h1 : ds.length = np) (h : evSs T b (ds.map (fun d => some (.imm d)) ++ List.replicate (nn - np) none) = .ok (.ret c) ρ) : evF T ⟨np, nn, b⟩ (imms ds) = .ok c (imms ds) := by
  refine evF_ret (ρ := ρ) (by unfold imms; simpa using h1) (free_imms _ _ _) ?_ (out_imms _ _ _)
  unfold imms
  rw [List.map_map]
  exact h
/-- what is given back -/
def retOf : Rs Fl → Option Cn
  | .ok (.ret c) _ => some c
  | .ok .next _ => some (.imm .none)
  | _ => none
@[simp] theorem retOf_ret (c : Cn) (ρ : Rho) : retOf (.ok (.ret c) ρ) = some c := rfl
theorem evF_immsR {T : Tb} {np nn : Nat} {b : Sxs} {ds : List PyData} {c : Cn} (h1 : ds.length = np) (h : retOf (evSs T b (ds.map (fun d => some (.imm d)) ++ List.replicate (nn - np) none)) = some c) : evF T ⟨np, nn, b⟩ (imms ds) = .ok c (imms ds) := by
  have e0 : (imms ds).map some = ds.map (fun d => some (.imm d)) := by unfold imms; rw [List.map_map]; rfl
  rw [evF_eq (by unfold imms; simpa using h1) (free_imms _ _ _), e0]
  cases e : evSs T b (ds.map (fun d => some (.imm d)) ++ List.replicate (nn - np) none) with
  | stuck => rw [e] at h; cases h
  | exc _ _ => rw [e] at h; cases h
  | ok f ρ =>
    rw [e] at h
    simp only [out_imms]
    cases f with
    | next => cases h; rfl
    | ret c' => cases h; rfl
/-- a call with plain data alone -/
theorem slots_imms : ∀ ds : List PyData, slotsOf (ds.map fun d => .val (.imm d)) = []
  | [] => rfl
  | d :: ds => by simpa [slotsOf] using slots_imms ds
/-- what a call of a def gives -/
theorem callF_ok {F : Fden} {rs : List RV} {ρ : Rho} {cs cs' : List Cn} {c : Cn} (h1 : (slotsOf rs).Nodup) (h2 : argCs ρ rs = some cs) (h3 : F cs = .ok c cs') (h4 : cs'.length = cs.length) : callF F rs ρ = .ok (.val c) (back rs cs' ρ) := by
  unfold callF
  rw [if_pos h1, h2]
  simp only [h3, h4, if_true]
@[simp] theorem slots_nil : slotsOf [] = [] := rfl
@[simp] theorem slots_val (c : Cn) (rs : List RV) : slotsOf (.val c :: rs) = slotsOf rs := rfl
@[simp] theorem slots_slot (i : Nat) (rs : List RV) : slotsOf (.slot i :: rs) = i :: slotsOf rs := rfl
@[simp] theorem args_nil (ρ : Rho) : argCs ρ [] = some [] := rfl
@[simp] theorem args_cons (ρ : Rho) (r : RV) (rs : List RV) : argCs ρ (r :: rs) = (cnOf ρ r).bind fun c => (argCs ρ rs).map (c :: ·) := by
  unfold argCs
  rw [List.mapM_cons]
  cases cnOf ρ r <;> cases rs.mapM (cnOf ρ) <;> rfl
@[simp] theorem cnOf_val (ρ : Rho) (c : Cn) : cnOf ρ (.val c) = some c := rfl
@[simp] theorem cnOf_slot (ρ : Rho) (i : Nat) : cnOf ρ (.slot i) = (ρ[i]?).join := rfl
@[simp] theorem back_nil (cs : List Cn) (ρ : Rho) : back [] cs ρ = ρ := by cases cs <;> rfl
@[simp] theorem back_val (c : Cn) (rs : List RV) (d : Cn) (cs : List Cn) (ρ : Rho) : back (.val c :: rs) (d :: cs) ρ = back rs cs ρ := rfl
@[simp] theorem back_slot (i : Nat) (rs : List RV) (d : Cn) (cs : List Cn) (ρ : Rho) : back (.slot i :: rs) (d :: cs) ρ = back rs cs (ρ.set i (some d)) := rfl
/-! operators on ints -/
section
variable (i j : Int)
theorem eqOk_int : eqOk (.int i) (.int j) = true := rfl
@[simp] theorem cmp_eqI : cmpop .eq (.int i) (.int j) = some (decide (i = j)) := by
  show (if eqOk (.int i) (.int j) then some (PyData.eqv (.int i) (.int j)) else none) = _
  rw [if_pos (eqOk_int i j), PyData.eqv]
  rfl
@[simp] theorem cmp_neI : cmpop .ne (.int i) (.int j) = some (!decide (i = j)) := by
  show (if eqOk (.int i) (.int j) then some (!PyData.eqv (.int i) (.int j)) else none) = _
  rw [if_pos (eqOk_int i j), PyData.eqv]
  rfl
@[simp] theorem cmp_ltI : cmpop .lt (.int i) (.int j) = some (decide (i < j)) := rfl
@[simp] theorem cmp_leI : cmpop .le (.int i) (.int j) = some (decide (i ≤ j)) := rfl
@[simp] theorem cmp_gtI : cmpop .gt (.int i) (.int j) = some (decide (j < i)) := rfl
@[simp] theorem cmp_geI : cmpop .ge (.int i) (.int j) = some (decide (j ≤ i)) := rfl
@[simp] theorem cmp_isB (a b : Bool) : cmpop .is (.bool a) (.bool b) = some (decide (a = b)) := rfl
@[simp] theorem cmp_nisB (a b : Bool) : cmpop .nis (.bool a) (.bool b) = some (!decide (a = b)) := rfl
@[simp] theorem bin_add : binop .add (.int i) (.int j) = some (.imm (.int (i + j))) := rfl
@[simp] theorem bin_sub : binop .sub (.int i) (.int j) = some (.imm (.int (i - j))) := rfl
@[simp] theorem bin_tup (xs ys : List PyData) : binop .add (.tuple xs) (.tuple ys) = if xs.length + ys.length ≤ lim then some (.imm (.tuple (xs ++ ys))) else none := rfl
@[simp] theorem bin_mod : binop .mod (.int i) (.int j) = if decide (0 < j) then some (.imm (.int (i % j))) else none := rfl
@[simp] theorem bin_fdiv : binop .fdiv (.int i) (.int j) = if divOk j then some (.imm (.int (i / j))) else none := rfl
@[simp] theorem bin_mul : binop .mul (.int i) (.int j) = if mulOk i j then some (.imm (.int (i * j))) else none := rfl
theorem bin_pow : binop .pow (.int i) (.int j) = if powOk i j then some (.imm (.int (i ^ j.toNat))) else none := rfl
@[simp] theorem ix_tup (xs : List PyData) : ixD (.tuple xs) (.int i) = L2.atI xs i := rfl
@[simp] theorem ix_lst (xs : List PyData) : ixD (.list xs) (.int i) = L2.atI xs i := rfl
theorem atI_nat {xs : List PyData} {k : Nat} {d : PyData} (h : xs[k]? = some d) : L2.atI xs (k : Nat) = some d := by
  have hk := (List.getElem?_eq_some_iff.mp h).1
  unfold L2.atI L2.ixN
  rw [if_pos (Int.natCast_nonneg k), if_pos (by omega)]
  simpa using h
theorem atI_cast (xs : List PyData) (k : Nat) : L2.atI xs (k : Nat) = xs[k]? := by
  by_cases hk : k < xs.length
  · exact (atI_nat (List.getElem?_eq_getElem hk)).trans (List.getElem?_eq_getElem hk).symm
  · unfold L2.atI L2.ixN
    rw [if_pos (Int.natCast_nonneg k), if_neg (by omega), List.getElem?_eq_none (by omega)]
    rfl
@[simp] theorem atI_lit (xs : List PyData) (n : Nat) : L2.atI xs (no_index (@OfNat.ofNat Int n instOfNat)) = xs[n]? := atI_cast xs n
theorem atI_pos {xs : List PyData} {k : Int} (h0 : 0 ≤ k) (h1 : k < xs.length) : ∃ d, L2.atI xs k = some d ∧ xs[k.toNat]? = some d := by
  have hk : k.toNat < xs.length := by omega
  refine ⟨xs[k.toNat], ?_, List.getElem?_eq_getElem hk⟩
  have := atI_nat (List.getElem?_eq_getElem hk)
  rwa [Int.toNat_of_nonneg h0] at this
@[simp] theorem blt_lenT (xs : List PyData) : bltop .len [.tuple xs] = some (.imm (.int xs.length)) := rfl
@[simp] theorem blt_lenL (xs : List PyData) : bltop .len [.list xs] = some (.imm (.int xs.length)) := rfl
@[simp] theorem mapM_dat_nil (ρ : Rho) : List.mapM (dat ρ) [] = some [] := rfl
@[simp] theorem mapM_dat (ρ : Rho) (r : RV) (rs : List RV) : List.mapM (dat ρ) (r :: rs) = (dat ρ r).bind fun d => (List.mapM (dat ρ) rs).map (d :: ·) := by
  rw [List.mapM_cons]
  cases dat ρ r <;> cases rs.mapM (dat ρ) <;> rfl
@[simp] theorem ite_imm (b : Prop) [Decidable b] (x y : Bool) : (if b then RV.val (.imm (.bool x)) else .val (.imm (.bool y))) = .val (.imm (.bool (if b then x else y))) := by split <;> rfl
end
/-! loops -/
theorem forL_inv {b : PyData → Rho → Rs Fl} (I : Rho → Prop) : ∀ {xs : List PyData}, (∀ x ∈ xs, ∀ ρ, I ρ → ∃ ρ', b x ρ = .ok .next ρ' ∧ I ρ') → ∀ {ρ : Rho}, I ρ → ∃ ρ', forL b xs ρ = .ok .next ρ' ∧ I ρ'
  | [], _, ρ, h => ⟨ρ, rfl, h⟩
  | x :: xs, hb, ρ, h => by
    obtain ⟨ρ1, e1, h1⟩ := hb x (by simp) ρ h
    obtain ⟨ρ2, e2, h2⟩ := forL_inv I (xs := xs) (fun y hy => hb y (by simp [hy])) h1
    exact ⟨ρ2, by unfold forL; rw [e1]; exact e2, h2⟩
theorem forL_cnt {b : PyData → Rho → Rs Fl} (I : Nat → Rho → Prop) : ∀ {xs : List PyData} {k : Nat}, (∀ x ∈ xs, ∀ j ρ, j < k + xs.length → I j ρ → ∃ ρ', b x ρ = .ok .next ρ' ∧ I (j + 1) ρ') → ∀ {ρ : Rho}, I k ρ → ∃ ρ', forL b xs ρ = .ok .next ρ' ∧ I (k + xs.length) ρ'
  | [], _, _, ρ, h => ⟨ρ, rfl, h⟩
  | x :: xs, k, hb, ρ, h => by
    obtain ⟨ρ1, e1, h1⟩ := hb x (by simp) k ρ (by simp) h
    obtain ⟨ρ2, e2, h2⟩ := forL_cnt I (xs := xs) (k := k + 1) (fun y hy j ρ hj => hb y (by simp [hy]) j ρ (by simp; omega)) h1
    refine ⟨ρ2, by unfold forL; rw [e1]; exact e2, ?_⟩
    rw [List.length_cons]
    have : k + (xs.length + 1) = k + 1 + xs.length := by omega
    rw [this]
    exact h2
theorem rng_nat {m : Int} (h0 : 0 ≤ m) (h1 : m < 2 ^ 62) : rng (.int 0) (.int m) = some (rangeL 0 m.toNat) := by
  show (if _ then some (rangeL 0 (m - 0).toNat) else none) = _
  rw [if_pos ⟨by omega, by omega, by omega, by omega⟩, Int.sub_zero]
theorem rangeL_len (lo : Int) (n : Nat) : (rangeL lo n).length = n := by simp [rangeL]
/-- a comprehension that changes nothing -/
theorem compL_map {b : PyData → Rho → Rs (Option PyData)} {ρ : Rho} (g : PyData → Option PyData) : ∀ {xs : List PyData}, (∀ x ∈ xs, b x ρ = .ok (g x) ρ) → compL b xs ρ = .ok (xs.filterMap g) ρ
  | [], _ => rfl
  | x :: xs, h => by
    unfold compL
    rw [h x (by simp), Rs.bind_ok, compL_map g (xs := xs) fun y hy => h y (by simp [hy]), Rs.bind_ok, List.filterMap_cons]
    cases g x <;> rfl
theorem compL_all {b : PyData → Rho → Rs (Option PyData)} {ρ : Rho} (g : PyData → PyData) {xs : List PyData} (h : ∀ x ∈ xs, b x ρ = .ok (some (g x)) ρ) : compL b xs ρ = .ok (xs.map g) ρ := by
  rw [compL_map (fun x => some (g x)) h, List.filterMap_eq_map']
theorem compL_bools {b : PyData → Rho → Rs (Option PyData)} {ρ : Rho} (g : PyData → Bool) {xs : List PyData} (h : ∀ x ∈ xs, b x ρ = .ok (some (.bool (g x))) ρ) : compL b xs ρ = .ok ((xs.map g).map .bool) ρ := by
  rw [compL_all (fun x => .bool (g x)) h, List.map_map]
  rfl
theorem bools_map : ∀ bs : List Bool, bools? (bs.map .bool) = some bs
  | [] => rfl
  | b :: bs => by
    rw [List.map_cons, bools?, bools_map bs]
    rfl
@[simp] theorem blt_any {α : Type} (g : α → Bool) (xs : List α) : bltop .any [.list (xs.map fun x => PyData.bool (g x))] = some (.imm (.bool (xs.any g))) := by
  show (bools? (xs.map fun x => PyData.bool (g x))).map _ = _
  have e : (xs.map fun x => PyData.bool (g x)) = (xs.map g).map .bool := by rw [List.map_map]; rfl
  rw [e, bools_map]
  simp only [Option.map_some, List.any_map]
  rfl
@[simp] theorem blt_all {α : Type} (g : α → Bool) (xs : List α) : bltop .all [.list (xs.map fun x => PyData.bool (g x))] = some (.imm (.bool (xs.all g))) := by
  show (bools? (xs.map fun x => PyData.bool (g x))).map _ = _
  have e : (xs.map fun x => PyData.bool (g x)) = (xs.map g).map .bool := by rw [List.map_map]; rfl
  rw [e, bools_map]
  simp only [Option.map_some, List.all_map]
  rfl
theorem enumL_cons (k : Nat) (x : PyData) (xs : List PyData) : enumL k (x :: xs) = .tuple [.int (k : Nat), x] :: enumL (k + 1) xs := rfl
theorem ev_comp_all {T : Tb} {elt : Ex} {tg : Tg} {it : Itb} {ifs : Exo} {own : List Nat} {ρ ρ1 : Rho} {items : List PyData} (g : PyData → PyData) (h1 : evI T it ρ = .ok items ρ1) (h2 : ∀ x ∈ items, turn T elt tg ifs own x (wipeR ρ1 own) = .ok (some (g x)) (wipeR ρ1 own)) (h3 : items.length ≤ lim) :
    evE T (.comp elt tg it ifs own) ρ = .ok (.val (.lst (items.map g))) (unwipe ρ1 own (wipeR ρ1 own)) := by
  rw [ev_comp, h1, Rs.bind_ok, compL_all g h2]
  simp only [Rs.noexc_ok, Rs.bind_ok, List.length_map, h3, if_true]
theorem ev_comp_bools {T : Tb} {elt : Ex} {tg : Tg} {it : Itb} {ifs : Exo} {own : List Nat} {ρ ρ1 : Rho} {items : List PyData} (g : PyData → Bool) (h1 : evI T it ρ = .ok items ρ1) (h2 : ∀ x ∈ items, turn T elt tg ifs own x (wipeR ρ1 own) = .ok (some (.bool (g x))) (wipeR ρ1 own)) (h3 : items.length ≤ lim) :
    evE T (.comp elt tg it ifs own) ρ = .ok (.val (.lst (items.map fun x => .bool (g x)))) (unwipe ρ1 own (wipeR ρ1 own)) := ev_comp_all (fun x => .bool (g x)) h1 h2 h3
theorem ev_comp_some {T : Tb} {elt : Ex} {tg : Tg} {it : Itb} {ifs : Exo} {own : List Nat} {ρ ρ1 : Rho} {items : List PyData} (g : PyData → Option PyData) (h1 : evI T it ρ = .ok items ρ1) (h2 : ∀ x ∈ items, turn T elt tg ifs own x (wipeR ρ1 own) = .ok (g x) (wipeR ρ1 own)) (h3 : items.length ≤ lim) :
    evE T (.comp elt tg it ifs own) ρ = .ok (.val (.lst (items.filterMap g))) (unwipe ρ1 own (wipeR ρ1 own)) := by
  rw [ev_comp, h1, Rs.bind_ok, compL_map g h2]
  have := List.length_filterMap_le g items
  simp only [Rs.noexc_ok, Rs.bind_ok, Nat.le_trans this h3, if_true]
/-! data of so many layers -/
def flatD : Nat → PyData → Bool
  | _, .int _ => true
  | _, .bool _ => true
  | _, .none => true
  | n + 1, .tuple xs => xs.all (flatD n)
  | n + 1, .list xs => xs.all (flatD n)
  | _, _ => false
theorem flat_lay : ∀ (n : Nat) (d : PyData), flatD n d = true → d.canLay0 = true ∧ d.depth ≤ n
  | n, .int _, _ => ⟨by rw [PyData.canLay0], by rw [PyData.depth]; omega⟩
  | n, .bool _, _ => ⟨by rw [PyData.canLay0], by rw [PyData.depth]; omega⟩
  | n, .none, _ => ⟨by rw [PyData.canLay0], by rw [PyData.depth]; omega⟩
  | 0, .tuple _, h => by cases h
  | 0, .list _, h => by cases h
  | 0, .str _, h => by cases h
  | 0, .dict _, h => by cases h
  | _ + 1, .str _, h => by cases h
  | _ + 1, .dict _, h => by cases h
  | n + 1, .tuple xs, h => by
    have h : xs.all (flatD n) = true := h
    have key : ∀ ys : List PyData, (∀ y ∈ ys, flatD n y = true) → PyData.canLayAll0 ys = true ∧ PyData.depthAll ys ≤ n := by
      intro ys
      induction ys with
      | nil => intro _; exact ⟨by rw [PyData.canLayAll0], by rw [PyData.depthAll]; omega⟩
      | cons y ys ih =>
        intro h
        have a := flat_lay n y (h y (by simp))
        have b := ih fun z hz => h z (by simp [hz])
        rw [PyData.canLayAll0, PyData.depthAll]
        exact ⟨by rw [a.1, b.1]; rfl, by have := a.2; have := b.2; omega⟩
    have := key xs (List.all_eq_true.mp h)
    rw [PyData.canLay0, PyData.depth]
    exact ⟨this.1, by omega⟩
  | n + 1, .list xs, h => by
    have h : xs.all (flatD n) = true := h
    have key : ∀ ys : List PyData, (∀ y ∈ ys, flatD n y = true) → PyData.canLayAll0 ys = true ∧ PyData.depthAll ys ≤ n := by
      intro ys
      induction ys with
      | nil => intro _; exact ⟨by rw [PyData.canLayAll0], by rw [PyData.depthAll]; omega⟩
      | cons y ys ih =>
        intro h
        have a := flat_lay n y (h y (by simp))
        have b := ih fun z hz => h z (by simp [hz])
        rw [PyData.canLayAll0, PyData.depthAll]
        exact ⟨by rw [a.1, b.1]; rfl, by have := a.2; have := b.2; omega⟩
    have := key xs (List.all_eq_true.mp h)
    rw [PyData.canLay0, PyData.depth]
    exact ⟨this.1, by omega⟩
theorem flat_shaped {n : Nat} {d : PyData} (h : flatD n d = true) (hn : n ≤ 64) : SeqAt.shaped d = true := by
  obtain ⟨a, b⟩ := flat_lay n d h
  unfold SeqAt.shaped
  rw [a, decide_eq_true (Nat.le_trans b hn)]
  rfl
theorem eqOk_flat {n m : Nat} {a b : PyData} (ha : flatD n a = true) (hb : flatD m b = true) (hn : n ≤ 64) (hm : m ≤ 64) : eqOk a b = true := by
  unfold eqOk
  rw [flat_shaped ha hn, flat_shaped hb hm]
  rfl
theorem cmp_eq_flat {n m : Nat} {a b : PyData} (ha : flatD n a = true) (hb : flatD m b = true) (hn : n ≤ 64) (hm : m ≤ 64) : cmpop .eq a b = some (PyData.eqv a b) := by
  show (if eqOk a b then some (PyData.eqv a b) else none) = _
  rw [if_pos (eqOk_flat ha hb hn hm)]
theorem cmp_ne_flat {n m : Nat} {a b : PyData} (ha : flatD n a = true) (hb : flatD m b = true) (hn : n ≤ 64) (hm : m ≤ 64) : cmpop .ne a b = some (!PyData.eqv a b) := by
  show (if eqOk a b then some (!PyData.eqv a b) else none) = _
  rw [if_pos (eqOk_flat ha hb hn hm)]
end BP
end

section
/-! Bp19: from a head's facts to the defs' promises; the end of a law. -/
namespace BP
open PySem PySem.Spec PyProof.Rows L2
section
variable {P : Program} {w : World} {K : PySem.W.Frag} {mg : Str → Option Value} {base : Heap} {xc : Nat → Value}
inductive CallsL (P : Program) (w : World) (K : PySem.W.Frag) (mg : Str → Option Value) (base : Heap) (xc : Nat → Value) (k : Nat) : List (Str × Nat) → List Fden → Prop
  | nil : CallsL P w K mg base xc k [] []
  | cons {x : Str} {np k' : Nat} {F : Fden} {fns : List (Str × Nat)} {Fs : List Fden} : Callee P w K mg base xc k' x np F → k' ≤ k → CallsL P w K mg base xc k fns Fs → CallsL P w K mg base xc k ((x, np) :: fns) (F :: Fs)
theorem CallsL.get {k : Nat} : ∀ {fns : List (Str × Nat)} {Fs : List Fden}, CallsL P w K mg base xc k fns Fs → ∀ (j : Nat) (F : Fden), Fs[j]? = some F → ∃ x np, fns[j]? = some (x, np) ∧ Callee P w K mg base xc k x np F
  | _, _, .nil, j, F, h => by simp at h
  | _, _, .cons c hk r, 0, F, h => by
    simp at h
    subst h
    exact ⟨_, _, rfl, c.mono hk⟩
  | _, _, .cons c hk r, j + 1, F, h => by
    obtain ⟨x, np, h1, h2⟩ := CallsL.get r j F (by simpa using h)
    exact ⟨x, np, by simpa using h1, h2⟩
inductive ConsL (K : PySem.W.Frag) (mg : Str → Option Value) : List Str → List PyData → Prop
  | nil : ConsL K mg [] []
  | cons {x : Str} {d : PyData} {xs : List Str} {ds : List PyData} : ConsOk K mg x d → ConsL K mg xs ds → ConsL K mg (x :: xs) (d :: ds)
theorem ConsL.get : ∀ {xs : List Str} {ds : List PyData}, ConsL K mg xs ds → ∀ (j : Nat) (d : PyData), ds[j]? = some d → ∃ x, xs[j]? = some x ∧ ConsOk K mg x d
  | _, _, .nil, j, d, h => by simp at h
  | _, _, .cons c r, 0, d, h => by
    simp at h
    subst h
    exact ⟨_, rfl, c⟩
  | _, _, .cons c r, j + 1, d, h => by
    obtain ⟨x, h1, h2⟩ := ConsL.get r j d (by simpa using h)
    exact ⟨x, by simpa using h1, h2⟩
inductive MethsL (P : Program) (w : World) (K : PySem.W.Frag) (mg : Str → Option Value) (base : Heap) (xc : Nat → Value) (k : Nat) : List (Str × Str × Nat) → List (Str × Fden) → Prop
  | nil : MethsL P w K mg base xc k [] []
  | cons {cl m : Str} {np k' : Nat} {F : Fden} {ms : List (Str × Str × Nat)} {Fs : List (Str × Fden)} : CalleeM P w K mg base xc k' cl m np F → k' ≤ k → MethsL P w K mg base xc k ms Fs → MethsL P w K mg base xc k ((cl, m, np) :: ms) ((cl, F) :: Fs)
theorem CalleeM.mono {k k' : Nat} {cl m : Str} {np : Nat} {F : Fden} (h : CalleeM P w K mg base xc k cl m np F) (hk : k ≤ k') : CalleeM P w K mg base xc k' cl m np F := by
  obtain ⟨f, fd, ps, j, a, b⟩ := h
  exact ⟨f, fd, ps, j, Nat.le_trans a hk, b⟩
theorem CalleeN.mono {k k' : Nat} {cl : Str} {np : Nat} {F : Fden} (h : CalleeN P w K mg base xc k cl np F) (hk : k ≤ k') : CalleeN P w K mg base xc k' cl np F := by
  obtain ⟨f, fd, ps, j, a, b⟩ := h
  exact ⟨f, fd, ps, j, Nat.le_trans a hk, b⟩
theorem MethsL.get {k : Nat} : ∀ {ms : List (Str × Str × Nat)} {Fs : List (Str × Fden)}, MethsL P w K mg base xc k ms Fs → ∀ (j : Nat) (cl : Str) (F : Fden), Fs[j]? = some (cl, F) → ∃ m np, ms[j]? = some (cl, m, np) ∧ CalleeM P w K mg base xc k cl m np F
  | _, _, .nil, j, cl, F, h => by simp at h
  | _, _, .cons c hk r, 0, cl, F, h => by
    simp at h
    obtain ⟨rfl, rfl⟩ := h
    exact ⟨_, _, rfl, c.mono hk⟩
  | _, _, .cons c hk r, j + 1, cl, F, h => by
    obtain ⟨m, np, h1, h2⟩ := MethsL.get r j cl F (by simpa using h)
    exact ⟨m, np, by simpa using h1, h2⟩
inductive NewsL (P : Program) (w : World) (K : PySem.W.Frag) (mg : Str → Option Value) (base : Heap) (xc : Nat → Value) (k : Nat) : List (Str × Nat) → List (Str × Fden) → Prop
  | nil : NewsL P w K mg base xc k [] []
  | cons {cl : Str} {np k' : Nat} {F : Fden} {ms : List (Str × Nat)} {Fs : List (Str × Fden)} : CalleeN P w K mg base xc k' cl np F → k' ≤ k → NewsL P w K mg base xc k ms Fs → NewsL P w K mg base xc k ((cl, np) :: ms) ((cl, F) :: Fs)
theorem NewsL.get {k : Nat} : ∀ {ms : List (Str × Nat)} {Fs : List (Str × Fden)}, NewsL P w K mg base xc k ms Fs → ∀ (j : Nat) (cl : Str) (F : Fden), Fs[j]? = some (cl, F) → ∃ np, ms[j]? = some (cl, np) ∧ CalleeN P w K mg base xc k cl np F
  | _, _, .nil, j, cl, F, h => by simp at h
  | _, _, .cons c hk r, 0, cl, F, h => by
    simp at h
    obtain ⟨rfl, rfl⟩ := h
    exact ⟨_, rfl, c.mono hk⟩
  | _, _, .cons c hk r, j + 1, cl, F, h => by
    obtain ⟨np, h1, h2⟩ := NewsL.get r j cl F (by simpa using h)
    exact ⟨np, by simpa using h1, h2⟩
inductive FldsL (K : PySem.W.Frag) : List (Str × Str) → Prop
  | nil : FldsL K []
  | cons {cl x : Str} {l : List (Str × Str)} : NoAttr K (He.ga K cl) x → FldsL K l → FldsL K ((cl, x) :: l)
theorem FldsL.get : ∀ {l : List (Str × Str)}, FldsL K l → ∀ cl x, l.contains (cl, x) = true → NoAttr K (He.ga K cl) x
  | _, .nil, cl, x, h => by simp at h
  | _, .cons (cl := c0) (x := x0) a r, cl, x, h => by
    rw [List.contains_cons, Bool.or_eq_true] at h
    rcases h with h | h
    · have : (cl, x) = (c0, x0) := by simpa using h
      cases this
      exact a
    · exact FldsL.get r cl x h
/-- a def as the head tells it -/
def dd (x : Str) (st : Stmt) : He.DefD := ⟨(x, none), x, x, defArgs st, defBody st, defScope st, [], []⟩
theorem callee_mk {fa : List He.Fa} {fn : List He.DefD} {h : Heap} {x : Str} {st : Stmt} {N ps : List Str} {k np n : Nat} {T : Tb} {fns : List (Str × Nat)} {cons : List Str} {asg live : List Nat} {mts : List (Str × Str × Nat)} {nws : List (Str × Nat)} {ir : Sxs} (X : K.In h) (G : h.Ns mainGlobals mg) (c : He.SaysD fa fn K) (hd : dd x st ∈ fn) (hg : He.Fa.glo x ∈ fa)
    (S : FnScope N ps (defScope st)) (hps : ps.length = np) (hir : trSs n ⟨N, defScope st, fun _ => true, fns, cons, asg, live, mts, nws⟩ (defBody st) = ir)
    (hb : ∀ (kV doc pm : Value) (an : Option Addr) (cdv ct : Value) (us : List Value), us.length = ps.length → bindArgs (PySem.W.fnOf x x (defArgs st) (defBody st) (defScope st) .none kV doc pm an cdv ct) ⟨us, []⟩ = pure (ps.zip us))
    (blt : ∀ x ∈ bltNames, mg x = none) (calls : CallsL P w K mg base xc k fns T.fns) (hcons : ConsL K mg cons T.cons) (hme : MethsL P w K mg base xc k mts T.meths) (hnw : NewsL P w K mg base xc k nws T.news) (hfl : FldsL K T.flds) : Callee P w K mg base xc (k + 1) x np (evF T ⟨np, N.length, ir⟩) := by
  obtain ⟨fd, F⟩ := c.defs hd
  have F' : Fun K x x st (He.fAd K (x, none)) fd := He5.fun_of F
  have hm : mg x = some (.ref (He.fAd K (x, none))) := He.glo_ok X G (c.facts hg)
  exact callee_of F' (fn_sound F' S hps calls.get hcons.get blt hme.get hnw.get hfl.get hir) hm (F'.binds hb)
theorem fn_mk {x : Str} {st : Stmt} {N ps : List Str} {k np n : Nat} {T : Tb} {fns : List (Str × Nat)} {cons : List Str} {asg live : List Nat} {mts : List (Str × Str × Nat)} {nws : List (Str × Nat)} {ir : Sxs} {fd : FuncData} (F : FunD K x x (defArgs st) (defBody st) (defScope st) [] [] (He.fAd K (x, none)) fd)
    (S : FnScope N ps (defScope st)) (hps : ps.length = np) (hir : trSs n ⟨N, defScope st, fun _ => true, fns, cons, asg, live, mts, nws⟩ (defBody st) = ir)
    (blt : ∀ x ∈ bltNames, mg x = none) (calls : CallsL P w K mg base xc k fns T.fns) (hcons : ConsL K mg cons T.cons) (hme : MethsL P w K mg base xc k mts T.meths) (hnw : NewsL P w K mg base xc k nws T.news) (hfl : FldsL K T.flds) : FnOk P w K mg base (CX P w) (k + 1) (He.fAd K (x, none)) fd ps (spD K xc np (evF T ⟨np, N.length, ir⟩)) :=
  fn_sound (He5.fun_of F) S hps calls.get hcons.get blt hme.get hnw.get hfl.get hir
/-- a method as the head tells it -/
def dm (cl m q : Str) (st : Stmt) : He.DefD := ⟨(cl, some m), m, q, defArgs st, defBody st, defScope st, [], []⟩
theorem methM_mk {fa : List He.Fa} {fn : List He.DefD} {cl m q : Str} {st : Stmt} {N ps : List Str} {k np n : Nat} {T : Tb} {fns : List (Str × Nat)} {cons : List Str} {asg live : List Nat} {mts : List (Str × Str × Nat)} {nws : List (Str × Nat)} {ir : Sxs} (c : He.SaysD fa fn K) (hd : dm cl m q st ∈ fn)
    (S : FnScope N ps (defScope st)) (hps : ps.length = np) (hir : trSs n ⟨N, defScope st, fun _ => true, fns, cons, asg, live, mts, nws⟩ (defBody st) = ir)
    (hb : ∀ (kV doc pm : Value) (an : Option Addr) (cdv ct : Value) (us : List Value), us.length = ps.length → bindArgs (PySem.W.fnOf m q (defArgs st) (defBody st) (defScope st) .none kV doc pm an cdv ct) ⟨us, []⟩ = pure (ps.zip us))
    (blt : ∀ x ∈ bltNames, mg x = none) (calls : CallsL P w K mg base xc k fns T.fns) (hcons : ConsL K mg cons T.cons) (hme : MethsL P w K mg base xc k mts T.meths) (hnw : NewsL P w K mg base xc k nws T.news) (hfl : FldsL K T.flds) :
    ∃ fd, FnOk P w K mg base (CX P w) (k + 1) (He.ma K (He.ga K cl) m) fd ps (spD K xc np (evF T ⟨np, N.length, ir⟩)) ∧ Binds K fd ps [] := by
  obtain ⟨fd, F⟩ := c.defs hd
  have F' : Fun K m q st (He.ma K (He.ga K cl) m) fd := He5.fun_of F
  exact ⟨fd, fn_sound F' S hps calls.get hcons.get blt hme.get hnw.get hfl.get hir, F'.binds hb⟩
theorem calleeM_of {fa : List He.Fa} {fn : List He.DefD} {k : Nat} {cl m : Str} {np : Nat} {F : Fden} {ps : List Str} (c : He.SaysD fa fn K) (h : ∃ fd, FnOk P w K mg base (CX P w) k (He.ma K (He.ga K cl) m) fd ps (spD K xc np F) ∧ Binds K fd ps []) (h1 : He.Fa.cls cl ∈ fa) (h2 : He.Fa.meth cl m ∈ fa) : CalleeM P w K mg base xc k cl m np F := by
  obtain ⟨fd, ok, b⟩ := h
  exact ⟨_, fd, ps, k, Nat.le_refl _, ok, He.cls_ok (c.facts h1), He.meth_ok (c.facts h2), b⟩
theorem calleeN_of {fa : List He.Fa} {fn : List He.DefD} {h0 : Heap} {k : Nat} {cl : Str} {np : Nat} {F : Fden} {ps : List Str} (X : K.In h0) (G : h0.Ns mainGlobals mg) (c : He.SaysD fa fn K) (h : ∃ fd, FnOk P w K mg base (CX P w) k (He.ma K (He.ga K cl) "__init__") fd ps (spD K xc np F) ∧ Binds K fd ps []) (h1 : He.Fa.cls cl ∈ fa) (h2 : He.Fa.mkr cl ∈ fa) (h3 : He.Fa.glo cl ∈ fa) : CalleeN P w K mg base xc (k + 1) cl np F := by
  obtain ⟨fd, ok, b⟩ := h
  exact ⟨_, fd, ps, k, Nat.le_refl _, ok, He.cls_ok (c.facts h1), He.mkr_ok (c.facts h2), He.glo_ok X G (c.facts h3), b⟩
end
/-- the module's names that a text may call are the built-ins' -/
def freeB : List He.Fa := bltNames.map .free
/-- no list is written -/
def noLst (K : PySem.W.Frag) : Bool := K.all fun p => match p.2.cls with
  | .type c => decide (c ≠ "list")
  | _ => true
theorem noLst_ok {K : PySem.W.Frag} (h : noLst K = true) {a : Addr} {o : Obj} (e : K.lookup a = some o) (q : o.cls = .type "list") : False := by
  unfold noLst at h
  have : (a, o) ∈ K := by
    induction K with
    | nil => cases e
    | cons p r ih =>
      obtain ⟨b, ob⟩ := p
      simp only [List.lookup] at e
      split at e
      · rename_i hb
        have hb : a = b := by simpa using hb
        cases e
        subst hb
        simp
      · simp only [List.all_cons, Bool.and_eq_true] at h
        exact List.mem_cons_of_mem _ (ih h.2 e)
  have := List.all_eq_true.mp h _ this
  simp only [q] at this
  simp at this
theorem dqAll_ints {K : PySem.W.Frag} {G : Hp} : ∀ ns : List Int, DqAll K G (ns.map V.int) (ns.map PyData.int)
  | [] => .nil
  | n :: ns => .cons (.int n) (dqAll_ints ns)
/-- the law's promise from what it is worth -/
theorem law_sp {K : PySem.W.Frag} {xc : Nat → Value} {F : Fden} {H : Hp} {a : Addr} {ns : List Int} (hK : noLst K = true) (hS : SqL K H a (ns.map V.int)) (hF : ∃ cs, F [.imm (.list (ns.map .int))] = .ok (.imm (.bool true)) cs) :
    spD K xc 1 F [.ref a] H (fun v _ => v = .bl true) fun _ _ _ => False := by
  obtain ⟨cs, hF⟩ := hF
  refine ⟨rfl, [.imm (.list (ns.map .int))], [], rfl, ?_, ?_⟩
  · rcases hS with r | ⟨o, its, n, e, q, _⟩
    · exact ⟨H, Same.refl _, fun _ => none, [[]], .cons ⟨rfl, .lst r (dqAll_ints ns)⟩ .nil, by simp, fun _ _ h => by simp at h, fun _ _ h => by simp at h, by simp⟩
    · exact (noLst_ok hK e q).elim
  · rw [hF]
    intro _ v H' hR
    obtain ⟨G, g⟩ := hR
    have := g.imm
    cases this
    rfl
theorem CX_no {P : Program} {w : World} (H : Hp) (s : Shared) (e : Value) (s' : Shared) (h : CX P w [] H s (fun _ _ _ => False) e s') : False := by
  obtain ⟨_, _, _, _, _, _, _, _, _, _, _, _, z⟩ := h
  exact z
/-- the end of a law, by what it is worth -/
theorem walk_end {l : PySem.W.OpenLaw} {n k : Nat} {q : Program} {loose : List Str} {XP : (Str → Option Value) → Heap → Prop} {YP : World → Heap → Prop} {d : DefRec} {x : Str}
    (hn : l.most = some n) (hn2 : n ≤ sizeLine) (hdf : d.params.defaults = []) (hr : Room k callerA)
    (F : ∀ (w : World) (mg : Str → Option Value) (fa : Addr) (h : Heap), YP w h → h.Ns mainGlobals mg → mg d.name = some (.ref fa) →
      ∃ (K : PySem.W.Frag) (fd : FuncData) (sp : Sp), K.In h ∧ (∀ (s : Shared) (u : Value), BindsTo s fd ⟨[u], []⟩ [(x, u)]) ∧
        (∀ (H : Hp) (a : Addr) (ns : List Int), ns.length ≤ n → Only H → SqL K H a (ns.map V.int) → sp [.ref a] H (fun v _ => v = .bl true) fun _ _ _ => False) ∧
        ∀ base : Heap, K.In base → base.Ns mainGlobals mg → FnOk l.prog w K mg base (CX l.prog w) k fa fd [x] sp) :
    PySem.W.WalkO q loose XP YP l.row.toRowW d [] (fun f vs => PySem.call f vs) := by
  refine Att.attach_call hn hdf fun w s₀ s₁ mg mb fa o pm cd doc a vs ns G Y ho hd hcd hmg hobj hints hlen hg => ?_
  obtain ⟨K, fd, sp, KX, hb, hsp, hF⟩ := F w mg fa _ Y G.T.g hmg
  exact law_call KX G.T.g G.T.b G.T.builtins G.T.nolimit hg hobj hints (Nat.le_trans hlen hn2) hr hF hb (fun H hO hS => hsp H a ns hlen hO hS) fun H e s' => CX_no H s₁ e s'
end BP
end

section
/-! Bp20: the module's constants. -/
namespace BP
open PySem PySem.Spec PyProof.Rows L2
def intsM : List Value → List PyData → Bool
  | [], [] => true
  | .int i _ :: us, .int j :: ds => decide (i = j) && intsM us ds
  | _, _ => false
theorem intsM_ok {K : PySem.W.Frag} : ∀ {us : List Value} {ds : List PyData}, intsM us ds = true → ∃ vs, Vals vs us ∧ ∀ G, DqAll K G vs ds
  | [], [], _ => ⟨[], .nil, fun _ => .nil⟩
  | .int i t :: us, .int j :: ds, h => by
    simp only [intsM, Bool.and_eq_true, decide_eq_true_eq] at h
    obtain ⟨vs, h1, h2⟩ := intsM_ok (K := K) h.2
    obtain ⟨rfl, _⟩ := h
    exact ⟨.int i :: vs, .cons ⟨t, rfl⟩ h1, fun G => .cons (.int i) (h2 G)⟩
/-- a tuple of ints stands at a: o -/
def tupB (o : Obj) (ds : List PyData) : Bool := match o.cls with
  | .type c => decide (c = "tuple") && (match o.data with
    | .seq its _ => decide (its.size ≤ 1000) && intsM its.toList ds
    | _ => false)
  | _ => false
def conB (K : PySem.W.Frag) (x : Str) (d : PyData) : Bool := match PySem.W.nsIn K mainGlobals x with
  | some (some (.ref a)) => (match K.lookup a with
    | some o => (match d with
      | .tuple ds => tupB o ds
      | _ => false)
    | none => false)
  | some (some (.int i _)) => (match d with
    | .int j => decide (i = j)
    | _ => false)
  | some (some (.str y _)) => (match d with
    | .str z => decide (y = z)
    | _ => false)
  | _ => false
theorem con_ok {K : PySem.W.Frag} {h : Heap} {mg : Str → Option Value} (X : K.In h) (G : h.Ns mainGlobals mg) {x : Str} {d : PyData} (c : conB K x d = true) : ConsOk K mg x d := by
  unfold conB at c
  split at c
  · rename_i a e
    have hm := PySem.W.mg_of X G e
    split at c
    · rename_i o eo
      split at c
      · rename_i ds
        unfold tupB at c
        split at c
        · rename_i cl ec
          split at c
          · rename_i its n ed
            simp only [Bool.and_eq_true, decide_eq_true_eq] at c
            obtain ⟨rfl, c1, c2⟩ := c
            obtain ⟨vs, h1, h2⟩ := intsM_ok (K := K) c2
            exact ⟨.ref a, .ref a, hm, rfl, fun G => .tup (.inr ⟨o, its, n, eo, ec, ed, Nat.le_trans c1 (by decide), h1⟩) (h2 G)⟩
          · simp at c
        · cases c
      · cases c
    · cases c
  · rename_i i t e
    have hm := PySem.W.mg_of X G e
    split at c
    · rename_i j
      have : i = j := of_decide_eq_true c
      subst this
      exact ⟨.int i, .int i t, hm, ⟨t, rfl⟩, fun G => .int i⟩
    · cases c
  · rename_i y t e
    have hm := PySem.W.mg_of X G e
    split at c
    · rename_i z
      have : y = z := of_decide_eq_true c
      subst this
      exact ⟨.str y, .str y t, hm, ⟨t, rfl⟩, fun G => .str y⟩
    · cases c
  · cases c
/-- no list is written, and the constants stand -/
def exC (cl : List (Str × PyData)) (K : PySem.W.Frag) : Bool := noLst K && cl.all fun p => conB K p.1 p.2
theorem exC_no {cl : List (Str × PyData)} {K : PySem.W.Frag} (h : exC cl K = true) : noLst K = true := (Bool.and_eq_true _ _ ▸ h).1
theorem exC_con {cl : List (Str × PyData)} {K : PySem.W.Frag} {hp : Heap} {mg : Str → Option Value} (X : K.In hp) (G : hp.Ns mainGlobals mg) (h : exC cl K = true) (i : Nat) {x : Str} {d : PyData} (e : cl[i]? = some (x, d)) : ConsOk K mg x d := by
  unfold exC at h
  rw [Bool.and_eq_true] at h
  exact con_ok X G (List.all_eq_true.mp h.2 _ (List.mem_of_getElem? e))
end BP
end

section
/-! Bq1: loops over things that are written as data. -/
namespace BP
open PySem
section
variable {α β : Type} {b : PyData → Rho → Rs Fl}
/-- a loop that carries a state -/
theorem forL_fold (enc : α → PyData) (R : β → Rho) (step : β → α → β) (P : β → Prop) : ∀ {as : List α}, (∀ a ∈ as, ∀ s, P s → b (enc a) (R s) = .ok .next (R (step s a)) ∧ P (step s a)) → ∀ {s : β}, P s → forL b (as.map enc) (R s) = .ok .next (R (as.foldl step s)) ∧ P (as.foldl step s)
  | [], _, s, h => ⟨rfl, h⟩
  | a :: as, hb, s, h => by
    obtain ⟨e1, h1⟩ := hb a (by simp) s h
    obtain ⟨e2, h2⟩ := forL_fold enc R step P (as := as) (fun y hy => hb y (by simp [hy])) h1
    refine ⟨?_, h2⟩
    rw [List.map_cons]
    unfold forL
    rw [e1]
    exact e2
/-- .. that adds to a list -/
theorem forL_acc (enc : α → PyData) (R : List PyData → Rho) (g : α → List PyData) (c : Nat) : ∀ {as : List α}, (∀ a ∈ as, (g a).length ≤ c) → (∀ a ∈ as, ∀ acc : List PyData, acc.length + c ≤ lim → b (enc a) (R acc) = .ok .next (R (acc ++ g a))) → ∀ {acc : List PyData}, acc.length + c * as.length ≤ lim → forL b (as.map enc) (R acc) = .ok .next (R (acc ++ as.flatMap g))
  | [], _, _, acc, _ => by simp [forL]
  | a :: as, hc, hb, acc, h => by
    have h1 : c * (a :: as).length = c * as.length + c := by rw [List.length_cons, Nat.mul_succ]
    rw [h1] at h
    have e1 := hb a (by simp) acc (by omega)
    have ha := hc a (by simp)
    have e2 := forL_acc enc R g c (as := as) (fun y hy => hc y (by simp [hy])) (fun y hy => hb y (by simp [hy])) (acc := acc ++ g a) (by rw [List.length_append]; omega)
    rw [List.map_cons]
    unfold forL
    rw [e1, List.flatMap_cons, ← List.append_assoc]
    exact e2
/-- .. that looks for something -/
theorem forL_find (enc : α → PyData) {ρ : Rho} (g : α → Option Cn) : ∀ {as : List α}, (∀ a ∈ as, b (enc a) ρ = .ok (match g a with | some c => .ret c | none => .next) ρ) → forL b (as.map enc) ρ = .ok (match as.findSome? g with | some c => .ret c | none => .next) ρ
  | [], _ => rfl
  | a :: as, h => by
    rw [List.map_cons]
    unfold forL
    rw [h a (by simp), List.findSome?_cons]
    cases g a with
    | some c => rfl
    | none => exact forL_find enc g fun y hy => h y (by simp [hy])
/-- .. that ends with one answer if something is there -/
theorem forL_any (enc : α → PyData) {ρ : Rho} (c : Cn) (g : α → Bool) {as : List α} (h : ∀ a ∈ as, b (enc a) ρ = .ok (if g a then .ret c else .next) ρ) : forL b (as.map enc) ρ = .ok (if as.any g then .ret c else .next) ρ := by
  rw [forL_find enc (fun a => if g a then some c else none) fun a ha => by rw [h a ha]; cases g a <;> rfl]
  congr 1
  induction as with
  | nil => rfl
  | cons a as ih =>
    rw [List.findSome?_cons, List.any_cons]
    cases hg : g a with
    | true => simp
    | false => simpa using ih fun y hy => h y (by simp [hy])
end
/-- things with their places, as data -/
def encIx {α : Type} (enc : α → PyData) (p : α × Nat) : PyData := .tuple [.int (p.2 : Int), enc p.1]
theorem enumL_map {α : Type} (enc : α → PyData) : ∀ (k : Nat) (xs : List α), enumL k (xs.map enc) = (xs.zipIdx k).map (encIx enc)
  | _, [] => rfl
  | k, x :: xs => by
    rw [List.map_cons, enumL_cons, List.zipIdx_cons, List.map_cons, enumL_map enc (k + 1) xs]
    rfl
theorem mem_zipIdx_lt {α : Type} {xs : List α} {p : α × Nat} (h : p ∈ xs.zipIdx) : p.2 < xs.length ∧ xs[p.2]? = some p.1 := by
  have := List.mem_zipIdx h
  obtain ⟨h1, h2, h3⟩ := this
  have hl : p.2 < xs.length := by omega
  refine ⟨hl, ?_⟩
  rw [List.getElem?_eq_getElem hl]
  simpa using h3.symm
theorem rangeL_map (lo : Int) (n : Nat) : rangeL lo n = (List.range n).map fun (k : Nat) => .int (lo + (k : Int)) := rfl
/-- a comprehension over things that are written as data -/
theorem ev_comp_enc {α : Type} {T : Tb} {elt : Ex} {tg : Tg} {it : Itb} {ifs : Exo} {own : List Nat} {ρ ρ1 : Rho} (enc : α → PyData) (as : List α) (g : α → Option PyData) (h1 : evI T it ρ = .ok (as.map enc) ρ1) (h2 : ∀ a ∈ as, turn T elt tg ifs own (enc a) (wipeR ρ1 own) = .ok (g a) (wipeR ρ1 own)) (h3 : as.length ≤ lim) :
    evE T (.comp elt tg it ifs own) ρ = .ok (.val (.lst (as.filterMap g))) (unwipe ρ1 own (wipeR ρ1 own)) := by
  have key : ∀ (l : List α) (ρ : Rho), (∀ a ∈ l, turn T elt tg ifs own (enc a) ρ = .ok (g a) ρ) → compL (turn T elt tg ifs own) (l.map enc) ρ = .ok (l.filterMap g) ρ := by
    intro l ρ
    induction l with
    | nil => intro _; rfl
    | cons a l ih =>
      intro h
      rw [List.map_cons]
      unfold compL
      rw [h a (by simp), Rs.bind_ok, ih fun y hy => h y (by simp [hy]), Rs.bind_ok, List.filterMap_cons]
      cases g a <;> rfl
  rw [ev_comp, h1, Rs.bind_ok, key as _ h2]
  have := List.length_filterMap_le g as
  simp only [Rs.noexc_ok, Rs.bind_ok, Nat.le_trans this h3, if_true]
theorem ev_comp_encA {α : Type} {T : Tb} {elt : Ex} {tg : Tg} {it : Itb} {ifs : Exo} {own : List Nat} {ρ ρ1 : Rho} (enc : α → PyData) (as : List α) (g : α → PyData) (h1 : evI T it ρ = .ok (as.map enc) ρ1) (h2 : ∀ a ∈ as, turn T elt tg ifs own (enc a) (wipeR ρ1 own) = .ok (some (g a)) (wipeR ρ1 own)) (h3 : as.length ≤ lim) :
    evE T (.comp elt tg it ifs own) ρ = .ok (.val (.lst (as.map g))) (unwipe ρ1 own (wipeR ρ1 own)) := by
  rw [ev_comp_enc enc as (fun a => some (g a)) h1 h2 h3, List.filterMap_eq_map']
/-- the same with one filter -/
theorem ev_comp_encB {α : Type} {T : Tb} {elt : Ex} {tg : Tg} {it : Itb} {ifs : Exo} {own : List Nat} {ρ ρ1 : Rho} (enc : α → PyData) (as : List α) (g : α → Bool) (h1 : evI T it ρ = .ok (as.map enc) ρ1) (h2 : ∀ a ∈ as, turn T elt tg ifs own (enc a) (wipeR ρ1 own) = .ok (some (.bool (g a))) (wipeR ρ1 own)) (h3 : as.length ≤ lim) :
    evE T (.comp elt tg it ifs own) ρ = .ok (.val (.lst (as.map fun a => .bool (g a)))) (unwipe ρ1 own (wipeR ρ1 own)) := ev_comp_encA enc as (fun a => .bool (g a)) h1 h2 h3
/-- a sorted list of things that are written as data -/
theorem sortD_map {α : Type} (enc : α → PyData) (xs : List α) : sortD (xs.map enc) = (xs.mergeSort fun a b => !W.dataLt (enc b) (enc a)).map enc := by
  unfold sortD
  rw [List.map_mergeSort (s := fun a b => !W.dataLt b a) (fun a _ b _ => rfl)]
@[simp] theorem blt_sortL (xs : List PyData) : bltop .sorted [.list xs] = if sortOk xs then some (.lst (sortD xs)) else none := rfl
@[simp] theorem blt_sortT (xs : List PyData) : bltop .sorted [.tuple xs] = if sortOk xs then some (.lst (sortD xs)) else none := rfl
@[simp] theorem blt_maxI (a b : Int) : bltop .max [.int a, .int b] = some (.imm (.int (max a b))) := by
  show some (Cn.imm (.int (if b > a then b else a))) = _
  congr 3
  omega
@[simp] theorem blt_minI (a b : Int) : bltop .min [.int a, .int b] = some (.imm (.int (min a b))) := by
  show some (Cn.imm (.int (if b < a then b else a))) = _
  congr 3
  omega
@[simp] theorem blt_tupL (xs : List PyData) : bltop .tuple [.list xs] = some (.imm (.tuple xs)) := rfl
@[simp] theorem blt_lstT (xs : List PyData) : bltop .list [.tuple xs] = some (.lst xs) := rfl
@[simp] theorem blt_lstL (xs : List PyData) : bltop .list [.list xs] = some (.lst xs) := rfl
/-- rows of ints are alike -/
theorem alike_ints4 (n : Nat) {α : Type} (f : α → List Int) (xs : List α) (h : xs.length ≤ lim) : sortOk (xs.map fun a => .tuple ((f a).map .int)) = true := by
  have key : ∀ (l m : List Int), W.alikeAll (l.map .int) (m.map .int) = true := by
    intro l
    induction l with
    | nil => intro m; cases m <;> rfl
    | cons a l ih =>
      intro m
      cases m with
      | nil => rfl
      | cons b m =>
        show (W.alike (.int a) (.int b) && W.alikeAll (l.map .int) (m.map .int)) = true
        rw [ih m]
        rfl
  have dep : ∀ l : List Int, PyData.depthAll (l.map .int) = 0 := by
    intro l
    induction l with
    | nil => rfl
    | cons a l ih =>
      rw [List.map_cons, PyData.depthAll, ih, PyData.depth]
      rfl
  unfold sortOk
  simp only [List.length_map, decide_eq_true h, Bool.true_and, Bool.and_eq_true, List.all_map, List.all_eq_true]
  refine ⟨⟨fun a _ => List.all_eq_true.mpr fun b _ => ?_, fun a _ => rfl⟩, fun a _ => ?_⟩
  · show W.alikeAll ((f a).map .int) ((f b).map .int) = true
    exact key _ _
  · show decide (PyData.depth (.tuple ((f a).map .int)) ≤ 60) = true
    rw [PyData.depth, dep]
    rfl
end BP
end

section
namespace BP
open PySem
def ir_is_integer : Sxs := (.cons (.ret (.and (.isi (.var 0) .int) (.and (.not (.isi (.var 0) .bool)) (.chain .le .le (.var 1) (.var 0) (.var 2))))) .nil)
noncomputable def F_is_integer : Fden := evF ⟨[], [], [], [], []⟩ ⟨3, 3, ir_is_integer⟩
def ir_is_block : Sxs := (.cons (.ifs (.or (.not (.isi (.var 0) .tuple)) (.or (.cmp .ne (.blt .len (.cons (.var 0) .nil)) (.con (.int 5))) (.not (.call 0 (.cons (.ix (.var 0) (.con (.int 0))) (.cons (.neg (.con (.int 20)))
    (.cons (.con (.int 20)) .nil))))))) (.cons (.ret (.con (.bool false))) .nil) .nil) (.cons (.ifs (.or (.not (.call 0 (.cons (.ix (.var 0) (.con (.int 1))) (.cons (.con (.int 0)) (.cons (.con (.int
    20)) .nil))))) (.not (.call 0 (.cons (.ix (.var 0) (.con (.int 2))) (.cons (.con (.int 1)) (.cons (.con (.int 8)) .nil)))))) (.cons (.ret (.con (.bool false))) .nil) .nil) (.cons (.ret (.and (.call 0
    (.cons (.ix (.var 0) (.con (.int 3))) (.cons (.con (.int 1)) (.cons (.con (.int 4)) .nil)))) (.call 0 (.cons (.ix (.var 0) (.con (.int 4))) (.cons (.con (.int 1)) (.cons (.con (.int 9)) .nil))))))
    .nil)))
noncomputable def F_is_block : Fden := evF ⟨[F_is_integer], [], [], [], []⟩ ⟨1, 1, ir_is_block⟩
def ir_right_of : Sxs := (.cons (.ret (.bin .add (.ix (.var 0) (.con (.int 0))) (.ix (.var 0) (.con (.int 2))))) .nil)
noncomputable def F_right_of : Fden := evF ⟨[], [], [], [], []⟩ ⟨1, 1, ir_right_of⟩
def ir_top_of : Sxs := (.cons (.ret (.bin .add (.ix (.var 0) (.con (.int 1))) (.ix (.var 0) (.con (.int 3))))) .nil)
noncomputable def F_top_of : Fden := evF ⟨[], [], [], [], []⟩ ⟨1, 1, ir_top_of⟩
def ir_share_points : Sxs := (.cons (.set (.one 2) (.and (.cmp .lt (.ix (.var 0) (.con (.int 0))) (.call 0 (.cons (.var 1) .nil))) (.cmp .lt (.ix (.var 1) (.con (.int 0))) (.call 0 (.cons (.var 0) .nil))))) (.cons (.ret (.and
    (.var 2) (.and (.cmp .lt (.ix (.var 0) (.con (.int 1))) (.call 1 (.cons (.var 1) .nil))) (.cmp .lt (.ix (.var 1) (.con (.int 1))) (.call 1 (.cons (.var 0) .nil)))))) .nil))
noncomputable def F_share_points : Fden := evF ⟨[F_right_of, F_top_of], [], [], [], []⟩ ⟨2, 3, ir_share_points⟩
def ex_is_free_c1 : Ex := (.comp (.call 0 (.cons (.var 2) (.cons (.var 3) .nil))) (.one 3) (.seq (.slice (.var 0) .none (.some (.var 1)))) .none [3])
def ir_is_free_b1 : Sxs := (.cons (.ifs (.blt .any (.cons ex_is_free_c1 .nil)) (.cons (.ret (.con (.bool false))) .nil) .nil) .nil)
def ir_is_free : Sxs := (.cons (.forr (.tup [1, 2]) (.enum (.var 0)) ir_is_free_b1 [1, 2]) (.cons (.ret (.con (.bool true))) .nil))
noncomputable def F_is_free : Fden := evF ⟨[F_share_points], [], [], [], []⟩ ⟨1, 4, ir_is_free⟩
def ex_pile_stands_c1 : Ex := (.comp (.call 0 (.cons (.var 1) .nil)) (.one 1) (.seq (.var 0)) .none [1])
def ir_pile_stands : Sxs := (.cons (.ret (.and (.isi (.var 0) .tuple) (.and (.cmp .le (.blt .len (.cons (.var 0) .nil)) (.con (.int 6))) (.and (.blt .all (.cons ex_pile_stands_c1 .nil)) (.call 1 (.cons (.var 0) .nil)))))) .nil)
noncomputable def F_pile_stands : Fden := evF ⟨[F_is_block, F_is_free], [], [], [], []⟩ ⟨1, 2, ir_pile_stands⟩
def ir_is_pile : Sxs := (.cons (.ret (.call 0 (.cons (.var 0) .nil))) .nil)
noncomputable def F_is_pile : Fden := evF ⟨[F_pile_stands], [], [], [], []⟩ ⟨1, 1, ir_is_pile⟩
def ir_law_free_b1 : Sxs := (.cons (.ifs (.and (.cmp .lt (.ix (.var 1) (.con (.int 0))) (.bin .add (.ix (.var 2) (.con (.int 0))) (.ix (.var 2) (.con (.int 2))))) (.cmp .lt (.ix (.var 2) (.con (.int 0))) (.bin .add (.ix (.var 1)
    (.con (.int 0))) (.ix (.var 1) (.con (.int 2)))))) (.cons (.ifs (.and (.cmp .lt (.ix (.var 1) (.con (.int 1))) (.bin .add (.ix (.var 2) (.con (.int 1))) (.ix (.var 2) (.con (.int 3))))) (.cmp .lt
    (.ix (.var 2) (.con (.int 1))) (.bin .add (.ix (.var 1) (.con (.int 1))) (.ix (.var 1) (.con (.int 3)))))) (.cons (.ret (.con (.bool false))) .nil) .nil) .nil) .nil) .nil)
def ir_law_free : Sxs := (.cons (.forr (.one 2) (.seq (.var 0)) ir_law_free_b1 [2]) (.cons (.ret (.con (.bool true))) .nil))
noncomputable def F_law_free : Fden := evF ⟨[], [], [], [], []⟩ ⟨2, 3, ir_law_free⟩
def ir_law_cell_at_b1 : Sxs := (.cons (.set (.one 2) (.bin .fdiv (.var 2) (.con (.int 1000003)))) .nil)
def ir_law_cell_at : Sxs := (.cons (.ifs (.cmp .lt (.var 1) (.blt .len (.cons (.var 0) .nil))) (.cons (.ret (.ix (.var 0) (.var 1))) .nil) .nil) (.cons (.ifs (.cmp .eq (.var 0) (.lst .nil)) (.cons (.ret (.con (.int 0))) .nil)
    .nil) (.cons (.set (.one 2) (.ix (.var 0) (.bin .mod (.var 1) (.blt .len (.cons (.var 0) .nil))))) (.cons (.forr (.one 3) (.rng1 (.blt .min (.cons (.bin .fdiv (.var 1) (.blt .len (.cons (.var 0)
    .nil))) (.cons (.con (.int 60)) .nil)))) ir_law_cell_at_b1 [3]) (.cons (.ret (.bin .add (.bin .add (.bin .mul (.ix (.var 0) (.bin .mod (.var 1) (.blt .len (.cons (.var 0) .nil)))) (.con (.int 31)))
    (.var 1)) (.bin .mul (.var 2) (.con (.int 101))))) .nil)))))
noncomputable def F_law_cell_at : Fden := evF ⟨[], [], [], [], []⟩ ⟨2, 4, ir_law_cell_at⟩
def ir_law_mixed : Sxs := (.cons (.set (.one 3) (.bin .mod (.bin .add (.bin .add (.bin .mul (.call 0 (.cons (.var 0) (.cons (.var 1) .nil))) (.con (.int 1103515245))) (.bin .mul (.con (.int 7919)) (.var 1))) (.con (.int
    12345))) (.con (.int 2147483647)))) (.cons (.ret (.bin .mod (.bin .mod (.bin .mod (.bin .pow (.var 3) (.con (.int 5))) (.con (.int 2147483647))) (.con (.int 999983))) (.var 2))) .nil))
noncomputable def F_law_mixed : Fden := evF ⟨[F_law_cell_at], [], [], [], []⟩ ⟨3, 4, ir_law_mixed⟩
def ir_law_draw : Sxs := (.cons (.app 1 (.con (.int 0))) (.cons (.ret (.call 0 (.cons (.var 0) (.cons (.blt .len (.cons (.var 1) .nil)) (.cons (.var 2) .nil))))) .nil))
noncomputable def F_law_draw : Fden := evF ⟨[F_law_mixed], [], [], [], []⟩ ⟨3, 3, ir_law_draw⟩
def ir_law_pick : Sxs := (.cons (.ret (.ix (.var 2) (.call 0 (.cons (.var 0) (.cons (.var 1) (.cons (.blt .len (.cons (.var 2) .nil)) .nil)))))) .nil)
noncomputable def F_law_pick : Fden := evF ⟨[F_law_draw], [], [], [], []⟩ ⟨3, 3, ir_law_pick⟩
def ir_law_some_block : Sxs := (.cons (.setN [3, 4] (.cons (.bin .add (.con (.int 1)) (.call 0 (.cons (.var 0) (.cons (.var 1) (.cons (.con (.int 7)) .nil))))) (.cons (.bin .add (.con (.int 1)) (.call 0 (.cons (.var 0) (.cons (.var
    1) (.cons (.con (.int 2)) .nil))))) .nil))) (.cons (.setN [5, 6] (.cons (.bin .add (.con (.int 1)) (.call 0 (.cons (.var 0) (.cons (.var 1) (.cons (.con (.int 6)) .nil))))) (.cons (.call 0 (.cons
    (.var 0) (.cons (.var 1) (.cons (.con (.int 9)) .nil)))) .nil))) (.cons (.ifs (.or (.cmp .eq (.var 2) (.tup .nil)) (.cmp .lt (.var 6) (.con (.int 2)))) (.cons (.ret (.tup (.cons (.bin .sub (.call 0
    (.cons (.var 0) (.cons (.var 1) (.cons (.con (.int 15)) .nil)))) (.con (.int 8))) (.cons (.con (.int 0)) (.cons (.var 3) (.cons (.var 4) (.cons (.var 5) .nil))))))) .nil) .nil) (.cons (.set (.one 7)
    (.call 1 (.cons (.var 0) (.cons (.var 1) (.cons (.var 2) .nil))))) (.cons (.set (.one 8) (.bin .add (.bin .add (.bin .sub (.ix (.var 7) (.con (.int 0))) (.var 3)) (.con (.int 1))) (.call 0 (.cons
    (.var 0) (.cons (.var 1) (.cons (.bin .sub (.bin .add (.ix (.var 7) (.con (.int 2))) (.var 3)) (.con (.int 1))) .nil)))))) (.cons (.set (.one 9) (.bin .add (.bin .add (.ix (.var 7) (.con (.int 1)))
    (.ix (.var 7) (.con (.int 3)))) (.ite (.cmp .eq (.var 6) (.con (.int 8))) (.con (.int 1)) (.con (.int 0))))) (.cons (.ret (.tup (.cons (.var 8) (.cons (.var 9) (.cons (.var 3) (.cons (.var 4) (.cons
    (.var 5) .nil))))))) .nil)))))))
noncomputable def F_law_some_block : Fden := evF ⟨[F_law_draw, F_law_pick], [], [], [], []⟩ ⟨3, 10, ir_law_some_block⟩
def ir_law_some_pile_b1 : Sxs := (.cons (.set (.one 5) (.call 0 (.cons (.var 0) (.cons (.var 1) (.cons (.var 3) .nil))))) (.cons (.ifs (.and (.call 1 (.cons (.var 3) (.cons (.var 5) .nil))) (.chain .le .le (.neg (.con (.int 20))) (.ix
    (.var 5) (.con (.int 0))) (.con (.int 20)))) (.cons (.set (.one 3) (.bin .add (.var 3) (.tup (.cons (.var 5) .nil)))) .nil) .nil) .nil))
def ir_law_some_pile : Sxs := (.cons (.set (.one 3) (.tup .nil)) (.cons (.forr (.one 4) (.rng1 (.var 2)) ir_law_some_pile_b1 [4, 5]) (.cons (.ret (.var 3)) .nil)))
noncomputable def F_law_some_pile : Fden := evF ⟨[F_law_some_block, F_law_free], [], [], [], []⟩ ⟨3, 6, ir_law_some_pile⟩
def ex_law_k01_c1 : Ex := (.comp (.tup (.cons (.var 5) .nil)) (.one 5) (.seq (.var 4)) .none [5])
def ex_law_k01_c2 : Ex := (.comp (.cmp .is (.call 1 (.cons (.var 7) .nil)) (.con (.bool true))) (.one 7) (.seq (.var 6)) .none [7])
def ex_law_k01_c3 : Ex := (.comp (.tup (.cons (.bin .mul (.con (.int 3)) (.var 14)) (.cons (.con (.int 0)) (.cons (.con (.int 2)) (.cons (.con (.int 1)) (.cons (.con (.int 1)) .nil)))))) (.one 14) (.rng1 (.con (.int 7))) .none
    [14])
def ex_law_k01_c4 : Ex := (.comp (.call 1 (.cons (.var 7) .nil)) (.one 7) (.seq (.var 3)) .none [7])
def ir_law_k01 : Sxs := (.cons (.set (.one 1) (.lst .nil)) (.cons (.set (.one 2) (.call 0 (.cons (.var 0) (.cons (.var 1) (.cons (.con (.int 6)) .nil))))) (.cons (.ifs (.or (.cmp .nis (.call 1 (.cons (.var 2) .nil)) (.con
    (.bool true))) (.cmp .nis (.call 1 (.cons (.tup .nil) .nil)) (.con (.bool true)))) (.cons (.ret (.con (.bool false))) .nil) .nil) (.cons (.set (.one 3) (.lst (.cons (.blt .list (.cons (.var 2) .nil))
    (.cons (.con .none) (.cons (.con (.int 5)) (.cons (.con (.str "pile")) (.cons (.tup (.cons (.con (.int 5)) .nil)) (.cons (.tup (.cons (.con .none) .nil)) (.cons (.tup (.cons (.tup (.cons (.con (.int
    0)) (.cons (.con (.int 0)) (.cons (.con (.int 1)) (.cons (.con (.int 1)) .nil))))) .nil)) (.cons (.tup (.cons (.lst (.cons (.con (.int 0)) (.cons (.con (.int 0)) (.cons (.con (.int 1)) (.cons (.con
    (.int 1)) (.cons (.con (.int 1)) .nil)))))) .nil)) (.cons (.tup (.cons (.tup (.cons (.con (.int 0)) (.cons (.con (.int 0)) (.cons (.con (.int 1)) (.cons (.con (.int 1)) (.cons (.con (.int 1)) (.cons
    (.con (.int 1)) .nil))))))) .nil)) .nil))))))))))) (.cons (.set (.one 4) (.lst (.cons (.tup (.cons (.neg (.con (.int 21))) (.cons (.con (.int 0)) (.cons (.con (.int 1)) (.cons (.con (.int 1)) (.cons
    (.con (.int 1)) .nil)))))) (.cons (.tup (.cons (.con (.int 21)) (.cons (.con (.int 0)) (.cons (.con (.int 1)) (.cons (.con (.int 1)) (.cons (.con (.int 1)) .nil)))))) (.cons (.tup (.cons (.con (.int
    0)) (.cons (.neg (.con (.int 1))) (.cons (.con (.int 1)) (.cons (.con (.int 1)) (.cons (.con (.int 1)) .nil)))))) (.cons (.tup (.cons (.con (.int 0)) (.cons (.con (.int 21)) (.cons (.con (.int 1))
    (.cons (.con (.int 1)) (.cons (.con (.int 1)) .nil)))))) (.cons (.tup (.cons (.con (.int 0)) (.cons (.con (.int 0)) (.cons (.con (.int 0)) (.cons (.con (.int 1)) (.cons (.con (.int 1)) .nil))))))
    .nil))))))) (.cons (.ext 4 (.lst (.cons (.tup (.cons (.con (.int 0)) (.cons (.con (.int 0)) (.cons (.con (.int 9)) (.cons (.con (.int 1)) (.cons (.con (.int 1)) .nil)))))) (.cons (.tup (.cons (.con
    (.int 0)) (.cons (.con (.int 0)) (.cons (.con (.int 1)) (.cons (.con (.int 0)) (.cons (.con (.int 1)) .nil)))))) (.cons (.tup (.cons (.con (.int 0)) (.cons (.con (.int 0)) (.cons (.con (.int 1))
    (.cons (.con (.int 5)) (.cons (.con (.int 1)) .nil)))))) (.cons (.tup (.cons (.con (.int 0)) (.cons (.con (.int 0)) (.cons (.con (.int 1)) (.cons (.con (.int 1)) (.cons (.con (.int 0)) .nil))))))
    (.cons (.tup (.cons (.con (.int 0)) (.cons (.con (.int 0)) (.cons (.con (.int 1)) (.cons (.con (.int 1)) (.cons (.con (.int 10)) .nil)))))) .nil))))))) (.cons (.ext 4 (.lst (.cons (.tup (.cons (.con
    (.bool true)) (.cons (.con (.int 0)) (.cons (.con (.int 1)) (.cons (.con (.int 1)) (.cons (.con (.int 1)) .nil)))))) (.cons (.tup (.cons (.con (.int 0)) (.cons (.con (.int 0)) (.cons (.con (.int 1))
    (.cons (.con (.int 1)) (.cons (.con .none) .nil)))))) .nil)))) (.cons (.ext 3 ex_law_k01_c1) (.cons (.set (.one 6) (.lst (.cons (.tup (.cons (.tup (.cons (.neg (.con (.int 20))) (.cons (.con (.int
    20)) (.cons (.con (.int 8)) (.cons (.con (.int 4)) (.cons (.con (.int 9)) .nil)))))) .nil)) (.cons (.tup (.cons (.tup (.cons (.con (.int 20)) (.cons (.con (.int 0)) (.cons (.con (.int 1)) (.cons
    (.con (.int 1)) (.cons (.con (.int 1)) .nil)))))) (.cons (.tup (.cons (.con (.int 16)) (.cons (.con (.int 0)) (.cons (.con (.int 4)) (.cons (.con (.int 1)) (.cons (.con (.int 1)) .nil)))))) .nil)))
    .nil)))) (.cons (.app 6 (.tup (.cons (.tup (.cons (.con (.int 0)) (.cons (.con (.int 0)) (.cons (.con (.int 2)) (.cons (.con (.int 2)) (.cons (.con (.int 1)) .nil)))))) (.cons (.tup (.cons (.con
    (.int 2)) (.cons (.con (.int 0)) (.cons (.con (.int 2)) (.cons (.con (.int 2)) (.cons (.con (.int 1)) .nil)))))) (.cons (.tup (.cons (.con (.int 0)) (.cons (.con (.int 2)) (.cons (.con (.int 2))
    (.cons (.con (.int 2)) (.cons (.con (.int 1)) .nil)))))) .nil))))) (.cons (.ifs (.not (.blt .all (.cons ex_law_k01_c2 .nil))) (.cons (.ret (.con (.bool false))) .nil) .nil) (.cons (.ifs (.cmp .ne
    (.var 2) (.tup .nil)) (.cons (.set (.tup [8, 9, 10, 11, 12]) (.ix (.var 2) (.con (.int 0)))) (.cons (.app 3 (.bin .mul (.slice (.var 2) .none (.some (.con (.int 1)))) (.con (.int 2)))) (.cons (.ifs
    (.and (.cmp .gt (.var 10) (.con (.int 1))) (.cmp .gt (.var 8) (.neg (.con (.int 20))))) (.cons (.app 3 (.bin .add (.slice (.var 2) .none (.some (.con (.int 1)))) (.tup (.cons (.tup (.cons (.bin .sub
    (.var 8) (.con (.int 1))) (.cons (.var 9) (.cons (.var 10) (.cons (.var 11) (.cons (.var 12) .nil)))))) .nil)))) .nil) .nil) .nil))) .nil) (.cons (.set (.one 13) (.blt .tuple (.cons ex_law_k01_c3
    .nil))) (.cons (.ret (.and (.cmp .is (.call 1 (.cons (.slice (.var 13) .none (.some (.con (.int 6)))) .nil)) (.con (.bool true))) (.and (.cmp .is (.call 1 (.cons (.var 13) .nil)) (.con (.bool
    false))) (.not (.blt .any (.cons ex_law_k01_c4 .nil)))))) .nil))))))))))))))
noncomputable def F_law_k01 : Fden := evF ⟨[F_law_some_pile, F_is_pile], [], [], [], []⟩ ⟨1, 15, ir_law_k01⟩
end BP
end

section
namespace BP
open PySem
def ir_need_pile : Sxs := (.cons (.ifs (.not (.call 0 (.cons (.var 0) .nil))) (.cons .bad .nil) .nil) .nil)
noncomputable def F_need_pile : Fden := evF ⟨[F_pile_stands], [], [], [], []⟩ ⟨1, 1, ir_need_pile⟩
def ir_all_contacts_b2 : Sxs := (.cons (.setN [6, 7] (.cons (.blt .max (.cons (.ix (.var 3) (.con (.int 0))) (.cons (.ix (.var 5) (.con (.int 0))) .nil))) (.cons (.blt .min (.cons (.call 0 (.cons (.var 3) .nil)) (.cons (.call 0
    (.cons (.var 5) .nil)) .nil))) .nil))) (.cons (.ifs (.and (.cmp .eq (.ix (.var 3) (.con (.int 1))) (.call 1 (.cons (.var 5) .nil))) (.cmp .lt (.var 6) (.var 7))) (.cons (.app 1 (.tup (.cons (.var 4)
    (.cons (.var 2) (.cons (.var 6) (.cons (.var 7) .nil)))))) .nil) .nil) .nil))
def ir_all_contacts_b1 : Sxs := (.cons (.ifs (.cmp .eq (.ix (.var 3) (.con (.int 1))) (.con (.int 0))) (.cons (.app 1 (.tup (.cons (.neg (.con (.int 1))) (.cons (.var 2) (.cons (.ix (.var 3) (.con (.int 0))) (.cons (.call 0 (.cons
    (.var 3) .nil)) .nil)))))) .nil) .nil) (.cons (.forr (.tup [4, 5]) (.enum (.var 0)) ir_all_contacts_b2 [4, 5, 6, 7]) .nil))
def ir_all_contacts : Sxs := (.cons (.set (.one 1) (.lst .nil)) (.cons (.forr (.tup [2, 3]) (.enum (.var 0)) ir_all_contacts_b1 [2, 3, 4, 5, 6, 7]) (.cons (.ret (.blt .sorted (.cons (.var 1) .nil))) .nil)))
noncomputable def F_all_contacts : Fden := evF ⟨[F_right_of, F_top_of], [], [], [], []⟩ ⟨1, 8, ir_all_contacts⟩
def ir_contacts : Sxs := (.cons (.drop (.call 0 (.cons (.var 0) .nil))) (.cons (.ret (.call 1 (.cons (.var 0) .nil))) .nil))
noncomputable def F_contacts : Fden := evF ⟨[F_need_pile, F_all_contacts], [], [], [], []⟩ ⟨1, 1, ir_contacts⟩
def ir_law_contacts_b2 : Sxs := (.cons (.setN [6, 7] (.cons (.blt .max (.cons (.ix (.var 3) (.con (.int 0))) (.cons (.ix (.var 5) (.con (.int 0))) .nil))) (.cons (.blt .min (.cons (.bin .add (.ix (.var 3) (.con (.int 0))) (.ix (.var
    3) (.con (.int 2)))) (.cons (.bin .add (.ix (.var 5) (.con (.int 0))) (.ix (.var 5) (.con (.int 2)))) .nil))) .nil))) (.cons (.ifs (.and (.cmp .eq (.bin .add (.ix (.var 5) (.con (.int 1))) (.ix (.var
    5) (.con (.int 3)))) (.ix (.var 3) (.con (.int 1)))) (.cmp .lt (.var 6) (.var 7))) (.cons (.app 1 (.tup (.cons (.var 4) (.cons (.var 2) (.cons (.var 6) (.cons (.var 7) .nil)))))) .nil) .nil) .nil))
def ir_law_contacts_b1 : Sxs := (.cons (.ext 1 (.ite (.cmp .eq (.ix (.var 3) (.con (.int 1))) (.con (.int 0))) (.lst (.cons (.tup (.cons (.neg (.con (.int 1))) (.cons (.var 2) (.cons (.ix (.var 3) (.con (.int 0))) (.cons (.bin .add
    (.ix (.var 3) (.con (.int 0))) (.ix (.var 3) (.con (.int 2)))) .nil))))) .nil)) (.lst .nil))) (.cons (.forr (.tup [4, 5]) (.enum (.var 0)) ir_law_contacts_b2 [4, 5, 6, 7]) .nil))
def ir_law_contacts : Sxs := (.cons (.set (.one 1) (.lst .nil)) (.cons (.forr (.tup [2, 3]) (.enum (.var 0)) ir_law_contacts_b1 [2, 3, 4, 5, 6, 7]) (.cons (.ret (.blt .sorted (.cons (.var 1) .nil))) .nil)))
noncomputable def F_law_contacts : Fden := evF ⟨[], [], [], [], []⟩ ⟨1, 8, ir_law_contacts⟩
def ir_law_k02_b1 : Sxs := (.cons (.ifs (.or (.cmp .ge (.var 6) (.var 7)) (.or (.cmp .eq (.var 4) (.var 5)) (.cmp .ne (.cmp .lt (.var 4) (.con (.int 0))) (.cmp .eq (.ix (.ix (.var 2) (.var 5)) (.con (.int 1))) (.con (.int
    0)))))) (.cons (.ret (.con (.bool false))) .nil) .nil) .nil)
def ir_law_k02 : Sxs := (.cons (.set (.one 1) (.lst .nil)) (.cons (.set (.one 2) (.call 0 (.cons (.var 0) (.cons (.var 1) (.cons (.con (.int 6)) .nil))))) (.cons (.set (.one 3) (.call 1 (.cons (.var 2) .nil))) (.cons (.ifs
    (.or (.cmp .ne (.var 3) (.call 2 (.cons (.var 2) .nil))) (.not (.isi (.var 3) .list))) (.cons (.ret (.con (.bool false))) .nil) .nil) (.cons (.app 3 (.con .none)) (.cons (.ifs (.cmp .ne (.call 1
    (.cons (.var 2) .nil)) (.slice (.var 3) .none (.some (.neg (.con (.int 1)))))) (.cons (.ret (.con (.bool false))) .nil) .nil) (.cons (.forr (.tup [4, 5, 6, 7]) (.seq (.slice (.var 3) .none (.some
    (.neg (.con (.int 1)))))) ir_law_k02_b1 [4, 5, 6, 7]) (.cons (.set (.one 8) (.tup (.cons (.tup (.cons (.con (.int 0)) (.cons (.con (.int 0)) (.cons (.con (.int 2)) (.cons (.con (.int 1)) (.cons (.con
    (.int 1)) .nil)))))) (.cons (.tup (.cons (.con (.int 2)) (.cons (.con (.int 1)) (.cons (.con (.int 2)) (.cons (.con (.int 1)) (.cons (.con (.int 1)) .nil)))))) (.cons (.tup (.cons (.con (.int 4))
    (.cons (.con (.int 0)) (.cons (.con (.int 2)) (.cons (.con (.int 1)) (.cons (.con (.int 1)) .nil)))))) .nil))))) (.cons (.ret (.cmp .eq (.call 1 (.cons (.var 8) .nil)) (.lst (.cons (.tup (.cons (.neg
    (.con (.int 1))) (.cons (.con (.int 0)) (.cons (.con (.int 0)) (.cons (.con (.int 2)) .nil))))) (.cons (.tup (.cons (.neg (.con (.int 1))) (.cons (.con (.int 2)) (.cons (.con (.int 4)) (.cons (.con
    (.int 6)) .nil))))) .nil))))) .nil)))))))))
noncomputable def F_law_k02 : Fden := evF ⟨[F_law_some_pile, F_contacts, F_law_contacts], [], [], [], []⟩ ⟨1, 9, ir_law_k02⟩
end BP
end

section
namespace BP
open PySem
def ex_rises_c1 : Ex := (.comp (.cmp .lt (.var 1) (.var 2)) (.tup [1, 2]) (.zip (.cons (.var 0) (.cons (.slice (.var 0) (.some (.con (.int 1))) .none) .nil))) .none [1, 2])
def ir_rises : Sxs := (.cons (.ret (.blt .all (.cons ex_rises_c1 .nil))) .nil)
noncomputable def F_rises : Fden := evF ⟨[], [], [], [], []⟩ ⟨1, 3, ir_rises⟩
def ir_is_prop : Sxs := (.cons (.ifs (.or (.not (.isi (.var 1) .tuple)) (.or (.cmp .ne (.blt .len (.cons (.var 1) .nil)) (.con (.int 2))) (.not (.call 0 (.cons (.ix (.var 1) (.con (.int 0))) (.cons (.con (.int 0)) (.cons
    (.bin .sub (.blt .len (.cons (.var 0) .nil)) (.con (.int 1))) .nil))))))) (.cons (.ret (.con (.bool false))) .nil) .nil) (.cons (.ret (.call 0 (.cons (.ix (.var 1) (.con (.int 1))) (.cons (.ix (.ix
    (.var 0) (.ix (.var 1) (.con (.int 0)))) (.con (.int 0))) (.cons (.call 1 (.cons (.ix (.var 0) (.ix (.var 1) (.con (.int 0)))) .nil)) .nil))))) .nil))
noncomputable def F_is_prop : Fden := evF ⟨[F_is_integer, F_right_of], [], [], [], []⟩ ⟨2, 2, ir_is_prop⟩
def ir_offers_stand_b1 : Sxs := (.cons (.ifs (.or (.not (.isi (.var 2) .tuple)) (.or (.cmp .ne (.blt .len (.cons (.var 2) .nil)) (.con (.int 2))) (.or (.not (.call 0 (.cons (.var 0) (.cons (.ix (.var 2) (.con (.int 0))) .nil))))
    (.not (.call 1 (.cons (.ix (.var 2) (.con (.int 1))) (.cons (.con (.int 1)) (.cons (.con (.int 9)) .nil)))))))) (.cons (.ret (.con (.bool false))) .nil) .nil) .nil)
def ex_offers_stand_c1 : Ex := (.comp (.ix (.var 2) (.con (.int 0))) (.one 2) (.seq (.var 1)) .none [2])
def ir_offers_stand : Sxs := (.cons (.ifs (.or (.not (.isi (.var 1) .tuple)) (.cmp .gt (.blt .len (.cons (.var 1) .nil)) (.con (.int 6)))) (.cons (.ret (.con (.bool false))) .nil) .nil) (.cons (.forr (.one 2) (.seq (.var 1))
    ir_offers_stand_b1 [2]) (.cons (.ret (.call 2 (.cons ex_offers_stand_c1 .nil))) .nil)))
noncomputable def F_offers_stand : Fden := evF ⟨[F_is_prop, F_is_integer, F_rises], [], [], [], []⟩ ⟨2, 3, ir_offers_stand⟩
def ir_are_offers : Sxs := (.cons (.drop (.call 0 (.cons (.var 0) .nil))) (.cons (.ret (.call 1 (.cons (.var 0) (.cons (.var 1) .nil)))) .nil))
noncomputable def F_are_offers : Fden := evF ⟨[F_need_pile, F_offers_stand], [], [], [], []⟩ ⟨2, 2, ir_are_offers⟩
def ir_law_some_of_b1 : Sxs := (.cons (.app 5 (.popAt 4 (.call 0 (.cons (.var 0) (.cons (.var 1) (.cons (.blt .len (.cons (.var 4) .nil)) .nil)))))) .nil)
def ex_law_some_of_w1 : Ex := (.and (.cmp .ne (.var 4) (.lst .nil)) (.cmp .lt (.blt .len (.cons (.var 5) .nil)) (.var 3)))
def ir_law_some_of : Sxs := (.cons (.setN [4, 5] (.cons (.blt .list (.cons (.var 2) .nil)) (.cons (.lst .nil) .nil))) (.cons (.whil ex_law_some_of_w1 ir_law_some_of_b1 []) (.cons (.ret (.blt .tuple (.cons (.blt .sorted (.cons
    (.var 5) .nil)) .nil))) .nil)))
noncomputable def F_law_some_of : Fden := evF ⟨[F_law_draw], [], [], [], []⟩ ⟨4, 6, ir_law_some_of⟩
def ex_law_all_props_c1 : Ex := (.comp (.tup (.cons (.var 2) (.cons (.var 4) .nil))) (.one 4) (.rng2 (.ix (.var 3) (.con (.int 0))) (.bin .add (.bin .add (.ix (.var 3) (.con (.int 0))) (.ix (.var 3) (.con (.int 2)))) (.con (.int
    1)))) .none [4])
def ir_law_all_props_b1 : Sxs := (.cons (.ext 1 ex_law_all_props_c1) .nil)
def ir_law_all_props : Sxs := (.cons (.set (.one 1) (.lst .nil)) (.cons (.forr (.tup [2, 3]) (.enum (.var 0)) ir_law_all_props_b1 [2, 3]) (.cons (.ret (.var 1)) .nil)))
noncomputable def F_law_all_props : Fden := evF ⟨[], [], [], [], []⟩ ⟨1, 5, ir_law_all_props⟩
def ex_law_k29_c1 : Ex := (.comp (.tup (.cons (.var 6) (.cons (.bin .add (.con (.int 1)) (.call 2 (.cons (.var 0) (.cons (.var 1) (.cons (.con (.int 9)) .nil))))) .nil))) (.one 6) (.seq (.var 4)) .none [6])
def ex_law_k29_c2 : Ex := (.comp (.tup (.cons (.var 6) (.cons (.con (.int 9)) .nil))) (.one 6) (.seq (.var 3)) .none [6])
def ex_law_k29_c3 : Ex := (.comp (.call 3 (.cons (.var 2) (.cons (.var 9) .nil))) (.one 9) (.seq (.var 8)) .none [9])
def ir_law_k29 : Sxs := (.cons (.set (.one 1) (.lst .nil)) (.cons (.set (.one 2) (.tup (.cons (.tup (.cons (.con (.int 0)) (.cons (.con (.int 0)) (.cons (.con (.int 4)) (.cons (.con (.int 1)) (.cons (.con (.int 2)) .nil))))))
    (.cons (.tup (.cons (.con (.int 3)) (.cons (.con (.int 1)) (.cons (.con (.int 4)) (.cons (.con (.int 1)) (.cons (.con (.int 2)) .nil)))))) .nil)))) (.cons (.set (.one 3) (.call 0 (.cons (.var 2)
    .nil))) (.cons (.set (.one 4) (.call 1 (.cons (.var 0) (.cons (.var 1) (.cons (.var 3) (.cons (.call 2 (.cons (.var 0) (.cons (.var 1) (.cons (.con (.int 7)) .nil)))) .nil)))))) (.cons (.set (.one 5)
    (.blt .tuple (.cons ex_law_k29_c1 .nil))) (.cons (.ifs (.or (.cmp .nis (.call 3 (.cons (.var 2) (.cons (.var 5) .nil))) (.con (.bool true))) (.cmp .nis (.call 3 (.cons (.var 2) (.cons (.tup .nil)
    .nil))) (.con (.bool true)))) (.cons (.ret (.con (.bool false))) .nil) .nil) (.cons (.set (.one 7) (.blt .tuple (.cons ex_law_k29_c2 .nil))) (.cons (.ifs (.or (.cmp .nis (.call 3 (.cons (.var 2)
    (.cons (.slice (.var 7) .none (.some (.con (.int 6)))) .nil))) (.con (.bool true))) (.cmp .nis (.call 3 (.cons (.var 2) (.cons (.slice (.var 7) .none (.some (.con (.int 7)))) .nil))) (.con (.bool
    false)))) (.cons (.ret (.con (.bool false))) .nil) .nil) (.cons (.set (.one 6) (.call 4 (.cons (.var 0) (.cons (.var 1) (.cons (.var 3) .nil))))) (.cons (.set (.one 8) (.lst (.cons (.blt .list (.cons
    (.var 5) .nil)) (.cons (.con .none) (.cons (.tup (.cons (.tup (.cons (.var 6) (.cons (.con (.int 0)) .nil))) .nil)) (.cons (.tup (.cons (.tup (.cons (.var 6) (.cons (.con (.int 10)) .nil))) .nil))
    (.cons (.tup (.cons (.tup (.cons (.var 6) (.cons (.con (.bool true)) .nil))) .nil)) (.cons (.tup (.cons (.tup (.cons (.var 6) .nil)) .nil)) (.cons (.tup (.cons (.lst (.cons (.var 6) (.cons (.con
    (.int 1)) .nil))) .nil)) (.cons (.tup (.cons (.var 6) (.cons (.con (.int 1)) .nil))) .nil)))))))))) (.cons (.ext 8 (.lst (.cons (.tup (.cons (.tup (.cons (.var 6) (.cons (.con (.int 1)) .nil)))
    (.cons (.tup (.cons (.var 6) (.cons (.con (.int 2)) .nil))) .nil))) (.cons (.tup (.cons (.tup (.cons (.tup (.cons (.con (.int 2)) (.cons (.con (.int 0)) .nil))) (.cons (.con (.int 1)) .nil))) .nil))
    (.cons (.tup (.cons (.tup (.cons (.tup (.cons (.con (.int 1)) (.cons (.con (.int 8)) .nil))) (.cons (.con (.int 1)) .nil))) .nil)) (.cons (.tup (.cons (.tup (.cons (.con .none) (.cons (.con (.int 1))
    .nil))) .nil)) (.cons (.tup (.cons (.tup (.cons (.tup .nil) (.cons (.con (.int 1)) .nil))) .nil)) (.cons (.back (.var 7) (.some (.con (.int 1))) (.some (.neg (.con (.int 1))))) .nil)))))))) (.cons
    (.ret (.not (.blt .any (.cons ex_law_k29_c3 .nil)))) .nil))))))))))))
noncomputable def F_law_k29 : Fden := evF ⟨[F_law_all_props, F_law_some_of, F_law_draw, F_are_offers, F_law_pick], [], [], [], []⟩ ⟨1, 10, ir_law_k29⟩
def ex_props_stand_c1 : Ex := (.comp (.call 0 (.cons (.var 0) (.cons (.var 2) .nil))) (.one 2) (.seq (.var 1)) .none [2])
def ir_props_stand : Sxs := (.cons (.ifs (.or (.not (.isi (.var 1) .tuple)) (.or (.cmp .gt (.blt .len (.cons (.var 1) .nil)) (.con (.int 8))) (.not (.blt .all (.cons ex_props_stand_c1 .nil))))) (.cons (.ret (.con (.bool false)))
    .nil) .nil) (.cons (.ret (.call 1 (.cons (.var 1) .nil))) .nil))
noncomputable def F_props_stand : Fden := evF ⟨[F_is_prop, F_rises], [], [], [], []⟩ ⟨2, 3, ir_props_stand⟩
def ir_are_props : Sxs := (.cons (.drop (.call 0 (.cons (.var 0) .nil))) (.cons (.ret (.call 1 (.cons (.var 0) (.cons (.var 1) .nil)))) .nil))
noncomputable def F_are_props : Fden := evF ⟨[F_need_pile, F_props_stand], [], [], [], []⟩ ⟨2, 2, ir_are_props⟩
def ir_law_some_props : Sxs := (.cons (.set (.one 4) (.call 0 (.cons (.var 2) .nil))) (.cons (.ret (.ite (.cmp .ne (.var 4) (.lst .nil)) (.call 1 (.cons (.var 0) (.cons (.var 1) (.cons (.var 4) (.cons (.call 2 (.cons (.var 0) (.cons
    (.var 1) (.cons (.bin .add (.var 3) (.con (.int 1))) .nil)))) .nil))))) (.tup .nil))) .nil))
noncomputable def F_law_some_props : Fden := evF ⟨[F_law_all_props, F_law_some_of, F_law_draw], [], [], [], []⟩ ⟨4, 5, ir_law_some_props⟩
def ir_law_k26_b1 : Sxs := (.cons (.ext 5 (.lst (.cons (.tup (.cons (.tup (.cons (.var 6) (.cons (.bin .sub (.ix (.var 7) (.con (.int 0))) (.con (.int 1))) .nil))) .nil)) (.cons (.tup (.cons (.tup (.cons (.var 6) (.cons (.bin
    .add (.bin .add (.ix (.var 7) (.con (.int 0))) (.ix (.var 7) (.con (.int 2)))) (.con (.int 1))) .nil))) .nil)) (.cons (.tup (.cons (.tup (.cons (.var 6) (.cons (.con .none) .nil))) .nil)) .nil)))))
    (.cons (.ext 5 (.lst (.cons (.tup (.cons (.lst (.cons (.var 6) (.cons (.ix (.var 7) (.con (.int 0))) .nil))) .nil)) (.cons (.bin .mul (.tup (.cons (.tup (.cons (.var 6) (.cons (.ix (.var 7) (.con
    (.int 0))) .nil))) .nil)) (.con (.int 2))) .nil)))) (.cons (.ifs (.cmp .nis (.call 3 (.cons (.var 2) (.cons (.tup (.cons (.tup (.cons (.var 6) (.cons (.ix (.var 7) (.con (.int 0))) .nil))) (.cons
    (.tup (.cons (.var 6) (.cons (.bin .add (.ix (.var 7) (.con (.int 0))) (.ix (.var 7) (.con (.int 2)))) .nil))) .nil))) .nil))) (.con (.bool true))) (.cons (.ret (.con (.bool false))) .nil) .nil)
    .nil)))
def ex_law_k26_c1 : Ex := (.comp (.call 3 (.cons (.var 2) (.cons (.var 8) .nil))) (.one 8) (.seq (.var 5)) .none [8])
def ir_law_k26 : Sxs := (.cons (.set (.one 1) (.lst .nil)) (.cons (.set (.one 2) (.call 0 (.cons (.var 0) (.cons (.var 1) (.cons (.con (.int 5)) .nil))))) (.cons (.set (.one 3) (.call 1 (.cons (.var 2) .nil))) (.cons (.set
    (.one 4) (.call 2 (.cons (.var 0) (.cons (.var 1) (.cons (.var 2) (.cons (.con (.int 8)) .nil)))))) (.cons (.ifs (.or (.cmp .nis (.call 3 (.cons (.var 2) (.cons (.var 4) .nil))) (.con (.bool true)))
    (.cmp .nis (.call 3 (.cons (.var 2) (.cons (.tup .nil) .nil))) (.con (.bool true)))) (.cons (.ret (.con (.bool false))) .nil) .nil) (.cons (.ifs (.or (.cmp .nis (.call 3 (.cons (.var 2) (.cons (.blt
    .tuple (.cons (.slice (.var 3) .none (.some (.con (.int 8)))) .nil)) .nil))) (.con (.bool true))) (.cmp .ne (.call 3 (.cons (.var 2) (.cons (.blt .tuple (.cons (.slice (.var 3) .none (.some (.con
    (.int 9)))) .nil)) .nil))) (.cmp .le (.blt .len (.cons (.var 3) .nil)) (.con (.int 8))))) (.cons (.ret (.con (.bool false))) .nil) .nil) (.cons (.set (.one 5) (.lst (.cons (.blt .list (.cons (.var 4)
    .nil)) (.cons (.con .none) (.cons (.bin .add (.var 4) (.tup (.cons (.con (.int 5)) .nil))) (.cons (.tup (.cons (.tup (.cons (.blt .len (.cons (.var 2) .nil)) (.cons (.con (.int 0)) .nil))) .nil))
    (.cons (.tup (.cons (.tup (.cons (.neg (.con (.int 1))) (.cons (.con (.int 0)) .nil))) .nil)) (.cons (.tup (.cons (.tup (.cons (.con (.int 0)) .nil)) .nil)) (.cons (.tup (.cons (.tup (.cons (.con
    (.int 0)) (.cons (.con (.int 0)) (.cons (.con (.int 0)) .nil)))) .nil)) (.cons (.con (.int 5)) .nil)))))))))) (.cons (.forr (.tup [6, 7]) (.enum (.var 2)) ir_law_k26_b1 [6, 7]) (.cons (.ext 5 (.ite
    (.cmp .gt (.blt .len (.cons (.var 3) .nil)) (.con (.int 1))) (.lst (.cons (.blt .tuple (.cons (.back (.var 3) (.some (.con (.int 1))) (.some (.neg (.con (.int 1))))) .nil)) .nil)) (.lst .nil)))
    (.cons (.ret (.not (.blt .any (.cons ex_law_k26_c1 .nil)))) .nil))))))))))
noncomputable def F_law_k26 : Fden := evF ⟨[F_law_some_pile, F_law_all_props, F_law_some_props, F_are_props], [], [], [], []⟩ ⟨1, 9, ir_law_k26⟩
end BP
end

section
namespace BP
open PySem
def ir_divisor_b1 : Sxs := (.cons (.setN [0, 1] (.cons (.var 1) (.cons (.bin .mod (.var 0) (.var 1)) .nil))) .nil)
def ex_divisor_w1 : Ex := (.cmp .gt (.var 1) (.con (.int 0)))
def ir_divisor : Sxs := (.cons (.setN [0, 1] (.cons (.blt .max (.cons (.var 0) (.cons (.bin .sub (.con (.int 0)) (.var 0)) .nil))) (.cons (.blt .max (.cons (.var 1) (.cons (.bin .sub (.con (.int 0)) (.var 1)) .nil))) .nil)))
    (.cons (.whil ex_divisor_w1 ir_divisor_b1 []) (.cons (.ret (.var 0)) .nil)))
noncomputable def F_divisor : Fden := evF ⟨[], [], [], [], []⟩ ⟨2, 2, ir_divisor⟩
def ir_ratio : Sxs := (.cons (.ifs (.cmp .lt (.var 1) (.con (.int 0))) (.cons (.setN [0, 1] (.cons (.bin .sub (.con (.int 0)) (.var 0)) (.cons (.bin .sub (.con (.int 0)) (.var 1)) .nil))) .nil) .nil) (.cons (.set (.one 2)
    (.call 0 (.cons (.var 0) (.cons (.var 1) .nil)))) (.cons (.ret (.tup (.cons (.bin .fdiv (.var 0) (.var 2)) (.cons (.bin .fdiv (.var 1) (.var 2)) .nil)))) .nil)))
noncomputable def F_ratio : Fden := evF ⟨[F_divisor], [], [], [], []⟩ ⟨2, 3, ir_ratio⟩
def ir_minus : Sxs := (.cons (.ret (.call 0 (.cons (.bin .sub (.bin .mul (.ix (.var 0) (.con (.int 0))) (.ix (.var 1) (.con (.int 1)))) (.bin .mul (.ix (.var 1) (.con (.int 0))) (.ix (.var 0) (.con (.int 1))))) (.cons (.bin
    .mul (.ix (.var 0) (.con (.int 1))) (.ix (.var 1) (.con (.int 1)))) .nil)))) .nil)
noncomputable def F_minus : Fden := evF ⟨[F_ratio], [], [], [], []⟩ ⟨2, 2, ir_minus⟩
def ir_plus : Sxs := (.cons (.ret (.call 0 (.cons (.bin .add (.bin .mul (.ix (.var 0) (.con (.int 0))) (.ix (.var 1) (.con (.int 1)))) (.bin .mul (.ix (.var 1) (.con (.int 0))) (.ix (.var 0) (.con (.int 1))))) (.cons (.bin
    .mul (.ix (.var 0) (.con (.int 1))) (.ix (.var 1) (.con (.int 1)))) .nil)))) .nil)
noncomputable def F_plus : Fden := evF ⟨[F_ratio], [], [], [], []⟩ ⟨2, 2, ir_plus⟩
def ir_times : Sxs := (.cons (.ret (.call 0 (.cons (.bin .mul (.ix (.var 0) (.con (.int 0))) (.ix (.var 1) (.con (.int 0)))) (.cons (.bin .mul (.ix (.var 0) (.con (.int 1))) (.ix (.var 1) (.con (.int 1)))) .nil)))) .nil)
noncomputable def F_times : Fden := evF ⟨[F_ratio], [], [], [], []⟩ ⟨2, 2, ir_times⟩
def ir_over : Sxs := (.cons (.ret (.call 0 (.cons (.bin .mul (.ix (.var 0) (.con (.int 0))) (.ix (.var 1) (.con (.int 1)))) (.cons (.bin .mul (.ix (.var 0) (.con (.int 1))) (.ix (.var 1) (.con (.int 0)))) .nil)))) .nil)
noncomputable def F_over : Fden := evF ⟨[F_ratio], [], [], [], []⟩ ⟨2, 2, ir_over⟩
def ir_is_less : Sxs := (.cons (.ret (.cmp .lt (.bin .mul (.ix (.var 0) (.con (.int 0))) (.ix (.var 1) (.con (.int 1)))) (.bin .mul (.ix (.var 1) (.con (.int 0))) (.ix (.var 0) (.con (.int 1)))))) .nil)
noncomputable def F_is_less : Fden := evF ⟨[], [], [], [], []⟩ ⟨2, 2, ir_is_less⟩
def ex_is_fraction_c1 : Ex := (.comp (.or (.isi (.var 1) .bool) (.not (.isi (.var 1) .int))) (.one 1) (.seq (.var 0)) .none [1])
def ir_is_fraction : Sxs := (.cons (.ifs (.or (.not (.isi (.var 0) .tuple)) (.cmp .ne (.blt .len (.cons (.var 0) .nil)) (.con (.int 2)))) (.cons (.ret (.con (.bool false))) .nil) .nil) (.cons (.ifs (.blt .any (.cons
    ex_is_fraction_c1 .nil)) (.cons (.ret (.con (.bool false))) .nil) .nil) (.cons (.set (.one 2) (.bin .pow (.con (.int 10)) (.con (.int 12)))) (.cons (.ret (.and (.chain .le .le (.bin .sub (.con (.int
    0)) (.var 2)) (.ix (.var 0) (.con (.int 0))) (.var 2)) (.and (.chain .le .le (.con (.int 1)) (.ix (.var 0) (.con (.int 1))) (.var 2)) (.cmp .eq (.call 0 (.cons (.ix (.var 0) (.con (.int 0))) (.cons
    (.ix (.var 0) (.con (.int 1))) .nil))) (.con (.int 1)))))) .nil))))
noncomputable def F_is_fraction : Fden := evF ⟨[F_divisor], [], [], [], []⟩ ⟨1, 3, ir_is_fraction⟩
def ir_is_tower_block : Sxs := (.cons (.ifs (.or (.not (.isi (.var 0) .tuple)) (.cmp .ne (.blt .len (.cons (.var 0) .nil)) (.con (.int 2)))) (.cons (.ret (.con (.bool false))) .nil) .nil) (.cons (.ret (.and (.call 0 (.cons (.ix
    (.var 0) (.con (.int 0))) (.cons (.con (.int 1)) (.cons (.con (.int 8)) .nil)))) (.call 0 (.cons (.ix (.var 0) (.con (.int 1))) (.cons (.con (.int 1)) (.cons (.con (.int 9)) .nil)))))) .nil))
noncomputable def F_is_tower_block : Fden := evF ⟨[F_is_integer], [], [], [], []⟩ ⟨1, 1, ir_is_tower_block⟩
def ex_blocks_stand_c1 : Ex := (.comp (.call 0 (.cons (.var 1) .nil)) (.one 1) (.seq (.var 0)) .none [1])
def ir_blocks_stand : Sxs := (.cons (.ret (.and (.isi (.var 0) .tuple) (.and (.chain .le .le (.con (.int 1)) (.blt .len (.cons (.var 0) .nil)) (.con (.int 5))) (.blt .all (.cons ex_blocks_stand_c1 .nil))))) .nil)
noncomputable def F_blocks_stand : Fden := evF ⟨[F_is_tower_block], [], [], [], []⟩ ⟨1, 2, ir_blocks_stand⟩
def ir_need_blocks : Sxs := (.cons (.ifs (.not (.call 0 (.cons (.var 0) .nil))) (.cons .bad .nil) .nil) .nil)
noncomputable def F_need_blocks : Fden := evF ⟨[F_blocks_stand], [], [], [], []⟩ ⟨1, 1, ir_need_blocks⟩
def ex_weight_from_c1 : Ex := (.comp (.var 3) (.tup [2, 3]) (.seq (.slice (.var 0) (.some (.var 1)) .none)) .none [2, 3])
def ir_weight_from : Sxs := (.cons (.ret (.blt .sum (.cons ex_weight_from_c1 .nil))) .nil)
noncomputable def F_weight_from : Fden := evF ⟨[], [], [], [], []⟩ ⟨2, 4, ir_weight_from⟩
def ir_middles_b2 : Sxs := (.cons (.set (.one 4) (.call 0 (.cons (.var 4) (.cons (.call 1 (.cons (.tup (.cons (.ix (.var 5) (.con (.int 1))) (.cons (.con (.int 1)) .nil))) (.cons (.call 0 (.cons (.var 6) (.cons (.call 2 (.cons
    (.ix (.var 5) (.con (.int 0))) (.cons (.con (.int 2)) .nil))) .nil))) .nil))) .nil)))) .nil)
def ir_middles_b1 : Sxs := (.cons (.set (.one 4) (.glob 0)) (.cons (.forr (.tup [5, 6]) (.zip (.cons (.slice (.var 0) (.some (.var 3)) .none) (.cons (.slice (.var 1) (.some (.var 3)) .none) .nil))) ir_middles_b2 [5, 6]) (.cons
    (.app 2 (.call 3 (.cons (.var 4) (.cons (.tup (.cons (.call 4 (.cons (.var 0) (.cons (.var 3) .nil))) (.cons (.con (.int 1)) .nil))) .nil)))) .nil)))
def ir_middles : Sxs := (.cons (.set (.one 2) (.lst .nil)) (.cons (.forr (.one 3) (.rng1 (.blt .len (.cons (.var 0) .nil))) ir_middles_b1 [3, 4, 5, 6]) (.cons (.ret (.var 2)) .nil)))
noncomputable def F_middles : Fden := evF ⟨[F_plus, F_times, F_ratio, F_over, F_weight_from], [(.tuple [(.int 0), (.int 1)])], [], [], []⟩ ⟨2, 7, ir_middles⟩
def ir_tower_holds_b1 : Sxs := (.cons (.set (.one 4) (.ix (.var 1) (.bin .sub (.var 3) (.con (.int 1))))) (.cons (.ifs (.or (.call 1 (.cons (.ix (.var 2) (.var 3)) (.cons (.var 4) .nil))) (.call 1 (.cons (.call 2 (.cons (.var 4)
    (.cons (.tup (.cons (.ix (.ix (.var 0) (.bin .sub (.var 3) (.con (.int 1)))) (.con (.int 0))) (.cons (.con (.int 1)) .nil))) .nil))) (.cons (.ix (.var 2) (.var 3)) .nil)))) (.cons (.ret (.con (.bool
    false))) .nil) .nil) .nil))
def ir_tower_holds : Sxs := (.cons (.set (.one 2) (.call 0 (.cons (.var 0) (.cons (.var 1) .nil)))) (.cons (.ifs (.cmp .gt (.ix (.ix (.var 2) (.con (.int 0))) (.con (.int 0))) (.con (.int 0))) (.cons (.ret (.con (.bool false)))
    .nil) .nil) (.cons (.forr (.one 3) (.rng2 (.con (.int 1)) (.blt .len (.cons (.var 0) .nil))) ir_tower_holds_b1 [3, 4]) (.cons (.ret (.con (.bool true))) .nil))))
noncomputable def F_tower_holds : Fden := evF ⟨[F_middles, F_is_less, F_plus], [], [], [], []⟩ ⟨2, 5, ir_tower_holds⟩
def ex_is_tower_c1 : Ex := (.comp (.call 1 (.cons (.var 2) .nil)) (.one 2) (.seq (.var 1)) .none [2])
def ir_is_tower : Sxs := (.cons (.drop (.call 0 (.cons (.var 0) .nil))) (.cons (.ifs (.or (.not (.isi (.var 1) .tuple)) (.or (.cmp .ne (.blt .len (.cons (.var 1) .nil)) (.blt .len (.cons (.var 0) .nil))) (.not (.blt .all
    (.cons ex_is_tower_c1 .nil))))) (.cons (.ret (.con (.bool false))) .nil) .nil) (.cons (.ret (.call 2 (.cons (.var 0) (.cons (.var 1) .nil)))) .nil)))
noncomputable def F_is_tower : Fden := evF ⟨[F_need_blocks, F_is_fraction, F_tower_holds], [], [], [], []⟩ ⟨2, 3, ir_is_tower⟩
def ir_reach_at_b1 : Sxs := (.cons (.set (.one 2) (.call 0 (.cons (.var 2) (.cons (.call 1 (.cons (.bin .mul (.ix (.ix (.var 0) (.var 3)) (.con (.int 0))) (.ix (.ix (.var 0) (.var 3)) (.con (.int 1)))) (.cons (.bin .mul (.con
    (.int 2)) (.call 2 (.cons (.var 0) (.cons (.var 3) .nil)))) .nil))) .nil)))) .nil)
def ir_reach_at : Sxs := (.cons (.set (.one 2) (.glob 0)) (.cons (.forr (.one 3) (.rng1 (.var 1)) ir_reach_at_b1 [3]) (.cons (.set (.tup [4, 5]) (.ix (.var 0) (.var 1))) (.cons (.ret (.call 0 (.cons (.var 2) (.cons (.call 3
    (.cons (.tup (.cons (.var 4) (.cons (.con (.int 1)) .nil))) (.cons (.call 1 (.cons (.bin .mul (.var 4) (.var 5)) (.cons (.bin .mul (.con (.int 2)) (.call 2 (.cons (.var 0) (.cons (.var 1) .nil))))
    .nil))) .nil))) .nil)))) .nil))))
noncomputable def F_reach_at : Fden := evF ⟨[F_plus, F_ratio, F_weight_from, F_minus], [(.tuple [(.int 0), (.int 1)])], [], [], []⟩ ⟨2, 6, ir_reach_at⟩
def ir_best_block_b1 : Sxs := (.cons (.set (.one 3) (.call 0 (.cons (.var 0) (.cons (.var 2) .nil)))) (.cons (.ifs (.call 1 (.cons (.ix (.var 1) (.con (.int 0))) (.cons (.var 3) .nil))) (.cons (.set (.one 1) (.tup (.cons (.var 3)
    (.cons (.var 2) .nil)))) .nil) .nil) .nil))
def ir_best_block : Sxs := (.cons (.set (.one 1) (.tup (.cons (.call 0 (.cons (.var 0) (.cons (.con (.int 0)) .nil))) (.cons (.con (.int 0)) .nil)))) (.cons (.forr (.one 2) (.rng2 (.con (.int 1)) (.blt .len (.cons (.var 0)
    .nil))) ir_best_block_b1 [2, 3]) (.cons (.ret (.var 1)) .nil)))
noncomputable def F_best_block : Fden := evF ⟨[F_reach_at, F_is_less], [], [], [], []⟩ ⟨1, 4, ir_best_block⟩
def ir_reach : Sxs := (.cons (.drop (.call 0 (.cons (.var 0) .nil))) (.cons (.ret (.ix (.call 1 (.cons (.var 0) .nil)) (.con (.int 0)))) .nil))
noncomputable def F_reach : Fden := evF ⟨[F_need_blocks, F_best_block], [], [], [], []⟩ ⟨1, 1, ir_reach⟩
def ir_reaching_tower_b1 : Sxs := (.cons (.set (.tup [6, 7]) (.var 5)) (.cons (.ifs (.cmp .eq (.var 4) (.bin .sub (.blt .len (.cons (.var 0) .nil)) (.con (.int 1)))) (.cons (.ret (.blt .tuple (.cons (.bin .add (.var 2) (.lst (.cons
    (.call 2 (.cons (.var 3) (.cons (.call 3 (.cons (.var 6) (.cons (.con (.int 2)) .nil))) .nil))) .nil))) .nil))) .nil) .nil) (.cons (.set (.one 8) (.call 3 (.cons (.var 6) (.cons (.con (.int 2))
    .nil)))) (.cons (.ifs (.cmp .lt (.var 4) (.var 1)) (.cons (.set (.one 8) (.tup (.cons (.var 6) (.cons (.con (.int 1)) .nil)))) .nil) .nil) (.cons (.ifs (.cmp .eq (.var 4) (.var 1)) (.cons (.set (.one
    8) (.glob 0)) .nil) .nil) (.cons (.set (.one 9) (.call 3 (.cons (.var 7) (.cons (.call 4 (.cons (.var 0) (.cons (.var 4) .nil))) .nil)))) (.cons (.set (.one 3) (.call 2 (.cons (.var 3) (.cons (.call
    5 (.cons (.var 9) (.cons (.call 2 (.cons (.call 3 (.cons (.var 6) (.cons (.con (.int 2)) .nil))) (.cons (.var 8) .nil))) .nil))) .nil)))) (.cons (.app 2 (.call 2 (.cons (.var 3) (.cons (.var 8)
    .nil)))) .nil))))))))
def ir_reaching_tower : Sxs := (.cons (.drop (.call 0 (.cons (.var 0) .nil))) (.cons (.setN [1, 2, 3] (.cons (.ix (.call 1 (.cons (.var 0) .nil)) (.con (.int 1))) (.cons (.lst .nil) (.cons (.glob 0) .nil)))) (.cons (.forr (.tup [4,
    5]) (.enum (.var 0)) ir_reaching_tower_b1 [4, 5, 6, 7, 8, 9]) (.cons (.ret (.blt .tuple (.cons (.var 2) .nil))) .nil))))
noncomputable def F_reaching_tower : Fden := evF ⟨[F_need_blocks, F_best_block, F_minus, F_ratio, F_weight_from, F_times], [(.tuple [(.int 0), (.int 1)])], [], [], []⟩ ⟨1, 10, ir_reaching_tower⟩
def ir_law_reach_b1 : Sxs := (.cons (.set (.one 5) (.tup (.cons (.bin .add (.ix (.var 4) (.con (.int 0))) (.bin .mul (.ix (.var 3) (.con (.int 0))) (.ix (.var 4) (.con (.int 1))))) (.cons (.ix (.var 4) (.con (.int 1))) .nil))))
    (.cons (.set (.one 2) (.ite (.or (.cmp .is (.var 2) (.con .none)) (.cmp .gt (.bin .mul (.ix (.var 5) (.con (.int 0))) (.ix (.var 2) (.con (.int 1)))) (.bin .mul (.ix (.var 2) (.con (.int 0))) (.ix
    (.var 5) (.con (.int 1)))))) (.var 5) (.var 2))) .nil))
def ir_law_reach : Sxs := (.cons (.set (.one 2) (.con .none)) (.cons (.forr (.tup [3, 4]) (.zip (.cons (.var 0) (.cons (.var 1) .nil))) ir_law_reach_b1 [3, 4, 5]) (.cons (.ret (.var 2)) .nil)))
noncomputable def F_law_reach : Fden := evF ⟨[], [], [], [], []⟩ ⟨2, 6, ir_law_reach⟩
def ex_law_k23_c1 : Ex := (.comp (.tup (.cons (.bin .add (.con (.int 1)) (.call 0 (.cons (.var 0) (.cons (.var 1) (.cons (.con (.int 8)) .nil))))) (.cons (.bin .add (.con (.int 1)) (.call 0 (.cons (.var 0) (.cons (.var 1)
    (.cons (.con (.int 9)) .nil))))) .nil))) (.one 3) (.rng1 (.con (.int 5))) .none [3])
def ir_law_k23_b2 : Sxs := (.cons (.aug 8 (.bin .sub (.call 0 (.cons (.var 0) (.cons (.var 1) (.cons (.con (.int 9)) .nil)))) (.con (.int 2)))) (.cons (.app 7 (.ite (.cmp .eq (.bin .mod (.var 8) (.con (.int 2))) (.con (.int 1)))
    (.tup (.cons (.var 8) (.cons (.con (.int 2)) .nil))) (.tup (.cons (.bin .fdiv (.var 8) (.con (.int 2))) (.cons (.con (.int 1)) .nil))))) .nil))
def ir_law_k23_b1 : Sxs := (.cons (.setN [7, 8] (.cons (.lst .nil) (.cons (.bin .sub (.con (.int 0)) (.bin .mul (.con (.int 2)) (.ix (.ix (.var 2) (.con (.int 0))) (.con (.int 0))))) .nil))) (.cons (.forr (.one 9) (.seq (.var
    2)) ir_law_k23_b2 [9]) (.cons (.ifs (.call 3 (.cons (.var 2) (.cons (.blt .tuple (.cons (.var 7) .nil)) .nil))) (.cons (.set (.one 10) (.call 4 (.cons (.var 2) (.cons (.var 7) .nil)))) (.cons (.ifs
    (.cmp .gt (.bin .mul (.ix (.var 10) (.con (.int 0))) (.ix (.var 4) (.con (.int 1)))) (.bin .mul (.ix (.var 4) (.con (.int 0))) (.ix (.var 10) (.con (.int 1))))) (.cons (.ret (.con (.bool false)))
    .nil) .nil) .nil)) .nil) .nil)))
def ir_law_k23 : Sxs := (.cons (.set (.one 1) (.lst .nil)) (.cons (.set (.one 2) (.blt .tuple (.cons ex_law_k23_c1 .nil))) (.cons (.set (.one 2) (.slice (.var 2) .none (.some (.bin .add (.con (.int 1)) (.call 0 (.cons (.var
    0) (.cons (.var 1) (.cons (.con (.int 5)) .nil)))))))) (.cons (.setN [4, 5] (.cons (.call 1 (.cons (.var 2) .nil)) (.cons (.call 2 (.cons (.var 2) .nil)) .nil))) (.cons (.ifs (.cmp .nis (.call 3
    (.cons (.var 2) (.cons (.var 5) .nil))) (.con (.bool true))) (.cons (.ret (.con (.bool false))) .nil) .nil) (.cons (.set (.one 6) (.call 4 (.cons (.var 2) (.cons (.var 5) .nil)))) (.cons (.ifs (.cmp
    .ne (.bin .mul (.ix (.var 6) (.con (.int 0))) (.ix (.var 4) (.con (.int 1)))) (.bin .mul (.ix (.var 4) (.con (.int 0))) (.ix (.var 6) (.con (.int 1))))) (.cons (.ret (.con (.bool false))) .nil) .nil)
    (.cons (.forr (.one 3) (.rng1 (.con (.int 12))) ir_law_k23_b1 [3, 7, 8, 9, 10]) (.cons (.ret (.cmp .ge (.bin .mul (.con (.int 2)) (.ix (.var 4) (.con (.int 0)))) (.bin .mul (.ix (.ix (.var 2) (.con
    (.int 0))) (.con (.int 0))) (.ix (.var 4) (.con (.int 1)))))) .nil)))))))))
noncomputable def F_law_k23 : Fden := evF ⟨[F_law_draw, F_reach, F_reaching_tower, F_is_tower, F_law_reach], [], [], [], []⟩ ⟨1, 11, ir_law_k23⟩
end BP
end

section
/-! M1: blocks and piles. -/
namespace BP
open PySem
def inRange (d : PyData) (lo hi : Int) : Bool := match d with
  | .int i => decide (lo ≤ i) && decide (i ≤ hi)
  | _ => false
theorem m_is_integer (d : PyData) (lo hi : Int) : F_is_integer [.imm d, .imm (.int lo), .imm (.int hi)] = .ok (.imm (.bool (inRange d lo hi))) [.imm d, .imm (.int lo), .imm (.int hi)] := by
  refine evF_imms (ds := [d, .int lo, .int hi]) (ρ := [some (.imm d), some (.imm (.int lo)), some (.imm (.int hi))]) rfl ?_
  unfold ir_is_integer
  cases d <;> simp [isTy, inRange]
  try
    rename_i i
    by_cases h : lo ≤ i <;> simp [h]
def isBlk (d : PyData) : Bool := match d with
  | .tuple [a, b, c, e, f] => inRange a (-20) 20 && inRange b 0 20 && inRange c 1 8 && inRange e 1 4 && inRange f 1 9
  | _ => false
theorem isBlk_len {xs : List PyData} (h : xs.length ≠ 5) : isBlk (.tuple xs) = false := by
  unfold isBlk
  split
  · rename_i e
    cases e
    simp at h
  · rfl
theorem m_is_block (d : PyData) : F_is_block [.imm d] = .ok (.imm (.bool (isBlk d))) [.imm d] := by
  refine evF_imms (ds := [d]) (ρ := [some (.imm d)]) rfl ?_
  unfold ir_is_block
  cases d with
  | tuple xs =>
    by_cases hl : xs.length = 5
    · match xs, hl with
      | [a, b, c, e, f], _ =>
        simp [isTy, m_is_integer, isBlk]
        cases inRange a (-20) 20 <;> simp [m_is_integer]
        all_goals cases inRange b 0 20 <;> try simp [m_is_integer]
        all_goals cases inRange c 1 8 <;> try simp [m_is_integer]
        all_goals cases inRange e 1 4 <;> try simp [m_is_integer]
    · have hz : ¬ (xs.length : Int) = 5 := by omega
      simp [isTy, isBlk_len hl, hz]
  | _ => simp [isTy, isBlk]
/-- a block -/
structure Bk where
  x : Int
  y : Int
  w : Int
  h : Int
  m : Int
def Bk.d (b : Bk) : PyData := .tuple [.int b.x, .int b.y, .int b.w, .int b.h, .int b.m]
structure Bk.Ok (b : Bk) : Prop where
  x0 : -20 ≤ b.x
  x1 : b.x ≤ 20
  y0 : 0 ≤ b.y
  y1 : b.y ≤ 20
  w0 : 1 ≤ b.w
  w1 : b.w ≤ 8
  h0 : 1 ≤ b.h
  h1 : b.h ≤ 4
  m0 : 1 ≤ b.m
  m1 : b.m ≤ 9
theorem isBlk_iff {d : PyData} : isBlk d = true ↔ ∃ b : Bk, d = b.d ∧ b.Ok := by
  constructor
  · intro h
    unfold isBlk at h
    split at h
    · rename_i a b c e f
      simp only [Bool.and_eq_true] at h
      obtain ⟨⟨⟨⟨h1, h2⟩, h3⟩, h4⟩, h5⟩ := h
      have key : ∀ {d lo hi}, inRange d lo hi = true → ∃ i, d = .int i ∧ lo ≤ i ∧ i ≤ hi := fun {d lo hi} h => by
        unfold inRange at h
        split at h
        · simp only [Bool.and_eq_true, decide_eq_true_eq] at h
          exact ⟨_, rfl, h.1, h.2⟩
        · cases h
      obtain ⟨a, rfl, a1, a2⟩ := key h1
      obtain ⟨b, rfl, b1, b2⟩ := key h2
      obtain ⟨c, rfl, c1, c2⟩ := key h3
      obtain ⟨e, rfl, e1, e2⟩ := key h4
      obtain ⟨f, rfl, f1, f2⟩ := key h5
      exact ⟨⟨a, b, c, e, f⟩, rfl, ⟨a1, a2, b1, b2, c1, c2, e1, e2, f1, f2⟩⟩
    · cases h
  · rintro ⟨b, rfl, h⟩
    simp [isBlk, Bk.d, inRange, h.x0, h.x1, h.y0, h.y1, h.w0, h.w1, h.h0, h.h1, h.m0, h.m1]
theorem m_right_of (b : Bk) : F_right_of [.imm b.d] = .ok (.imm (.int (b.x + b.w))) [.imm b.d] := by
  refine evF_imms (ds := [b.d]) (ρ := [some (.imm b.d)]) rfl ?_
  simp [ir_right_of, Bk.d]
theorem m_top_of (b : Bk) : F_top_of [.imm b.d] = .ok (.imm (.int (b.y + b.h))) [.imm b.d] := by
  refine evF_imms (ds := [b.d]) (ρ := [some (.imm b.d)]) rfl ?_
  simp [ir_top_of, Bk.d]
def share (a b : Bk) : Bool := decide (a.x < b.x + b.w) && decide (b.x < a.x + a.w) && decide (a.y < b.y + b.h) && decide (b.y < a.y + a.h)
theorem bk_ix0 (b : Bk) : ixD b.d (.int 0) = some (.int b.x) := by simp [Bk.d]
theorem bk_ix1 (b : Bk) : ixD b.d (.int 1) = some (.int b.y) := by simp [Bk.d]
theorem bk_ix2 (b : Bk) : ixD b.d (.int 2) = some (.int b.w) := by simp [Bk.d]
theorem bk_ix3 (b : Bk) : ixD b.d (.int 3) = some (.int b.h) := by simp [Bk.d]
theorem bk_ix4 (b : Bk) : ixD b.d (.int 4) = some (.int b.m) := by simp [Bk.d]
theorem m_share_points (a b : Bk) : F_share_points [.imm a.d, .imm b.d] = .ok (.imm (.bool (share a b))) [.imm a.d, .imm b.d] := by
  refine evF_imms (ds := [a.d, b.d]) (ρ := [some (.imm a.d), some (.imm b.d), some (.imm (.bool (decide (a.x < b.x + b.w) && decide (b.x < a.x + a.w))))]) rfl ?_
  unfold share
  by_cases h1 : a.x < b.x + b.w <;> by_cases h2 : b.x < a.x + a.w <;> by_cases h3 : a.y < b.y + b.h <;> by_cases h4 : b.y < a.y + a.h <;> simp [ir_share_points, bk_ix0, bk_ix1, m_right_of, m_top_of, h1, h2, h3, h4]
/-- a pile as data -/
def pd (p : List Bk) : PyData := .tuple (p.map Bk.d)
/-- no block shares points with one ahead of it -/
def isFree (p : List Bk) : Bool := !(p.zipIdx.any fun q => (p.take q.2).any (share q.1))
theorem sIx_nat (n k : Nat) (d : Nat) : HT.sIx n d (some (k : Int)) = min k n := by
  unfold HT.sIx
  simp
  try omega
theorem cut_take {α : Type} (enc : α → PyData) (xs : List α) (k : Nat) : cutD (xs.map enc) none (some (k : Int)) = (xs.take k).map enc := by
  unfold cutD
  rw [sIx_nat]
  simp only [HT.sIx, List.drop_zero, Nat.sub_zero, List.length_map, List.map_take]
  rcases Nat.le_total k xs.length with h | h
  · rw [Nat.min_eq_left h]
  · rw [Nat.min_eq_right h, List.take_of_length_le (by simp), List.take_of_length_le (by simpa using h)]
/-- a block read back -/
def toBk : PyData → Bk
  | .tuple [.int a, .int b, .int c, .int e, .int f] => ⟨a, b, c, e, f⟩
  | _ => ⟨0, 0, 0, 0, 0⟩
theorem toBk_d (b : Bk) : toBk b.d = b := rfl
theorem any_id {α : Type} (g : α → Bool) (xs : List α) : (xs.map g).any id = xs.any g := by rw [List.any_map]; rfl
theorem all_id {α : Type} (g : α → Bool) (xs : List α) : (xs.map g).all id = xs.all g := by rw [List.all_map]; rfl
theorem free_lap {p : List Bk} {q : Bk × Nat} (hl : p.length ≤ lim) (hq : q ∈ p.zipIdx) : lap ⟨[F_share_points], [], [], [], []⟩ (.tup [1, 2]) ir_is_free_b1 [1, 2] (encIx Bk.d q) [some (.imm (pd p)), none, none, none] = .ok (if (p.take q.2).any (share q.1) then .ret (.imm (.bool false)) else .next) [some (.imm (pd p)), none, none, none] := by
  have hc : evE ⟨[F_share_points], [], [], [], []⟩ ex_is_free_c1 [some (.imm (pd p)), some (.imm (.int (q.2 : Int))), some (.imm q.1.d), none] = .ok (.val (.lst ((p.take q.2).map fun b => .bool (share q.1 b)))) [some (.imm (pd p)), some (.imm (.int (q.2 : Int))), some (.imm q.1.d), none] := by
    unfold ex_is_free_c1
    rw [ev_comp_encB Bk.d (p.take q.2) (share q.1) (ρ1 := [some (.imm (pd p)), some (.imm (.int (q.2 : Int))), some (.imm q.1.d), none]) (by simp [pd, slD, cut_take, seqItems]) (fun b _ => by simp [turn, bindT, m_share_points, wipeR]) (by rw [List.length_take]; omega)]
    simp [wipeR, unwipe]
  simp only [lap, encIx, bindT, List.length_cons, List.length_nil, if_true, setAll, List.map_cons, List.map_nil, List.set_cons_succ, List.set_cons_zero, Rs.ofOpt_some, Rs.bind_ok, ir_is_free_b1, ev_cons, ev_ifs, ev_blt, ev_acons, hc, k2_app, consK2_app, bltK_app, ifK_b, ev_anil, mapM_dat, mapM_dat_nil, dat_val, datC_lst, Option.bind_some, Option.map_some, blt_any, b2_bool]
  generalize (p.take q.2).any (share q.1) = t
  cases t <;> simp [wipeR]
theorem m_is_free (p : List Bk) (hl : p.length ≤ lim) : F_is_free [.imm (pd p)] = .ok (.imm (.bool (isFree p))) [.imm (pd p)] := by
  refine evF_immsR (ds := [pd p]) rfl ?_
  have he : enumD (pd p) = some (p.zipIdx.map (encIx Bk.d)) := congrArg some (enumL_map Bk.d 0 p)
  have h := forL_any (encIx Bk.d) (ρ := [some (.imm (pd p)), none, none, none]) (.imm (.bool false)) (fun q : Bk × Nat => (p.take q.2).any (share q.1)) (as := p.zipIdx) fun q hq => free_lap hl hq
  simp [ir_is_free, ev_for, he, h]
  unfold isFree
  cases p.zipIdx.any fun q => (p.take q.2).any (share q.1) <;> simp
def isPile : PyData → Bool
  | .tuple xs => decide (xs.length ≤ 6) && (xs.all isBlk && isFree (xs.map toBk))
  | _ => false
theorem all_blk : ∀ {xs : List PyData}, xs.all isBlk = true → xs = (xs.map toBk).map Bk.d
  | [], _ => rfl
  | x :: xs, h => by
    simp only [List.all_cons, Bool.and_eq_true] at h
    obtain ⟨b, rfl, _⟩ := isBlk_iff.mp h.1
    have := all_blk h.2
    simp only [List.map_cons, toBk_d]
    rw [← this]
theorem m_pile_stands (d : PyData) : F_pile_stands [.imm d] = .ok (.imm (.bool (isPile d))) [.imm d] := by
  refine evF_immsR (ds := [d]) rfl ?_
  unfold ir_pile_stands
  cases d with
  | tuple xs =>
    by_cases hl : xs.length ≤ 6
    · have hl' : ((xs.length : Nat) : Int) ≤ 6 := by omega
      have hm : xs.length ≤ lim := Nat.le_trans hl (by decide)
      have hc : evE ⟨[F_is_block, F_is_free], [], [], [], []⟩ ex_pile_stands_c1 [some (.imm (.tuple xs)), none] = .ok (.val (.lst (xs.map fun d => .bool (isBlk d)))) [some (.imm (.tuple xs)), none] := by
        unfold ex_pile_stands_c1
        rw [ev_comp_bools (items := xs) (ρ1 := [some (.imm (.tuple xs)), none]) isBlk (by simp [seqItems]) (fun d hd => by simp [turn, bindT, m_is_block, wipeR]) hm]
        simp [wipeR, unwipe]
      cases hb : xs.all isBlk with
      | false => simp [isTy, isPile, hl, hl', hc, hb]
      | true =>
        have hx := all_blk hb
        have hf := m_is_free (xs.map toBk) (by simpa using hm)
        unfold pd at hf
        rw [← hx] at hf
        simp [isTy, isPile, hl, hl', hc, hb, hf]
    · have hl' : ¬ ((xs.length : Nat) : Int) ≤ 6 := by omega
      simp [isTy, isPile, hl, hl']
  | _ => simp [isTy, isPile]
theorem m_is_pile (d : PyData) : F_is_pile [.imm d] = .ok (.imm (.bool (isPile d))) [.imm d] := by
  refine evF_imms (ds := [d]) (ρ := [some (.imm d)]) rfl ?_
  unfold ir_is_pile
  simp [m_pile_stands]
end BP
end

section
/-! M2: what the laws draw. -/
namespace BP
open PySem
def nums (ns : List Int) : List PyData := ns.map .int
/-- a script -/
abbrev scr (ns : List Int) : Cn := .imm (.list (nums ns))
theorem nums_len (ns : List Int) : (nums ns).length = ns.length := by simp [nums]
theorem nums_get {ns : List Int} {k : Nat} (h : k < ns.length) : ∃ i, (nums ns)[k]? = some (.int i) := ⟨ns[k], by unfold nums; rw [List.getElem?_map, List.getElem?_eq_getElem h]; rfl⟩
theorem atI_nums {ns : List Int} {k : Int} (h0 : 0 ≤ k) (h : k < ns.length) : ∃ i, L2.atI (nums ns) k = some (.int i) := by
  obtain ⟨i, e⟩ := nums_get (ns := ns) (k := k.toNat) (by omega)
  refine ⟨i, ?_⟩
  have := atI_nat e
  rwa [Int.toNat_of_nonneg h0] at this
theorem flat_nums (ns : List Int) : flatD 1 (.list (nums ns)) = true := by
  show (nums ns).all (flatD 0) = true
  unfold nums
  rw [List.all_map]
  exact List.all_eq_true.mpr fun x _ => rfl
theorem mul_small {i j : Int} (h : j.natAbs < 2 ^ 64) : mulOk i j = true := by
  unfold mulOk
  rw [decide_eq_true h]
  simp
theorem mul_small' {i j : Int} (h : i.natAbs < 2 ^ 64) : mulOk i j = true := by
  unfold mulOk
  rw [decide_eq_true h]
  simp
theorem div_small {j : Int} (h : 0 < j) (h1 : j < 2 ^ 64) : divOk j = true := by
  unfold divOk
  have : j.natAbs.log2 < 9000 := by
    refine Nat.lt_of_lt_of_le (m := 64) ((Nat.log2_lt (by omega)).mpr (by omega)) (by decide)
  rw [decide_eq_true h, decide_eq_true this]
  rfl
theorem m_cell_at (ns : List Int) (k : Int) (h0 : 0 ≤ k) (h1 : k < 2 ^ 60) (hn : ns.length < 2 ^ 60) : ∃ i, F_law_cell_at [scr ns, .imm (.int k)] = .ok (.imm (.int i)) [scr ns, .imm (.int k)] := by
  by_cases hk : k < ns.length
  · obtain ⟨i, hi⟩ := atI_nums h0 hk
    refine ⟨i, evF_imms (ds := [.list (nums ns), .int k]) (ρ := [some (scr ns), some (.imm (.int k)), none, none]) rfl ?_⟩
    have hk' : k < ((nums ns).length : Int) := by simpa [nums] using hk
    simp [ir_law_cell_at, hk', hi]
  · have hk' : ¬ k < ((nums ns).length : Int) := by simpa [nums] using hk
    by_cases hz : ns = []
    · subst hz
      refine ⟨0, evF_imms (ds := [.list (nums []), .int k]) (ρ := [some (scr []), some (.imm (.int k)), none, none]) rfl ?_⟩
      have e : cmpop .eq (.list (nums [])) (.list []) = some true := by rfl
      simp [ir_law_cell_at, hk', e]
    · have hp : 0 < ns.length := List.length_pos_iff.mpr hz
      have hp' : (0 : Int) < (nums ns).length := by rw [nums_len]; omega
      obtain ⟨i, hi⟩ := atI_nums (ns := ns) (k := k % (nums ns).length) (Int.emod_nonneg _ (by omega)) (by have := Int.emod_lt_of_pos k hp'; rw [nums_len] at this ⊢; omega)
      have e : cmpop .eq (.list (nums ns)) (.list []) = some false := by
        rw [cmp_eq_flat (flat_nums ns) (m := 1) rfl (by decide) (by decide)]
        cases ns with
        | nil => exact absurd rfl hz
        | cons a r => rfl
      have hd : divOk ((nums ns).length : Int) = true := div_small hp' (by rw [nums_len]; omega)
      have hq : 0 ≤ k / ((nums ns).length : Int) := Int.ediv_nonneg h0 (by omega)
      obtain ⟨ρ', e2, sp, hI⟩ := forL_inv (b := lap ⟨[], [], [], [], []⟩ (.one 3) ir_law_cell_at_b1 [3]) (fun ρ => ∃ (sp : Int), ρ = [some (scr ns), some (.imm (.int k)), some (.imm (.int sp)), none])
        (xs := rangeL 0 (min (k / ((nums ns).length : Int)) 60).toNat) (fun x hx ρ hρ => by
          obtain ⟨sp, rfl⟩ := hρ
          exact ⟨[some (scr ns), some (.imm (.int k)), some (.imm (.int (sp / 1000003))), none], by simp [lap, bindT, div_small, ir_law_cell_at_b1, wipeR], _, rfl⟩) (ρ := [some (scr ns), some (.imm (.int k)), some (.imm (.int i)), none]) ⟨_, rfl⟩
      subst hI
      refine ⟨i * 31 + k + sp * 101, evF_imms (ds := [.list (nums ns), .int k]) (ρ := [some (scr ns), some (.imm (.int k)), some (.imm (.int sp)), none]) rfl ?_⟩
      have hmin : bltop .min [.int (k / ((nums ns).length : Int)), .int 60] = some (.imm (.int (min (k / ((nums ns).length : Int)) 60))) := by
        show some (Cn.imm (PyData.int (if (60 : Int) < k / ((nums ns).length : Int) then 60 else k / ((nums ns).length : Int)))) = _
        congr 3
        split <;> omega
      have hrng : rng (.int 0) (.int (min (k / ((nums ns).length : Int)) 60)) = some (rangeL 0 (min (k / ((nums ns).length : Int)) 60).toNat) := by
        show (if _ then some (rangeL 0 (min (k / ((nums ns).length : Int)) 60 - 0).toNat) else none) = _
        rw [if_pos ⟨by omega, by omega, by omega, by omega⟩, Int.sub_zero]
      have hp2 : 0 < (nums ns).length := by omega
      simp [ir_law_cell_at, hk', e, hp2, hi, hd, ev_for, hmin, hrng, e2, mul_small]
theorem m_mixed (ns : List Int) (k m : Int) (h0 : 0 ≤ k) (h1 : k < 2 ^ 60) (hn : ns.length < 2 ^ 60) (hm : 0 < m) : ∃ i, (0 ≤ i ∧ i < m) ∧ F_law_mixed [scr ns, .imm (.int k), .imm (.int m)] = .ok (.imm (.int i)) [scr ns, .imm (.int k), .imm (.int m)] := by
  obtain ⟨c, hc⟩ := m_cell_at ns k h0 h1 hn
  have hs0 := Int.emod_nonneg (c * 1103515245 + 7919 * k + 12345) (show (2147483647 : Int) ≠ 0 by decide)
  have hs1 := Int.emod_lt_of_pos (c * 1103515245 + 7919 * k + 12345) (show (0 : Int) < 2147483647 by decide)
  generalize hs : (c * 1103515245 + 7919 * k + 12345) % 2147483647 = s at hs0 hs1
  have hp : binop .pow (.int s) (.int 5) = some (.imm (.int (s ^ 5))) := by
    rw [bin_pow, if_pos]
    · rfl
    · unfold powOk
      simp
      omega
  refine ⟨s ^ 5 % 2147483647 % 999983 % m, ⟨Int.emod_nonneg _ (by omega), Int.emod_lt_of_pos _ hm⟩, evF_imms (ds := [.list (nums ns), .int k, .int m]) (ρ := [some (scr ns), some (.imm (.int k)), some (.imm (.int m)), some (.imm (.int s))]) rfl ?_⟩
  simp [ir_law_mixed, hc, mul_small, mul_small', hs, hp, hm]
/-- what is drawn with: as many zeros as were drawn -/
abbrev stt (n : Nat) : Cn := .lst (List.replicate n (.int 0))
theorem stt_succ (n : Nat) : List.replicate n (PyData.int 0) ++ [.int 0] = List.replicate (n + 1) (.int 0) := by rw [List.replicate_succ']
theorem m_draw (ns : List Int) (n : Nat) (m : Int) (hn : ns.length ≤ lim) (hl : n < lim) (hm : 0 < m) : ∃ i, (0 ≤ i ∧ i < m) ∧ F_law_draw [scr ns, stt n, .imm (.int m)] = .ok (.imm (.int i)) [scr ns, stt (n + 1), .imm (.int m)] := by
  have hlim : lim = 1000000 := rfl
  obtain ⟨i, hi, h⟩ := m_mixed ns ((n : Nat) + 1) m (by omega) (by omega) (by omega) hm
  refine ⟨i, hi, evF_ret (ρ := [some (scr ns), some (stt (n + 1)), some (.imm (.int m))]) rfl rfl ?_ rfl⟩
  simp [ir_law_draw, appF, hl, h, stt_succ]
theorem m_pick (ns : List Int) (n : Nat) (xs : List PyData) (hn : ns.length ≤ lim) (hl : n < lim) (hx : 0 < xs.length) : ∃ d ∈ xs, F_law_pick [scr ns, stt n, .imm (.tuple xs)] = .ok (.imm d) [scr ns, stt (n + 1), .imm (.tuple xs)] := by
  obtain ⟨i, hi, h⟩ := m_draw ns n xs.length hn hl (by omega)
  obtain ⟨d, hd, hg⟩ := atI_pos hi.1 hi.2
  refine ⟨d, List.mem_of_getElem? hg, evF_ret (ρ := [some (scr ns), some (stt (n + 1)), some (.imm (.tuple xs))]) rfl rfl ?_ rfl⟩
  simp [ir_law_pick, h, hd]
theorem eqv_pd (p : List Bk) : cmpop .eq (pd p) (.tuple []) = some (decide (p = [])) := by
  cases p with
  | nil => rfl
  | cons b p =>
    rw [cmp_eq_flat (n := 2) (m := 1) _ rfl (by decide) (by decide)]
    · rfl
    · show (List.map Bk.d (b :: p)).all (flatD 1) = true
      rw [List.all_map]
      exact List.all_eq_true.mpr fun x _ => rfl
/-- a block that was drawn over a pile -/
structure Drawn (p : List Bk) (b : Bk) : Prop where
  w0 : 1 ≤ b.w
  w1 : b.w ≤ 7
  h0 : 1 ≤ b.h
  h1 : b.h ≤ 2
  m0 : 1 ≤ b.m
  m1 : b.m ≤ 6
  y : b.y = 0 ∨ ∃ c ∈ p, b.y = c.y + c.h ∨ b.y = c.y + c.h + 1
theorem m_some_block (ns : List Int) (n : Nat) (p : List Bk) (hn : ns.length ≤ lim) (hl : n + 10 < lim) (hw : ∀ c ∈ p, 1 ≤ c.w) : ∃ b n', n' ≤ n + 10 ∧ Drawn p b ∧ F_law_some_block [scr ns, stt n, .imm (pd p)] = .ok (.imm b.d) [scr ns, stt n', .imm (pd p)] := by
  obtain ⟨a1, ha1, e1⟩ := m_draw ns n 7 hn (by omega) (by decide)
  obtain ⟨a2, ha2, e2⟩ := m_draw ns (n + 1) 2 hn (by omega) (by decide)
  obtain ⟨a3, ha3, e3⟩ := m_draw ns (n + 2) 6 hn (by omega) (by decide)
  obtain ⟨a4, ha4, e4⟩ := m_draw ns (n + 3) 9 hn (by omega) (by decide)
  have e1 := e1; have e2 := e2
  by_cases hk : p = [] ∨ a4 < 2
  · obtain ⟨a5, ha5, e5⟩ := m_draw ns (n + 4) 15 hn (by omega) (by decide)
    refine ⟨⟨a5 - 8, 0, 1 + a1, 1 + a2, 1 + a3⟩, n + 5, by omega, ⟨by simp; omega, by simp; omega, by simp; omega, by simp; omega, by simp; omega, by simp; omega, .inl rfl⟩, ?_⟩
    refine evF_ret (ρ := [some (scr ns), some (stt (n + 5)), some (.imm (pd p)), some (.imm (.int (1 + a1))), some (.imm (.int (1 + a2))), some (.imm (.int (1 + a3))), some (.imm (.int a4)), none, none, none]) rfl rfl ?_ rfl
    rcases hk with hk | hk
    · simp [ir_law_some_block, e1, e2, e3, e4, e5, setAll, eqv_pd, hk, lim, Bk.d]
    · by_cases hp : p = [] <;> simp [ir_law_some_block, e1, e2, e3, e4, e5, setAll, eqv_pd, hk, hp, lim, Bk.d]
  · simp only [not_or] at hk
    obtain ⟨hp, hk⟩ := hk
    obtain ⟨d, hd, e5⟩ := m_pick ns (n + 4) (p.map Bk.d) hn (by omega) (by rw [List.length_map]; exact List.length_pos_iff.mpr hp)
    obtain ⟨c, hc, rfl⟩ := List.mem_map.mp hd
    have hcw := hw c hc
    obtain ⟨a6, ha6, e6⟩ := m_draw ns (n + 5) (c.w + (1 + a1) - 1) hn (by omega) (by omega)
    have e5 : F_law_pick [scr ns, stt (n + 4), .imm (pd p)] = .ok (.imm c.d) [scr ns, stt (n + 5), .imm (pd p)] := e5
    refine ⟨⟨c.x - (1 + a1) + 1 + a6, c.y + c.h + (if a4 = 8 then 1 else 0), 1 + a1, 1 + a2, 1 + a3⟩, n + 6, by omega, ⟨by simp; omega, by simp; omega, by simp; omega, by simp; omega, by simp; omega, by simp; omega, .inr ⟨c, hc, ?_⟩⟩, ?_⟩
    · simp only
      split
      · exact .inr rfl
      · exact .inl (by omega)
    refine evF_ret (ρ := [some (scr ns), some (stt (n + 6)), some (.imm (pd p)), some (.imm (.int (1 + a1))), some (.imm (.int (1 + a2))), some (.imm (.int (1 + a3))), some (.imm (.int a4)), some (.imm c.d), some (.imm (.int (c.x - (1 + a1) + 1 + a6))), some (.imm (.int (c.y + c.h + (if a4 = 8 then 1 else 0))))]) rfl rfl ?_ rfl
    by_cases h8 : a4 = 8 <;> simp [ir_law_some_block, e1, e2, e3, e4, e5, e6, setAll, eqv_pd, hk, hp, lim, Bk.d, bk_ix0, bk_ix1, bk_ix2, bk_ix3, h8]
theorem m_law_free (p : List Bk) (b : Bk) : F_law_free [.imm (pd p), .imm b.d] = .ok (.imm (.bool (!p.any (share b)))) [.imm (pd p), .imm b.d] := by
  refine evF_immsR (ds := [pd p, b.d]) rfl ?_
  have he : seqItems (pd p) = some (p.map Bk.d) := rfl
  have h := forL_any (b := lap ⟨[], [], [], [], []⟩ (.one 2) ir_law_free_b1 [2]) Bk.d (ρ := [some (.imm (pd p)), some (.imm b.d), none]) (.imm (.bool false)) (share b) (as := p) fun c hc => by
    unfold share
    by_cases h1 : b.x < c.x + c.w <;> by_cases h2 : c.x < b.x + b.w <;> by_cases h3 : b.y < c.y + c.h <;> by_cases h4 : c.y < b.y + b.h <;> simp [lap, bindT, ir_law_free_b1, bk_ix0, bk_ix1, bk_ix2, bk_ix3, h1, h2, h3, h4, wipeR]
  generalize p.any (share b) = t at h
  cases t <;> simp [ir_law_free, ev_for, he, h]
/-- a pile that was drawn: what a drawn pile is like -/
structure PileOk (p : List Bk) : Prop where
  ok : ∀ b ∈ p, b.Ok
  sm : ∀ b ∈ p, b.w ≤ 7 ∧ b.h ≤ 2 ∧ b.m ≤ 6
  top : ∀ b ∈ p, b.y + b.h ≤ 3 * p.length - 1
  fr : isFree p = true
theorem isFree_iff (p : List Bk) : isFree p = true ↔ p.Pairwise fun a b => share b a = false := by
  unfold isFree
  rw [Bool.not_eq_true', List.any_eq_false, List.pairwise_iff_getElem]
  constructor
  · intro h i j hi hj hij
    have := h (p[j], j) (List.mem_iff_getElem.mpr ⟨j, by simpa using hj, by simp⟩)
    rw [List.any_eq_true, not_exists] at this
    have h2 := this p[i]
    rw [not_and, Bool.not_eq_true] at h2
    exact h2 (List.mem_take_iff_getElem.mpr ⟨i, by simp; omega, rfl⟩)
  · intro h q hq
    obtain ⟨h1, h2⟩ := mem_zipIdx_lt hq
    rw [List.any_eq_true]
    rintro ⟨c, hc, hs⟩
    obtain ⟨i, hi, rfl⟩ := List.mem_take_iff_getElem.mp hc
    have e := h i q.2 (by omega) h1 (by omega)
    rw [List.getElem?_eq_getElem h1] at h2
    have : p[q.2] = q.1 := Option.some.inj h2
    rw [this] at e
    rw [e] at hs
    cases hs
theorem free_snoc (p : List Bk) (b : Bk) : isFree (p ++ [b]) = true ↔ isFree p = true ∧ p.any (share b) = false := by
  rw [isFree_iff, isFree_iff, List.pairwise_append]
  constructor
  · rintro ⟨h1, _, h3⟩
    refine ⟨h1, ?_⟩
    rw [List.any_eq_false]
    intro c hc
    rw [h3 c hc b (by simp)]
    exact Bool.false_ne_true
  · rintro ⟨h1, h2⟩
    refine ⟨h1, List.pairwise_singleton _ _, fun c hc d hd => ?_⟩
    have : d = b := by simpa using hd
    subst this
    rw [List.any_eq_false] at h2
    exact Bool.eq_false_iff.mpr (h2 c hc)
theorem PileOk.nil : PileOk [] := ⟨fun _ h => by simp at h, fun _ h => by simp at h, fun _ h => by simp at h, rfl⟩
theorem PileOk.snoc {p : List Bk} {b : Bk} (h : PileOk p) (d : Drawn p b) (hl : p.length ≤ 6) (hx0 : -20 ≤ b.x) (hx1 : b.x ≤ 20) (hf : p.any (share b) = false) : PileOk (p ++ [b]) := by
  have hy : 0 ≤ b.y ∧ b.y ≤ 3 * p.length := by
    rcases d.y with e | ⟨c, hc, e⟩
    · omega
    · have := h.top c hc
      have := (h.ok c hc).y0
      have := (h.ok c hc).h0
      rcases e with e | e <;> omega
  refine ⟨fun c hc => ?_, fun c hc => ?_, fun c hc => ?_, ?_⟩
  · rcases List.mem_append.mp hc with hc | hc
    · exact h.ok c hc
    · have : c = b := by simpa using hc
      subst this
      exact ⟨hx0, hx1, hy.1, by omega, d.w0, by have := d.w1; omega, d.h0, by have := d.h1; omega, d.m0, by have := d.m1; omega⟩
  · rcases List.mem_append.mp hc with hc | hc
    · exact h.sm c hc
    · have : c = b := by simpa using hc
      subst this
      exact ⟨d.w1, d.h1, d.m1⟩
  · rw [List.length_append, List.length_singleton]
    rcases List.mem_append.mp hc with hc | hc
    · have := h.top c hc
      omega
    · have : c = b := by simpa using hc
      subst this
      have := d.h1
      omega
  · exact (free_snoc p b).mpr ⟨h.fr, hf⟩
theorem m_some_pile (ns : List Int) (n : Nat) (most : Int) (hn : ns.length ≤ lim) (hl : n + 100 < lim) (h0 : 0 ≤ most) (h1 : most ≤ 7) : ∃ p n', n' ≤ n + 70 ∧ PileOk p ∧ (p.length : Int) ≤ most ∧ F_law_some_pile [scr ns, stt n, .imm (.int most)] = .ok (.imm (pd p)) [scr ns, stt n', .imm (.int most)] := by
  obtain ⟨ρ', e, p, n', hI, hp, hpl, hn'⟩ := forL_cnt (b := lap ⟨[F_law_some_block, F_law_free], [], [], [], []⟩ (.one 4) ir_law_some_pile_b1 [4, 5]) (fun j ρ => ∃ p n', ρ = [some (scr ns), some (stt n'), some (.imm (.int most)), some (.imm (pd p)), none, none] ∧ PileOk p ∧ p.length ≤ j ∧ n' ≤ n + 10 * j)
    (xs := rangeL 0 most.toNat) (k := 0) (fun x hx j ρ hj hρ => by
      obtain ⟨p, n', rfl, hp, hpl, hn'⟩ := hρ
      rw [rangeL_len] at hj
      obtain ⟨c, n2, hn2, hd, e⟩ := m_some_block ns n' p hn (by omega) fun c hc => (hp.ok c hc).w0
      by_cases hf : p.any (share c) = false ∧ -20 ≤ c.x ∧ c.x ≤ 20
      · refine ⟨[some (scr ns), some (stt n2), some (.imm (.int most)), some (.imm (pd (p ++ [c]))), none, none], ?_, p ++ [c], n2, rfl, hp.snoc hd (by omega) hf.2.1 hf.2.2 hf.1, by simp; omega, by omega⟩
        have hpl2 : (List.map Bk.d p).length + 1 ≤ lim := by simp [lim]; omega
        have hpl3 : p.length + 1 ≤ lim := by simp [lim]; omega
        have hl1 : 1 ≤ lim := by decide
        have hm := m_law_free p c
        rw [hf.1] at hm
        simp [lap, bindT, ir_law_some_pile_b1, wipeR, e, hm, bk_ix0, hf.2.1, hf.2.2, hl1]
        simp [pd, hpl3, wipeR]
      · refine ⟨[some (scr ns), some (stt n2), some (.imm (.int most)), some (.imm (pd p)), none, none], ?_, p, n2, rfl, hp, by omega, by omega⟩
        have hm := m_law_free p c
        generalize hq : p.any (share c) = t at hf hm
        cases t with
        | true => simp [lap, bindT, ir_law_some_pile_b1, wipeR, e, hm]
        | false =>
          by_cases hx0 : -20 ≤ c.x
          · have hx1 : ¬ c.x ≤ 20 := fun z => hf ⟨rfl, hx0, z⟩
            simp [lap, bindT, ir_law_some_pile_b1, wipeR, e, hm, bk_ix0, hx0, hx1]
          · simp [lap, bindT, ir_law_some_pile_b1, wipeR, e, hm, bk_ix0, hx0])
    (ρ := [some (scr ns), some (stt n), some (.imm (.int most)), some (.imm (pd [])), none, none]) ⟨[], n, rfl, PileOk.nil, by simp, by simp⟩
  subst hI
  rw [rangeL_len] at hpl hn'
  refine ⟨p, n', by omega, hp, by omega, evF_ret (ρ := [some (scr ns), some (stt n'), some (.imm (.int most)), some (.imm (pd p)), none, none]) rfl rfl ?_ rfl⟩
  have e : forL (lap ⟨[F_law_some_block, F_law_free], [], [], [], []⟩ (.one 4) ir_law_some_pile_b1 [4, 5]) (rangeL 0 most.toNat) [some (scr ns), some (stt n), some (.imm (.int most)), some (.imm (.tuple [])), none, none] = _ := e
  simp [ir_law_some_pile, ev_for, rng_nat h0 (by omega), e]
end BP
end

section
/-! Mf1: fractions. -/
namespace BP
open PySem
theorem div_log {j : Int} (h : 0 < j) (h1 : j.natAbs.log2 < 9000) : divOk j = true := by
  unfold divOk
  rw [decide_eq_true h, decide_eq_true h1]
  rfl
theorem log2_mono {a b : Nat} (h : a ≤ b) : a.log2 ≤ b.log2 := by
  by_cases h0 : a = 0
  · subst h0; simp
  · have : 2 ^ a.log2 ≤ b := Nat.le_trans (Nat.log2_self_le h0) h
    exact (Nat.le_log2 (by omega)).mpr this
theorem gcd_loop : ∀ (b a : Nat), b.log2 < 9000 → whileW (fun ρ => (evE ⟨[], [], [], [], []⟩ ex_divisor_w1 ρ).bind b2) (wlap ⟨[], [], [], [], []⟩ ir_divisor_b1 []) [some (.imm (.int (a : Int))), some (.imm (.int (b : Int)))] = .ok .next [some (.imm (.int ((Nat.gcd a b : Nat) : Int))), some (.imm (.int 0))] := by
  intro b
  induction b using Nat.strongRecOn with
  | ind b ih =>
    intro a hb
    rw [whileW_eq]
    by_cases h0 : b = 0
    · subst h0
      simp [ex_divisor_w1]
    · have hp : 0 < b := Nat.pos_of_ne_zero h0
      have hp' : (0 : Int) < (b : Int) := by omega
      have hd : divOk (b : Int) = true := div_log hp' (by simpa using hb)
      have hlt : a % b < b := Nat.mod_lt _ hp
      have hl : (a % b).log2 < 9000 := Nat.lt_of_le_of_lt (log2_mono (Nat.le_of_lt hlt)) hb
      have hi := ih (a % b) hlt b hl
      have hg : Nat.gcd b (a % b) = Nat.gcd a b := by rw [Nat.gcd_comm b (a % b), ← Nat.gcd_rec, Nat.gcd_comm]
      rw [hg] at hi
      have hm : ((a : Int) % (b : Int)) = ((a % b : Nat) : Int) := by omega
      have hlap : wlap ⟨[], [], [], [], []⟩ ir_divisor_b1 [] [some (.imm (.int (a : Int))), some (.imm (.int (b : Int)))] = .ok .next [some (.imm (.int (b : Int))), some (.imm (.int ((a % b : Nat) : Int)))] := by
        rw [← hm]
        simp [wlap, ir_divisor_b1, setAll, wipeR, hd, hp]
      have hcond : (evE ⟨[], [], [], [], []⟩ ex_divisor_w1 [some (.imm (.int (a : Int))), some (.imm (.int (b : Int)))]).bind b2 = .ok true [some (.imm (.int (a : Int))), some (.imm (.int (b : Int)))] := by
        simp [ex_divisor_w1, hp]
      simp only [hcond, Rs.bind_ok, if_true, hlap, hi]
theorem m_divisor (a b : Int) (hb : b.natAbs.log2 < 9000) : F_divisor [.imm (.int a), .imm (.int b)] = .ok (.imm (.int (Int.gcd a b))) [.imm (.int a), .imm (.int b)] := by
  refine evF_imms (ds := [.int a, .int b]) (ρ := [some (.imm (.int (Int.gcd a b))), some (.imm (.int 0))]) rfl ?_
  have h := gcd_loop b.natAbs a.natAbs hb
  have e1 : max a (0 - a) = (a.natAbs : Int) := by omega
  have e2 : max b (0 - b) = (b.natAbs : Int) := by omega
  have e3 : (Nat.gcd a.natAbs b.natAbs : Int) = (Int.gcd a b : Int) := rfl
  rw [e3] at h
  simp only [Int.zero_sub] at e1 e2
  simp [ir_divisor, setAll, ev_while, e1, e2, h]
/-- a fraction as data -/
def rd (q : Rat) : PyData := .tuple [.int q.num, .int (q.den : Int)]
theorem ratio_pos (a b : Int) (hb : 0 < b) : rd (Rat.divInt a b) = .tuple [.int (a / (Int.gcd a b : Int)), .int (b / (Int.gcd a b : Int))] := by
  have h1 := Rat.num_divInt a b
  have h2 := Rat.den_divInt a b
  have hs : b.sign = 1 := Int.sign_eq_one_of_pos hb
  unfold rd
  rw [h1, h2, hs, if_neg (by omega), Int.one_mul, Int.gcd_comm b a]
  congr 4
  have : ((b.natAbs / Int.gcd a b : Nat) : Int) = (b.natAbs : Int) / (Int.gcd a b : Int) := by simp
  rw [this]
  congr 1
  omega
theorem ratio_neg (a b : Int) (hb : b < 0) : rd (Rat.divInt a b) = .tuple [.int (-a / (Int.gcd a b : Int)), .int (-b / (Int.gcd a b : Int))] := by
  have h1 := Rat.num_divInt a b
  have h2 := Rat.den_divInt a b
  have hs : b.sign = -1 := Int.sign_eq_neg_one_of_neg hb
  unfold rd
  rw [h1, h2, hs, if_neg (by omega), Int.neg_mul, Int.one_mul, Int.gcd_comm b a]
  congr 4
  have : ((b.natAbs / Int.gcd a b : Nat) : Int) = (b.natAbs : Int) / (Int.gcd a b : Int) := by simp
  rw [this]
  congr 1
  omega
theorem m_ratio (a b : Int) (hb : b ≠ 0) (hl : b.natAbs.log2 < 9000) : F_ratio [.imm (.int a), .imm (.int b)] = .ok (.imm (rd (Rat.divInt a b))) [.imm (.int a), .imm (.int b)] := by
  refine evF_immsR (ds := [.int a, .int b]) rfl ?_
  have key : ∀ (t m : Int), 0 < m → m.natAbs.log2 < 9000 → divOk (Int.gcd t m : Int) = true ∧ (0 : Int) < (Int.gcd t m : Int) := by
    intro t m hm hml
    have hg : 0 < Int.gcd t m := Int.gcd_pos_of_ne_zero_right _ (by omega)
    have hle : Int.gcd t m ≤ m.natAbs := Nat.gcd_le_right _ (by omega)
    exact ⟨div_log (by omega) (by simpa using Nat.lt_of_le_of_lt (log2_mono hle) hml), by omega⟩
  by_cases h : b < 0
  · have hl2 : (-b).natAbs.log2 < 9000 := by rw [Int.natAbs_neg]; exact hl
    obtain ⟨k1, k2⟩ := key (-a) (-b) (by omega) hl2
    have hd := m_divisor (-a) (-b) hl2
    rw [Int.gcd_neg, Int.neg_gcd] at k1 k2 hd
    rw [ratio_neg _ _ h]
    simp [ir_ratio, h, setAll, hd, k1, k2, lim]
  · obtain ⟨k1, k2⟩ := key a b (by omega) hl
    have hd := m_divisor a b hl
    rw [ratio_pos _ _ (by omega)]
    simp [ir_ratio, h, hd, k1, k2, lim]
end BP
end

section
/-! Mf2: sums and products of fractions. -/
namespace BP
open PySem
structure Fit (q : Rat) : Prop where
  num : q.num.natAbs.log2 < 4000
  den : q.den.log2 < 4000
theorem mul_log {i j : Int} (h : i.natAbs.log2 < 400000) (h1 : j.natAbs.log2 < 400000) : mulOk i j = true := by
  unfold mulOk
  have : i.natAbs.log2 + j.natAbs.log2 < 1000000 := by omega
  rw [decide_eq_true this]
  simp
theorem log2_mul {a b m n : Nat} (ha : a.log2 < m) (hb : b.log2 < n) : (a * b).log2 < m + n := by
  by_cases h : a * b = 0
  · rw [h]; simp; omega
  · have ha0 : a ≠ 0 := fun q => h (by rw [q]; simp)
    have hb0 : b ≠ 0 := fun q => h (by rw [q]; simp)
    have h1 := (Nat.log2_lt ha0).mp ha
    have h2 := (Nat.log2_lt hb0).mp hb
    refine (Nat.log2_lt h).mpr ?_
    rw [Nat.pow_add]
    exact Nat.mul_lt_mul'' h1 h2
theorem m_plus (p q : Rat) (hp : Fit p) (hq : Fit q) : F_plus [.imm (rd p), .imm (rd q)] = .ok (.imm (rd (p + q))) [.imm (rd p), .imm (rd q)] := by
  refine evF_immsR (ds := [rd p, rd q]) rfl ?_
  have k1 : mulOk p.num (q.den : Int) = true := mul_log (by have := hp.num; omega) (by have := hq.den; simpa using (by omega : q.den.log2 < 400000))
  have k2 : mulOk q.num (p.den : Int) = true := mul_log (by have := hq.num; omega) (by have := hp.den; simpa using (by omega : p.den.log2 < 400000))
  have k3 : mulOk (p.den : Int) (q.den : Int) = true := mul_log (by have := hp.den; simpa using (by omega : p.den.log2 < 400000)) (by have := hq.den; simpa using (by omega : q.den.log2 < 400000))
  have hr := m_ratio (p.num * q.den + q.num * p.den) ((p.den : Int) * (q.den : Int)) (by
    have := p.den_nz; have := q.den_nz
    exact Int.mul_ne_zero (by omega) (by omega)) (by
    rw [Int.natAbs_mul]
    have := log2_mul hp.den hq.den
    simp only [Int.natAbs_natCast]
    omega)
  have e : Rat.divInt (p.num * q.den + q.num * p.den) ((p.den : Int) * (q.den : Int)) = p + q := by
    rw [Rat.add_def']
    rw [← Rat.divInt_ofNat]
    simp
  rw [e] at hr
  unfold rd at hr ⊢
  simp [ir_plus, k1, k2, k3, hr]
theorem m_minus (p q : Rat) (hp : Fit p) (hq : Fit q) : F_minus [.imm (rd p), .imm (rd q)] = .ok (.imm (rd (p - q))) [.imm (rd p), .imm (rd q)] := by
  refine evF_immsR (ds := [rd p, rd q]) rfl ?_
  have k1 : mulOk p.num (q.den : Int) = true := mul_log (by have := hp.num; omega) (by have := hq.den; simpa using (by omega : q.den.log2 < 400000))
  have k2 : mulOk q.num (p.den : Int) = true := mul_log (by have := hq.num; omega) (by have := hp.den; simpa using (by omega : p.den.log2 < 400000))
  have k3 : mulOk (p.den : Int) (q.den : Int) = true := mul_log (by have := hp.den; simpa using (by omega : p.den.log2 < 400000)) (by have := hq.den; simpa using (by omega : q.den.log2 < 400000))
  have hr := m_ratio (p.num * q.den - q.num * p.den) ((p.den : Int) * (q.den : Int)) (by
    have := p.den_nz; have := q.den_nz
    exact Int.mul_ne_zero (by omega) (by omega)) (by
    rw [Int.natAbs_mul]
    have := log2_mul hp.den hq.den
    simp only [Int.natAbs_natCast]
    omega)
  have e : Rat.divInt (p.num * q.den - q.num * p.den) ((p.den : Int) * (q.den : Int)) = p - q := by
    rw [Rat.sub_def']
    rw [← Rat.divInt_ofNat]
    simp
  rw [e] at hr
  unfold rd at hr ⊢
  simp [ir_minus, k1, k2, k3, hr]
theorem m_times (p q : Rat) (hp : Fit p) (hq : Fit q) : F_times [.imm (rd p), .imm (rd q)] = .ok (.imm (rd (p * q))) [.imm (rd p), .imm (rd q)] := by
  refine evF_immsR (ds := [rd p, rd q]) rfl ?_
  have k1 : mulOk p.num q.num = true := mul_log (by have := hp.num; omega) (by have := hq.num; omega)
  have k3 : mulOk (p.den : Int) (q.den : Int) = true := mul_log (by have := hp.den; simpa using (by omega : p.den.log2 < 400000)) (by have := hq.den; simpa using (by omega : q.den.log2 < 400000))
  have hr := m_ratio (p.num * q.num) ((p.den : Int) * (q.den : Int)) (by
    have := p.den_nz; have := q.den_nz
    exact Int.mul_ne_zero (by omega) (by omega)) (by
    rw [Int.natAbs_mul]
    have := log2_mul hp.den hq.den
    simp only [Int.natAbs_natCast]
    omega)
  have e : Rat.divInt (p.num * q.num) ((p.den : Int) * (q.den : Int)) = p * q := by
    rw [Rat.mul_def']
    rw [← Rat.divInt_ofNat]
    simp
  rw [e] at hr
  unfold rd at hr ⊢
  simp [ir_times, k1, k3, hr]
theorem m_is_less (p q : Rat) (hp : Fit p) (hq : Fit q) : F_is_less [.imm (rd p), .imm (rd q)] = .ok (.imm (.bool (decide (p < q)))) [.imm (rd p), .imm (rd q)] := by
  refine evF_immsR (ds := [rd p, rd q]) rfl ?_
  have k1 : mulOk p.num (q.den : Int) = true := mul_log (by have := hp.num; omega) (by have := hq.den; simpa using (by omega : q.den.log2 < 400000))
  have k2 : mulOk q.num (p.den : Int) = true := mul_log (by have := hq.num; omega) (by have := hp.den; simpa using (by omega : p.den.log2 < 400000))
  have e : decide (p.num * q.den < q.num * p.den) = decide (p < q) := by
    rw [decide_eq_decide]
    exact (Rat.lt_iff p q).symm
  unfold rd
  simp [ir_is_less, k1, k2, e]
theorem m_over (p q : Rat) (hp : Fit p) (hq : Fit q) (h0 : q ≠ 0) : F_over [.imm (rd p), .imm (rd q)] = .ok (.imm (rd (p / q))) [.imm (rd p), .imm (rd q)] := by
  refine evF_immsR (ds := [rd p, rd q]) rfl ?_
  have k1 : mulOk p.num (q.den : Int) = true := mul_log (by have := hp.num; omega) (by have := hq.den; simpa using (by omega : q.den.log2 < 400000))
  have k3 : mulOk (p.den : Int) q.num = true := mul_log (by have := hp.den; simpa using (by omega : p.den.log2 < 400000)) (by have := hq.num; omega)
  have hn : q.num ≠ 0 := fun z => h0 (Rat.num_eq_zero.mp z)
  have hr := m_ratio (p.num * q.den) ((p.den : Int) * q.num) (by
    have := p.den_nz
    exact Int.mul_ne_zero (by omega) hn) (by
    rw [Int.natAbs_mul]
    have := log2_mul hp.den hq.num
    simp only [Int.natAbs_natCast]
    omega)
  have e : Rat.divInt (p.num * q.den) ((p.den : Int) * q.num) = p / q := by
    rw [Rat.div_def, Rat.inv_def, ← Rat.divInt_mul_divInt, Rat.num_divInt_den]
  rw [e] at hr
  unfold rd at hr ⊢
  simp [ir_over, k1, k3, hr]
end BP
end

section
/-! Mc1: contacts. -/
namespace BP
open PySem
/-- a contact -/
structure Ct where
  lo : Int
  up : Nat
  l : Int
  r : Int
def Ct.row (c : Ct) : List Int := [c.lo, c.up, c.l, c.r]
def Ct.d (c : Ct) : PyData := .tuple (c.row.map .int)
/-- on the ground -/
def ground (q : Bk × Nat) : List Ct := if q.1.y = 0 then [⟨-1, q.2, q.1.x, q.1.x + q.1.w⟩] else []
/-- q on o -/
def touch (q o : Bk × Nat) : List Ct :=
  if q.1.y = o.1.y + o.1.h ∧ max q.1.x o.1.x < min (q.1.x + q.1.w) (o.1.x + o.1.w) then [⟨o.2, q.2, max q.1.x o.1.x, min (q.1.x + q.1.w) (o.1.x + o.1.w)⟩] else []
def rawCts (p : List Bk) : List Ct := p.zipIdx.flatMap fun q => ground q ++ p.zipIdx.flatMap (touch q)
def leCt (a b : Ct) : Bool := !W.dataLt b.d a.d
/-- the contacts of a pile, in their sequence -/
def cts (p : List Bk) : List Ct := (rawCts p).mergeSort leCt
theorem touch_len (q o : Bk × Nat) : (touch q o).length ≤ 1 := by unfold touch; split <;> simp
theorem ground_len (q : Bk × Nat) : (ground q).length ≤ 1 := by unfold ground; split <;> simp
theorem flat_len {α β : Type} (f : α → List β) (c : Nat) : ∀ xs : List α, (∀ x ∈ xs, (f x).length ≤ c) → (xs.flatMap f).length ≤ c * xs.length
  | [], _ => by simp
  | x :: xs, h => by
    rw [List.flatMap_cons, List.length_append, List.length_cons, Nat.mul_succ]
    have := h x (by simp)
    have := flat_len f c xs fun y hy => h y (by simp [hy])
    omega
theorem raw_row_len (p : List Bk) (q : Bk × Nat) : (ground q ++ p.zipIdx.flatMap (touch q)).length ≤ 1 + p.length := by
  rw [List.length_append]
  have h1 := ground_len q
  have h2 := flat_len (touch q) 1 p.zipIdx fun o _ => touch_len q o
  simp only [List.length_zipIdx, Nat.one_mul] at h2
  omega
theorem rawCts_len (p : List Bk) : (rawCts p).length ≤ (1 + p.length) * p.length := by
  have := flat_len (fun q => ground q ++ p.zipIdx.flatMap (touch q)) (1 + p.length) p.zipIdx fun q _ => raw_row_len p q
  rw [List.length_zipIdx] at this
  exact this
theorem mapFlat {α β γ : Type} (g : β → γ) (f : α → List β) (xs : List α) : (xs.flatMap fun x => (f x).map g) = (xs.flatMap f).map g := by rw [List.map_flatMap]
section
variable (p : List Bk)
abbrev cRho (acc : List PyData) : Rho := [some (.imm (pd p)), some (.lst acc), none, none, none, none, none, none]
abbrev cRho2 (q : Bk × Nat) (acc : List PyData) : Rho := [some (.imm (pd p)), some (.lst acc), some (.imm (.int (q.2 : Int))), some (.imm q.1.d), none, none, none, none]
theorem ac_lap2 (q o : Bk × Nat) (acc : List PyData) (h : acc.length + 1 ≤ lim) : lap ⟨[F_right_of, F_top_of], [], [], [], []⟩ (.tup [4, 5]) ir_all_contacts_b2 [4, 5, 6, 7] (encIx Bk.d o) (cRho2 p q acc) = .ok .next (cRho2 p q (acc ++ (touch q o).map Ct.d)) := by
  have h' : acc.length < lim := by omega
  have hl : 4 ≤ lim := by decide
  unfold touch
  by_cases h1 : q.1.y = o.1.y + o.1.h
  · by_cases h2 : max q.1.x o.1.x < min (q.1.x + q.1.w) (o.1.x + o.1.w)
    · simp [lap, encIx, bindT, setAll, ir_all_contacts_b2, bk_ix0, bk_ix1, m_right_of, m_top_of, h1, h2, wipeR, appF, h', hl, Ct.d, Ct.row]
    · simp [lap, encIx, bindT, setAll, ir_all_contacts_b2, bk_ix0, bk_ix1, m_right_of, m_top_of, h1, h2, wipeR]
  · simp [lap, encIx, bindT, setAll, ir_all_contacts_b2, bk_ix0, bk_ix1, m_right_of, m_top_of, h1, wipeR]
theorem lc_lap2 (q o : Bk × Nat) (acc : List PyData) (h : acc.length + 1 ≤ lim) : lap ⟨[], [], [], [], []⟩ (.tup [4, 5]) ir_law_contacts_b2 [4, 5, 6, 7] (encIx Bk.d o) (cRho2 p q acc) = .ok .next (cRho2 p q (acc ++ (touch q o).map Ct.d)) := by
  have h' : acc.length < lim := by omega
  have hl : 4 ≤ lim := by decide
  unfold touch
  by_cases h1 : q.1.y = o.1.y + o.1.h
  · by_cases h2 : max q.1.x o.1.x < min (q.1.x + q.1.w) (o.1.x + o.1.w)
    · simp [lap, encIx, bindT, setAll, ir_law_contacts_b2, bk_ix0, bk_ix1, bk_ix2, bk_ix3, h1, h2, wipeR, appF, h', hl, Ct.d, Ct.row]
    · simp [lap, encIx, bindT, setAll, ir_law_contacts_b2, bk_ix0, bk_ix1, bk_ix2, bk_ix3, h1, h2, wipeR]
  · have h1' : ¬ o.1.y + o.1.h = q.1.y := fun z => h1 z.symm
    simp [lap, encIx, bindT, setAll, ir_law_contacts_b2, bk_ix0, bk_ix1, bk_ix2, bk_ix3, h1, h1', wipeR]
theorem he_pd : enumD (pd p) = some (p.zipIdx.map (encIx Bk.d)) := congrArg some (enumL_map Bk.d 0 p)
theorem ac_lap1 (hp : p.length ≤ 1000) (q : Bk × Nat) (acc : List PyData) (h : acc.length + (1 + p.length) ≤ lim) : lap ⟨[F_right_of, F_top_of], [], [], [], []⟩ (.tup [2, 3]) ir_all_contacts_b1 [2, 3, 4, 5, 6, 7] (encIx Bk.d q) (cRho p acc) = .ok .next (cRho p (acc ++ (ground q ++ p.zipIdx.flatMap (touch q)).map Ct.d)) := by
  have hl : 4 ≤ lim := by decide
  have h' : acc.length < lim := by omega
  have hg := ground_len q
  have e := forL_acc (b := lap ⟨[F_right_of, F_top_of], [], [], [], []⟩ (.tup [4, 5]) ir_all_contacts_b2 [4, 5, 6, 7]) (encIx Bk.d) (cRho2 p q) (fun o => (touch q o).map Ct.d) 1 (as := p.zipIdx) (fun o _ => by rw [List.length_map]; exact touch_len q o) (fun o _ acc h => ac_lap2 p q o acc h) (acc := acc ++ (ground q).map Ct.d) (by simp; omega)
  rw [mapFlat, List.append_assoc, ← List.map_append] at e
  by_cases h0 : q.1.y = 0
  · have eg : (ground q).map Ct.d = [.tuple [.int (-1), .int q.2, .int q.1.x, .int (q.1.x + q.1.w)]] := by unfold ground; rw [if_pos h0]; rfl
    rw [eg] at e
    simp [lap, encIx, bindT, setAll, ir_all_contacts_b1, bk_ix0, bk_ix1, m_right_of, h0, appF, h', hl, ev_for, he_pd]
    rw [e]
    simp [wipeR]
  · have eg : (ground q).map Ct.d = [] := by unfold ground; rw [if_neg h0]; rfl
    rw [eg, List.append_nil] at e
    simp [lap, encIx, bindT, setAll, ir_all_contacts_b1, bk_ix0, bk_ix1, m_right_of, h0, ev_for, he_pd]
    rw [e]
    simp [wipeR]
theorem lc_lap1 (hp : p.length ≤ 1000) (q : Bk × Nat) (acc : List PyData) (h : acc.length + (1 + p.length) ≤ lim) : lap ⟨[], [], [], [], []⟩ (.tup [2, 3]) ir_law_contacts_b1 [2, 3, 4, 5, 6, 7] (encIx Bk.d q) (cRho p acc) = .ok .next (cRho p (acc ++ (ground q ++ p.zipIdx.flatMap (touch q)).map Ct.d)) := by
  have hl : 4 ≤ lim := by decide
  have hl1 : 1 ≤ lim := by decide
  have hl0 : 0 ≤ lim := by decide
  have h' : acc.length + 1 ≤ lim := by omega
  have h'' : acc.length ≤ lim := by omega
  have hg := ground_len q
  have e := forL_acc (b := lap ⟨[], [], [], [], []⟩ (.tup [4, 5]) ir_law_contacts_b2 [4, 5, 6, 7]) (encIx Bk.d) (cRho2 p q) (fun o => (touch q o).map Ct.d) 1 (as := p.zipIdx) (fun o _ => by rw [List.length_map]; exact touch_len q o) (fun o _ acc h => lc_lap2 p q o acc h) (acc := acc ++ (ground q).map Ct.d) (by simp; omega)
  rw [mapFlat, List.append_assoc, ← List.map_append] at e
  by_cases h0 : q.1.y = 0
  · have eg : (ground q).map Ct.d = [.tuple [.int (-1), .int q.2, .int q.1.x, .int (q.1.x + q.1.w)]] := by unfold ground; rw [if_pos h0]; rfl
    rw [eg] at e
    simp [lap, encIx, bindT, setAll, ir_law_contacts_b1, bk_ix0, bk_ix1, bk_ix2, h0, extF, h', hl, hl1, ev_for, he_pd]
    rw [e]
    simp [wipeR]
  · have eg : (ground q).map Ct.d = [] := by unfold ground; rw [if_neg h0]; rfl
    rw [eg, List.append_nil] at e
    simp [lap, encIx, bindT, setAll, ir_law_contacts_b1, bk_ix0, bk_ix1, bk_ix2, h0, extF, h'', hl0, ev_for, he_pd]
    rw [e]
    simp [wipeR]
theorem cts_ok (hp : p.length ≤ 900) : sortOk ((rawCts p).map Ct.d) = true := by
  refine alike_ints4 0 Ct.row (rawCts p) (Nat.le_trans (rawCts_len p) ?_)
  have : (1 + p.length) * p.length ≤ 901 * 900 := Nat.mul_le_mul (by omega) hp
  exact Nat.le_trans this (by decide)
theorem sort_cts : sortD ((rawCts p).map Ct.d) = (cts p).map Ct.d := sortD_map Ct.d (rawCts p)
theorem raw_flat : (p.zipIdx.flatMap fun q => (ground q ++ p.zipIdx.flatMap (touch q)).map Ct.d) = (rawCts p).map Ct.d := mapFlat Ct.d _ _
theorem m_all_contacts (hp : p.length ≤ 900) : F_all_contacts [.imm (pd p)] = .ok (.lst ((cts p).map Ct.d)) [.imm (pd p)] := by
  refine evF_immsR (ds := [pd p]) rfl ?_
  have hb : 0 + (1 + p.length) * p.length ≤ lim := by
    have : (1 + p.length) * p.length ≤ 901 * 900 := Nat.mul_le_mul (by omega) hp
    exact Nat.le_trans (by omega) (show 901 * 900 ≤ lim by decide)
  have e := forL_acc (b := lap ⟨[F_right_of, F_top_of], [], [], [], []⟩ (.tup [2, 3]) ir_all_contacts_b1 [2, 3, 4, 5, 6, 7]) (encIx Bk.d) (cRho p) (fun q => (ground q ++ p.zipIdx.flatMap (touch q)).map Ct.d) (1 + p.length) (as := p.zipIdx) (fun q _ => by rw [List.length_map]; exact raw_row_len p q) (fun q _ acc h => ac_lap1 p (by omega) q acc h) (acc := []) (by simpa using hb)
  rw [raw_flat, List.nil_append] at e
  have hl : 0 ≤ lim := by decide
  simp [ir_all_contacts, ev_for, he_pd, hl]
  rw [e]
  simp [cts_ok p hp, sort_cts]
theorem m_law_contacts (hp : p.length ≤ 900) : F_law_contacts [.imm (pd p)] = .ok (.lst ((cts p).map Ct.d)) [.imm (pd p)] := by
  refine evF_immsR (ds := [pd p]) rfl ?_
  have hb : 0 + (1 + p.length) * p.length ≤ lim := by
    have : (1 + p.length) * p.length ≤ 901 * 900 := Nat.mul_le_mul (by omega) hp
    exact Nat.le_trans (by omega) (show 901 * 900 ≤ lim by decide)
  have e := forL_acc (b := lap ⟨[], [], [], [], []⟩ (.tup [2, 3]) ir_law_contacts_b1 [2, 3, 4, 5, 6, 7]) (encIx Bk.d) (cRho p) (fun q => (ground q ++ p.zipIdx.flatMap (touch q)).map Ct.d) (1 + p.length) (as := p.zipIdx) (fun q _ => by rw [List.length_map]; exact raw_row_len p q) (fun q _ acc h => lc_lap1 p (by omega) q acc h) (acc := []) (by simpa using hb)
  rw [raw_flat, List.nil_append] at e
  have hl : 0 ≤ lim := by decide
  simp [ir_law_contacts, ev_for, he_pd, hl]
  rw [e]
  simp [cts_ok p hp, sort_cts]
end
theorem m_need_pile {d : PyData} (h : isPile d = true) : F_need_pile [.imm d] = .ok (.imm .none) [.imm d] := by
  refine evF_immsR (ds := [d]) rfl ?_
  simp [ir_need_pile, m_pile_stands, h, retOf]
end BP
end

section
/-! Mp1: props and offers. -/
namespace BP
open PySem
abbrev Pr := Int × Int
def prd (q : Pr) : PyData := .tuple [.int q.1, .int q.2]
/-- a prop of a pile -/
def isPr (p : List Bk) : PyData → Bool
  | .tuple [.int i, b] => decide (0 ≤ i) && decide (i ≤ (p.length : Int) - 1) && (match p[i.toNat]? with | some k => inRange b k.x (k.x + k.w) | none => false)
  | _ => false
theorem m_is_prop (p : List Bk) (d : PyData) : F_is_prop [.imm (pd p), .imm d] = .ok (.imm (.bool (isPr p d))) [.imm (pd p), .imm d] := by
  refine evF_immsR (ds := [pd p, d]) rfl ?_
  have hlen : bltop .len [pd p] = some (.imm (.int (p.length : Int))) := by
    show some (Cn.imm (.int (((p.map Bk.d).length : Nat) : Int))) = _
    rw [List.length_map]
  cases d with
  | tuple xs =>
    match xs with
    | [] => simp [ir_is_prop, isTy, isPr]
    | [a] => simp [ir_is_prop, isTy, isPr]
    | [a, b] =>
      cases a with
      | int i =>
        by_cases h0 : 0 ≤ i ∧ i ≤ (p.length : Int) - 1
        · have hi : i.toNat < p.length := by omega
          have hg : p[i.toNat]? = some p[i.toNat] := List.getElem?_eq_getElem hi
          have hx : ixD (pd p) (.int i) = some (p[i.toNat]).d := by
            have : (p.map Bk.d)[i.toNat]? = some (p[i.toNat]).d := by rw [List.getElem?_map, hg]; rfl
            have e := atI_nat this
            rw [Int.toNat_of_nonneg h0.1] at e
            show (L2.atI (p.map Bk.d) i) = _
            exact e
          simp [ir_is_prop, isTy, isPr, hlen, m_is_integer, inRange, h0.1, h0.2, hx, bk_ix0, m_right_of, hg]
        · have hb : (decide (0 ≤ i) && decide (i ≤ (p.length : Int) - 1)) = false := by
            simp only [Bool.and_eq_false_iff, decide_eq_false_iff_not]
            omega
          simp [ir_is_prop, isTy, isPr, hlen, m_is_integer, inRange, hb]
      | _ => simp [ir_is_prop, isTy, isPr, hlen, m_is_integer, inRange]
    | a :: b :: c :: r =>
      have h3 : ¬ ((r.length : Int) + 1 + 1 + 1 = 2) := by omega
      simp [ir_is_prop, isTy, isPr, h3]
  | _ => simp [ir_is_prop, isTy, isPr]
/-! ### the sequence of data -/
theorem dataLt_irr (a : PyData) : W.dataLt a a = false := PyProof.Rows.lex_irrefl _
theorem dataLt_tr {a b c : PyData} (h : W.dataLt a b = true) (h1 : W.dataLt b c = true) : W.dataLt a c = true := PyProof.Rows.lex_trans _ _ _ h h1
theorem dataLe_tr (a b c : PyData) (h : (!W.dataLt b a) = true) (h1 : (!W.dataLt c b) = true) : (!W.dataLt c a) = true := by
  simp only [Bool.not_eq_true'] at h h1 ⊢
  cases e : W.dataLt c a with
  | false => rfl
  | true =>
    rcases PyProof.Rows.lex_negTrans _ (W.keyToks b) _ e with q | q
    · exact h1.symm.trans q |>.symm ▸ rfl
    · exact h.symm.trans q |>.symm ▸ rfl
theorem dataLe_total (a b : PyData) : ((!W.dataLt b a) || (!W.dataLt a b)) = true := by
  cases e : W.dataLt b a with
  | false => rfl
  | true =>
    cases e1 : W.dataLt a b with
    | false => rfl
    | true => exact absurd (dataLt_tr e e1) (by rw [dataLt_irr]; simp)
theorem dataLt_of_ne {a b : PyData} (h : W.dataLt b a = false) (hne : W.keyToks a ≠ W.keyToks b) : W.dataLt a b = true := by
  cases e : W.dataLt a b with
  | true => rfl
  | false => exact absurd (PyProof.Rows.lex_total _ _ e h) hne
/-- things that differ, sorted -/
theorem sort_strict {α : Type} (enc : α → PyData) (hi : ∀ a b, W.keyToks (enc a) = W.keyToks (enc b) → a = b) {xs : List α} (nd : xs.Nodup) : (xs.mergeSort fun a b => !W.dataLt (enc b) (enc a)).Pairwise fun a b => W.dataLt (enc a) (enc b) = true := by
  have h1 := List.pairwise_mergeSort (le := fun a b => !W.dataLt (enc b) (enc a)) (fun a b c h h1 => dataLe_tr _ _ _ h h1) (fun a b => dataLe_total _ _) xs
  have h2 : (xs.mergeSort fun a b => !W.dataLt (enc b) (enc a)).Nodup := (List.mergeSort_perm xs _).nodup_iff.mpr nd
  refine (h1.and h2).imp fun {a b} h => ?_
  have e : W.dataLt (enc b) (enc a) = false := by simpa using h.1
  exact dataLt_of_ne e fun q => h.2 (hi _ _ q)
def ltP (a b : Pr) : Bool := W.dataLt (prd a) (prd b)
theorem keyToks_prd (q : Pr) : W.keyToks (prd q) = [.inl 1, .inl q.1, .inl 1, .inl q.2, .inl 0] := by
  simp [prd, W.keyToks, W.keyToksAll]
theorem keyToks_inj (a b : Pr) (h : W.keyToks (prd a) = W.keyToks (prd b)) : a = b := by
  rw [keyToks_prd, keyToks_prd] at h
  simp only [List.cons.injEq, Sum.inl.injEq] at h
  exact Prod.ext h.2.1 h.2.2.2.1
theorem cmp_lt_prd (a b : Pr) : cmpop .lt (prd a) (prd b) = some (ltP a b) := by
  have h : ltOk (prd a) (prd b) = true := by simp [ltOk, prd, okKey, W.alike, W.alikeAll, PyData.depth, PyData.depthAll]
  show (if ltOk (prd a) (prd b) = true then some (ltP a b) else none) = _
  rw [if_pos h]
/-! ### rises -/
def rise (qs : List Pr) : Bool := (qs.zip (qs.drop 1)).all fun q => ltP q.1 q.2
theorem cut_drop1 {α : Type} (enc : α → PyData) (xs : List α) : cutD (xs.map enc) (some 1) none = (xs.drop 1).map enc := by
  unfold cutD
  have e : HT.sIx (xs.map enc).length 0 (some 1) = min 1 xs.length := by
    unfold HT.sIx
    simp
  have e2 : HT.sIx (xs.map enc).length (xs.map enc).length none = xs.length := by simp [HT.sIx]
  rw [e, e2]
  cases xs with
  | nil => rfl
  | cons x xs =>
    have : min 1 (x :: xs).length = 1 := by simp
    rw [this]
    simp [List.take_of_length_le]
theorem zipL_map {α : Type} (enc : α → PyData) : ∀ (xs ys : List α), zipL (xs.map enc) (ys.map enc) = (xs.zip ys).map fun q => .tuple [enc q.1, enc q.2]
  | [], _ => by simp [zipL]
  | _ :: _, [] => by simp [zipL]
  | x :: xs, y :: ys => by
    simp only [List.map_cons, zipL, List.zip_cons_cons, zipL_map enc xs ys]
theorem zipL_tail {α : Type} (enc : α → PyData) (xs : List α) : zipL (xs.map enc) (xs.map enc).tail = (xs.zip xs.tail).map fun q => .tuple [enc q.1, enc q.2] := by
  rw [← List.map_tail, zipL_map]
theorem zip_len (qs : List Pr) : (qs.zip (qs.drop 1)).length ≤ qs.length := by rw [List.length_zip]; omega
theorem m_risesT (qs : List Pr) (hl : qs.length ≤ lim) : F_rises [.imm (.tuple (qs.map prd))] = .ok (.imm (.bool (rise qs))) [.imm (.tuple (qs.map prd))] := by
  refine evF_immsR (ds := [.tuple (qs.map prd)]) rfl ?_
  have hc : evE ⟨[], [], [], [], []⟩ ex_rises_c1 [some (.imm (.tuple (qs.map prd))), none, none] = .ok (.val (.lst ((qs.zip (qs.drop 1)).map fun q => .bool (ltP q.1 q.2)))) [some (.imm (.tuple (qs.map prd))), none, none] := by
    unfold ex_rises_c1
    rw [ev_comp_encB (fun q : Pr × Pr => .tuple [prd q.1, prd q.2]) (qs.zip (qs.drop 1)) (fun q => ltP q.1 q.2) (ρ1 := [some (.imm (.tuple (qs.map prd))), none, none]) (by simp [slD, cut_drop1, zipD, zipL_tail, seqItems]) (fun q _ => by simp [turn, bindT, cmp_lt_prd, wipeR, setAll]) (Nat.le_trans (zip_len qs) hl)]
    simp [wipeR, unwipe]
  simp [ir_rises, hc, rise, all_id]
theorem m_risesL (qs : List Pr) (hl : qs.length ≤ lim) : F_rises [.lst (qs.map prd)] = .ok (.imm (.bool (rise qs))) [.imm (.list (qs.map prd))] := by
  have hc : evE ⟨[], [], [], [], []⟩ ex_rises_c1 [some (.lst (qs.map prd)), none, none] = .ok (.val (.lst ((qs.zip (qs.drop 1)).map fun q => .bool (ltP q.1 q.2)))) [some (.imm (.list (qs.map prd))), none, none] := by
    unfold ex_rises_c1
    rw [ev_comp_encB (fun q : Pr × Pr => .tuple [prd q.1, prd q.2]) (qs.zip (qs.drop 1)) (fun q => ltP q.1 q.2) (ρ1 := [some (.imm (.list (qs.map prd))), none, none]) (by simp [slD, cut_drop1, zipD, zipL_tail, seqItems]) (fun q _ => by simp [turn, bindT, cmp_lt_prd, wipeR, setAll]) (Nat.le_trans (zip_len qs) hl)]
    simp [wipeR, unwipe]
  refine evF_ret (ρ := [some (.imm (.list (qs.map prd))), none, none]) rfl rfl ?_ rfl
  simp [ir_rises, hc, rise, all_id]
theorem rise_of : ∀ {qs : List Pr}, qs.Pairwise (fun a b => ltP a b = true) → rise qs = true
  | [], _ => rfl
  | [_], _ => rfl
  | a :: b :: r, h => by
    have h1 := rise_of (List.pairwise_cons.mp h).2
    have h2 := (List.pairwise_cons.mp h).1 b (by simp)
    unfold rise at h1 ⊢
    simp only [List.drop_succ_cons, List.drop_zero, List.zip_cons_cons, List.all_cons, Bool.and_eq_true] at h1 ⊢
    exact ⟨h2, h1⟩
end BP
end

section
/-! Mt1: towers. -/
namespace BP
open PySem
/-- a tower's blocks as data: width and weight -/
def tw (bs : List Pr) : PyData := .tuple (bs.map prd)
/-- the weight from a block on -/
def wf (bs : List Pr) (k : Nat) : Int := ((bs.drop k).map (·.2)).sum
theorem cut_drop {α : Type} (enc : α → PyData) (xs : List α) (k : Nat) : cutD (xs.map enc) (some (k : Int)) none = (xs.drop k).map enc := by
  unfold cutD
  rw [sIx_nat]
  have e2 : HT.sIx (xs.map enc).length (xs.map enc).length none = xs.length := by simp [HT.sIx]
  rw [e2, List.length_map, List.map_drop]
  rcases Nat.le_total k xs.length with h | h
  · rw [Nat.min_eq_left h, List.take_of_length_le (by simp)]
  · rw [Nat.min_eq_right h, Nat.sub_self, List.take_zero, List.drop_eq_nil_of_le (by simpa using h)]
theorem ints_map (ns : List Int) : ints? (ns.map .int) = some ns := by
  induction ns with
  | nil => rfl
  | cons n ns ih => simp [ints?, ih]
theorem m_weight_from (bs : List Pr) (k : Nat) (hl : bs.length ≤ lim) : F_weight_from [.imm (tw bs), .imm (.int (k : Int))] = .ok (.imm (.int (wf bs k))) [.imm (tw bs), .imm (.int (k : Int))] := by
  refine evF_immsR (ds := [tw bs, .int (k : Int)]) rfl ?_
  have hc : evE ⟨[], [], [], [], []⟩ ex_weight_from_c1 [some (.imm (tw bs)), some (.imm (.int (k : Int))), none, none] = .ok (.val (.lst ((bs.drop k).map fun q => .int q.2))) [some (.imm (tw bs)), some (.imm (.int (k : Int))), none, none] := by
    unfold ex_weight_from_c1
    rw [ev_comp_encA prd (bs.drop k) (fun q => .int q.2) (ρ1 := [some (.imm (tw bs)), some (.imm (.int (k : Int))), none, none]) (by simp [tw, slD, cut_drop, seqItems]) (fun q _ => by simp [turn, bindT, prd, wipeR, setAll]) (by rw [List.length_drop]; omega)]
    simp [wipeR, unwipe]
  have hs : bltop .sum [.list ((bs.drop k).map fun q => PyData.int q.2)] = some (.imm (.int (wf bs k))) := by
    show ((ints? ((bs.drop k).map fun q => PyData.int q.2)).map fun ns => Cn.imm (.int ns.sum)) = _
    have : ((bs.drop k).map fun q : Pr => PyData.int q.2) = ((bs.drop k).map (·.2)).map PyData.int := by rw [List.map_map]; rfl
    rw [this, ints_map]
    rfl
  simp only [List.map_drop] at hs
  simp [ir_weight_from, hc, hs]
end BP
end

section
/-! Mf3: sizes of fractions. -/
namespace BP
open PySem
structure Sz (m : Nat) (q : Rat) : Prop where
  num : q.num.natAbs < 2 ^ m
  den : q.den < 2 ^ m
theorem log_lt {a m : Nat} (h : a < 2 ^ m) (h0 : 0 < m) : a.log2 < m := by
  by_cases h1 : a = 0
  · subst h1; simpa using h0
  · exact (Nat.log2_lt h1).mpr h
theorem Sz.fit {m : Nat} {q : Rat} (h : Sz m q) (h0 : 0 < m) (h1 : m ≤ 4000) : Fit q := ⟨Nat.lt_of_lt_of_le (log_lt h.num h0) h1, Nat.lt_of_lt_of_le (log_lt h.den h0) h1⟩
theorem sz_divInt {a b : Int} {m : Nat} (hb : b ≠ 0) (h1 : a.natAbs < 2 ^ m) (h2 : b.natAbs < 2 ^ m) : Sz m (Rat.divInt a b) := by
  have e1 := Rat.num_divInt a b
  have e2 := Rat.den_divInt a b
  constructor
  · rw [e1]
    refine Nat.lt_of_le_of_lt (Int.natAbs_ediv_le_natAbs _ _) ?_
    rw [Int.natAbs_mul, Int.natAbs_sign_of_ne_zero hb, Nat.one_mul]
    exact h1
  · rw [e2, if_neg hb]
    exact Nat.lt_of_le_of_lt (Nat.div_le_self _ _) h2
theorem Sz.mono {m n : Nat} {q : Rat} (h : Sz m q) (hm : m ≤ n) : Sz n q := ⟨Nat.lt_of_lt_of_le h.num (Nat.pow_le_pow_right (by decide) hm), Nat.lt_of_lt_of_le h.den (Nat.pow_le_pow_right (by decide) hm)⟩
theorem sz_plus {p q : Rat} {m n : Nat} (hp : Sz m p) (hq : Sz n q) : Sz (m + n + 1) (p + q) := by
  have e : Rat.divInt (p.num * q.den + q.num * p.den) ((p.den : Int) * (q.den : Int)) = p + q := by
    rw [Rat.add_def']
    rw [← Rat.divInt_ofNat]
    simp
  rw [← e]
  have h1 : p.num.natAbs * q.den < 2 ^ (m + n) := by rw [Nat.pow_add]; exact Nat.mul_lt_mul'' hp.num hq.den
  have h2 : q.num.natAbs * p.den < 2 ^ (m + n) := by rw [Nat.pow_add, Nat.mul_comm (2 ^ m)]; exact Nat.mul_lt_mul'' hq.num hp.den
  have h3 : p.den * q.den < 2 ^ (m + n) := by rw [Nat.pow_add]; exact Nat.mul_lt_mul'' hp.den hq.den
  have h4 : 2 ^ (m + n + 1) = 2 ^ (m + n) + 2 ^ (m + n) := by rw [Nat.pow_succ]; omega
  refine sz_divInt ?_ ?_ ?_
  · have := p.den_nz; have := q.den_nz
    exact Int.mul_ne_zero (by omega) (by omega)
  · have h5 := Int.natAbs_add_le (p.num * q.den) (q.num * p.den)
    rw [Int.natAbs_mul, Int.natAbs_mul, Int.natAbs_natCast, Int.natAbs_natCast] at h5
    omega
  · rw [Int.natAbs_mul, Int.natAbs_natCast, Int.natAbs_natCast]
    omega
theorem sz_neg {p : Rat} {m : Nat} (hp : Sz m p) : Sz m (-p) := ⟨by rw [Rat.neg_num, Int.natAbs_neg]; exact hp.num, by rw [Rat.neg_den]; exact hp.den⟩
theorem sz_minus {p q : Rat} {m n : Nat} (hp : Sz m p) (hq : Sz n q) : Sz (m + n + 1) (p - q) := by
  rw [Rat.sub_eq_add_neg]
  exact sz_plus hp (sz_neg hq)
theorem sz_times {p q : Rat} {m n : Nat} (hp : Sz m p) (hq : Sz n q) : Sz (m + n) (p * q) := by
  have e : Rat.divInt (p.num * q.num) ((p.den : Int) * (q.den : Int)) = p * q := by
    rw [Rat.mul_def']
    rw [← Rat.divInt_ofNat]
    simp
  rw [← e, Nat.add_comm]
  refine sz_divInt ?_ ?_ ?_
  · have := p.den_nz; have := q.den_nz
    exact Int.mul_ne_zero (by omega) (by omega)
  · rw [Int.natAbs_mul, Nat.pow_add, Nat.mul_comm (2 ^ n)]; exact Nat.mul_lt_mul'' hp.num hq.num
  · rw [Int.natAbs_mul, Int.natAbs_natCast, Int.natAbs_natCast, Nat.pow_add, Nat.mul_comm (2 ^ n)]; exact Nat.mul_lt_mul'' hp.den hq.den
end BP
end

section
/-! Mt2: reaches. -/
namespace BP
open PySem
structure TOk (bs : List Pr) : Prop where
  l0 : 1 ≤ bs.length
  l1 : bs.length ≤ 5
  ok : ∀ b ∈ bs, (1 ≤ b.1 ∧ b.1 ≤ 8) ∧ (1 ≤ b.2 ∧ b.2 ≤ 9)
theorem sum_bd : ∀ (bs : List Pr), (∀ b ∈ bs, 1 ≤ b.2 ∧ b.2 ≤ 9) → (bs.length : Int) ≤ (bs.map (·.2)).sum ∧ (bs.map (·.2)).sum ≤ 9 * (bs.length : Int)
  | [], _ => by simp
  | b :: bs, h => by
    have h1 := h b (by simp)
    have h2 := sum_bd bs fun c hc => h c (by simp [hc])
    simp only [List.map_cons, List.sum_cons, List.length_cons]
    omega
theorem wf_bd {bs : List Pr} (h : TOk bs) {k : Nat} (hk : k < bs.length) : 1 ≤ wf bs k ∧ wf bs k ≤ 45 := by
  have h1 := sum_bd (bs.drop k) fun b hb => (h.ok b (List.mem_of_mem_drop hb)).2
  have h2 := h.l1
  rw [List.length_drop] at h1
  unfold wf
  omega
/-- what the block i adds -/
def addR (bs : List Pr) (i : Nat) : Rat := Rat.divInt ((bs.getD i (0, 0)).1 * (bs.getD i (0, 0)).2) (2 * wf bs i)
def reachA (bs : List Pr) (n : Nat) : Rat := (List.range n).foldl (fun s i => s + addR bs i) 0 + (((bs.getD n (0, 0)).1 : Rat) - addR bs n)
theorem sz_add {bs : List Pr} (h : TOk bs) {i : Nat} (hi : i < bs.length) : Sz 7 (addR bs i) := by
  have hb := h.ok bs[i] (List.getElem_mem hi)
  have hw := wf_bd h hi
  have e : bs.getD i (0, 0) = bs[i] := by rw [List.getD_eq_getElem?_getD, List.getElem?_eq_getElem hi]; rfl
  unfold addR
  rw [e]
  have hm0 : 0 ≤ bs[i].1 * bs[i].2 := Int.mul_nonneg (by omega) (by omega)
  have hm1 : bs[i].1 * bs[i].2 ≤ 8 * 9 := Int.mul_le_mul (by omega) (by omega) (by omega) (by omega)
  exact sz_divInt (by omega) (by omega) (by omega)
theorem tw_ix {bs : List Pr} {i : Nat} (hi : i < bs.length) : ixD (tw bs) (.int (i : Int)) = some (prd (bs.getD i (0, 0))) := by
  have e : bs.getD i (0, 0) = bs[i] := by rw [List.getD_eq_getElem?_getD, List.getElem?_eq_getElem hi]; rfl
  have : (bs.map prd)[i]? = some (prd bs[i]) := by rw [List.getElem?_map, List.getElem?_eq_getElem hi]; rfl
  rw [e]
  exact atI_nat this
theorem prd_ix0 (q : Pr) : ixD (prd q) (.int 0) = some (.int q.1) := by simp [prd]
theorem prd_ix1 (q : Pr) : ixD (prd q) (.int 1) = some (.int q.2) := by simp [prd]
abbrev Tra : Tb := ⟨[], [], [], [], []⟩
theorem rd_zero : rd 0 = .tuple [.int 0, .int 1] := rfl
theorem rd_int (w : Int) : rd (w : Rat) = .tuple [.int w, .int 1] := rfl
end BP
end

section
/-! Mt3: reach_at. -/
namespace BP
open PySem
noncomputable abbrev TrA : Tb := ⟨[F_plus, F_ratio, F_weight_from, F_minus], [.tuple [.int 0, .int 1]], [], [], []⟩
theorem m_addR {bs : List Pr} (h : TOk bs) {i : Nat} (hi : i < bs.length) : F_ratio [.imm (.int ((bs.getD i (0, 0)).1 * (bs.getD i (0, 0)).2)), .imm (.int (2 * wf bs i))] = .ok (.imm (rd (addR bs i))) [.imm (.int ((bs.getD i (0, 0)).1 * (bs.getD i (0, 0)).2)), .imm (.int (2 * wf bs i))] := by
  have hw := wf_bd h hi
  refine m_ratio _ _ (by omega) ?_
  exact Nat.lt_of_lt_of_le (log_lt (m := 10) (by omega) (by decide)) (by decide)
theorem reach_lap {bs : List Pr} (h : TOk bs) (n : Nat) {i : Nat} (hi : i < bs.length) {s : Rat} (hs : Fit s) : lap TrA (.one 3) ir_reach_at_b1 [3] (.int (i : Int)) [some (.imm (tw bs)), some (.imm (.int (n : Int))), some (.imm (rd s)), none, none, none] =
    .ok .next [some (.imm (tw bs)), some (.imm (.int (n : Int))), some (.imm (rd (s + addR bs i))), none, none, none] := by
  have hr := m_addR h hi
  have hw := m_weight_from bs i (Nat.le_trans h.l1 (by decide))
  have hp := m_plus s (addR bs i) hs ((sz_add h hi).fit (by decide) (by decide))
  have hx := tw_ix hi
  have k1 : mulOk (bs.getD i (0, 0)).1 (bs.getD i (0, 0)).2 = true := by
    have hb := h.ok bs[i] (List.getElem_mem hi)
    have e : bs.getD i (0, 0) = bs[i] := by rw [List.getD_eq_getElem?_getD, List.getElem?_eq_getElem hi]; rfl
    rw [e]
    exact mul_small (by omega)
  have k2 : mulOk 2 (wf bs i) = true := mul_small' (by decide)
  generalize bs.getD i (0, 0) = q at hr hx k1
  simp [lap, bindT, ir_reach_at_b1, hx, prd_ix0, prd_ix1, k1, k2, hw, hr, hp, wipeR]
theorem reach_loop {bs : List Pr} (h : TOk bs) (n : Nat) : ∀ (is : List Nat) (s : Rat) (m : Nat), 0 < m → m + 8 * is.length ≤ 4000 → (∀ i ∈ is, i < bs.length) → Sz m s →
    forL (lap TrA (.one 3) ir_reach_at_b1 [3]) (is.map fun (i : Nat) => .int (i : Int)) [some (.imm (tw bs)), some (.imm (.int (n : Int))), some (.imm (rd s)), none, none, none] =
      .ok .next [some (.imm (tw bs)), some (.imm (.int (n : Int))), some (.imm (rd (is.foldl (fun s i => s + addR bs i) s))), none, none, none] ∧ Sz (m + 8 * is.length) (is.foldl (fun s i => s + addR bs i) s)
  | [], s, m, _, _, _, hs => ⟨rfl, hs⟩
  | i :: is, s, m, h0, hm, hi, hs => by
    rw [List.length_cons] at hm
    have h1 := reach_lap h n (hi i (by simp)) (hs.fit h0 (by omega))
    have h2 := reach_loop h n is (s + addR bs i) (m + 8) (by omega) (by omega) (fun j hj => hi j (by simp [hj])) (sz_plus hs (sz_add h (hi i (by simp))))
    rw [List.map_cons]
    unfold forL
    rw [h1]
    refine ⟨h2.1, ?_⟩
    have e : m + 8 + 8 * is.length = m + 8 * (i :: is).length := by rw [List.length_cons]; omega
    rw [← e]
    exact h2.2
theorem m_reach_at {bs : List Pr} (h : TOk bs) {n : Nat} (hn : n < bs.length) : F_reach_at [.imm (tw bs), .imm (.int (n : Int))] = .ok (.imm (rd (reachA bs n))) [.imm (tw bs), .imm (.int (n : Int))] ∧ Sz 100 (reachA bs n) := by
  have hl := h.l1
  have z0 : Sz 1 (0 : Rat) := ⟨by decide, by decide⟩
  obtain ⟨h1, h2⟩ := reach_loop h n (List.range n) 0 1 (by decide) (by simp; omega) (fun i hi => by have := List.mem_range.mp hi; omega) z0
  have e : bs.getD n (0, 0) = bs[n] := by rw [List.getD_eq_getElem?_getD, List.getElem?_eq_getElem hn]; rfl
  have hb := h.ok bs[n] (List.getElem_mem hn)
  have zw : Sz 4 ((bs.getD n (0, 0)).1 : Rat) := by
    rw [e]
    exact ⟨by show bs[n].1.natAbs < 2 ^ 4; omega, by show 1 < 2 ^ 4; decide⟩
  have za := sz_add h hn
  have zd := sz_minus zw za
  rw [List.length_range] at h2
  have zs := sz_plus h2 zd
  refine ⟨?_, zs.mono (by omega)⟩
  refine evF_immsR (ds := [tw bs, .int (n : Int)]) rfl ?_
  have hr := m_addR h hn
  have hw := m_weight_from bs n (Nat.le_trans h.l1 (by decide))
  have hm := m_minus _ _ (zw.fit (by decide) (by decide)) (za.fit (by decide) (by decide))
  have hp := m_plus _ _ (h2.fit (by omega) (by omega)) (zd.fit (by decide) (by decide))
  have hx := tw_ix hn
  have k1 : mulOk (bs.getD n (0, 0)).1 (bs.getD n (0, 0)).2 = true := by
    rw [e]
    exact mul_small (by omega)
  have k2 : mulOk 2 (wf bs n) = true := mul_small' (by decide)
  have hrg : rng (.int 0) (.int (n : Int)) = some ((List.range n).map fun (i : Nat) => .int (i : Int)) := by
    unfold rng
    have hlim : (lim : Int) = 1000000 := rfl
    simp only [Int.sub_zero, Int.toNat_natCast, rangeL_map, Int.zero_add]
    rw [if_pos (by omega)]
  unfold reachA
  rw [rd_zero] at h1
  rw [rd_int] at hm
  generalize bs.getD n (0, 0) = q at hr hx k1 hm hp ⊢
  simp -implicitDefEqProofs [ir_reach_at, ev_for, hrg, h1, hx, prd, bindT, setAll, k1, k2, hw, hr, hm, hp, lim]
end BP
end

section
/-! Mx1: the mathematics of towers, over functions. -/
namespace BP
/-- n blocks with weights m and widths w; W: the weight from a block on -/
structure Tow (n : Nat) (m w W : Nat → Rat) : Prop where
  mp : ∀ k, k < n → 0 < m k
  wp : ∀ k, k < n → 0 < w k
  W0 : W n = 0
  Ws : ∀ k, k < n → W k = m k + W (k + 1)
/-- what a block can add -/
def ad (m w W : Nat → Rat) (k : Nat) : Rat := w k * m k / (2 * W k)
def sm (f : Nat → Rat) : Nat → Rat
  | 0 => 0
  | k + 1 => sm f k + f k
structure Mids (n : Nat) (m w W x M : Nat → Rat) : Prop where
  mid : ∀ k, k < n → W k * M k = m k * (x k + w k / 2) + W (k + 1) * M (k + 1)
structure Hold (n : Nat) (w x M : Nat → Rat) : Prop where
  top : M 0 ≤ 0
  lo : ∀ k, k + 1 < n → x k ≤ M (k + 1)
  hi : ∀ k, k + 1 < n → M (k + 1) ≤ x k + w k
section
variable {n : Nat} {m w W x M : Nat → Rat}
theorem Tow.nn (h : Tow n m w W) : ∀ (d k : Nat), k + d = n → 0 ≤ W k
  | 0, k, e => by
    have : k = n := by omega
    subst this
    rw [h.W0]
    exact Rat.le_refl
  | d + 1, k, e => by
    have h1 := h.nn d (k + 1) (by omega)
    have h2 := h.Ws k (by omega)
    have h3 := h.mp k (by omega)
    grind
theorem Tow.pos (h : Tow n m w W) {k : Nat} (hk : k < n) : 0 < W k := by
  have h1 := h.nn (n - (k + 1)) (k + 1) (by omega)
  have h2 := h.Ws k hk
  have h3 := h.mp k hk
  grind
theorem Tow.adW (h : Tow n m w W) {k : Nat} (hk : k < n) : W k * ad m w W k = w k * m k / 2 := by
  have := h.pos hk
  unfold ad
  grind
theorem le_of_mul {a b c : Rat} (hc : 0 < c) (h : c * a ≤ c * b) : a ≤ b := by
  exact Rat.le_of_mul_le_mul_left h hc
theorem mul_le {a b c : Rat} (hc : 0 ≤ c) (h : a ≤ b) : c * a ≤ c * b := Rat.mul_le_mul_of_nonneg_left h hc
theorem Hold.step (h : Tow n m w W) (hm : Mids n m w W x M) (hh : Hold n w x M) {k : Nat} (hk : k + 1 < n) : M (k + 1) ≤ M k + ad m w W k := by
  have h0 := h.pos (k := k) (by omega)
  have h1 := h.adW (k := k) (by omega)
  have h2 := hm.mid k (by omega)
  have h3 := h.Ws k (by omega)
  have h4 := mul_le (c := m k) (by have := h.mp k (by omega); grind) (hh.hi k hk)
  refine le_of_mul h0 ?_
  have e : W k * M (k + 1) = m k * M (k + 1) + W (k + 1) * M (k + 1) := by rw [h3]; grind
  have e2 : W k * (M k + ad m w W k) = W k * M k + W k * ad m w W k := by grind
  rw [e, e2, h1, h2]
  grind
theorem Hold.mid (h : Tow n m w W) (hm : Mids n m w W x M) (hh : Hold n w x M) : ∀ {k : Nat}, k < n → M k ≤ sm (ad m w W) k
  | 0, _ => hh.top
  | k + 1, hk => by
    have h1 := Hold.mid h hm hh (k := k) (by omega)
    have h2 := Hold.step h hm hh hk
    show _ ≤ sm _ k + _
    grind
/-- no tower that holds reaches farther -/
theorem Hold.far (h : Tow n m w W) (hm : Mids n m w W x M) (hh : Hold n w x M) {k : Nat} (hk : k < n) : x k + w k ≤ sm (ad m w W) k + (w k - ad m w W k) := by
  have h0 := h.pos hk
  have h1 := h.adW hk
  have h2 := hm.mid k hk
  have h3 := h.Ws k hk
  have h5 := Hold.mid h hm hh hk
  have h6 : W (k + 1) * x k ≤ W (k + 1) * M (k + 1) := by
    by_cases hl : k + 1 < n
    · exact mul_le (by have := h.pos hl; grind) (hh.lo k hl)
    · have : k + 1 = n := by omega
      rw [this, h.W0]
      grind
  have h7 : x k ≤ M k - ad m w W k := by
    refine le_of_mul h0 ?_
    have e : W k * x k = m k * x k + W (k + 1) * x k := by rw [h3]; grind
    have e2 : W k * (M k - ad m w W k) = W k * M k - W k * ad m w W k := by grind
    rw [e, e2, h1, h2]
    grind
  grind
/-- where the weight above lies on a block of the shown tower -/
def plc (w : Nat → Rat) (best k : Nat) : Rat := if k = best then 0 else if k < best then w k else w k / 2
def md (m w W : Nat → Rat) (best : Nat) : Nat → Rat
  | 0 => 0
  | k + 1 => md m w W best k - m k / W k * (w k / 2 - plc w best k)
/-- the shown tower -/
def shw (n : Nat) (m w W : Nat → Rat) (best k : Nat) : Rat := if k + 1 = n then md m w W best k - w k / 2 else md m w W best (k + 1) - plc w best k
theorem shw_mids (h : Tow n m w W) (hm : Mids n m w W (shw n m w W best) M) : ∀ (d k : Nat), k + d + 1 = n → M k = md m w W best k
  | 0, k, e => by
    have h0 := h.pos (k := k) (by omega)
    have h2 := hm.mid k (by omega)
    have h3 := h.Ws k (by omega)
    have e1 : k + 1 = n := by omega
    rw [e1, h.W0] at h2 h3
    unfold shw at h2
    rw [if_pos e1] at h2
    have e3 : W k * M k = W k * md m w W best k := by rw [h2, h3]; grind
    exact Rat.le_antisymm (le_of_mul h0 (by rw [e3]; exact Rat.le_refl)) (le_of_mul h0 (by rw [e3]; exact Rat.le_refl))
  | d + 1, k, e => by
    have h0 := h.pos (k := k) (by omega)
    have h1 := shw_mids h hm d (k + 1) (by omega)
    have h2 := hm.mid k (by omega)
    have h3 := h.Ws k (by omega)
    unfold shw at h2
    rw [if_neg (by omega), h1] at h2
    have e2 : md m w W best (k + 1) = md m w W best k - m k / W k * (w k / 2 - plc w best k) := rfl
    have e4 : W k * md m w W best (k + 1) = W k * md m w W best k - m k * (w k / 2 - plc w best k) := by
      rw [e2]
      have : W k * (m k / W k) = m k := by grind
      grind
    have e3 : W k * M k = W k * md m w W best k := by
      have : W k * md m w W best (k + 1) = m k * md m w W best (k + 1) + W (k + 1) * md m w W best (k + 1) := by rw [h3]; grind
      rw [h2]
      grind
    exact Rat.le_antisymm (le_of_mul h0 (by rw [e3]; exact Rat.le_refl)) (le_of_mul h0 (by rw [e3]; exact Rat.le_refl))
theorem plc_bd (h : Tow n m w W) {k : Nat} (hk : k < n) : 0 ≤ plc w best k ∧ plc w best k ≤ w k := by
  have := h.wp k hk
  unfold plc
  split
  · grind
  · split <;> grind
theorem shw_hold (h : Tow n m w W) (hn : 0 < n) (hm : Mids n m w W (shw n m w W best) M) : Hold n w (shw n m w W best) M := by
  constructor
  · rw [shw_mids h hm (n - 1) 0 (by omega)]
    exact Rat.le_refl
  · intro k hk
    rw [shw_mids h hm (n - (k + 2)) (k + 1) (by omega)]
    unfold shw
    rw [if_neg (by omega)]
    have := plc_bd (best := best) h (k := k) (by omega)
    grind
  · intro k hk
    rw [shw_mids h hm (n - (k + 2)) (k + 1) (by omega)]
    unfold shw
    rw [if_neg (by omega)]
    have := plc_bd (best := best) h (k := k) (by omega)
    grind
theorem ad_eq (k : Nat) : ad m w W k = m k / W k * (w k / 2) := by
  unfold ad
  rw [Rat.div_def, Rat.div_def, Rat.div_def, Rat.inv_mul_rev]
  grind
/-- what the middle moves by -/
theorem md_step (best k : Nat) : md m w W best (k + 1) = md m w W best k - (if k = best then ad m w W k else if k < best then - ad m w W k else 0) := by
  show md m w W best k - m k / W k * (w k / 2 - plc w best k) = _
  rw [ad_eq]
  unfold plc
  split
  · grind
  · split <;> grind
theorem md_sm (best : Nat) : ∀ {k : Nat}, k ≤ best → md m w W best k = sm (ad m w W) k
  | 0, _ => rfl
  | k + 1, hk => by
    rw [md_step, md_sm best (k := k) (by omega), if_neg (by omega), if_pos (by omega)]
    show _ = sm _ k + _
    grind
/-- the shown tower reaches what is told -/
theorem shw_far (h : Tow n m w W) {best : Nat} (hb : best < n) : shw n m w W best best + w best = sm (ad m w W) best + (w best - ad m w W best) := by
  unfold shw
  split
  · rename_i e
    rw [md_sm best (Nat.le_refl _)]
    have h0 := h.pos hb
    have h1 := h.adW hb
    have h3 := h.Ws best hb
    rw [e, h.W0] at h3
    have h4 : ad m w W best = w best / 2 := by
      have e3 : W best * ad m w W best = W best * (w best / 2) := by rw [h1, h3]; grind
      exact Rat.le_antisymm (le_of_mul h0 (by rw [e3]; exact Rat.le_refl)) (le_of_mul h0 (by rw [e3]; exact Rat.le_refl))
    grind
  · rw [md_step, if_pos rfl, md_sm best (Nat.le_refl _)]
    unfold plc
    rw [if_pos rfl]
    grind
theorem far_zero (h : Tow n m w W) (hn : 0 < n) : w 0 ≤ 2 * (sm (ad m w W) 0 + (w 0 - ad m w W 0)) := by
  have h0 := h.pos hn
  have h1 := h.adW hn
  have h3 := h.Ws 0 hn
  have h4 := h.nn (n - 1) 1 (by omega)
  have h5 := h.wp 0 hn
  have h6 : ad m w W 0 ≤ w 0 / 2 := by
    refine le_of_mul h0 ?_
    rw [h1]
    have := mul_le (c := w 0) (a := m 0) (b := W 0) (by grind) (by grind)
    grind
  show _ ≤ 2 * ((0 : Rat) + _)
  grind
end
end BP
end

section
/-! Mt4: best_block, reach. -/
namespace BP
open PySem
def bbd (b : Rat × Nat) : PyData := .tuple [rd b.1, .int (b.2 : Int)]
def bestStep (bs : List Pr) (b : Rat × Nat) (k : Nat) : Rat × Nat := if b.1 < reachA bs (k + 1) then (reachA bs (k + 1), k + 1) else b
def bestB (bs : List Pr) : Rat × Nat := (List.range (bs.length - 1)).foldl (bestStep bs) (reachA bs 0, 0)
noncomputable abbrev TbB : Tb := ⟨[F_reach_at, F_is_less], [], [], [], []⟩
theorem best_loop {bs : List Pr} (h : TOk bs) {is : List Nat} (hi : ∀ k ∈ is, k + 1 < bs.length) {b : Rat × Nat} (hb : Sz 100 b.1) :
    forL (lap TbB (.one 2) ir_best_block_b1 [2, 3]) (is.map fun (k : Nat) => .int (1 + (k : Int))) [some (.imm (tw bs)), some (.imm (bbd b)), none, none] =
      .ok .next [some (.imm (tw bs)), some (.imm (bbd (is.foldl (bestStep bs) b))), none, none] ∧ Sz 100 (is.foldl (bestStep bs) b).1 := by
  refine forL_fold (b := lap TbB (.one 2) ir_best_block_b1 [2, 3]) (fun k : Nat => .int (1 + (k : Int))) (fun b => [some (.imm (tw bs)), some (.imm (bbd b)), none, none]) (bestStep bs) (fun b => Sz 100 b.1) ?_ hb
  intro k hk b hb
  obtain ⟨h1, h2⟩ := m_reach_at h (hi k hk)
  have e : (((k + 1 : Nat)) : Int) = 1 + (k : Int) := by omega
  rw [e] at h1
  have hl := m_is_less b.1 (reachA bs (k + 1)) (hb.fit (by decide) (by decide)) (h2.fit (by decide) (by decide))
  have hx : ixD (bbd b) (.int 0) = some (rd b.1) := by simp [bbd]
  unfold bestStep
  by_cases hc : b.1 < reachA bs (k + 1)
  · rw [if_pos hc]
    refine ⟨?_, h2⟩
    rw [decide_eq_true hc] at hl
    have e2 : bbd (reachA bs (k + 1), k + 1) = .tuple [rd (reachA bs (k + 1)), .int (1 + (k : Int))] := by unfold bbd; rw [← e]
    rw [e2]
    simp -implicitDefEqProofs [lap, bindT, ir_best_block_b1, h1, hx, hl, wipeR, lim]
  · rw [if_neg hc]
    refine ⟨?_, hb⟩
    rw [decide_eq_false hc] at hl
    simp -implicitDefEqProofs [lap, bindT, ir_best_block_b1, h1, hx, hl, wipeR, lim]
theorem m_best_block {bs : List Pr} (h : TOk bs) : F_best_block [.imm (tw bs)] = .ok (.imm (bbd (bestB bs))) [.imm (tw bs)] ∧ Sz 100 (bestB bs).1 := by
  have hl0 := h.l0
  have hl1 := h.l1
  obtain ⟨h1, h2⟩ := m_reach_at h (n := 0) (by omega)
  obtain ⟨h3, h4⟩ := best_loop h (is := List.range (bs.length - 1)) (fun k hk => by have := List.mem_range.mp hk; omega) (b := (reachA bs 0, 0)) h2
  refine ⟨?_, h4⟩
  refine evF_immsR (ds := [tw bs]) rfl ?_
  have hrg : rng (.int 1) (.int (bs.length : Int)) = some ((List.range (bs.length - 1)).map fun (k : Nat) => .int (1 + (k : Int))) := by
    unfold rng
    have hlim : (lim : Int) = 1000000 := rfl
    have e : ((bs.length : Int) - 1).toNat = bs.length - 1 := by omega
    simp only [e, rangeL_map]
    rw [if_pos (by omega)]
  have hlen : bltop .len [tw bs] = some (.imm (.int (bs.length : Int))) := by
    show some (Cn.imm (.int (((bs.map prd).length : Nat) : Int))) = _
    rw [List.length_map]
  have e0 : bbd (reachA bs 0, 0) = .tuple [rd (reachA bs 0), .int 0] := rfl
  rw [e0] at h3
  unfold bestB
  generalize (List.range (bs.length - 1)).foldl (bestStep bs) (reachA bs 0, 0) = B at h3
  have h1' : F_reach_at [.imm (tw bs), .imm (.int 0)] = .ok (.imm (rd (reachA bs 0))) [.imm (tw bs), .imm (.int 0)] := h1
  simp -implicitDefEqProofs [ir_best_block, ev_for, h1', hrg, hlen, h3, lim]
end BP
end

section
/-! Mt5: blocks are asked for, reach, is_fraction. -/
namespace BP
open PySem
theorem m_is_tower_block {q : Pr} (h : (1 ≤ q.1 ∧ q.1 ≤ 8) ∧ (1 ≤ q.2 ∧ q.2 ≤ 9)) : F_is_tower_block [.imm (prd q)] = .ok (.imm (.bool true)) [.imm (prd q)] := by
  refine evF_immsR (ds := [prd q]) rfl ?_
  unfold prd
  have h1 : inRange (.int q.1) 1 8 = true := by simp [inRange, h]
  have h2 : inRange (.int q.2) 1 9 = true := by simp [inRange, h]
  simp -implicitDefEqProofs [ir_is_tower_block, isTy, m_is_integer, h1, h2]
theorem tw_len (bs : List Pr) : bltop .len [tw bs] = some (.imm (.int (bs.length : Int))) := by
  show some (Cn.imm (.int (((bs.map prd).length : Nat) : Int))) = _
  rw [List.length_map]
theorem m_blocks_stand {bs : List Pr} (h : TOk bs) : F_blocks_stand [.imm (tw bs)] = .ok (.imm (.bool true)) [.imm (tw bs)] := by
  refine evF_immsR (ds := [tw bs]) rfl ?_
  have hc : evE ⟨[F_is_tower_block], [], [], [], []⟩ ex_blocks_stand_c1 [some (.imm (tw bs)), none] = .ok (.val (.lst (bs.map fun q => .bool true))) [some (.imm (tw bs)), none] := by
    unfold ex_blocks_stand_c1
    rw [ev_comp_encB prd bs (fun _ => true) (ρ1 := [some (.imm (tw bs)), none]) (by simp [tw, seqItems]) (fun q hq => by simp [turn, bindT, wipeR, m_is_tower_block (h.ok q hq)]) (Nat.le_trans h.l1 (by decide))]
    simp [wipeR, unwipe]
  have ha : bltop .all [.list (bs.map fun q => PyData.bool true)] = some (.imm (.bool true)) := by
    rw [blt_all]
    simp
  have l0 : (1 : Int) ≤ (bs.length : Int) := by have := h.l0; omega
  have l1 : (bs.length : Int) ≤ 5 := by have := h.l1; omega
  have hi : isTy (tw bs) .tuple = true := rfl
  generalize (bs.map fun q => PyData.bool true) = L at hc ha
  simp -implicitDefEqProofs [ir_blocks_stand, tw_len, hc, ha, l0, l1, hi]
theorem m_need_blocks {bs : List Pr} (h : TOk bs) : F_need_blocks [.imm (tw bs)] = .ok (.imm .none) [.imm (tw bs)] := by
  refine evF_immsR (ds := [tw bs]) rfl ?_
  simp -implicitDefEqProofs [ir_need_blocks, m_blocks_stand h, retOf]
theorem m_reach {bs : List Pr} (h : TOk bs) : F_reach [.imm (tw bs)] = .ok (.imm (rd (bestB bs).1)) [.imm (tw bs)] := by
  refine evF_immsR (ds := [tw bs]) rfl ?_
  have hx : ixD (bbd (bestB bs)) (.int 0) = some (rd (bestB bs).1) := by simp [bbd]
  simp -implicitDefEqProofs [ir_reach, m_need_blocks h, (m_best_block h).1, hx]
/-! ### fractions -/
def e12 : Int := 1000000000000
def isFrac : PyData → Bool
  | .tuple [.int a, .int b] => decide (-e12 ≤ a) && decide (a ≤ e12) && (decide (1 ≤ b) && decide (b ≤ e12) && decide (Int.gcd a b = 1))
  | _ => false
def isInt : PyData → Bool
  | .int _ => true
  | _ => false
theorem frac_len {xs : List PyData} (h : xs.length ≠ 2) : isFrac (.tuple xs) = false := by
  unfold isFrac
  split
  · rename_i e
    cases e
    simp at h
  · rfl
theorem frac_ints {a b : PyData} (h : (!isInt a || !isInt b) = true) : isFrac (.tuple [a, b]) = false := by
  unfold isFrac
  split
  · rename_i e
    cases e
    simp [isInt] at h
  · rfl
theorem m_is_fraction (d : PyData) : F_is_fraction [.imm d] = .ok (.imm (.bool (isFrac d))) [.imm d] := by
  refine evF_immsR (ds := [d]) rfl ?_
  cases d with
  | tuple xs =>
    by_cases hl : xs.length = 2
    · match xs, hl with
      | [a, b], hll =>
        clear hll
        have hc : evE ⟨[F_divisor], [], [], [], []⟩ ex_is_fraction_c1 [some (.imm (.tuple [a, b])), none, none] = .ok (.val (.lst ([a, b].map fun d => .bool (!isInt d)))) [some (.imm (.tuple [a, b])), none, none] := by
          unfold ex_is_fraction_c1
          rw [ev_comp_encB (fun d : PyData => d) [a, b] (fun d => !isInt d) (ρ1 := [some (.imm (.tuple [a, b])), none, none]) (by simp [seqItems]) (fun d hq => by cases d <;> simp [turn, bindT, wipeR, isTy, isInt]) (by show 2 ≤ 1000000; decide)]
          simp [wipeR, unwipe]
        have ha : bltop .any [.list ([a, b].map fun d => .bool (!isInt d))] = some (.imm (.bool (!isInt a || !isInt b))) := by
          rw [blt_any]
          simp
        cases hb : (!isInt a || !isInt b) with
        | true =>
          rw [hb] at ha
          rw [frac_ints hb]
          generalize ([a, b].map fun d => PyData.bool (!isInt d)) = L at hc ha
          simp -implicitDefEqProofs [ir_is_fraction, isTy, hc, ha]
        | false =>
          rw [hb] at ha
          generalize ([a, b].map fun d => PyData.bool (!isInt d)) = L at hc ha
          cases a <;> simp [isInt] at hb
          cases b <;> simp [isInt] at hb
          rename_i a b
          have hp : binop .pow (.int 10) (.int 12) = some (.imm (.int e12)) := by
            show (if powOk 10 12 then some (Cn.imm (.int (10 ^ (12 : Int).toNat))) else none) = _
            rw [if_pos (by decide)]
            rfl
          have he : (0 : Int) - e12 = -e12 := by decide
          unfold isFrac
          by_cases h1 : -e12 ≤ a
          · by_cases h2 : a ≤ e12
            · by_cases h3 : 1 ≤ b
              · by_cases h4 : b ≤ e12
                · have hd := m_divisor a b (by
                    have h5 : b.natAbs < 2 ^ 40 := by
                      have : (e12 : Int) = 1000000000000 := rfl
                      omega
                    exact Nat.lt_of_lt_of_le (log_lt h5 (by decide)) (by decide))
                  have hg : ((Int.gcd a b : Int) = 1) = (Int.gcd a b = 1) := by
                    apply propext
                    omega
                  simp -implicitDefEqProofs [ir_is_fraction, isTy, hc, ha, hp, he, h1, h2, h3, h4, hd, hg]
                · simp -implicitDefEqProofs [ir_is_fraction, isTy, hc, ha, hp, he, h1, h2, h3, h4]
              · simp -implicitDefEqProofs [ir_is_fraction, isTy, hc, ha, hp, he, h1, h2, h3]
            · simp -implicitDefEqProofs [ir_is_fraction, isTy, hc, ha, hp, he, h1, h2]
          · simp -implicitDefEqProofs [ir_is_fraction, isTy, hc, ha, hp, he, h1]
    · have hz : ¬ (xs.length : Int) = 2 := by omega
      simp -implicitDefEqProofs [ir_is_fraction, isTy, frac_len hl, hz]
  | _ => simp -implicitDefEqProofs [ir_is_fraction, isTy, isFrac]
def toRat : PyData → Rat
  | .tuple [.int a, .int b] => Rat.divInt a b
  | _ => 0
theorem toRat_rd (q : Rat) : toRat (rd q) = q := Rat.num_divInt_den q
theorem frac_rd {d : PyData} (h : isFrac d = true) : d = rd (toRat d) ∧ Sz 40 (toRat d) := by
  unfold isFrac at h
  split at h
  · rename_i a b
    simp only [Bool.and_eq_true, decide_eq_true_eq] at h
    obtain ⟨⟨h1, h2⟩, ⟨h3, h4⟩, h5⟩ := h
    have he : (e12 : Int) = 1000000000000 := rfl
    show _ = rd (Rat.divInt a b) ∧ Sz 40 (Rat.divInt a b)
    rw [ratio_pos a b (by omega), h5]
    refine ⟨by simp, sz_divInt (by omega) (by omega) (by omega)⟩
  · cases h
theorem frac_of {q : Rat} (h : Sz 39 q) : isFrac (rd q) = true := by
  have h1 := h.num
  have h2 := h.den
  have h3 := q.den_pos
  have h4 : Int.gcd q.num (q.den : Int) = 1 := by
    have := q.reduced
    simpa [Int.gcd, Nat.Coprime] using this
  have he : (e12 : Int) = 1000000000000 := rfl
  show (decide (-e12 ≤ q.num) && decide (q.num ≤ e12) && (decide ((1 : Int) ≤ (q.den : Int)) && decide ((q.den : Int) ≤ e12) && decide (Int.gcd q.num (q.den : Int) = 1))) = true
  rw [decide_eq_true (by omega), decide_eq_true (by omega), decide_eq_true (by omega), decide_eq_true (by omega), decide_eq_true h4]
  rfl
end BP
end

section
/-! Mt6: middles. -/
namespace BP
open PySem
theorem lim2Mt6 : 2 ≤ lim := by decide
theorem lim1Mt6 : 1 ≤ lim := by decide
theorem sz_div {p q : Rat} {m n : Nat} (hp : Sz m p) (hq : Sz n q) (h0 : q ≠ 0) : Sz (m + n) (p / q) := by
  have e : Rat.divInt (p.num * q.den) ((p.den : Int) * q.num) = p / q := by
    rw [Rat.div_def, Rat.inv_def, ← Rat.divInt_mul_divInt, Rat.num_divInt_den]
  have hn : q.num ≠ 0 := fun z => h0 (Rat.num_eq_zero.mp z)
  have hd := p.den_nz
  rw [← e]
  refine sz_divInt (Int.mul_ne_zero (by omega) hn) ?_ ?_
  · rw [Int.natAbs_mul, Nat.pow_add]
    exact Nat.mul_lt_mul_of_le_of_lt (Nat.le_of_lt hp.num) (by simpa using hq.den) (Nat.pow_pos (by decide)) |> fun h => by simpa using h
  · rw [Int.natAbs_mul, Nat.pow_add]
    exact Nat.mul_lt_mul_of_le_of_lt (Nat.le_of_lt (by simpa using hp.den)) hq.num (Nat.pow_pos (by decide)) |> fun h => by simpa using h
/-- lefts as data -/
def ld (xs : List Rat) : PyData := .tuple (xs.map rd)
def encZ (p : Pr × Rat) : PyData := .tuple [prd p.1, rd p.2]
theorem zip_enc : ∀ (bs : List Pr) (xs : List Rat), zipL (bs.map prd) (xs.map rd) = (bs.zip xs).map encZ
  | [], _ => by cases ‹List Rat› <;> rfl
  | _ :: _, [] => rfl
  | b :: bs, x :: xs => by
    show _ :: zipL (bs.map prd) (xs.map rd) = _
    rw [zip_enc bs xs]
    rfl
def adM (s : Rat) (p : Pr × Rat) : Rat := s + (p.1.2 : Rat) * (p.2 + Rat.divInt p.1.1 2)
def wholeT (bs : List Pr) (xs : List Rat) : Rat := (bs.zip xs).foldl adM 0
def midA (bs : List Pr) (xs : List Rat) (k : Nat) : Rat := wholeT (bs.drop k) (xs.drop k) / (wf bs k : Rat)
noncomputable abbrev Tmd : Tb := ⟨[F_plus, F_times, F_ratio, F_over, F_weight_from], [(.tuple [(.int 0), (.int 1)])], [], [], []⟩
theorem sz_half {w : Int} (h : 1 ≤ w ∧ w ≤ 8) : Sz 4 (Rat.divInt w 2) := sz_divInt (by decide) (by omega) (by decide)
theorem sz_int {w : Int} {m : Nat} (h : w.natAbs < 2 ^ m) (h0 : 0 < m) : Sz m (w : Rat) := ⟨h, by show 1 < 2 ^ m; exact Nat.one_lt_two_pow (by omega)⟩
theorem mid_lap {ρ4 : PyData} (b0 x0 f0 n0 : Option Cn) {p : Pr × Rat} (hb : (1 ≤ p.1.1 ∧ p.1.1 ≤ 8) ∧ (1 ≤ p.1.2 ∧ p.1.2 ≤ 9)) (hx : Sz 40 p.2) {s : Rat} {m : Nat} (h0 : 0 < m) (hm : m ≤ 3900) (hs : Sz m s) :
    lap Tmd (.tup [5, 6]) ir_middles_b2 [5, 6] (encZ p) [b0, x0, f0, n0, some (.imm (rd s)), none, none] = .ok .next [b0, x0, f0, n0, some (.imm (rd (adM s p))), none, none] ∧ Sz (m + 50) (adM s p) := by
  have z1 := sz_half hb.1
  have z2 := sz_plus hx z1
  have z3 : Sz 4 ((p.1.2 : Int) : Rat) := sz_int (by omega) (by decide)
  have z4 := sz_times z3 z2
  have z5 := sz_plus hs z4
  refine ⟨?_, z5.mono (by omega)⟩
  have hr := m_ratio p.1.1 2 (by decide) (by decide)
  have hp := m_plus _ _ (hx.fit (by decide) (by decide)) (z1.fit (by decide) (by decide))
  have ht := m_times _ _ (z3.fit (by decide) (by decide)) (z2.fit (by decide) (by decide))
  have hq := m_plus _ _ (hs.fit h0 (by omega)) (z4.fit (by decide) (by decide))
  rw [rd_int] at ht
  unfold adM
  simp -implicitDefEqProofs [lim1Mt6, lim2Mt6, lap, bindT, encZ, setAll, ir_middles_b2, prd_ix0, prd_ix1, hr, hp, ht, hq, wipeR]
theorem mid_inner (b0 x0 f0 n0 : Option Cn) : ∀ (ps : List (Pr × Rat)) (s : Rat) (m : Nat), 0 < m → m + 50 * ps.length ≤ 3900 → (∀ p ∈ ps, ((1 ≤ p.1.1 ∧ p.1.1 ≤ 8) ∧ (1 ≤ p.1.2 ∧ p.1.2 ≤ 9)) ∧ Sz 40 p.2) → Sz m s →
    forL (lap Tmd (.tup [5, 6]) ir_middles_b2 [5, 6]) (ps.map encZ) [b0, x0, f0, n0, some (.imm (rd s)), none, none] = .ok .next [b0, x0, f0, n0, some (.imm (rd (ps.foldl adM s))), none, none] ∧ Sz (m + 50 * ps.length) (ps.foldl adM s)
  | [], s, m, _, _, _, hs => ⟨rfl, hs⟩
  | p :: ps, s, m, h0, hm, hp, hs => by
    rw [List.length_cons] at hm
    obtain ⟨a1, a2⟩ := hp p (by simp)
    obtain ⟨h1, h1'⟩ := mid_lap (ρ4 := .none) b0 x0 f0 n0 a1 a2 h0 (by omega) hs
    have h2 := mid_inner b0 x0 f0 n0 ps (adM s p) (m + 50) (by omega) (by omega) (fun j hj => hp j (by simp [hj])) h1'
    rw [List.map_cons]
    unfold forL
    rw [h1]
    refine ⟨h2.1, ?_⟩
    have e : m + 50 + 50 * ps.length = m + 50 * (p :: ps).length := by rw [List.length_cons]; omega
    rw [← e]
    exact h2.2
structure XOk (bs : List Pr) (xs : List Rat) : Prop where
  len : xs.length = bs.length
  ok : ∀ x ∈ xs, Sz 40 x
theorem zip_len_le {α β : Type} (as : List α) (bs : List β) : (as.zip bs).length ≤ as.length := by rw [List.length_zip]; omega
theorem mid_outer {bs : List Pr} {xs : List Rat} (h : TOk bs) (hx : XOk bs xs) {k : Nat} (hk : k < bs.length) (acc : List PyData) (ha : acc.length + 1 ≤ lim) :
    lap Tmd (.one 3) ir_middles_b1 [3, 4, 5, 6] (.int (k : Int)) [some (.imm (tw bs)), some (.imm (ld xs)), some (.lst acc), none, none, none, none] =
      .ok .next [some (.imm (tw bs)), some (.imm (ld xs)), some (.lst (acc ++ [rd (midA bs xs k)])), none, none, none, none] ∧ Sz 300 (midA bs xs k) := by
  have hl := h.l1
  have z0 : Sz 1 (0 : Rat) := ⟨by decide, by decide⟩
  have hzl := zip_len_le (bs.drop k) (xs.drop k)
  rw [List.length_drop] at hzl
  obtain ⟨h1, h2⟩ := mid_inner (some (.imm (tw bs))) (some (.imm (ld xs))) (some (.lst acc)) (some (.imm (.int (k : Int)))) ((bs.drop k).zip (xs.drop k)) 0 1 (by decide) (by omega) (fun p hp => ⟨h.ok _ (List.mem_of_mem_drop (List.of_mem_zip hp).1), hx.ok _ (List.mem_of_mem_drop (List.of_mem_zip hp).2)⟩) z0
  have hw := wf_bd h hk
  have zw : Sz 6 ((wf bs k : Int) : Rat) := sz_int (by omega) (by decide)
  have hw0 : ((wf bs k : Int) : Rat) ≠ 0 := by
    intro e
    have e' : ((wf bs k : Int) : Rat) = ((0 : Int) : Rat) := e
    have := Rat.intCast_inj.mp e'
    omega
  have z2 : Sz 251 (wholeT (bs.drop k) (xs.drop k)) := h2.mono (by omega)
  have z3 := sz_div z2 zw hw0
  have ho := m_over _ _ (z2.fit (by decide) (by decide)) (zw.fit (by decide) (by decide)) hw0
  refine ⟨?_, z3.mono (by decide)⟩
  have hwf := m_weight_from bs k (Nat.le_trans hl (by decide))
  have hz : zipD (.tuple ((bs.map prd).drop k)) (.tuple ((xs.map rd).drop k)) = some (((bs.drop k).zip (xs.drop k)).map encZ) := by
    rw [← List.map_drop, ← List.map_drop]
    exact congrArg some (zip_enc _ _)
  have s1 : slD (tw bs) (some (k : Int)) none = some (.imm (.tuple ((bs.map prd).drop k))) := by
    show some (Cn.imm (.tuple (cutD (bs.map prd) _ _))) = _
    rw [cut_drop, List.map_drop]
  have s2 : slD (ld xs) (some (k : Int)) none = some (.imm (.tuple ((xs.map rd).drop k))) := by
    show some (Cn.imm (.tuple (cutD (xs.map rd) _ _))) = _
    rw [cut_drop, List.map_drop]
  rw [rd_zero] at h1
  rw [rd_int] at ho
  unfold midA
  show _ = Rs.ok _ _
  unfold wholeT at ho ⊢
  generalize ((bs.drop k).zip (xs.drop k)) = Z at h1 hz ho
  generalize (bs.map prd).drop k = B at hz s1
  generalize (xs.map rd).drop k = X at hz s2
  generalize Z.foldl adM 0 = S at h1 ho
  simp -implicitDefEqProofs [lim1Mt6, lim2Mt6, lap, bindT, ir_middles_b1, ev_for, s1, s2, hz, h1, hwf, ho, Nat.lt_of_succ_le ha, appF, wipeR]
def midsL (bs : List Pr) (xs : List Rat) : List Rat := (List.range bs.length).map (midA bs xs)
theorem rng0 {n : Nat} (h : n ≤ 1000) : rng (.int 0) (.int (n : Int)) = some ((List.range n).map fun (i : Nat) => .int (i : Int)) := by
  unfold rng
  have hlim : (lim : Int) = 1000000 := rfl
  simp only [Int.sub_zero, Int.toNat_natCast, rangeL_map, Int.zero_add]
  rw [if_pos (by omega)]
theorem m_middles {bs : List Pr} {xs : List Rat} (h : TOk bs) (hx : XOk bs xs) : F_middles [.imm (tw bs), .imm (ld xs)] = .ok (.lst ((midsL bs xs).map rd)) [.imm (tw bs), .imm (ld xs)] := by
  refine evF_immsR (ds := [tw bs, ld xs]) rfl ?_
  have hl := h.l1
  have hlim : lim = 1000000 := rfl
  have hf := forL_acc (b := lap Tmd (.one 3) ir_middles_b1 [3, 4, 5, 6]) (fun (k : Nat) => .int (k : Int)) (fun acc => [some (.imm (tw bs)), some (.imm (ld xs)), some (.lst acc), none, none, none, none]) (fun k => [rd (midA bs xs k)]) 1 (as := List.range bs.length)
    (fun k _ => by simp) (fun k hk acc ha => (mid_outer h hx (List.mem_range.mp hk) acc ha).1) (acc := []) (by rw [List.length_range]; simp; omega)
  have e : (List.range bs.length).flatMap (fun k => [rd (midA bs xs k)]) = (midsL bs xs).map rd := by
    unfold midsL
    rw [List.map_map]
    induction List.range bs.length with
    | nil => rfl
    | cons a l ih => rw [List.flatMap_cons, ih]; rfl
  rw [e, List.nil_append] at hf
  have hr := rng0 (n := bs.length) (by omega)
  generalize ((midsL bs xs).map rd) = M at hf
  simp -implicitDefEqProofs [lim1Mt6, lim2Mt6, ir_middles, ev_for, tw_len, hr, hf, lim, retF]
end BP
end

section
/-! Mt7: tower_holds, is_tower. -/
namespace BP
open PySem
theorem lim2Mt7 : 2 ≤ lim := by decide
theorem lim1Mt7 : 1 ≤ lim := by decide
theorem num_pos' (q : Rat) : 0 < q.num ↔ 0 < q := by
  rw [Rat.lt_iff]
  simp
def wA (bs : List Pr) (k : Nat) : Int := (bs.getD k (0, 0)).1
def mA (bs : List Pr) (k : Nat) : Int := (bs.getD k (0, 0)).2
def xA (xs : List Rat) (k : Nat) : Rat := xs.getD k 0
def holdK (bs : List Pr) (xs : List Rat) (k : Nat) : Bool := !decide (midA bs xs (k + 1) < xA xs k) && !decide (xA xs k + (wA bs k : Rat) < midA bs xs (k + 1))
def holdsB (bs : List Pr) (xs : List Rat) : Bool := !decide (0 < midA bs xs 0) && (List.range (bs.length - 1)).all (holdK bs xs)
noncomputable abbrev Tth : Tb := ⟨[F_middles, F_is_less, F_plus], [], [], [], []⟩
theorem rng1' {n : Nat} (h : n ≤ 1000) (h0 : 1 ≤ n) : rng (.int 1) (.int (n : Int)) = some ((List.range (n - 1)).map fun (k : Nat) => .int (1 + (k : Int))) := by
  unfold rng
  have hlim : (lim : Int) = 1000000 := rfl
  have e : ((n : Int) - 1).toNat = n - 1 := by omega
  simp only [e, rangeL_map]
  rw [if_pos (by omega)]
theorem ld_ix {xs : List Rat} {i : Nat} (hi : i < xs.length) : ixD (ld xs) (.int (i : Int)) = some (rd (xA xs i)) := by
  have e : xs.getD i 0 = xs[i] := by rw [List.getD_eq_getElem?_getD, List.getElem?_eq_getElem hi]; rfl
  have : (xs.map rd)[i]? = some (rd xs[i]) := by rw [List.getElem?_map, List.getElem?_eq_getElem hi]; rfl
  unfold xA
  rw [e]
  exact atI_nat this
theorem ll_ix {xs : List Rat} {i : Nat} (hi : i < xs.length) : ixD (.list (xs.map rd)) (.int (i : Int)) = some (rd (xA xs i)) := by
  have e : xs.getD i 0 = xs[i] := by rw [List.getD_eq_getElem?_getD, List.getElem?_eq_getElem hi]; rfl
  have : (xs.map rd)[i]? = some (rd xs[i]) := by rw [List.getElem?_map, List.getElem?_eq_getElem hi]; rfl
  unfold xA
  rw [e]
  exact atI_nat this
theorem mids_at {bs : List Pr} {xs : List Rat} {k : Nat} (hk : k < bs.length) : ixD (.list ((midsL bs xs).map rd)) (.int (k : Int)) = some (rd (midA bs xs k)) := by
  have h1 := ll_ix (xs := midsL bs xs) (i := k) (by unfold midsL; rw [List.length_map, List.length_range]; exact hk)
  have h2 : xA (midsL bs xs) k = midA bs xs k := by
    unfold xA midsL
    rw [List.getD_eq_getElem?_getD, List.getElem?_map, List.getElem?_range hk]
    rfl
  rw [h2] at h1
  exact h1
theorem sz_mid {bs : List Pr} {xs : List Rat} (h : TOk bs) (hx : XOk bs xs) {k : Nat} (hk : k < bs.length) : Sz 300 (midA bs xs k) := (mid_outer h hx hk [] (by decide)).2
theorem sz_wA {bs : List Pr} (h : TOk bs) {k : Nat} (hk : k < bs.length) : Sz 4 (wA bs k : Rat) := by
  have e : bs.getD k (0, 0) = bs[k] := by rw [List.getD_eq_getElem?_getD, List.getElem?_eq_getElem hk]; rfl
  have hb := h.ok bs[k] (List.getElem_mem hk)
  refine sz_int ?_ (by decide)
  unfold wA
  rw [e]
  omega
theorem sz_xA {bs : List Pr} {xs : List Rat} (hx : XOk bs xs) {k : Nat} (hk : k < bs.length) : Sz 40 (xA xs k) := by
  have hk' : k < xs.length := by have := hx.len; omega
  have e : xs.getD k 0 = xs[k] := by rw [List.getD_eq_getElem?_getD, List.getElem?_eq_getElem hk']; rfl
  unfold xA
  rw [e]
  exact hx.ok _ (List.getElem_mem hk')
theorem hold_lap {bs : List Pr} {xs : List Rat} (h : TOk bs) (hx : XOk bs xs) {k : Nat} (hk : k + 1 < bs.length) :
    lap Tth (.one 3) ir_tower_holds_b1 [3, 4] (.int (1 + (k : Int))) [some (.imm (tw bs)), some (.imm (ld xs)), some (.lst ((midsL bs xs).map rd)), none, none] =
      .ok (if !holdK bs xs k then .ret (.imm (.bool false)) else .next) [some (.imm (tw bs)), some (.imm (ld xs)), some (.lst ((midsL bs xs).map rd)), none, none] := by
  have zm := sz_mid h hx hk
  have zx := sz_xA hx (k := k) (by omega)
  have zw := sz_wA h (k := k) (by omega)
  have zp := sz_plus zx zw
  have l1 := m_is_less _ _ (zm.fit (by decide) (by decide)) (zx.fit (by decide) (by decide))
  have l2 := m_is_less _ _ (zp.fit (by decide) (by decide)) (zm.fit (by decide) (by decide))
  have hp := m_plus _ _ (zx.fit (by decide) (by decide)) (zw.fit (by decide) (by decide))
  have x1 := mids_at (xs := xs) hk
  have e : (((k + 1 : Nat)) : Int) = 1 + (k : Int) := by omega
  have e2 : 1 + (k : Int) - 1 = (k : Int) := by omega
  rw [e] at x1
  have x2 := ld_ix (xs := xs) (i := k) (by have := hx.len; omega)
  have x3 := tw_ix (bs := bs) (i := k) (by omega)
  have x4 : ixD (prd (bs.getD k (0, 0))) (.int 0) = some (.int (wA bs k)) := prd_ix0 _
  rw [rd_int] at hp
  unfold holdK
  generalize (midsL bs xs).map rd = M at x1
  generalize bs.getD k (0, 0) = q at x3 x4
  cases c1 : decide (midA bs xs (k + 1) < xA xs k) with
  | true =>
    rw [c1] at l1
    simp -implicitDefEqProofs [lim1Mt7, lim2Mt7, lap, bindT, ir_tower_holds_b1, e2, x1, x2, x3, x4, hp, l1, wipeR]
  | false =>
    rw [c1] at l1
    cases c2 : decide (xA xs k + (wA bs k : Rat) < midA bs xs (k + 1)) with
    | true =>
      rw [c2] at l2
      simp -implicitDefEqProofs [lim1Mt7, lim2Mt7, lap, bindT, ir_tower_holds_b1, e2, x1, x2, x3, x4, hp, l1, l2, wipeR]
    | false =>
      rw [c2] at l2
      simp -implicitDefEqProofs [lim1Mt7, lim2Mt7, lap, bindT, ir_tower_holds_b1, e2, x1, x2, x3, x4, hp, l1, l2, wipeR]
theorem m_tower_holds {bs : List Pr} {xs : List Rat} (h : TOk bs) (hx : XOk bs xs) : F_tower_holds [.imm (tw bs), .imm (ld xs)] = .ok (.imm (.bool (holdsB bs xs))) [.imm (tw bs), .imm (ld xs)] := by
  refine evF_immsR (ds := [tw bs, ld xs]) rfl ?_
  have hl0 := h.l0
  have hl1 := h.l1
  have hm := m_middles h hx
  have hr := rng1' (n := bs.length) (by omega) (by omega)
  have x0 := mids_at (xs := xs) (bs := bs) (k := 0) (by omega)
  have x1 : ixD (rd (midA bs xs 0)) (.int 0) = some (.int (midA bs xs 0).num) := by simp [rd]
  have hf := forL_any (b := lap Tth (.one 3) ir_tower_holds_b1 [3, 4]) (fun (k : Nat) => .int (1 + (k : Int))) (ρ := [some (.imm (tw bs)), some (.imm (ld xs)), some (.lst ((midsL bs xs).map rd)), none, none]) (.imm (.bool false)) (fun k => !holdK bs xs k) (as := List.range (bs.length - 1)) (fun k hk => hold_lap h hx (by have := List.mem_range.mp hk; omega))
  have ha : (List.range (bs.length - 1)).all (holdK bs xs) = !((List.range (bs.length - 1)).any fun k => !holdK bs xs k) := by
    rw [List.any_eq_not_all_not]; simp
  unfold holdsB
  rw [ha]
  have x0' : ixD (.list ((midsL bs xs).map rd)) (.int 0) = some (rd (midA bs xs 0)) := x0
  generalize ((List.range (bs.length - 1)).any fun k => !holdK bs xs k) = A at hf
  generalize (midsL bs xs).map rd = M at hm x0' hf
  by_cases hc : 0 < midA bs xs 0
  · have hc' : 0 < (midA bs xs 0).num := (num_pos' _).mpr hc
    simp -implicitDefEqProofs [lim1Mt7, lim2Mt7, ir_tower_holds, hm, x0', x1, hc, hc']
  · have hc' : ¬ 0 < (midA bs xs 0).num := fun z => hc ((num_pos' _).mp z)
    cases A with
    | true => simp -implicitDefEqProofs [lim1Mt7, lim2Mt7, ir_tower_holds, ev_for, hm, x0', x1, hc, hc', tw_len, hr, hf]
    | false => simp -implicitDefEqProofs [lim1Mt7, lim2Mt7, ir_tower_holds, ev_for, hm, x0', x1, hc, hc', tw_len, hr, hf]
def isTow (bs : List Pr) : PyData → Bool
  | .tuple xs => decide (xs.length = bs.length) && (xs.all isFrac && holdsB bs (xs.map toRat))
  | _ => false
theorem fracs_rd : ∀ {xs : List PyData}, xs.all isFrac = true → xs = (xs.map toRat).map rd ∧ ∀ x ∈ xs.map toRat, Sz 40 x
  | [], _ => ⟨rfl, by simp⟩
  | d :: xs, h => by
    rw [List.all_cons, Bool.and_eq_true] at h
    obtain ⟨h1, h2⟩ := fracs_rd h.2
    obtain ⟨h3, h4⟩ := frac_rd h.1
    refine ⟨?_, ?_⟩
    · rw [List.map_cons, List.map_cons, ← h3, ← h1]
    · intro x hx
      rw [List.map_cons, List.mem_cons] at hx
      rcases hx with rfl | hx
      · exact h4
      · exact h2 x hx
theorem m_is_tower {bs : List Pr} (h : TOk bs) (d : PyData) : F_is_tower [.imm (tw bs), .imm d] = .ok (.imm (.bool (isTow bs d))) [.imm (tw bs), .imm d] := by
  refine evF_immsR (ds := [tw bs, d]) rfl ?_
  have hl1 := h.l1
  have hn := m_need_blocks h
  cases d with
  | tuple xs =>
    by_cases hl : xs.length = bs.length
    · have hc : evE ⟨[F_need_blocks, F_is_fraction, F_tower_holds], [], [], [], []⟩ ex_is_tower_c1 [some (.imm (tw bs)), some (.imm (.tuple xs)), none] = .ok (.val (.lst (xs.map fun q => .bool (isFrac q)))) [some (.imm (tw bs)), some (.imm (.tuple xs)), none] := by
        unfold ex_is_tower_c1
        rw [ev_comp_encB (fun d : PyData => d) xs isFrac (ρ1 := [some (.imm (tw bs)), some (.imm (.tuple xs)), none]) (by simp [seqItems]) (fun q hq => by simp [turn, bindT, wipeR, m_is_fraction]) (by rw [hl]; exact Nat.le_trans h.l1 (by decide))]
        simp [wipeR, unwipe]
      have ha : bltop .all [.list (xs.map fun q => PyData.bool (isFrac q))] = some (.imm (.bool (xs.all isFrac))) := by
        rw [blt_all]
        first | done | simp
      have hlz : ((xs.length : Nat) : Int) = (bs.length : Int) := by rw [hl]
      have hv : isTow bs (.tuple xs) = (decide (xs.length = bs.length) && (xs.all isFrac && holdsB bs (xs.map toRat))) := rfl
      generalize (xs.map fun q => PyData.bool (isFrac q)) = L at hc ha
      cases hb : xs.all isFrac with
      | false =>
        rw [hb] at ha hv
        rw [hv, Bool.false_and, Bool.and_false]
        simp -implicitDefEqProofs [lim1Mt7, lim2Mt7, ir_is_tower, hn, isTy, tw_len, hlz, hc, ha]
      | true =>
        rw [hb, decide_eq_true hl] at hv
        rw [hb] at ha
        rw [hv, Bool.true_and, Bool.true_and]
        obtain ⟨e1, e2⟩ := fracs_rd hb
        have hx : XOk bs (xs.map toRat) := ⟨by rw [List.length_map, hl], e2⟩
        have ht := m_tower_holds h hx
        unfold ld at ht
        rw [← e1] at ht
        simp -implicitDefEqProofs [lim1Mt7, lim2Mt7, ir_is_tower, hn, isTy, tw_len, hlz, hc, ha, ht]
    · have hlz : ¬ ((xs.length : Nat) : Int) = (bs.length : Int) := by omega
      simp -implicitDefEqProofs [lim1Mt7, lim2Mt7, ir_is_tower, hn, isTy, tw_len, hlz, isTow, hl]
  | _ => simp -implicitDefEqProofs [lim1Mt7, lim2Mt7, ir_is_tower, hn, isTy, isTow]
end BP
end

section
/-! Mt8: reaching_tower. -/
namespace BP
open PySem
theorem lim2Mt8 : 2 ≤ lim := by decide
theorem lim1Mt8 : 1 ≤ lim := by decide
theorem bin_lst (xs ys : List PyData) : binop .add (.list xs) (.list ys) = if xs.length + ys.length ≤ lim then some (.lst (xs ++ ys)) else none := rfl
def fm (bs : List Pr) (k : Nat) : Rat := (mA bs k : Rat)
def fw (bs : List Pr) (k : Nat) : Rat := (wA bs k : Rat)
def fW (bs : List Pr) (k : Nat) : Rat := (wf bs k : Rat)
theorem ad_addR (bs : List Pr) (k : Nat) : ad (fm bs) (fw bs) (fW bs) k = addR bs k := by
  unfold ad addR fm fw fW mA wA
  rw [Rat.divInt_eq_div, Rat.intCast_mul, Rat.intCast_mul]
  rfl
theorem half_div (w : Int) : Rat.divInt w 2 = (w : Rat) / 2 := by
  rw [Rat.divInt_eq_div]
  rfl
abbrev mdB (bs : List Pr) (best : Nat) : Nat → Rat := md (fm bs) (fw bs) (fW bs) best
abbrev shB (bs : List Pr) (best : Nat) : Nat → Rat := shw bs.length (fm bs) (fw bs) (fW bs) best
abbrev plB (bs : List Pr) (best : Nat) : Nat → Rat := plc (fw bs) best
theorem getD_at {bs : List Pr} {k : Nat} (hk : k < bs.length) : bs.getD k (0, 0) = bs[k] := by rw [List.getD_eq_getElem?_getD, List.getElem?_eq_getElem hk]; rfl
theorem wm_bd {bs : List Pr} (h : TOk bs) {k : Nat} (hk : k < bs.length) : (1 ≤ wA bs k ∧ wA bs k ≤ 8) ∧ (1 ≤ mA bs k ∧ mA bs k ≤ 9) := by
  unfold wA mA
  rw [getD_at hk]
  exact h.ok _ (List.getElem_mem hk)
theorem sz_pl {bs : List Pr} (h : TOk bs) (best : Nat) {k : Nat} (hk : k < bs.length) : Sz 4 (plB bs best k) := by
  have hb := (wm_bd h hk).1
  unfold plB plc
  split
  · exact ⟨by decide, by decide⟩
  · split
    · exact sz_wA h hk
    · have := sz_half hb
      rw [half_div] at this
      exact this
theorem sz_md {bs : List Pr} (h : TOk bs) (best : Nat) : ∀ {k : Nat}, k ≤ bs.length → Sz (1 + 8 * k) (mdB bs best k)
  | 0, _ => ⟨by show (0 : Rat).num.natAbs < 2 ^ (1 + 8 * 0); decide, by show (0 : Rat).den < 2 ^ (1 + 8 * 0); decide⟩
  | k + 1, hk => by
    have h1 := sz_md h best (k := k) (by omega)
    have h2 := sz_add h (i := k) (by omega)
    unfold mdB at h1 ⊢
    rw [md_step, ad_addR]
    have h3 : Sz 7 (if k = best then addR bs k else if k < best then - addR bs k else 0) := by
      split
      · exact h2
      · split
        · exact sz_neg h2
        · exact ⟨by decide, by decide⟩
    exact (sz_minus h1 h3).mono (by omega)
noncomputable abbrev Trt : Tb := ⟨[F_need_blocks, F_best_block, F_minus, F_ratio, F_weight_from, F_times], [(.tuple [(.int 0), (.int 1)])], [], [], []⟩
def Rrt (bs : List Pr) (best : Nat) (acc : List PyData) (s : Rat) : Rho := [some (.imm (tw bs)), some (.imm (.int (best : Int))), some (.lst acc), some (.imm (rd s)), none, none, none, none, none, none]
theorem rt_lap {bs : List Pr} (h : TOk bs) (best : Nat) {k : Nat} (hk : k + 1 < bs.length) (acc : List PyData) (ha : acc.length + 1 ≤ lim) :
    lap Trt (.tup [4, 5]) ir_reaching_tower_b1 [4, 5, 6, 7, 8, 9] (.tuple [.int (k : Int), prd (bs.getD k (0, 0))]) (Rrt bs best acc (mdB bs best k)) = .ok .next (Rrt bs best (acc ++ [rd (shB bs best k)]) (mdB bs best (k + 1))) := by
  have hl1 := h.l1
  obtain ⟨b1, b2⟩ := wm_bd h (k := k) (by omega)
  have hwf := wf_bd h (k := k) (by omega)
  have zm := sz_md h best (k := k) (by omega)
  have zm1 := sz_md h best (k := k + 1) (by omega)
  have zp := sz_pl h best (k := k) (by omega)
  have zh := sz_half b1
  have zd := sz_minus zh zp
  have zs : Sz 6 (Rat.divInt (mA bs k) (wf bs k)) := sz_divInt (by omega) (by omega) (by omega)
  have zt := sz_times zs zd
  have hr := m_ratio (wA bs k) 2 (by decide) (by decide)
  have hr2 := m_ratio (mA bs k) (wf bs k) (by omega) (Nat.lt_of_lt_of_le (log_lt (m := 6) (by omega) (by decide)) (by decide))
  have hw := m_weight_from bs k (Nat.le_trans h.l1 (by decide))
  have hd := m_minus _ _ (zh.fit (by decide) (by decide)) (zp.fit (by decide) (by decide))
  have ht := m_times _ _ (zs.fit (by decide) (by decide)) (zd.fit (by decide) (by decide))
  have hm := m_minus _ _ (zm.fit (by omega) (by omega)) (zt.fit (by decide) (by decide))
  have ha1 := m_minus _ _ (zm1.fit (by omega) (by omega)) (zp.fit (by decide) (by decide))
  have e1 : mdB bs best k - Rat.divInt (mA bs k) (wf bs k) * (Rat.divInt (wA bs k) 2 - plB bs best k) = mdB bs best (k + 1) := by
    rw [half_div, Rat.divInt_eq_div]
    rfl
  rw [e1] at hm
  have e2 : mdB bs best (k + 1) - plB bs best k = shB bs best k := by
    unfold shB shw
    rw [if_neg (by omega)]
  rw [e2] at ha1
  have eq : prd (bs.getD k (0, 0)) = .tuple [.int (wA bs k), .int (mA bs k)] := rfl
  rw [eq]
  have c0 : ¬ ((k : Int) = (bs.length : Int) - 1) := by omega
  unfold Rrt
  generalize Rat.divInt (wA bs k) 2 - plB bs best k = D at hd ht hm
  generalize Rat.divInt (mA bs k) (wf bs k) * D = E at ht hm
  rcases Nat.lt_trichotomy k best with c | c | c
  · have c1 : (k : Int) < (best : Int) := by omega
    have c2 : ¬ ((k : Int) = (best : Int)) := by omega
    have ep : rd (plB bs best k) = .tuple [.int (wA bs k), .int 1] := by
      unfold plB plc
      rw [if_neg (by omega), if_pos c]
      rfl
    rw [ep] at hd ha1
    simp -implicitDefEqProofs [lim1Mt8, lim2Mt8, lap, bindT, setAll, ir_reaching_tower_b1, tw_len, c0, c1, c2, hr, hr2, hw, hd, ht, hm, ha1, Nat.lt_of_succ_le ha, appF, wipeR]
  · have c1 : ¬ ((k : Int) < (best : Int)) := by omega
    have c2 : ((k : Int) = (best : Int)) := by omega
    have ep : rd (plB bs best k) = .tuple [.int 0, .int 1] := by
      unfold plB plc
      rw [if_pos c]
      rfl
    rw [ep] at hd ha1
    generalize hK : (k : Int) = K at hw c0 c1 c2
    generalize hB : (best : Int) = B at c1 c2
    clear hK hB
    subst c2
    simp -implicitDefEqProofs [lim1Mt8, lim2Mt8, lap, bindT, setAll, ir_reaching_tower_b1, tw_len, c0, c1, hr, hr2, hw, hd, ht, hm, ha1, Nat.lt_of_succ_le ha, appF, wipeR]
  · have c1 : ¬ ((k : Int) < (best : Int)) := by omega
    have c2 : ¬ ((k : Int) = (best : Int)) := by omega
    have ep : plB bs best k = Rat.divInt (wA bs k) 2 := by
      unfold plB plc
      rw [if_neg (by omega), if_neg (by omega), half_div]
      rfl
    rw [ep] at hd ha1
    simp -implicitDefEqProofs [lim1Mt8, lim2Mt8, lap, bindT, setAll, ir_reaching_tower_b1, tw_len, c0, c1, c2, hr, hr2, hw, hd, ht, hm, ha1, Nat.lt_of_succ_le ha, appF, wipeR]
theorem rt_last {bs : List Pr} (h : TOk bs) (best : Nat) {k : Nat} (hk : k + 1 = bs.length) (acc : List PyData) (ha : acc.length + 1 ≤ lim) :
    ∃ ρ, lap Trt (.tup [4, 5]) ir_reaching_tower_b1 [4, 5, 6, 7, 8, 9] (.tuple [.int (k : Int), prd (bs.getD k (0, 0))]) (Rrt bs best acc (mdB bs best k)) = .ok (.ret (.imm (.tuple (acc ++ [rd (shB bs best k)])))) ρ := by
  have hl1 := h.l1
  obtain ⟨b1, b2⟩ := wm_bd h (k := k) (by omega)
  have zm := sz_md h best (k := k) (by omega)
  have zh := sz_half b1
  have hr := m_ratio (wA bs k) 2 (by decide) (by decide)
  have ha1 := m_minus _ _ (zm.fit (by omega) (by omega)) (zh.fit (by decide) (by decide))
  have e2 : mdB bs best k - Rat.divInt (wA bs k) 2 = shB bs best k := by
    unfold shB shw
    rw [if_pos hk, half_div]
    rfl
  rw [e2] at ha1
  have eq : prd (bs.getD k (0, 0)) = .tuple [.int (wA bs k), .int (mA bs k)] := rfl
  rw [eq]
  have c0 : ((k : Int) = (bs.length : Int) - 1) := by omega
  unfold Rrt
  generalize hK : (k : Int) = K at c0
  refine ⟨[some (.imm (tw bs)), some (.imm (.int (best : Int))), some (.lst acc), some (.imm (rd (mdB bs best k))), none, none, none, none, none, none], ?_⟩
  simp -implicitDefEqProofs [lim1Mt8, lim2Mt8, lap, bindT, setAll, ir_reaching_tower_b1, tw_len, c0, hr, ha1, ha, bin_lst, wipeR]
def shownL (bs : List Pr) (best : Nat) : List Rat := (List.range bs.length).map (shB bs best)
theorem rt_loop {bs : List Pr} (h : TOk bs) (best : Nat) : ∀ (d k : Nat), k + d + 1 = bs.length →
    ∃ ρ, forL (lap Trt (.tup [4, 5]) ir_reaching_tower_b1 [4, 5, 6, 7, 8, 9]) (enumL k ((bs.drop k).map prd)) (Rrt bs best (((List.range k).map (shB bs best)).map rd) (mdB bs best k)) = .ok (.ret (.imm (ld (shownL bs best)))) ρ
  | 0, k, e => by
    have hl1 := h.l1
    have hlim : lim = 1000000 := rfl
    have hk : k < bs.length := by omega
    obtain ⟨ρ, h1⟩ := rt_last h best (k := k) (by omega) (((List.range k).map (shB bs best)).map rd) (by rw [List.length_map, List.length_map, List.length_range]; omega)
    refine ⟨ρ, ?_⟩
    rw [List.drop_eq_getElem_cons hk, List.map_cons, ← getD_at hk, enumL_cons]
    unfold forL
    rw [h1]
    have : ((List.range k).map (shB bs best)).map rd ++ [rd (shB bs best k)] = (shownL bs best).map rd := by
      unfold shownL
      have e1 : bs.length = k + 1 := by omega
      have e2 : (List.range bs.length).map (shB bs best) = (List.range k).map (shB bs best) ++ [shB bs best k] := by
        rw [e1, List.range_succ, List.map_append]
        rfl
      rw [e2, List.map_append]
      rfl
    rw [this]
    rfl
  | d + 1, k, e => by
    have hl1 := h.l1
    have hlim : lim = 1000000 := rfl
    have hk : k < bs.length := by omega
    have h1 := rt_lap h best (k := k) (by omega) (((List.range k).map (shB bs best)).map rd) (by rw [List.length_map, List.length_map, List.length_range]; omega)
    obtain ⟨ρ, h2⟩ := rt_loop h best d (k + 1) (by omega)
    refine ⟨ρ, ?_⟩
    rw [List.drop_eq_getElem_cons hk, List.map_cons, ← getD_at hk, enumL_cons]
    unfold forL
    rw [h1]
    have : ((List.range k).map (shB bs best)).map rd ++ [rd (shB bs best k)] = ((List.range (k + 1)).map (shB bs best)).map rd := by
      rw [List.range_succ, List.map_append, List.map_append]
      rfl
    rw [this]
    exact h2
theorem m_reaching_tower {bs : List Pr} (h : TOk bs) : F_reaching_tower [.imm (tw bs)] = .ok (.imm (ld (shownL bs (bestB bs).2))) [.imm (tw bs)] := by
  refine evF_immsR (ds := [tw bs]) rfl ?_
  have hl0 := h.l0
  obtain ⟨ρ, h1⟩ := rt_loop h (bestB bs).2 (bs.length - 1) 0 (by omega)
  have hb := (m_best_block h).1
  have hx : ixD (bbd (bestB bs)) (.int 1) = some (.int ((bestB bs).2 : Int)) := by simp [bbd]
  have he : enumD (tw bs) = some (enumL 0 (bs.map prd)) := rfl
  rw [List.drop_zero] at h1
  have hz : mdB bs (bestB bs).2 0 = 0 := rfl
  rw [hz] at h1
  unfold Rrt at h1
  rw [rd_zero] at h1
  simp only [List.range_zero, List.map_nil] at h1
  generalize ld (shownL bs (bestB bs).2) = R at h1
  generalize enumL 0 (bs.map prd) = E at h1 he
  simp -implicitDefEqProofs [lim1Mt8, lim2Mt8, ir_reaching_tower, ev_for, m_need_blocks h, hb, hx, setAll, he, h1]
theorem sz_shown {bs : List Pr} (h : TOk bs) (best : Nat) : ∀ x ∈ shownL bs best, Sz 38 x := by
  intro x hx
  unfold shownL at hx
  obtain ⟨k, hk, rfl⟩ := List.mem_map.mp hx
  have hk := List.mem_range.mp hk
  have hl := h.l1
  obtain ⟨b1, b2⟩ := wm_bd h hk
  unfold shB shw
  split
  · have zh := sz_half b1
    rw [half_div] at zh
    exact (sz_minus (sz_md h best (Nat.le_of_lt hk)) zh).mono (by omega)
  · exact (sz_minus (sz_md h best (k := k + 1) (by omega)) (sz_pl h best hk)).mono (by omega)
end BP
end

section
/-! Mt9: the plain law of reaches. -/
namespace BP
open PySem
theorem adM_shift : ∀ (ps : List (Pr × Rat)) (s : Rat), ps.foldl adM s = s + ps.foldl adM 0
  | [], s => by simp [Rat.add_zero]
  | p :: ps, s => by
    rw [List.foldl_cons, List.foldl_cons, adM_shift ps (adM s p), adM_shift ps (adM 0 p)]
    unfold adM
    grind
theorem whole_cons (b : Pr) (bs : List Pr) (x : Rat) (xs : List Rat) : wholeT (b :: bs) (x :: xs) = (b.2 : Rat) * (x + (b.1 : Rat) / 2) + wholeT bs xs := by
  unfold wholeT
  rw [List.zip_cons_cons, List.foldl_cons, adM_shift]
  unfold adM
  rw [half_div]
  grind
theorem wf_end (bs : List Pr) : wf bs bs.length = 0 := by unfold wf; simp
theorem wf_step {bs : List Pr} {k : Nat} (hk : k < bs.length) : wf bs k = mA bs k + wf bs (k + 1) := by
  unfold wf mA
  rw [List.drop_eq_getElem_cons hk, List.map_cons, List.sum_cons, getD_at hk]
theorem tow_of {bs : List Pr} (h : TOk bs) : Tow bs.length (fm bs) (fw bs) (fW bs) := by
  constructor
  · intro k hk
    exact Rat.intCast_pos.mpr (by have := (wm_bd h hk).2; omega)
  · intro k hk
    exact Rat.intCast_pos.mpr (by have := (wm_bd h hk).1; omega)
  · unfold fW
    rw [wf_end]
    rfl
  · intro k hk
    unfold fW fm
    rw [wf_step hk, Rat.intCast_add]
theorem whole_mid {bs : List Pr} {xs : List Rat} (h : TOk bs) (hx : xs.length = bs.length) {k : Nat} (hk : k ≤ bs.length) : fW bs k * midA bs xs k = wholeT (bs.drop k) (xs.drop k) := by
  rcases Nat.lt_or_ge k bs.length with h1 | h1
  · have := (tow_of h).pos h1
    unfold midA
    show fW bs k * (wholeT (bs.drop k) (xs.drop k) / fW bs k) = _
    grind
  · have e : k = bs.length := by omega
    have e2 : (bs.drop k) = [] := List.drop_eq_nil_of_le h1
    rw [e2]
    have e3 : fW bs k = 0 := by rw [e]; exact (tow_of h).W0
    rw [e3, Rat.zero_mul]
    rfl
theorem mids_of {bs : List Pr} {xs : List Rat} (h : TOk bs) (hx : xs.length = bs.length) : Mids bs.length (fm bs) (fw bs) (fW bs) (xA xs) (midA bs xs) := by
  constructor
  intro k hk
  rw [whole_mid h hx (by omega), whole_mid h hx (k := k + 1) (by omega)]
  have hk' : k < xs.length := by omega
  have ex : xA xs k = xs[k] := by unfold xA; rw [List.getD_eq_getElem?_getD, List.getElem?_eq_getElem hk']; rfl
  rw [List.drop_eq_getElem_cons hk, List.drop_eq_getElem_cons hk', whole_cons, ex]
  unfold fm fw mA wA
  rw [getD_at hk]
theorem hold_of {bs : List Pr} {xs : List Rat} (hh : holdsB bs xs = true) : Hold bs.length (fw bs) (xA xs) (midA bs xs) := by
  unfold holdsB at hh
  rw [Bool.and_eq_true, List.all_eq_true] at hh
  obtain ⟨h1, h2⟩ := hh
  have h3 : ∀ k, k + 1 < bs.length → ¬ midA bs xs (k + 1) < xA xs k ∧ ¬ xA xs k + fw bs k < midA bs xs (k + 1) := by
    intro k hk
    have := h2 k (List.mem_range.mpr (by omega))
    unfold holdK at this
    simp only [Bool.and_eq_true, Bool.not_eq_true', decide_eq_false_iff_not] at this
    exact this
  constructor
  · exact Rat.not_lt.mp (by simpa using h1)
  · intro k hk
    exact Rat.not_lt.mp (h3 k hk).1
  · intro k hk
    exact Rat.not_lt.mp (h3 k hk).2
theorem holds_of {bs : List Pr} {xs : List Rat} (hh : Hold bs.length (fw bs) (xA xs) (midA bs xs)) : holdsB bs xs = true := by
  unfold holdsB
  rw [Bool.and_eq_true, List.all_eq_true]
  refine ⟨?_, ?_⟩
  · have := Rat.not_lt.mpr hh.top
    simpa using this
  · intro k hk
    have hk := List.mem_range.mp hk
    have h1 := hh.lo k (by omega)
    have h2 := hh.hi k (by omega)
    unfold holdK
    simp only [Bool.and_eq_true, Bool.not_eq_true', decide_eq_false_iff_not]
    exact ⟨Rat.not_lt.mpr h1, Rat.not_lt.mpr h2⟩
theorem sm_fold (bs : List Pr) : ∀ n, (List.range n).foldl (fun s i => s + addR bs i) 0 = sm (ad (fm bs) (fw bs) (fW bs)) n
  | 0 => rfl
  | n + 1 => by
    rw [List.range_succ, List.foldl_append, sm_fold bs n]
    show _ + addR bs n = _
    rw [← ad_addR]
    rfl
theorem reachA_eq (bs : List Pr) (n : Nat) : reachA bs n = sm (ad (fm bs) (fw bs) (fW bs)) n + (fw bs n - ad (fm bs) (fw bs) (fW bs) n) := by
  unfold reachA
  rw [sm_fold, ad_addR]
  rfl
/-- best_block gives the greatest -/
def Bst (bs : List Pr) (n : Nat) (B : Rat × Nat) : Prop := B.1 = reachA bs B.2 ∧ B.2 ≤ n ∧ ∀ k ≤ n, reachA bs k ≤ B.1
theorem best_fold (bs : List Pr) : ∀ (n : Nat), Bst bs n ((List.range n).foldl (bestStep bs) (reachA bs 0, 0))
  | 0 => by
    refine ⟨rfl, Nat.le_refl _, fun k hk => ?_⟩
    have : k = 0 := by omega
    subst this
    exact Rat.le_refl
  | n + 1 => by
    obtain ⟨h1, h2, h3⟩ := best_fold bs n
    rw [List.range_succ, List.foldl_append]
    generalize (List.range n).foldl (bestStep bs) (reachA bs 0, 0) = B at h1 h2 h3
    show Bst bs (n + 1) (bestStep bs B n)
    unfold bestStep
    split
    · rename_i hc
      refine ⟨rfl, Nat.le_refl _, fun k hk => ?_⟩
      rcases Nat.lt_or_ge k (n + 1) with hk' | hk'
      · exact Rat.le_trans (h3 k (by omega)) (Rat.le_of_lt hc)
      · have : k = n + 1 := by omega
        subst this; exact Rat.le_refl
    · rename_i hc
      refine ⟨h1, by omega, fun k hk => ?_⟩
      rcases Nat.lt_or_ge k (n + 1) with hk' | hk'
      · exact h3 k (by omega)
      · have : k = n + 1 := by omega
        subst this; exact Rat.not_lt.mp hc
theorem best_of {bs : List Pr} (h : TOk bs) : (bestB bs).1 = reachA bs (bestB bs).2 ∧ (bestB bs).2 < bs.length ∧ ∀ k < bs.length, reachA bs k ≤ (bestB bs).1 := by
  have hl := h.l0
  obtain ⟨h1, h2, h3⟩ := best_fold bs (bs.length - 1)
  exact ⟨h1, by unfold bestB; omega, fun k hk => h3 k (by omega)⟩
theorem shown_x {bs : List Pr} (best : Nat) {k : Nat} (hk : k < bs.length) : xA (shownL bs best) k = shB bs best k := by
  unfold xA shownL
  rw [List.getD_eq_getElem?_getD, List.getElem?_map, List.getElem?_range hk]
  rfl
theorem mids_ext {n : Nat} {m w W x y M : Nat → Rat} (h : Mids n m w W x M) (e : ∀ k < n, x k = y k) : Mids n m w W y M := ⟨fun k hk => by rw [← e k hk]; exact h.mid k hk⟩
theorem hold_ext {n : Nat} {w x y M : Nat → Rat} (h : Hold n w x M) (e : ∀ k < n, x k = y k) : Hold n w y M := ⟨h.top, fun k hk => by rw [← e k (by omega)]; exact h.lo k hk, fun k hk => by rw [← e k (by omega)]; exact h.hi k hk⟩
theorem shown_len (bs : List Pr) (best : Nat) : (shownL bs best).length = bs.length := by unfold shownL; rw [List.length_map, List.length_range]
/-- the shown tower holds -/
theorem shown_holds {bs : List Pr} (h : TOk bs) (best : Nat) : holdsB bs (shownL bs best) = true := by
  have hm := mids_of h (shown_len bs best)
  have e := fun k (hk : k < bs.length) => shown_x (bs := bs) best hk
  have hm' := mids_ext hm e
  exact holds_of (hold_ext (shw_hold (tow_of h) (by have := h.l0; omega) hm') fun k hk => (e k hk).symm)
theorem shown_tow {bs : List Pr} (h : TOk bs) (best : Nat) : isTow bs (ld (shownL bs best)) = true := by
  show (decide (((shownL bs best).map rd).length = bs.length) && (((shownL bs best).map rd).all isFrac && holdsB bs (((shownL bs best).map rd).map toRat))) = true
  have e : ((shownL bs best).map rd).map toRat = shownL bs best := by
    rw [List.map_map]
    have : toRat ∘ rd = id := funext toRat_rd
    rw [this, List.map_id]
  have e2 : ((shownL bs best).map rd).all isFrac = true := by
    rw [List.all_map, List.all_eq_true]
    intro x hx
    exact frac_of ((sz_shown h best x hx).mono (by decide))
  rw [e, e2, shown_holds h, List.length_map, shown_len]
  simp
/-! ### the reach of a tower -/
def farStep (o : Option Rat) (p : Pr × Rat) : Option Rat := match o with
  | none => some (p.2 + (p.1.1 : Rat))
  | some b => if b < p.2 + (p.1.1 : Rat) then some (p.2 + (p.1.1 : Rat)) else some b
def farT (bs : List Pr) (xs : List Rat) : Option Rat := (bs.zip xs).foldl farStep none
theorem far_fold : ∀ (ps : List (Pr × Rat)) (b : Rat), ∃ c, ps.foldl farStep (some b) = some c ∧ b ≤ c ∧ (∀ p ∈ ps, p.2 + (p.1.1 : Rat) ≤ c) ∧ (c = b ∨ ∃ p ∈ ps, c = p.2 + (p.1.1 : Rat))
  | [], b => ⟨b, rfl, Rat.le_refl, by simp, .inl rfl⟩
  | p :: ps, b => by
    rw [List.foldl_cons]
    by_cases hc : b < p.2 + (p.1.1 : Rat)
    · have e : farStep (some b) p = some (p.2 + (p.1.1 : Rat)) := by unfold farStep; simp [hc]
      rw [e]
      obtain ⟨c, h1, h2, h3, h4⟩ := far_fold ps (p.2 + (p.1.1 : Rat))
      refine ⟨c, h1, Rat.le_trans (Rat.le_of_lt hc) h2, ?_, ?_⟩
      · intro q hq
        rcases List.mem_cons.mp hq with rfl | hq
        · exact h2
        · exact h3 q hq
      · rcases h4 with h4 | ⟨q, hq, h4⟩
        · exact .inr ⟨p, by simp, h4⟩
        · exact .inr ⟨q, by simp [hq], h4⟩
    · have e : farStep (some b) p = some b := by unfold farStep; simp [hc]
      rw [e]
      obtain ⟨c, h1, h2, h3, h4⟩ := far_fold ps b
      refine ⟨c, h1, h2, ?_, ?_⟩
      · intro q hq
        rcases List.mem_cons.mp hq with rfl | hq
        · exact Rat.le_trans (Rat.not_lt.mp hc) h2
        · exact h3 q hq
      · rcases h4 with h4 | ⟨q, hq, h4⟩
        · exact .inl h4
        · exact .inr ⟨q, by simp [hq], h4⟩
theorem far_all : ∀ (ps : List (Pr × Rat)), ps ≠ [] → ∃ c, ps.foldl farStep none = some c ∧ (∀ p ∈ ps, p.2 + (p.1.1 : Rat) ≤ c) ∧ (∃ p ∈ ps, c = p.2 + (p.1.1 : Rat))
  | [], h => absurd rfl h
  | p :: ps, _ => by
    rw [List.foldl_cons]
    obtain ⟨c, h1, h2, h3, h4⟩ := far_fold ps (p.2 + (p.1.1 : Rat))
    refine ⟨c, h1, ?_, ?_⟩
    · intro q hq
      rcases List.mem_cons.mp hq with rfl | hq
      · exact h2
      · exact h3 q hq
    · rcases h4 with h4 | ⟨q, hq, h4⟩
      · exact ⟨p, by simp, h4⟩
      · exact ⟨q, by simp [hq], h4⟩
theorem zip_at {bs : List Pr} {xs : List Rat} (hx : xs.length = bs.length) {p : Pr × Rat} (hp : p ∈ bs.zip xs) : ∃ k < bs.length, p.2 + (p.1.1 : Rat) = xA xs k + fw bs k := by
  obtain ⟨k, hk, e⟩ := List.mem_iff_getElem.mp hp
  rw [List.length_zip] at hk
  have hk1 : k < bs.length := by omega
  have hk2 : k < xs.length := by omega
  refine ⟨k, hk1, ?_⟩
  rw [List.getElem_zip] at e
  subst e
  unfold xA fw wA
  rw [getD_at hk1, List.getD_eq_getElem?_getD, List.getElem?_eq_getElem hk2]
  rfl
theorem at_zip {bs : List Pr} {xs : List Rat} (hx : xs.length = bs.length) {k : Nat} (hk : k < bs.length) : ∃ p ∈ bs.zip xs, p.2 + (p.1.1 : Rat) = xA xs k + fw bs k := by
  have hk2 : k < xs.length := by omega
  have hk3 : k < (bs.zip xs).length := by rw [List.length_zip]; omega
  refine ⟨(bs.zip xs)[k], List.getElem_mem hk3, ?_⟩
  rw [List.getElem_zip]
  unfold xA fw wA
  rw [getD_at hk, List.getD_eq_getElem?_getD, List.getElem?_eq_getElem hk2]
  rfl
theorem far_le {bs : List Pr} {xs : List Rat} (h : TOk bs) (hx : xs.length = bs.length) (hh : holdsB bs xs = true) : ∃ c, farT bs xs = some c ∧ c ≤ (bestB bs).1 ∧ (∀ k < bs.length, xA xs k + fw bs k ≤ c) := by
  have hl := h.l0
  have hne : bs.zip xs ≠ [] := by
    intro e
    have := congrArg List.length e
    rw [List.length_zip, List.length_nil] at this
    omega
  obtain ⟨c, h1, h2, p, hp, h3⟩ := far_all _ hne
  refine ⟨c, h1, ?_, ?_⟩
  · obtain ⟨k, hk, e⟩ := zip_at hx hp
    rw [h3, e]
    have := Hold.far (tow_of h) (mids_of h hx) (hold_of hh) hk
    rw [← reachA_eq] at this
    exact Rat.le_trans this ((best_of h).2.2 k hk)
  · intro k hk
    obtain ⟨p, hp, e⟩ := at_zip hx hk
    rw [← e]
    exact h2 p hp
theorem far_shown {bs : List Pr} (h : TOk bs) : farT bs (shownL bs (bestB bs).2) = some (bestB bs).1 := by
  obtain ⟨c, h1, h2, h3⟩ := far_le h (shown_len bs (bestB bs).2) (shown_holds h _)
  obtain ⟨b1, b2, b3⟩ := best_of h
  rw [h1]
  congr 1
  refine Rat.le_antisymm h2 ?_
  have h4 := h3 _ b2
  rw [shown_x _ b2] at h4
  unfold shB at h4
  rw [shw_far (tow_of h) b2, ← reachA_eq, ← b1] at h4
  exact h4
theorem far_half {bs : List Pr} (h : TOk bs) : fw bs 0 ≤ 2 * (bestB bs).1 := by
  have h1 := far_zero (tow_of h) (by have := h.l0; omega)
  rw [← reachA_eq] at h1
  have h2 := (best_of h).2.2 0 (by have := h.l0; omega)
  grind
end BP
end

section
/-! Mp2: what is drawn of props; offers. -/
namespace BP
open PySem
theorem ev_popAt {T : Tb} {ρ : Rho} {i : Nat} {e : Ex} {xs : List PyData} (h : (ρ[i]?).join = some (.lst xs)) : evE T (.popAt i e) ρ = (evE T e ρ).bind (popAtF i) := by
  rw [evE, h]
theorem erase_perm {α : Type} : ∀ (l : List α) (i : Nat) (h : i < l.length), (l[i] :: l.eraseIdx i).Perm l
  | [], i, h => by simp at h
  | a :: l, 0, h => by simp
  | a :: l, i + 1, h => by
    have := erase_perm l i (by simpa using h)
    simp only [List.getElem_cons_succ, List.eraseIdx_cons_succ]
    exact (List.Perm.swap a _ _).trans (this.cons a)
theorem erase_map {α β : Type} (f : α → β) : ∀ (l : List α) (i : Nat), (l.map f).eraseIdx i = (l.eraseIdx i).map f
  | [], i => by simp
  | a :: l, 0 => by simp
  | a :: l, i + 1 => by simp [erase_map f l i]
theorem flat_prs (xs : List Pr) : flatD 2 (.list (xs.map prd)) = true := by
  show (xs.map prd).all (flatD 1) = true
  rw [List.all_map]
  exact List.all_eq_true.mpr fun x _ => rfl
theorem ne_prs (xs : List Pr) : cmpop .ne (.list (xs.map prd)) (.list []) = some (!decide (xs = [])) := by
  rw [cmp_ne_flat (flat_prs xs) (m := 1) rfl (by decide) (by decide)]
  cases xs <;> rfl
theorem some_loop (ns : List Int) (hn : ns.length ≤ lim) (c : Int) (x2 : Option Cn) : ∀ (m : Nat) (left found : List Pr) (n : Nat), left.length = m → n + m < lim → left.length + found.length ≤ lim →
    ∃ (left' found' : List Pr) (n' : Nat), n' ≤ n + m ∧ (left' ++ found').Perm (left ++ found) ∧ (found.length ≤ c → found'.length ≤ c) ∧
      whileW (fun ρ => (evE ⟨[F_law_draw], [], [], [], []⟩ ex_law_some_of_w1 ρ).bind b2) (wlap ⟨[F_law_draw], [], [], [], []⟩ ir_law_some_of_b1 []) [some (scr ns), some (stt n), x2, some (.imm (.int c)), some (.lst (left.map prd)), some (.lst (found.map prd))] =
        .ok .next [some (scr ns), some (stt n'), x2, some (.imm (.int c)), some (.lst (left'.map prd)), some (.lst (found'.map prd))] := by
  intro m
  induction m with
  | zero =>
    intro left found n hm hl hb
    have : left = [] := List.length_eq_zero_iff.mp hm
    subst this
    refine ⟨[], found, n, Nat.le_refl _, List.Perm.refl _, id, ?_⟩
    rw [whileW_eq]
    have := ne_prs []
    simp only [List.map_nil] at this
    simp [ex_law_some_of_w1, this]
  | succ m ih =>
    intro left found n hm hl hb
    have hne : left ≠ [] := by intro q; subst q; simp at hm
    by_cases hc : (found.length : Int) < c
    · obtain ⟨i, hi, hd⟩ := m_draw ns n left.length hn (by omega) (by omega)
      have hit : i.toNat < left.length := by omega
      have hg : left[i.toNat]? = some left[i.toNat] := List.getElem?_eq_getElem hit
      have hp : (left.eraseIdx i.toNat ++ (found ++ [left[i.toNat]])).Perm (left ++ found) := by
        have h1 : (left[i.toNat] :: left.eraseIdx i.toNat).Perm left := erase_perm left i.toNat hit
        have h2 : (left.eraseIdx i.toNat ++ (found ++ [left[i.toNat]])).Perm (left[i.toNat] :: left.eraseIdx i.toNat ++ found) := by
          rw [← List.append_assoc]
          refine (List.perm_append_comm).trans ?_
          simp
        exact h2.trans (h1.append_right found)
      obtain ⟨l', f', n', h1, h2, h3, h4⟩ := ih (left.eraseIdx i.toNat) (found ++ [left[i.toNat]]) (n + 1) (by rw [List.length_eraseIdx_of_lt hit]; omega) (by omega) (by rw [List.length_eraseIdx_of_lt hit, List.length_append]; simp; omega)
      refine ⟨l', f', n', by omega, h2.trans hp, fun _ => h3 (by rw [List.length_append]; simp; omega), ?_⟩
      rw [whileW_eq]
      have hlap : wlap ⟨[F_law_draw], [], [], [], []⟩ ir_law_some_of_b1 [] [some (scr ns), some (stt n), x2, some (.imm (.int c)), some (.lst (left.map prd)), some (.lst (found.map prd))] =
          .ok .next [some (scr ns), some (stt (n + 1)), x2, some (.imm (.int c)), some (.lst ((left.eraseIdx i.toNat).map prd)), some (.lst ((found ++ [left[i.toNat]]).map prd))] := by
        have hd' : F_law_draw [scr ns, stt n, .imm (.int ((left.map prd).length : Int))] = .ok (.imm (.int i)) [scr ns, stt (n + 1), .imm (.int ((left.map prd).length : Int))] := by
          rw [List.length_map]; exact hd
        have hx : (left.map prd)[i.toNat]? = some (prd left[i.toNat]) := by rw [List.getElem?_map, hg]; rfl
        have hpop : evE ⟨[F_law_draw], [], [], [], []⟩ (.popAt 4 (.call 0 (.cons (.var 0) (.cons (.var 1) (.cons (.blt .len (.cons (.var 4) .nil)) .nil))))) [some (scr ns), some (stt n), x2, some (.imm (.int c)), some (.lst (left.map prd)), some (.lst (found.map prd))] =
            .ok (.val (.imm (prd left[i.toNat]))) [some (scr ns), some (stt (n + 1)), x2, some (.imm (.int c)), some (.lst ((left.eraseIdx i.toNat).map prd)), some (.lst (found.map prd))] := by
          rw [ev_popAt (xs := left.map prd) rfl]
          have hlt : (i : Int) < ((left.map prd).length : Int) := by rw [List.length_map]; exact hi.2
          have hlm : (left.map prd).length ≤ lim := by rw [List.length_map]; omega
          have hcall : evE ⟨[F_law_draw], [], [], [], []⟩ (.call 0 (.cons (.var 0) (.cons (.var 1) (.cons (.blt .len (.cons (.var 4) .nil)) .nil)))) [some (scr ns), some (stt n), x2, some (.imm (.int c)), some (.lst (left.map prd)), some (.lst (found.map prd))] =
              .ok (.val (.imm (.int i))) [some (scr ns), some (stt (n + 1)), x2, some (.imm (.int c)), some (.lst (left.map prd)), some (.lst (found.map prd))] := by
            simp only [List.length_map] at hd'
            simp [hd']
          rw [hcall, Rs.bind_ok]
          have hpf : popAtF 4 (.val (.imm (.int i))) [some (scr ns), some (stt (n + 1)), x2, some (.imm (.int c)), some (.lst (left.map prd)), some (.lst (found.map prd))] =
              if 0 ≤ i ∧ i < (left.map prd).length ∧ (left.map prd).length ≤ lim then
                match (left.map prd)[i.toNat]? with
                | some y => .ok (.val (.imm y)) [some (scr ns), some (stt (n + 1)), x2, some (.imm (.int c)), some (.lst ((left.map prd).eraseIdx i.toNat)), some (.lst (found.map prd))]
                | none => .stuck
              else .stuck := rfl
          rw [hpf, if_pos ⟨hi.1, hlt, hlm⟩, hx, erase_map]
        have hf : (found.map prd).length < lim := by rw [List.length_map]; omega
        unfold wlap ir_law_some_of_b1
        have hfl : found.length < lim := by omega
        simp [hpop, appF, hfl, wipeR]
      have hcond : (evE ⟨[F_law_draw], [], [], [], []⟩ ex_law_some_of_w1 [some (scr ns), some (stt n), x2, some (.imm (.int c)), some (.lst (left.map prd)), some (.lst (found.map prd))]).bind b2 = .ok true [some (scr ns), some (stt n), x2, some (.imm (.int c)), some (.lst (left.map prd)), some (.lst (found.map prd))] := by
        simp [ex_law_some_of_w1, ne_prs, hne, hc]
      simp only [hcond, Rs.bind_ok, if_true, hlap, h4]
    · refine ⟨left, found, n, by omega, List.Perm.refl _, id, ?_⟩
      rw [whileW_eq]
      simp [ex_law_some_of_w1, ne_prs, hne, hc]

theorem m_some_of (ns : List Int) (n : Nat) (xs : List Pr) (c : Int) (hn : ns.length ≤ lim) (hl : n + xs.length < lim) (nd : xs.Nodup) (hc : 0 ≤ c) :
    ∃ (ys : List Pr) (n' : Nat), n' ≤ n + xs.length ∧ (ys.length : Int) ≤ c ∧ (∀ y ∈ ys, y ∈ xs) ∧ ys.length ≤ xs.length ∧ ys.Pairwise (fun a b => ltP a b = true) ∧
      F_law_some_of [scr ns, stt n, .lst (xs.map prd), .imm (.int c)] = .ok (.imm (.tuple (ys.map prd))) [scr ns, stt n', .lst (xs.map prd), .imm (.int c)] := by
  obtain ⟨l', f', n', h1, h2, h3, h4⟩ := some_loop ns hn c (some (.lst (xs.map prd))) xs.length xs [] n rfl hl (by simp; omega)
  simp only [List.append_nil] at h2
  have hlen := h2.length_eq
  rw [List.length_append] at hlen
  have ndf : f'.Nodup := (List.nodup_append.mp (h2.nodup_iff.mpr nd)).2.1
  have hperm := List.mergeSort_perm f' (fun a b => !W.dataLt (prd b) (prd a))
  refine ⟨f'.mergeSort fun a b => !W.dataLt (prd b) (prd a), n', h1, ?_, ?_, ?_, sort_strict prd keyToks_inj ndf, ?_⟩
  · rw [hperm.length_eq]; exact h3 (by simpa using hc)
  · intro y hy
    exact h2.mem_iff.mp (List.mem_append_right _ (hperm.mem_iff.mp hy))
  · rw [hperm.length_eq]; omega
  · refine evF_ret (ρ := [some (scr ns), some (stt n'), some (.lst (xs.map prd)), some (.imm (.int c)), some (.lst (l'.map prd)), some (.lst (f'.map prd))]) rfl rfl ?_ rfl
    have hs : sortOk (f'.map prd) = true := alike_ints4 0 (fun q : Pr => [q.1, q.2]) f' (by omega)
    have hxl : xs.length ≤ lim := by omega
    simp only [List.map_nil] at h4
    simp [ir_law_some_of, ev_while, h4, hs, sortD_map, setAll, hxl]
end BP
end

section
/-! Mp3: all props; offers. -/
namespace BP
open PySem
/-- every prop of a pile -/
def allPr (p : List Bk) : List Pr := p.zipIdx.flatMap fun q => (List.range (q.1.w + 1).toNat).map fun (k : Nat) => ((q.2 : Int), q.1.x + (k : Int))
theorem m_all_props (p : List Bk) (hp : p.length ≤ 6) (hb : ∀ b ∈ p, b.Ok) : F_law_all_props [.imm (pd p)] = .ok (.lst ((allPr p).map prd)) [.imm (pd p)] := by
  have he : enumD (pd p) = some (p.zipIdx.map (encIx Bk.d)) := congrArg some (enumL_map Bk.d 0 p)
  have hw : ∀ q ∈ p.zipIdx, Bk.Ok q.1 := fun q hq => hb q.1 (List.mem_of_getElem? (mem_zipIdx_lt hq).2)
  have h := forL_acc (b := lap ⟨[], [], [], [], []⟩ (.tup [2, 3]) ir_law_all_props_b1 [2, 3]) (encIx Bk.d) (fun acc => [some (.imm (pd p)), some (.lst acc), none, none, none]) (fun q : Bk × Nat => ((List.range (q.1.w + 1).toNat).map fun (k : Nat) => prd ((q.2 : Int), q.1.x + (k : Int)))) 9 (as := p.zipIdx)
    (fun q hq => by have := (hw q hq).w1; simp; omega)
    (fun q hq acc hacc => by
      have hq' := hw q hq
      have hlim : lim = 1000000 := rfl
      have hr : rng (.int q.1.x) (.int (q.1.x + q.1.w + 1)) = some (rangeL q.1.x (q.1.w + 1).toNat) := by
        show (if _ then some (rangeL q.1.x (q.1.x + q.1.w + 1 - q.1.x).toNat) else none) = _
        have h1 := hq'.x0; have h2 := hq'.x1; have h3 := hq'.w0; have h4 := hq'.w1
        rw [if_pos ⟨by omega, by omega, by omega, by omega⟩]
        congr 2
        omega
      have hc : evE ⟨[], [], [], [], []⟩ ex_law_all_props_c1 [some (.imm (pd p)), some (.lst acc), some (.imm (.int (q.2 : Int))), some (.imm q.1.d), none] = .ok (.val (.lst ((List.range (q.1.w + 1).toNat).map fun (k : Nat) => prd ((q.2 : Int), q.1.x + (k : Int))))) [some (.imm (pd p)), some (.lst acc), some (.imm (.int (q.2 : Int))), some (.imm q.1.d), none] := by
        unfold ex_law_all_props_c1
        rw [ev_comp_encA (fun k : Nat => .int (q.1.x + (k : Int))) (List.range (q.1.w + 1).toNat) (fun (k : Nat) => prd ((q.2 : Int), q.1.x + (k : Int))) (ρ1 := [some (.imm (pd p)), some (.lst acc), some (.imm (.int (q.2 : Int))), some (.imm q.1.d), none])
          (by simp [bk_ix0, bk_ix2, hr, rangeL_map]) (fun k _ => by simp [turn, bindT, wipeR, prd, lim]) (by have := hq'.w1; simp; omega)]
        simp [wipeR, unwipe]
      simp only [lap, encIx, bindT, List.length_cons, List.length_nil, if_true, setAll, List.map_cons, List.map_nil, List.set_cons_succ, List.set_cons_zero, Rs.ofOpt_some, Rs.bind_ok, ir_law_all_props_b1]
      have := hq'.w1
      have hl2 : acc.length + (q.1.w + 1).toNat ≤ lim := by omega
      simp [hc, wipeR, extF, hl2])
    (acc := []) (by rw [List.length_zipIdx]; show 0 + 9 * p.length ≤ 1000000; omega)
  refine evF_ret (ρ := [some (.imm (pd p)), none, none, none, none]) rfl rfl ?_ rfl
  have e : (p.zipIdx.flatMap fun q : Bk × Nat => ((List.range (q.1.w + 1).toNat).map fun (k : Nat) => prd ((q.2 : Int), q.1.x + (k : Int)))) = (allPr p).map prd := by
    unfold allPr
    rw [List.map_flatMap]
    congr 1
    funext q
    rw [List.map_map]
    rfl
  simp only [List.nil_append] at h
  rw [e] at h
  simp [ir_law_all_props, ev_for, he, h, retF]
/-- an offer -/
def isOf1 (p : List Bk) : PyData → Bool
  | .tuple [q, c] => isPr p q && inRange c 1 9
  | _ => false
def prOf : PyData → Pr
  | .tuple [.int a, .int b] => (a, b)
  | _ => (0, 0)
def fstD : PyData → PyData
  | .tuple (q :: _) => q
  | _ => .none
theorem isPr_prd {p : List Bk} {d : PyData} (h : isPr p d = true) : d = prd (prOf d) := by
  unfold isPr at h
  split at h
  · rename_i i b
    cases hg : p[i.toNat]? with
    | none => simp [hg] at h
    | some k =>
      simp only [hg, Bool.and_eq_true] at h
      have h2 := h.2
      unfold inRange at h2
      split at h2
      · rfl
      · cases h2
  · cases h
def isOff (p : List Bk) : PyData → Bool
  | .tuple xs => decide (xs.length ≤ 6) && (xs.all (isOf1 p) && rise (xs.map fun o => prOf (fstD o)))
  | _ => false
theorem off_lap (p : List Bk) (xs : List PyData) (o : PyData) : lap ⟨[F_is_prop, F_is_integer, F_rises], [], [], [], []⟩ (.one 2) ir_offers_stand_b1 [2] o [some (.imm (pd p)), some (.imm (.tuple xs)), none] = .ok (if !isOf1 p o then .ret (.imm (.bool false)) else .next) [some (.imm (pd p)), some (.imm (.tuple xs)), none] := by
  have key : ∀ b : Bool, (if b = true then Rs.ok (Fl.next) [some (Cn.imm (pd p)), some (.imm (.tuple xs)), none] else Rs.ok (.ret (.imm (.bool false))) [some (Cn.imm (pd p)), some (.imm (.tuple xs)), none]) = Rs.ok (if !b then .ret (.imm (.bool false)) else .next) [some (Cn.imm (pd p)), some (.imm (.tuple xs)), none] := by
    intro b; cases b <;> rfl
  cases o with
  | tuple ys =>
    match ys with
    | [] => simp [lap, bindT, ir_offers_stand_b1, isTy, isOf1, wipeR]
    | [a] => simp [lap, bindT, ir_offers_stand_b1, isTy, isOf1, wipeR]
    | [a, b] =>
      cases h1 : isPr p a <;> cases h2 : inRange b 1 9 <;> simp [lap, bindT, ir_offers_stand_b1, isTy, isOf1, wipeR, m_is_prop, m_is_integer, h1, h2]
    | a :: b :: c :: r =>
      have h3 : ¬ ((r.length : Int) + 1 + 1 + 1 = 2) := by omega
      simp [lap, bindT, ir_offers_stand_b1, isTy, isOf1, wipeR, h3]
  | _ => simp [lap, bindT, ir_offers_stand_b1, isTy, isOf1, wipeR]
theorem m_offers_stand (p : List Bk) (d : PyData) : F_offers_stand [.imm (pd p), .imm d] = .ok (.imm (.bool (isOff p d))) [.imm (pd p), .imm d] := by
  refine evF_immsR (ds := [pd p, d]) rfl ?_
  cases d with
  | tuple xs =>
    by_cases hl : xs.length ≤ 6
    · have hl' : ¬ ((6 : Int) < (xs.length : Int)) := by omega
      have hm : xs.length ≤ lim := Nat.le_trans hl (by decide)
      have hf := forL_any (b := lap ⟨[F_is_prop, F_is_integer, F_rises], [], [], [], []⟩ (.one 2) ir_offers_stand_b1 [2]) (fun o : PyData => o) (ρ := [some (.imm (pd p)), some (.imm (.tuple xs)), none]) (.imm (.bool false)) (fun o => !isOf1 p o) (as := xs) (fun o _ => off_lap p xs o)
      rw [List.map_id'] at hf
      cases hb : xs.any fun o => !isOf1 p o with
      | true =>
        have ha : xs.all (isOf1 p) = false := by
          rw [List.any_eq_not_all_not] at hb
          simpa using hb
        rw [hb] at hf
        simp [ir_offers_stand, isTy, isOff, hl', ev_for, seqItems, hf, ha]
      | false =>
        have ha : xs.all (isOf1 p) = true := by
          rw [List.any_eq_not_all_not] at hb
          simpa using hb
        rw [hb] at hf
        have hx : ∀ o ∈ xs, ∃ q c, o = .tuple [prd q, c] := by
          intro o ho
          have := List.all_eq_true.mp ha o ho
          unfold isOf1 at this
          split at this
          · rename_i q c
            simp only [Bool.and_eq_true] at this
            exact ⟨prOf q, c, by rw [← isPr_prd this.1]⟩
          · cases this
        have hc : evE ⟨[F_is_prop, F_is_integer, F_rises], [], [], [], []⟩ ex_offers_stand_c1 [some (.imm (pd p)), some (.imm (.tuple xs)), none] = .ok (.val (.lst ((xs.map fun o => prOf (fstD o)).map prd))) [some (.imm (pd p)), some (.imm (.tuple xs)), none] := by
          unfold ex_offers_stand_c1
          rw [ev_comp_encA (fun o : PyData => o) xs (fun o => prd (prOf (fstD o))) (ρ1 := [some (.imm (pd p)), some (.imm (.tuple xs)), none]) (by simp [seqItems]) (fun o ho => by
            obtain ⟨q, c, rfl⟩ := hx o ho
            simp [turn, bindT, wipeR, fstD, prOf, prd]) hm]
          simp [wipeR, unwipe, Function.comp_def]
        have hr := m_risesL (xs.map fun o => prOf (fstD o)) (by simpa using hm)
        simp only [List.map_map] at hr hc
        simp [ir_offers_stand, isTy, isOff, hl', hl, ev_for, seqItems, hf, ha, hc, hr]
    · have hl' : (6 : Int) < (xs.length : Int) := by omega
      simp [ir_offers_stand, isTy, isOff, hl, hl']
  | _ => simp [ir_offers_stand, isTy, isOff]
theorem m_are_offers {p : List Bk} (h : isPile (pd p) = true) (d : PyData) : F_are_offers [.imm (pd p), .imm d] = .ok (.imm (.bool (isOff p d))) [.imm (pd p), .imm d] := by
  refine evF_immsR (ds := [pd p, d]) rfl ?_
  simp [ir_are_offers, m_need_pile h, m_offers_stand]
theorem m_pickL (ns : List Int) (n : Nat) (xs : List PyData) (hn : ns.length ≤ lim) (hl : n < lim) (hx : 0 < xs.length) : ∃ d ∈ xs, F_law_pick [scr ns, stt n, .lst xs] = .ok (.imm d) [scr ns, stt (n + 1), .lst xs] := by
  obtain ⟨i, hi, h⟩ := m_draw ns n xs.length hn hl (by omega)
  obtain ⟨d, hd, hg⟩ := atI_pos hi.1 hi.2
  refine ⟨d, List.mem_of_getElem? hg, evF_ret (ρ := [some (scr ns), some (stt (n + 1)), some (.lst xs)]) rfl rfl ?_ rfl⟩
  simp [ir_law_pick, h, hd]
end BP
end

section
/-! Mk23: the law of reaches. -/
namespace BP
open PySem
theorem l1k : 1 ≤ lim := by decide
theorem l2k : 2 ≤ lim := by decide
theorem rat_den (q : Rat) : q * ((q.den : Int) : Rat) = (q.num : Rat) := by
  have h1 : q = (q.num : Rat) / ((q.den : Int) : Rat) := by
    have := Rat.num_divInt_den q
    rw [Rat.divInt_eq_div] at this
    exact this.symm
  have h2 : ((q.den : Int) : Rat) ≠ 0 := by
    intro e
    have e' : ((q.den : Int) : Rat) = ((0 : Int) : Rat) := e
    have := Rat.intCast_inj.mp e'
    have := q.den_nz
    omega
  have h3 : q * ((q.den : Int) : Rat) = (q.num : Rat) / ((q.den : Int) : Rat) * ((q.den : Int) : Rat) := by rw [← h1]
  rw [h3]
  generalize ((q.den : Int) : Rat) = D at h2
  generalize (q.num : Rat) = N
  grind
theorem half_num {w : Int} {q : Rat} (h : (w : Rat) ≤ 2 * q) : w * (q.den : Int) ≤ 2 * q.num := by
  have h1 := rat_den q
  have h2 : (0 : Rat) ≤ ((q.den : Int) : Rat) := by
    have : ((0 : Int) : Rat) ≤ ((q.den : Int) : Rat) := Rat.intCast_le_intCast.mpr (by omega)
    exact this
  have h3 := mul_le h2 h
  refine Rat.intCast_le_intCast.mp ?_
  rw [Rat.intCast_mul, Rat.intCast_mul]
  have e : ((2 : Int) : Rat) = 2 := rfl
  rw [e]
  grind
theorem rd_shift (x : Rat) (w : Int) : rd (x + (w : Rat)) = .tuple [.int (x.num + w * (x.den : Int)), .int (x.den : Int)] := by
  have e : Rat.divInt (x.num + w * (x.den : Int)) (x.den : Int) = x + (w : Rat) := by
    have h1 := rat_den x
    have h2 : ((x.den : Int) : Rat) ≠ 0 := by
      intro e
      have e' : ((x.den : Int) : Rat) = ((0 : Int) : Rat) := e
      have := Rat.intCast_inj.mp e'
      have := x.den_nz
      omega
    rw [Rat.divInt_eq_div, Rat.intCast_add, Rat.intCast_mul, ← h1]
    generalize ((x.den : Int) : Rat) = D at h2
    generalize (w : Rat) = N
    grind
  have hp := x.den_pos
  have hg : Int.gcd (x.num + w * (x.den : Int)) (x.den : Int) = 1 := by
    rw [Int.gcd_add_mul_right_left]
    have := x.reduced
    simpa [Int.gcd, Nat.Coprime] using this
  rw [← e, ratio_pos _ _ (by omega), hg]
  simp
def od : Option Rat → PyData
  | none => .none
  | some q => rd q
theorem rd_ix0 (q : Rat) : ixD (rd q) (.int 0) = some (.int q.num) := by simp [rd]
theorem rd_ix1 (q : Rat) : ixD (rd q) (.int 1) = some (.int (q.den : Int)) := by simp [rd]
theorem fit_mul {p q : Rat} (hp : Fit p) (hq : Fit q) : mulOk p.num (q.den : Int) = true := mul_log (by have := hp.num; omega) (by have := hq.den; simpa using (by omega : q.den.log2 < 400000))
theorem cmp_is_no : cmpop .is .none .none = some true := rfl
theorem cmp_is_rd (q : Rat) : cmpop .is (rd q) .none = some false := rfl
theorem far_lap (b0 x0 : Option Cn) {p : Pr × Rat} (hb : 1 ≤ p.1.1 ∧ p.1.1 ≤ 8) (hx : Sz 40 p.2) {o : Option Rat} (ho : ∀ q, o = some q → Sz 45 q) :
    lap ⟨[], [], [], [], []⟩ (.tup [3, 4]) ir_law_reach_b1 [3, 4, 5] (encZ p) [b0, x0, some (.imm (od o)), none, none, none] = .ok .next [b0, x0, some (.imm (od (farStep o p))), none, none, none] ∧ (∀ q, farStep o p = some q → Sz 45 q) := by
  have zw : Sz 4 (p.1.1 : Rat) := sz_int (by omega) (by decide)
  have zo : Sz 45 (p.2 + (p.1.1 : Rat)) := sz_plus hx zw
  have k1 : mulOk p.1.1 (p.2.den : Int) = true := mul_small (by have := hx.den; omega)
  have hown := (rd_shift p.2 p.1.1).symm
  cases o with
  | none =>
    refine ⟨?_, fun q hq => by cases hq; exact zo⟩
    have e : od (farStep none p) = rd (p.2 + (p.1.1 : Rat)) := rfl
    rw [e, ← hown]
    simp -implicitDefEqProofs [l1k, l2k, lap, bindT, encZ, setAll, ir_law_reach_b1, prd_ix0, rd_ix0, rd_ix1, k1, od, cmp_is_no, wipeR]
  | some b =>
    have zb := ho b rfl
    have hf : Fit (p.2 + (p.1.1 : Rat)) := zo.fit (by decide) (by decide)
    have hfb := zb.fit (by decide) (by decide)
    have k2 := fit_mul hf hfb
    have k3 := fit_mul hfb hf
    have hlt : decide (b.num * ((p.2 + (p.1.1 : Rat)).den : Int) < (p.2 + (p.1.1 : Rat)).num * (b.den : Int)) = decide (b < p.2 + (p.1.1 : Rat)) := by
      rw [decide_eq_decide]
      exact (Rat.lt_iff _ _).symm
    have e0 : od (some b) = rd b := rfl
    rw [e0]
    by_cases hc : b < p.2 + (p.1.1 : Rat)
    · have e : farStep (some b) p = some (p.2 + (p.1.1 : Rat)) := by unfold farStep; simp [hc]
      rw [e]
      refine ⟨?_, fun q hq => by cases hq; exact zo⟩
      rw [decide_eq_true hc] at hlt
      have hlt' := of_decide_eq_true hlt
      have e1 : od (some (p.2 + (p.1.1 : Rat))) = rd (p.2 + (p.1.1 : Rat)) := rfl
      rw [e1]
      generalize p.2 + (p.1.1 : Rat) = O at hown k2 k3 hlt'
      simp -implicitDefEqProofs [l1k, l2k, lap, bindT, encZ, setAll, ir_law_reach_b1, prd_ix0, rd_ix0, rd_ix1, k1, hown, cmp_is_rd, k2, k3, hlt', wipeR]
    · have e : farStep (some b) p = some b := by unfold farStep; simp [hc]
      rw [e]
      refine ⟨?_, fun q hq => by cases hq; exact zb⟩
      rw [decide_eq_false hc] at hlt
      have hlt' := of_decide_eq_false hlt
      rw [e0]
      generalize p.2 + (p.1.1 : Rat) = O at hown k2 k3 hlt'
      simp -implicitDefEqProofs [l1k, l2k, lap, bindT, encZ, setAll, ir_law_reach_b1, prd_ix0, rd_ix0, rd_ix1, k1, hown, cmp_is_rd, k2, k3, hlt', wipeR]
theorem far_loop (b0 x0 : Option Cn) {bs : List Pr} {xs : List Rat} (h : TOk bs) (hx : XOk bs xs) :
    forL (lap ⟨[], [], [], [], []⟩ (.tup [3, 4]) ir_law_reach_b1 [3, 4, 5]) ((bs.zip xs).map encZ) [b0, x0, some (.imm .none), none, none, none] = .ok .next [b0, x0, some (.imm (od (farT bs xs))), none, none, none] := by
  have := forL_fold (b := lap ⟨[], [], [], [], []⟩ (.tup [3, 4]) ir_law_reach_b1 [3, 4, 5]) encZ (fun o => [b0, x0, some (.imm (od o)), none, none, none]) farStep (fun o => ∀ q, o = some q → Sz 45 q) (as := bs.zip xs)
    (fun p hp o ho => far_lap b0 x0 (h.ok _ (List.of_mem_zip hp).1).1 (hx.ok _ (List.of_mem_zip hp).2) ho) (s := none) (fun q hq => by cases hq)
  exact this.1
theorem m_law_reachT {bs : List Pr} {xs : List Rat} (h : TOk bs) (hx : XOk bs xs) : F_law_reach [.imm (tw bs), .imm (ld xs)] = .ok (.imm (od (farT bs xs))) [.imm (tw bs), .imm (ld xs)] := by
  refine evF_immsR (ds := [tw bs, ld xs]) rfl ?_
  have hf := far_loop (some (.imm (tw bs))) (some (.imm (ld xs))) h hx
  have hz : zipD (tw bs) (ld xs) = some ((bs.zip xs).map encZ) := congrArg some (zip_enc bs xs)
  generalize (bs.zip xs).map encZ = Z at hf hz
  generalize od (farT bs xs) = O at hf
  simp -implicitDefEqProofs [l1k, l2k, ir_law_reach, ev_for, hz, hf, retF]
theorem m_law_reachL {bs : List Pr} {xs : List Rat} (h : TOk bs) (hx : XOk bs xs) : F_law_reach [.imm (tw bs), .lst (xs.map rd)] = .ok (.imm (od (farT bs xs))) [.imm (tw bs), .imm (.list (xs.map rd))] := by
  have hf := far_loop (some (.imm (tw bs))) (some (.imm (.list (xs.map rd)))) h hx
  have hz : zipD (tw bs) (.list (xs.map rd)) = some ((bs.zip xs).map encZ) := congrArg some (zip_enc bs xs)
  generalize (bs.zip xs).map encZ = Z at hf hz
  generalize xs.map rd = X at hf hz
  refine evF_ret (ρ := [some (.imm (tw bs)), some (.imm (.list X)), some (.imm (od (farT bs xs))), none, none, none]) rfl rfl ?_ rfl
  generalize od (farT bs xs) = O at hf
  simp -implicitDefEqProofs [l1k, l2k, ir_law_reach, ev_for, hz, hf, retF]
/-! ### draws -/
noncomputable abbrev T23 : Tb := ⟨[F_law_draw, F_reach, F_reaching_tower, F_is_tower, F_law_reach], [], [], [], []⟩
abbrev Ndraw : Ex := (.tup (.cons (.bin .add (.con (.int 1)) (.call 0 (.cons (.var 0) (.cons (.var 1) (.cons (.con (.int 8)) .nil))))) (.cons (.bin .add (.con (.int 1)) (.call 0 (.cons (.var 0) (.cons (.var 1) (.cons (.con (.int 9)) .nil))))) .nil)))
theorem blocks_drawn (ns : List Int) (hn : ns.length ≤ lim) : ∀ (ys : List PyData) (n : Nat), n + 2 * ys.length < lim → ∃ bs : List Pr, bs.length = ys.length ∧ (∀ b ∈ bs, (1 ≤ b.1 ∧ b.1 ≤ 8) ∧ (1 ≤ b.2 ∧ b.2 ≤ 9)) ∧
    compL (turn T23 Ndraw (.one 3) .none [3]) ys [some (scr ns), some (stt n), none, none, none, none, none, none, none, none, none] =
      .ok (bs.map prd) [some (scr ns), some (stt (n + 2 * ys.length)), none, none, none, none, none, none, none, none, none]
  | [], n, _ => ⟨[], rfl, by simp, rfl⟩
  | y :: ys, n, h => by
    rw [List.length_cons] at h
    obtain ⟨a, ha, hd⟩ := m_draw ns n 8 hn (by omega) (by decide)
    obtain ⟨b, hb, he⟩ := m_draw ns (n + 1) 9 hn (by omega) (by decide)
    obtain ⟨bs, h1, h2, h3⟩ := blocks_drawn ns hn ys (n + 2) (by omega)
    refine ⟨(1 + a, 1 + b) :: bs, by simp [h1], ?_, ?_⟩
    · intro o ho
      rcases List.mem_cons.mp ho with rfl | ho
      · simp only; omega
      · exact h2 o ho
    · unfold compL
      have ht : turn T23 Ndraw (.one 3) .none [3] y [some (scr ns), some (stt n), none, none, none, none, none, none, none, none, none] = .ok (some (prd (1 + a, 1 + b))) [some (scr ns), some (stt (n + 2)), none, none, none, none, none, none, none, none, none] := by
        simp [turn, bindT, hd, he, wipeR, prd, lim]
      rw [ht, Rs.bind_ok, h3, Rs.bind_ok]
      have : n + 2 + 2 * ys.length = n + 2 * (y :: ys).length := by rw [List.length_cons]; omega
      rw [this]
      rfl
theorem gcd_two (a : Int) : Int.gcd a 2 = if a % 2 = 1 then 1 else 2 := by
  show Nat.gcd a.natAbs 2 = _
  rw [Nat.gcd_comm, Nat.gcd_rec]
  rcases Nat.mod_two_eq_zero_or_one a.natAbs with h | h
  · rw [h, if_neg (by omega)]
    rfl
  · rw [h, if_pos (by omega)]
    rfl
theorem half_odd {a : Int} (h : a % 2 = 1) : rd (Rat.divInt a 2) = .tuple [.int a, .int 2] := by
  rw [ratio_pos a 2 (by decide), gcd_two, if_pos h]
  simp
theorem half_even {a : Int} (h : ¬ a % 2 = 1) : rd (Rat.divInt a 2) = .tuple [.int (a / 2), .int 1] := by
  rw [ratio_pos a 2 (by decide), gcd_two, if_neg h]
  simp
/-! ### the inner loop -/
def Rin (ns : List Int) (n : Nat) (bs : List Pr) (far : Rat) (sh ow : PyData) (again : PyData) (acc : List PyData) (at' : Int) : Rho :=
  [some (scr ns), some (stt n), some (.imm (tw bs)), some (.imm again), some (.imm (rd far)), some (.imm sh), some (.imm ow), some (.lst acc), some (.imm (.int at')), none, none]
theorem in_loop (ns : List Int) (hn : ns.length ≤ lim) (bs : List Pr) (far : Rat) (sh ow again : PyData) : ∀ (cs : List PyData) (n : Nat) (acc : List PyData) (at' : Int) (B : Nat), n + cs.length < lim → acc.length + cs.length ≤ lim → at'.natAbs ≤ B → B + 8 * cs.length ≤ 1000 →
    ∃ (xs : List Rat) (a2 : Int), xs.length = cs.length ∧ (∀ x ∈ xs, Sz 40 x) ∧
      forL (lap T23 (.one 9) ir_law_k23_b2 [9]) cs (Rin ns n bs far sh ow again acc at') = .ok .next (Rin ns (n + cs.length) bs far sh ow again (acc ++ xs.map rd) a2)
  | [], n, acc, at', B, _, _, _, _ => ⟨[], at', rfl, by simp, by simp [forL]⟩
  | c :: cs, n, acc, at', B, h1, h2, h3, h4 => by
    rw [List.length_cons] at h1 h2 h4
    obtain ⟨i, hi, hd⟩ := m_draw ns n 9 hn (by omega) (by decide)
    obtain ⟨xs, a2, e1, e2, e3⟩ := in_loop ns hn bs far sh ow again cs (n + 1) (acc ++ [rd (Rat.divInt (at' + (i - 2)) 2)]) (at' + (i - 2)) (B + 8) (by omega) (by rw [List.length_append, List.length_cons, List.length_nil]; omega) (by omega) (by omega)
    refine ⟨Rat.divInt (at' + (i - 2)) 2 :: xs, a2, by rw [List.length_cons, List.length_cons, e1], ?_, ?_⟩
    · intro x hx
      rcases List.mem_cons.mp hx with rfl | hx
      · exact sz_divInt (by decide) (by omega) (by decide)
      · exact e2 x hx
    · have hlap : lap T23 (.one 9) ir_law_k23_b2 [9] c (Rin ns n bs far sh ow again acc at') = .ok .next (Rin ns (n + 1) bs far sh ow again (acc ++ [rd (Rat.divInt (at' + (i - 2)) 2)]) (at' + (i - 2))) := by
        have hdv : divOk 2 = true := by decide
        have ha : acc.length < lim := by omega
        unfold Rin
        by_cases ho : (at' + (i - 2)) % 2 = 1
        · rw [half_odd ho]
          simp -implicitDefEqProofs [l1k, l2k, lap, bindT, ir_law_k23_b2, hd, ho, appF, ha, wipeR]
        · rw [half_even ho]
          simp -implicitDefEqProofs [l1k, l2k, lap, bindT, ir_law_k23_b2, hd, ho, hdv, appF, ha, wipeR]
      unfold forL
      rw [hlap]
      have f1 : n + 1 + cs.length = n + (c :: cs).length := by rw [List.length_cons]; omega
      have f2 : acc ++ [rd (Rat.divInt (at' + (i - 2)) 2)] ++ xs.map rd = acc ++ (Rat.divInt (at' + (i - 2)) 2 :: xs).map rd := by simp
      rw [f1, f2] at e3
      exact e3
end BP
end

section
namespace BP
open PySem
def ir_law_same_truth : Sxs := (.cons (.ret (.and (.isi (.var 0) .bool) (.cmp .eq (.var 0) (.var 1)))) .nil)
noncomputable def F_law_same_truth : Fden := evF ⟨[], [], [], [], []⟩ ⟨2, 2, ir_law_same_truth⟩
def ir_law_sum_b1 : Sxs := (.cons (.setN [1, 2] (.cons (.bin .add (.bin .mul (.var 1) (.ix (.var 3) (.con (.int 1)))) (.bin .mul (.ix (.var 3) (.con (.int 0))) (.var 2))) (.cons (.bin .mul (.var 2) (.ix (.var 3) (.con (.int
    1)))) .nil))) .nil)
def ir_law_sum : Sxs := (.cons (.setN [1, 2] (.cons (.con (.int 0)) (.cons (.con (.int 1)) .nil))) (.cons (.forr (.one 3) (.seq (.var 0)) ir_law_sum_b1 [3]) (.cons (.ret (.tup (.cons (.var 1) (.cons (.var 2) .nil)))) .nil)))
noncomputable def F_law_sum : Fden := evF ⟨[], [], [], [], []⟩ ⟨1, 4, ir_law_sum⟩
def ex_law_middle_c1 : Ex := (.comp (.tup (.cons (.bin .mul (.var 4) (.bin .add (.bin .mul (.con (.int 2)) (.ix (.var 5) (.con (.int 0)))) (.bin .mul (.var 3) (.ix (.var 5) (.con (.int 1)))))) (.cons (.bin .mul (.con (.int 2))
    (.ix (.var 5) (.con (.int 1)))) .nil))) (.pr (.tup [3, 4]) (.one 5)) (.zip (.cons (.var 0) (.cons (.var 1) .nil))) .none [3, 4, 5])
def ex_law_middle_c2 : Ex := (.comp (.var 4) (.tup [3, 4]) (.seq (.var 0)) .none [3, 4])
def ir_law_middle : Sxs := (.cons (.set (.one 2) ex_law_middle_c1) (.cons (.set (.tup [6, 7]) (.call 0 (.cons (.var 2) .nil))) (.cons (.ret (.tup (.cons (.var 6) (.cons (.bin .mul (.var 7) (.blt .sum (.cons ex_law_middle_c2
    .nil))) .nil)))) .nil)))
noncomputable def F_law_middle : Fden := evF ⟨[F_law_sum], [], [], [], []⟩ ⟨2, 8, ir_law_middle⟩
def ir_law_holds_b1 : Sxs := (.cons (.set (.tup [3, 4]) (.call 0 (.cons (.slice (.var 0) (.some (.var 2)) .none) (.cons (.slice (.var 1) (.some (.var 2)) .none) .nil)))) (.cons (.ifs (.and (.cmp .eq (.var 2) (.con (.int 0))) (.cmp
    .gt (.var 3) (.con (.int 0)))) (.cons (.ret (.con (.bool false))) .nil) .nil) (.cons (.ifs (.cmp .gt (.var 2) (.con (.int 0))) (.cons (.set (.tup [5, 6]) (.ix (.var 1) (.bin .sub (.var 2) (.con (.int
    1))))) (.cons (.set (.one 7) (.bin .add (.var 5) (.bin .mul (.var 6) (.ix (.ix (.var 0) (.bin .sub (.var 2) (.con (.int 1)))) (.con (.int 0)))))) (.cons (.ifs (.or (.cmp .lt (.bin .mul (.var 3) (.var
    6)) (.bin .mul (.var 5) (.var 4))) (.cmp .gt (.bin .mul (.var 3) (.var 6)) (.bin .mul (.var 7) (.var 4)))) (.cons (.ret (.con (.bool false))) .nil) .nil) .nil))) .nil) .nil)))
def ir_law_holds : Sxs := (.cons (.forr (.one 2) (.rng1 (.blt .len (.cons (.var 0) .nil))) ir_law_holds_b1 [2, 3, 4, 5, 6, 7]) (.cons (.ret (.con (.bool true))) .nil))
noncomputable def F_law_holds : Fden := evF ⟨[F_law_middle], [], [], [], []⟩ ⟨2, 8, ir_law_holds⟩
def ex_law_k22_c1 : Ex := (.comp (.tup (.cons (.bin .add (.con (.int 1)) (.call 0 (.cons (.var 0) (.cons (.var 1) (.cons (.con (.int 8)) .nil))))) (.cons (.bin .add (.con (.int 1)) (.call 0 (.cons (.var 0) (.cons (.var 1)
    (.cons (.con (.int 9)) .nil))))) .nil))) (.one 3) (.rng1 (.con (.int 3))) .none [3])
def ir_law_k22_b2 : Sxs := (.cons (.aug 5 (.bin .sub (.call 0 (.cons (.var 0) (.cons (.var 1) (.cons (.con (.int 9)) .nil)))) (.con (.int 4)))) (.cons (.app 4 (.ite (.cmp .eq (.bin .mod (.var 5) (.con (.int 2))) (.con (.int 1)))
    (.tup (.cons (.var 5) (.cons (.con (.int 2)) .nil))) (.tup (.cons (.bin .fdiv (.var 5) (.con (.int 2))) (.cons (.con (.int 1)) .nil))))) .nil))
def ir_law_k22_b1 : Sxs := (.cons (.setN [4, 5] (.cons (.lst .nil) (.cons (.bin .sub (.con (.int 0)) (.bin .mul (.con (.int 2)) (.ix (.ix (.var 2) (.con (.int 0))) (.con (.int 0))))) .nil))) (.cons (.forr (.one 6) (.seq (.var
    2)) ir_law_k22_b2 [6]) (.cons (.ifs (.not (.call 1 (.cons (.call 2 (.cons (.var 2) (.cons (.blt .tuple (.cons (.var 4) .nil)) .nil))) (.cons (.call 3 (.cons (.var 2) (.cons (.var 4) .nil))) .nil))))
    (.cons (.ret (.con (.bool false))) .nil) .nil) .nil)))
def ex_law_k22_c2 : Ex := (.comp (.call 2 (.cons (.var 2) (.cons (.var 8) .nil))) (.one 8) (.seq (.var 7)) .none [8])
def ir_law_k22 : Sxs := (.cons (.set (.one 1) (.lst .nil)) (.cons (.set (.one 2) (.blt .tuple (.cons ex_law_k22_c1 .nil))) (.cons (.set (.one 2) (.slice (.var 2) .none (.some (.bin .add (.con (.int 1)) (.call 0 (.cons (.var
    0) (.cons (.var 1) (.cons (.con (.int 3)) .nil)))))))) (.cons (.forr (.one 3) (.rng1 (.con (.int 6))) ir_law_k22_b1 [3, 5, 6]) (.cons (.set (.one 7) (.lst (.cons (.con .none) (.cons (.tup .nil)
    (.cons (.blt .list (.cons (.var 4) .nil)) (.cons (.bin .add (.blt .tuple (.cons (.var 4) .nil)) (.tup (.cons (.tup (.cons (.con (.int 0)) (.cons (.con (.int 1)) .nil))) .nil))) (.cons (.bin .mul
    (.tup (.cons (.con (.int 0)) .nil)) (.blt .len (.cons (.var 2) .nil))) (.cons (.bin .mul (.tup (.cons (.tup (.cons (.con (.int 0)) (.cons (.con (.int 2)) .nil))) .nil)) (.blt .len (.cons (.var 2)
    .nil))) (.cons (.con (.int 5)) .nil))))))))) (.cons (.ret (.not (.blt .any (.cons ex_law_k22_c2 .nil)))) .nil))))))
noncomputable def F_law_k22 : Fden := evF ⟨[F_law_draw, F_law_same_truth, F_is_tower, F_law_holds], [], [], [], []⟩ ⟨1, 9, ir_law_k22⟩
end BP
end

section
/-! Mk22: the law of towers. -/
namespace BP
open PySem
/-! ### sums of fractions -/
theorem pow_bd {x y a b : Nat} (hx : x < 2 ^ a) (hy : y < 2 ^ b) : x * y < 2 ^ (a + b) := by
  rw [Nat.pow_add]
  exact Nat.mul_lt_mul_of_le_of_lt (Nat.le_of_lt hx) hy (Nat.pow_pos (by decide)) |> fun h => h
theorem mul_bits {i j : Int} {a b : Nat} (hi : i.natAbs < 2 ^ a) (hj : j.natAbs < 2 ^ b) (ha : 0 < a) (hb : 0 < b) (h1 : a ≤ 300000) (h2 : b ≤ 300000) : mulOk i j = true :=
  mul_log (by have := log_lt hi ha; omega) (by have := log_lt hj hb; omega)
def sumStep (s p : Pr) : Pr := (s.1 * p.2 + p.1 * s.2, s.2 * p.2)
theorem sum_lap (l0 : Option Cn) {s p : Pr} {a b : Nat} (ha : 0 < a) (hb : 0 < b) (h1 : a ≤ 300000) (h2 : b ≤ 300000) (s1 : s.1.natAbs < 2 ^ a) (s2 : s.2.natAbs < 2 ^ a) (p1 : p.1.natAbs < 2 ^ b) (p2 : p.2.natAbs < 2 ^ b) :
    lap ⟨[], [], [], [], []⟩ (.one 3) ir_law_sum_b1 [3] (prd p) [l0, some (.imm (.int s.1)), some (.imm (.int s.2)), none] = .ok .next [l0, some (.imm (.int (sumStep s p).1)), some (.imm (.int (sumStep s p).2)), none] ∧ (sumStep s p).1.natAbs < 2 ^ (a + b + 1) ∧ (sumStep s p).2.natAbs < 2 ^ (a + b + 1) := by
  have k1 : mulOk s.1 p.2 = true := mul_bits s1 p2 ha hb h1 h2
  have k2 : mulOk p.1 s.2 = true := mul_bits p1 s2 hb ha h2 h1
  have k3 : mulOk s.2 p.2 = true := mul_bits s2 p2 ha hb h1 h2
  refine ⟨?_, ?_, ?_⟩
  · simp -implicitDefEqProofs [l1k, l2k, lap, bindT, ir_law_sum_b1, prd_ix0, prd_ix1, k1, k2, k3, setAll, wipeR, sumStep]
  · show (s.1 * p.2 + p.1 * s.2).natAbs < _
    have e1 := pow_bd s1 p2
    have e2 := pow_bd p1 s2
    rw [← Int.natAbs_mul] at e1 e2
    have e3 : 2 ^ (b + a) = 2 ^ (a + b) := by rw [Nat.add_comm]
    have e4 : 2 ^ (a + b + 1) = 2 ^ (a + b) + 2 ^ (a + b) := by rw [Nat.pow_succ]; omega
    omega
  · show (s.2 * p.2).natAbs < _
    have e1 := pow_bd s2 p2
    rw [← Int.natAbs_mul] at e1
    have e4 : 2 ^ (a + b + 1) = 2 ^ (a + b) + 2 ^ (a + b) := by rw [Nat.pow_succ]; omega
    omega
def part (z : Pr × Rat) : Pr := (z.1.2 * (2 * z.2.num + z.1.1 * (z.2.den : Int)), 2 * (z.2.den : Int))
def ZOk (z : Pr × Rat) : Prop := ((1 ≤ z.1.1 ∧ z.1.1 ≤ 8) ∧ (1 ≤ z.1.2 ∧ z.1.2 ≤ 9)) ∧ Sz 40 z.2
theorem part_bd {z : Pr × Rat} (h : ZOk z) : (part z).1.natAbs < 2 ^ 60 ∧ (part z).2.natAbs < 2 ^ 60 ∧ 0 < (part z).2 := by
  obtain ⟨⟨h1, h2⟩, h3⟩ := h
  have d1 := h3.num
  have d2 := h3.den
  have d3 := z.2.den_pos
  refine ⟨?_, ?_, ?_⟩
  · show (z.1.2 * (2 * z.2.num + z.1.1 * (z.2.den : Int))).natAbs < _
    rw [Int.natAbs_mul]
    have e1 : (z.1.1 * (z.2.den : Int)).natAbs ≤ 8 * 2 ^ 40 := by
      rw [Int.natAbs_mul]
      exact Nat.mul_le_mul (by omega) (by omega)
    have e2 : (2 * z.2.num + z.1.1 * (z.2.den : Int)).natAbs ≤ 10 * 2 ^ 40 := by omega
    have := Nat.mul_le_mul (show z.1.2.natAbs ≤ 9 by omega) e2
    omega
  · show (2 * (z.2.den : Int)).natAbs < _
    omega
  · show 0 < 2 * (z.2.den : Int)
    omega
theorem part_val (z : Pr × Rat) (r : Rat) : ((part z).1 : Rat) = ((z.1.2 : Rat) * (z.2 + Rat.divInt z.1.1 2)) * ((part z).2 : Rat) := by
  unfold part
  rw [half_div]
  simp only [Rat.intCast_mul, Rat.intCast_add]
  have := rat_den z.2
  have e2 : ((2 : Int) : Rat) = 2 := rfl
  rw [e2]
  rw [← this]
  generalize ((z.2.den : Int) : Rat) = D
  generalize ((z.1.1 : Int) : Rat) = w
  generalize ((z.1.2 : Int) : Rat) = m
  grind
theorem sum_loop (l0 : Option Cn) : ∀ (zs : List (Pr × Rat)) (s : Pr) (r : Rat) (a : Nat), 0 < a → a + 61 * zs.length ≤ 100000 → (∀ z ∈ zs, ZOk z) → s.1.natAbs < 2 ^ a → s.2.natAbs < 2 ^ a → 0 < s.2 → (s.1 : Rat) = r * (s.2 : Rat) →
    ∃ s' : Pr, forL (lap ⟨[], [], [], [], []⟩ (.one 3) ir_law_sum_b1 [3]) ((zs.map part).map prd) [l0, some (.imm (.int s.1)), some (.imm (.int s.2)), none] = .ok .next [l0, some (.imm (.int s'.1)), some (.imm (.int s'.2)), none] ∧
      s'.1.natAbs < 2 ^ (a + 61 * zs.length) ∧ s'.2.natAbs < 2 ^ (a + 61 * zs.length) ∧ 0 < s'.2 ∧ (s'.1 : Rat) = zs.foldl adM r * (s'.2 : Rat)
  | [], s, r, a, _, _, _, h1, h2, h3, h4 => ⟨s, rfl, h1, h2, h3, h4⟩
  | z :: zs, s, r, a, ha, hm, hz, h1, h2, h3, h4 => by
    rw [List.length_cons] at hm
    obtain ⟨p1, p2, p3⟩ := part_bd (hz z (by simp))
    obtain ⟨e1, e2, e3⟩ := sum_lap l0 (s := s) (p := part z) ha (by decide : 0 < 60) (by omega) (by omega) h1 h2 p1 p2
    have hv : ((sumStep s (part z)).1 : Rat) = adM r z * ((sumStep s (part z)).2 : Rat) := by
      have := part_val z r
      unfold sumStep adM
      simp only [Rat.intCast_mul, Rat.intCast_add]
      rw [this, h4]
      grind
    obtain ⟨s', f1, f2, f3, f4, f5⟩ := sum_loop l0 zs (sumStep s (part z)) (adM r z) (a + 61) (by omega) (by omega) (fun y hy => hz y (by simp [hy])) e2 e3 (Int.mul_pos h3 p3) hv
    have g : a + 61 + 61 * zs.length = a + 61 * (z :: zs).length := by rw [List.length_cons]; omega
    rw [g] at f2 f3
    refine ⟨s', ?_, f2, f3, f4, f5⟩
    rw [List.map_cons, List.map_cons]
    unfold forL
    rw [e1]
    exact f1
theorem m_law_sum (zs : List (Pr × Rat)) (hl : zs.length ≤ 5) (hz : ∀ z ∈ zs, ZOk z) : ∃ s' : Pr, F_law_sum [.lst ((zs.map part).map prd)] = .ok (.imm (prd s')) [.imm (.list ((zs.map part).map prd))] ∧ s'.1.natAbs < 2 ^ 310 ∧ s'.2.natAbs < 2 ^ 310 ∧ 0 < s'.2 ∧ (s'.1 : Rat) = zs.foldl adM 0 * (s'.2 : Rat) := by
  obtain ⟨s', f1, f2, f3, f4, f5⟩ := sum_loop (some (.imm (.list ((zs.map part).map prd)))) zs (0, 1) 0 1 (by decide) (by omega) hz (by decide) (by decide) (by decide) (by rw [Rat.zero_mul]; rfl)
  have hp : (2 : Nat) ^ (1 + 61 * zs.length) ≤ 2 ^ 310 := Nat.pow_le_pow_right (by decide) (by omega)
  refine ⟨s', ?_, by omega, by omega, f4, f5⟩
  generalize (zs.map part).map prd = L at f1
  refine evF_ret (ρ := [some (.imm (.list L)), some (.imm (.int s'.1)), some (.imm (.int s'.2)), none]) rfl rfl ?_ rfl
  have hq : seqItems (.list L) = some L := rfl
  simp -implicitDefEqProofs [l1k, l2k, ir_law_sum, ev_for, setAll, hq, f1, prd]
/-- the middle of weight, by sums -/
theorem m_law_middle (bs : List Pr) (xs : List Rat) (hl : bs.length ≤ 5) (h0 : bs ≠ []) (hb : ∀ b ∈ bs, (1 ≤ b.1 ∧ b.1 ≤ 8) ∧ (1 ≤ b.2 ∧ b.2 ≤ 9)) (hx : ∀ x ∈ xs, Sz 40 x) :
    ∃ s' : Pr, F_law_middle [.imm (.tuple (bs.map prd)), .lst (xs.map rd)] = .ok (.imm (prd s')) [.imm (.tuple (bs.map prd)), .imm (.list (xs.map rd))] ∧ s'.1.natAbs < 2 ^ 400 ∧ s'.2.natAbs < 2 ^ 400 ∧ 0 < s'.2 ∧ (s'.1 : Rat) = wholeT bs xs / (wf bs 0 : Rat) * (s'.2 : Rat) := by
  have hzl := zip_len_le bs xs
  obtain ⟨s', f1, f2, f3, f4, f5⟩ := m_law_sum (bs.zip xs) (by omega) (fun z hz => ⟨hb _ (List.of_mem_zip hz).1, hx _ (List.of_mem_zip hz).2⟩)
  have hw := sum_bd bs fun b hb' => (hb b hb').2
  have hl0 : 1 ≤ bs.length := by
    cases bs with
    | nil => exact absurd rfl h0
    | cons _ _ => simp
  have hwf : wf bs 0 = (bs.map (·.2)).sum := by unfold wf; simp
  have hlim : lim = 1000000 := rfl
  have hz : zipD (.tuple (bs.map prd)) (.list (xs.map rd)) = some ((bs.zip xs).map encZ) := congrArg some (zip_enc bs xs)
  have hc1 : evE ⟨[F_law_sum], [], [], [], []⟩ ex_law_middle_c1 [some (.imm (.tuple (bs.map prd))), some (.lst (xs.map rd)), none, none, none, none, none, none] = .ok (.val (.lst (((bs.zip xs).map part).map prd))) [some (.imm (.tuple (bs.map prd))), some (.imm (.list (xs.map rd))), none, none, none, none, none, none] := by
    unfold ex_law_middle_c1
    generalize bs.map prd = BD at hz
    generalize xs.map rd = XD at hz
    rw [ev_comp_encA encZ (bs.zip xs) (fun z => prd (part z)) (ρ1 := [some (.imm (.tuple BD)), some (.imm (.list XD)), none, none, none, none, none, none]) (by simp -implicitDefEqProofs [hz]) (fun z hzz => by
      have zo : ZOk z := ⟨hb _ (List.of_mem_zip hzz).1, hx _ (List.of_mem_zip hzz).2⟩
      have d1 := zo.2.num
      have d2 := zo.2.den
      have k1 : mulOk 2 z.2.num = true := mul_small' (by decide)
      have k2 : mulOk z.1.1 (z.2.den : Int) = true := mul_small (by omega)
      have k3 : mulOk z.1.2 (2 * z.2.num + z.1.1 * (z.2.den : Int)) = true := mul_small' (by have := zo.1.2; omega)
      have k4 : mulOk 2 (z.2.den : Int) = true := mul_small' (by decide)
      have hen : encZ z = .tuple [.tuple [.int z.1.1, .int z.1.2], rd z.2] := rfl
      rw [hen]
      simp -implicitDefEqProofs [l1k, l2k, turn, bindT, setAll, rd_ix0, rd_ix1, k1, k2, k3, k4, wipeR, prd, part]) (by omega)]
    rw [List.map_map]
    rfl
  have hc2 : ∀ l1 l2 l6 l7 : Option Cn, evE ⟨[F_law_sum], [], [], [], []⟩ ex_law_middle_c2 [some (.imm (.tuple (bs.map prd))), l1, l2, none, none, none, l6, l7] = .ok (.val (.lst (bs.map fun q => .int q.2))) [some (.imm (.tuple (bs.map prd))), l1, l2, none, none, none, l6, l7] := by
    intro l1 l2 l6 l7
    unfold ex_law_middle_c2
    rw [ev_comp_encA prd bs (fun q => .int q.2) (ρ1 := [some (.imm (.tuple (bs.map prd))), l1, l2, none, none, none, l6, l7]) (by simp [seqItems]) (fun q _ => by simp [turn, bindT, prd, wipeR, setAll]) (by omega)]
    simp [wipeR, unwipe]
  have hs : bltop .sum [.list (bs.map fun q => PyData.int q.2)] = some (.imm (.int (wf bs 0))) := by
    show ((ints? (bs.map fun q => PyData.int q.2)).map fun ns => Cn.imm (.int ns.sum)) = _
    have : (bs.map fun q : Pr => PyData.int q.2) = (bs.map (·.2)).map PyData.int := by rw [List.map_map]; rfl
    rw [this, ints_map, hwf]
    rfl
  have kk : mulOk s'.2 (wf bs 0) = true := mul_small (by omega)
  refine ⟨(s'.1, s'.2 * wf bs 0), ?_, ?_, ?_, ?_, ?_⟩
  · generalize ((bs.zip xs).map part).map prd = P at f1 hc1
    generalize (bs.map fun q => PyData.int q.2) = WL at hc2 hs
    refine evF_ret (ρ := [some (.imm (.tuple (bs.map prd))), some (.imm (.list (xs.map rd))), some (.imm (.list P)), none, none, none, some (.imm (.int s'.1)), some (.imm (.int (s'.2)))]) rfl rfl ?_ rfl
    generalize bs.map prd = BD at hc1 hc2
    generalize xs.map rd = XD at hc1
    have hp : prd s' = .tuple [.int s'.1, .int s'.2] := rfl
    rw [hp] at f1
    simp -implicitDefEqProofs [l1k, l2k, ir_law_middle, hc1, f1, bindT, setAll, hc2, hs, kk, prd]
  · show s'.1.natAbs < _
    have : (2 : Nat) ^ 310 ≤ 2 ^ 400 := Nat.pow_le_pow_right (by decide) (by decide)
    omega
  · show (s'.2 * wf bs 0).natAbs < _
    rw [Int.natAbs_mul]
    have := pow_bd f3 (show (wf bs 0).natAbs < 2 ^ 10 by omega)
    have e : (2 : Nat) ^ (310 + 10) ≤ 2 ^ 400 := Nat.pow_le_pow_right (by decide) (by decide)
    omega
  · exact Int.mul_pos f4 (by omega)
  · show (s'.1 : Rat) = wholeT bs xs / (wf bs 0 : Rat) * ((s'.2 * wf bs 0 : Int) : Rat)
    rw [f5, Rat.intCast_mul]
    have hw0 : ((wf bs 0 : Int) : Rat) ≠ 0 := by
      intro e
      have e' : ((wf bs 0 : Int) : Rat) = ((0 : Int) : Rat) := e
      have := Rat.intCast_inj.mp e'
      omega
    unfold wholeT
    generalize ((wf bs 0 : Int) : Rat) = Wt at hw0
    grind
end BP
end

section
/-! Mk22b: the law of towers, whole. -/
namespace BP
open PySem
noncomputable abbrev Tlh : Tb := ⟨[F_law_middle], [], [], [], []⟩
def condK (bs : List Pr) (xs : List Rat) : Nat → Bool
  | 0 => !decide (0 < midA bs xs 0)
  | k + 1 => holdK bs xs k
theorem ratio_lt {t b l u : Int} {M x : Rat} (hb : 0 < b) (hu : 0 < u) (h1 : (t : Rat) = M * (b : Rat)) (h2 : (l : Rat) = x * (u : Rat)) : (t * u < l * b) ↔ M < x := by
  have hb' : (0 : Rat) < (b : Rat) := Rat.intCast_pos.mpr hb
  have hu' : (0 : Rat) < (u : Rat) := Rat.intCast_pos.mpr hu
  rw [← Rat.intCast_lt_intCast, Rat.intCast_mul, Rat.intCast_mul, h1, h2]
  have hbu : (0 : Rat) < (b : Rat) * (u : Rat) := Rat.mul_pos hb' hu'
  generalize (b : Rat) = B at *
  generalize (u : Rat) = U at *
  have e1 : M * B * U = B * U * M := by grind
  have e2 : x * U * B = B * U * x := by grind
  rw [e1, e2]
  exact Rat.mul_lt_mul_left hbu
theorem mid_pos {t b : Int} {M : Rat} (hb : 0 < b) (h1 : (t : Rat) = M * (b : Rat)) : 0 < t ↔ 0 < M := by
  have := ratio_lt (t := 0) (b := 1) (l := t) (u := b) (M := 0) (x := M) (by decide) hb (by rw [Rat.zero_mul]; rfl) h1
  rw [← this]
  simp
theorem wf_drop (bs : List Pr) (k : Nat) : wf (bs.drop k) 0 = wf bs k := by unfold wf; simp
theorem lh_lap {bs : List Pr} {xs : List Rat} (h : TOk bs) (hx : XOk bs xs) {k : Nat} (hk : k < bs.length) :
    lap Tlh (.one 2) ir_law_holds_b1 [2, 3, 4, 5, 6, 7] (.int (k : Int)) [some (.imm (tw bs)), some (.lst (xs.map rd)), none, none, none, none, none, none] =
      .ok (if !condK bs xs k then .ret (.imm (.bool false)) else .next) [some (.imm (tw bs)), some (.lst (xs.map rd)), none, none, none, none, none, none] := by
  have hl := h.l1
  have hxl := hx.len
  obtain ⟨s, f1, f2, f3, f4, f5⟩ := m_law_middle (bs.drop k) (xs.drop k) (by rw [List.length_drop]; omega) (by
    intro e
    have := congrArg List.length e
    rw [List.length_drop, List.length_nil] at this
    omega) (fun b hb => h.ok b (List.mem_of_mem_drop hb)) (fun x hxx => hx.ok x (List.mem_of_mem_drop hxx))
  rw [wf_drop] at f5
  replace f5 : (s.1 : Rat) = midA bs xs k * (s.2 : Rat) := f5
  have s1 : slD (tw bs) (some (k : Int)) none = some (.imm (.tuple ((bs.map prd).drop k))) := by
    show some (Cn.imm (.tuple (cutD (bs.map prd) _ _))) = _
    rw [cut_drop, List.map_drop]
  have s2 : slD (.list (xs.map rd)) (some (k : Int)) none = some (.lst ((xs.map rd).drop k)) := by
    show some (Cn.lst (cutD (xs.map rd) _ _)) = _
    rw [cut_drop, List.map_drop]
  rw [List.map_drop, List.map_drop] at f1
  have hp : prd s = .tuple [.int s.1, .int s.2] := rfl
  rw [hp] at f1
  cases k with
  | zero =>
    have hc := mid_pos f4 f5
    have c0 : condK bs xs 0 = !decide (0 < s.1) := by
      show (!decide (0 < midA bs xs 0)) = _
      rw [decide_eq_decide.mpr hc]
    rw [c0]
    replace s1 : slD (tw bs) (some 0) none = some (.imm (.tuple ((bs.map prd).drop 0))) := s1
    replace s2 : slD (.list (xs.map rd)) (some 0) none = some (.lst ((xs.map rd).drop 0)) := s2
    show lap Tlh (.one 2) ir_law_holds_b1 [2, 3, 4, 5, 6, 7] (.int 0) _ = _
    generalize (bs.map prd).drop 0 = B at s1 f1
    generalize (xs.map rd).drop 0 = XD at s2 f1
    generalize xs.map rd = X at s2
    by_cases hq : 0 < s.1
    · simp -implicitDefEqProofs [l1k, l2k, lap, bindT, setAll, ir_law_holds_b1, s1, s2, f1, hq, wipeR]
    · simp -implicitDefEqProofs [l1k, l2k, lap, bindT, setAll, ir_law_holds_b1, s1, s2, f1, hq, wipeR]
  | succ k =>
    have hx1 := ll_ix (xs := xs) (i := k) (by omega)
    have hb1 := tw_ix (bs := bs) (i := k) (by omega)
    have hb2 : ixD (prd (bs.getD k (0, 0))) (.int 0) = some (.int (wA bs k)) := prd_ix0 _
    have zx := sz_xA hx (k := k) (by omega)
    have zn := zx.num
    have zd := zx.den
    have zp := (xA xs k).den_pos
    obtain ⟨w1, w2⟩ := wm_bd h (k := k) (by omega)
    have k1 : mulOk ((xA xs k).den : Int) (wA bs k) = true := mul_small (by omega)
    have k2 : mulOk s.1 ((xA xs k).den : Int) = true := mul_small (by omega)
    have k3 : mulOk (xA xs k).num s.2 = true := mul_small' (by omega)
    have k4 : mulOk ((xA xs k).num + ((xA xs k).den : Int) * wA bs k) s.2 = true := mul_small' (by
      have : (((xA xs k).den : Int) * wA bs k).natAbs ≤ 2 ^ 40 * 8 := by
        rw [Int.natAbs_mul]
        exact Nat.mul_le_mul (by omega) (by omega)
      omega)
    have hv := rat_den (xA xs k)
    have hlt1 := ratio_lt (t := s.1) (b := s.2) (l := (xA xs k).num) (u := ((xA xs k).den : Int)) f4 (by omega) f5 hv.symm
    have hlt2 := ratio_lt (t := (xA xs k).num + ((xA xs k).den : Int) * wA bs k) (b := ((xA xs k).den : Int)) (l := s.1) (u := s.2) (M := xA xs k + (wA bs k : Rat)) (x := midA bs xs (k + 1)) (by omega) f4 (by
      rw [Rat.intCast_add, Rat.intCast_mul, ← hv]
      grind) f5
    have c0 : condK bs xs (k + 1) = (!decide (s.1 * ((xA xs k).den : Int) < (xA xs k).num * s.2) && !decide (((xA xs k).num + ((xA xs k).den : Int) * wA bs k) * s.2 < s.1 * ((xA xs k).den : Int))) := by
      show holdK bs xs k = _
      unfold holdK
      rw [decide_eq_decide.mpr hlt1, decide_eq_decide.mpr hlt2]
    rw [c0]
    have e1 : ((k + 1 : Nat) : Int) = (k : Int) + 1 := by omega
    have e2 : (k : Int) + 1 - 1 = (k : Int) := by omega
    have e3 : ¬ ((k : Int) + 1 = 0) := by omega
    have e4 : (0 : Int) < (k : Int) + 1 := by omega
    rw [e1] at s1 s2 ⊢
    have hrd : rd (xA xs k) = .tuple [.int (xA xs k).num, .int ((xA xs k).den : Int)] := rfl
    rw [hrd] at hx1
    generalize (bs.map prd).drop (k + 1) = B at s1 f1
    generalize (xs.map rd).drop (k + 1) = XD at s2 f1
    generalize xs.map rd = X at s2 hx1
    generalize bs.getD k (0, 0) = q at hb1 hb2
    generalize (xA xs k).num = nu at *
    generalize ((xA xs k).den : Int) = de at *
    by_cases c1 : s.1 * de < nu * s.2
    · simp -implicitDefEqProofs [l1k, l2k, lap, bindT, setAll, ir_law_holds_b1, s1, s2, f1, e2, e3, e4, hx1, hb1, hb2, k1, k2, k3, k4, c1, wipeR]
    · by_cases c2 : (nu + de * wA bs k) * s.2 < s.1 * de
      · simp -implicitDefEqProofs [l1k, l2k, lap, bindT, setAll, ir_law_holds_b1, s1, s2, f1, e2, e3, e4, hx1, hb1, hb2, k1, k2, k3, k4, c1, c2, wipeR]
      · simp -implicitDefEqProofs [l1k, l2k, lap, bindT, setAll, ir_law_holds_b1, s1, s2, f1, e2, e3, e4, hx1, hb1, hb2, k1, k2, k3, k4, c1, c2, wipeR]
theorem m_law_holds {bs : List Pr} {xs : List Rat} (h : TOk bs) (hx : XOk bs xs) : F_law_holds [.imm (tw bs), .lst (xs.map rd)] = .ok (.imm (.bool (holdsB bs xs))) [.imm (tw bs), .lst (xs.map rd)] := by
  have hl0 := h.l0
  have hl1 := h.l1
  have hr := rng0 (n := bs.length) (by omega)
  have hf := forL_any (b := lap Tlh (.one 2) ir_law_holds_b1 [2, 3, 4, 5, 6, 7]) (fun (k : Nat) => .int (k : Int)) (ρ := [some (.imm (tw bs)), some (.lst (xs.map rd)), none, none, none, none, none, none]) (.imm (.bool false)) (fun k => !condK bs xs k) (as := List.range bs.length) (fun k hk => lh_lap h hx (List.mem_range.mp hk))
  have ha : holdsB bs xs = !((List.range bs.length).any fun k => !condK bs xs k) := by
    obtain ⟨n, e⟩ : ∃ n, bs.length = n + 1 := ⟨bs.length - 1, by omega⟩
    unfold holdsB
    rw [e, Nat.add_sub_cancel, List.range_succ_eq_map, List.any_cons, List.any_map, Bool.not_or, Bool.not_not]
    refine congrArg (condK bs xs 0 && ·) ?_
    rw [List.any_eq_not_all_not, Bool.not_not]
    simp only [Bool.not_not, Function.comp]
    rfl
  rw [ha]
  refine evF_ret (ρ := [some (.imm (tw bs)), some (.lst (xs.map rd)), none, none, none, none, none, none]) rfl rfl ?_ rfl
  generalize ((List.range bs.length).any fun k => !condK bs xs k) = A at hf
  generalize xs.map rd = X at hf
  cases A with
  | true => simp -implicitDefEqProofs [ir_law_holds, ev_for, tw_len, hr, hf]
  | false => simp -implicitDefEqProofs [ir_law_holds, ev_for, tw_len, hr, hf]
theorem m_same_truth (a b : Bool) : F_law_same_truth [.imm (.bool a), .imm (.bool b)] = .ok (.imm (.bool (a == b))) [.imm (.bool a), .imm (.bool b)] := by
  refine evF_immsR (ds := [.bool a, .bool b]) rfl ?_
  have : cmpop .eq (.bool a) (.bool b) = some (a == b) := by cases a <;> cases b <;> rfl
  simp -implicitDefEqProofs [ir_law_same_truth, isTy, this]
/-! ### the law -/
noncomputable abbrev T22 : Tb := ⟨[F_law_draw, F_law_same_truth, F_is_tower, F_law_holds], [], [], [], []⟩
theorem blocks22 (ns : List Int) (hn : ns.length ≤ lim) : ∀ (ys : List PyData) (n : Nat), n + 2 * ys.length < lim → ∃ bs : List Pr, bs.length = ys.length ∧ (∀ b ∈ bs, (1 ≤ b.1 ∧ b.1 ≤ 8) ∧ (1 ≤ b.2 ∧ b.2 ≤ 9)) ∧
    compL (turn T22 Ndraw (.one 3) .none [3]) ys [some (scr ns), some (stt n), none, none, none, none, none, none, none] =
      .ok (bs.map prd) [some (scr ns), some (stt (n + 2 * ys.length)), none, none, none, none, none, none, none]
  | [], n, _ => ⟨[], rfl, by simp, rfl⟩
  | y :: ys, n, h => by
    rw [List.length_cons] at h
    obtain ⟨a, ha, hd⟩ := m_draw ns n 8 hn (by omega) (by decide)
    obtain ⟨b, hb, he⟩ := m_draw ns (n + 1) 9 hn (by omega) (by decide)
    obtain ⟨bs, h1, h2, h3⟩ := blocks22 ns hn ys (n + 2) (by omega)
    refine ⟨(1 + a, 1 + b) :: bs, by simp [h1], ?_, ?_⟩
    · intro o ho
      rcases List.mem_cons.mp ho with rfl | ho
      · simp only; omega
      · exact h2 o ho
    · unfold compL
      have ht : turn T22 Ndraw (.one 3) .none [3] y [some (scr ns), some (stt n), none, none, none, none, none, none, none] = .ok (some (prd (1 + a, 1 + b))) [some (scr ns), some (stt (n + 2)), none, none, none, none, none, none, none] := by
        simp [turn, bindT, hd, he, wipeR, prd, lim]
      rw [ht, Rs.bind_ok, h3, Rs.bind_ok]
      have : n + 2 + 2 * ys.length = n + 2 * (y :: ys).length := by rw [List.length_cons]; omega
      rw [this]
      rfl
def Ri22 (ns : List Int) (n : Nat) (bs : List Pr) (again : PyData) (acc : List PyData) (at' : Int) : Rho :=
  [some (scr ns), some (stt n), some (.imm (tw bs)), some (.imm again), some (.lst acc), some (.imm (.int at')), none, none, none]
theorem in22 (ns : List Int) (hn : ns.length ≤ lim) (bs : List Pr) (again : PyData) : ∀ (cs : List PyData) (n : Nat) (acc : List PyData) (at' : Int) (B : Nat), n + cs.length < lim → acc.length + cs.length ≤ lim → at'.natAbs ≤ B → B + 8 * cs.length ≤ 1000 →
    ∃ (xs : List Rat) (a2 : Int), xs.length = cs.length ∧ (∀ x ∈ xs, Sz 11 x) ∧
      forL (lap T22 (.one 6) ir_law_k22_b2 [6]) cs (Ri22 ns n bs again acc at') = .ok .next (Ri22 ns (n + cs.length) bs again (acc ++ xs.map rd) a2)
  | [], n, acc, at', B, _, _, _, _ => ⟨[], at', rfl, by simp, by simp [forL]⟩
  | c :: cs, n, acc, at', B, h1, h2, h3, h4 => by
    rw [List.length_cons] at h1 h2 h4
    obtain ⟨i, hi, hd⟩ := m_draw ns n 9 hn (by omega) (by decide)
    obtain ⟨xs, a2, e1, e2, e3⟩ := in22 ns hn bs again cs (n + 1) (acc ++ [rd (Rat.divInt (at' + (i - 4)) 2)]) (at' + (i - 4)) (B + 8) (by omega) (by rw [List.length_append, List.length_cons, List.length_nil]; omega) (by omega) (by omega)
    refine ⟨Rat.divInt (at' + (i - 4)) 2 :: xs, a2, by rw [List.length_cons, List.length_cons, e1], ?_, ?_⟩
    · intro x hx
      rcases List.mem_cons.mp hx with rfl | hx
      · exact sz_divInt (by decide) (by omega) (by decide)
      · exact e2 x hx
    · have hlap : lap T22 (.one 6) ir_law_k22_b2 [6] c (Ri22 ns n bs again acc at') = .ok .next (Ri22 ns (n + 1) bs again (acc ++ [rd (Rat.divInt (at' + (i - 4)) 2)]) (at' + (i - 4))) := by
        have hdv : divOk 2 = true := by decide
        have ha : acc.length < lim := by omega
        unfold Ri22
        by_cases ho : (at' + (i - 4)) % 2 = 1
        · rw [half_odd ho]
          simp -implicitDefEqProofs [l1k, l2k, lap, bindT, ir_law_k22_b2, hd, ho, appF, ha, wipeR]
        · rw [half_even ho]
          simp -implicitDefEqProofs [l1k, l2k, lap, bindT, ir_law_k22_b2, hd, ho, hdv, appF, ha, wipeR]
      unfold forL
      rw [hlap]
      have f1 : n + 1 + cs.length = n + (c :: cs).length := by rw [List.length_cons]; omega
      have f2 : acc ++ [rd (Rat.divInt (at' + (i - 4)) 2)] ++ xs.map rd = acc ++ (Rat.divInt (at' + (i - 4)) 2 :: xs).map rd := by simp
      rw [f1, f2] at e3
      exact e3
theorem tow_of_xs {bs : List Pr} {xs : List Rat} (hl : xs.length = bs.length) (hx : ∀ x ∈ xs, Sz 11 x) : isTow bs (.tuple (xs.map rd)) = holdsB bs xs := by
  show (decide ((xs.map rd).length = bs.length) && ((xs.map rd).all isFrac && holdsB bs ((xs.map rd).map toRat))) = _
  have e : (xs.map rd).map toRat = xs := by
    rw [List.map_map]
    have : toRat ∘ rd = id := funext toRat_rd
    rw [this, List.map_id]
  have e2 : (xs.map rd).all isFrac = true := by
    rw [List.all_map, List.all_eq_true]
    intro x hxx
    exact frac_of ((hx x hxx).mono (by decide))
  rw [e, e2, List.length_map, hl]
  simp
def Ro22 (ns : List Int) (n : Nat) (bs : List Pr) (l4 : Option Cn) : Rho := [some (scr ns), some (stt n), some (.imm (tw bs)), none, l4, none, none, none, none]
theorem out22 (ns : List Int) (hn : ns.length ≤ lim) {bs : List Pr} (h : TOk bs) (again : PyData) (n : Nat) (l4 : Option Cn) (h1 : n + 10 < lim) :
    ∃ xs : List Rat, xs.length = bs.length ∧ lap T22 (.one 3) ir_law_k22_b1 [3, 5, 6] again (Ro22 ns n bs l4) = .ok .next (Ro22 ns (n + bs.length) bs (some (.lst (xs.map rd)))) := by
  have hl0 := h.l0
  have hl1 := h.l1
  have hlim : lim = 1000000 := rfl
  have hw := (wm_bd h (k := 0) (by omega)).1
  obtain ⟨xs, a2, e1, e2, e3⟩ := in22 ns hn bs again (bs.map prd) n [] (0 - 2 * wA bs 0) 16 (by rw [List.length_map]; omega) (by rw [List.length_map, List.length_nil]; omega) (by omega) (by rw [List.length_map]; omega)
  rw [List.length_map] at e1 e3
  rw [List.nil_append, Int.zero_sub] at e3
  refine ⟨xs, e1, ?_⟩
  have hx : XOk bs xs := ⟨e1, fun x hxx => (e2 x hxx).mono (by decide)⟩
  have ht := m_is_tower h (.tuple (xs.map rd))
  rw [tow_of_xs e1 e2] at ht
  have hr := m_law_holds h hx
  have hst := m_same_truth (holdsB bs xs) (holdsB bs xs)
  rw [beq_self_eq_true] at hst
  have x0 : ixD (tw bs) (.int 0) = some (prd (bs.getD 0 (0, 0))) := tw_ix (bs := bs) (i := 0) (by omega)
  have x1 : ixD (prd (bs.getD 0 (0, 0))) (.int 0) = some (.int (wA bs 0)) := prd_ix0 _
  have k1 : mulOk 2 (wA bs 0) = true := mul_small' (by decide)
  have hsq : seqItems (tw bs) = some (bs.map prd) := rfl
  unfold Ri22 at e3
  unfold Ro22
  generalize bs.getD 0 (0, 0) = q at x0 x1
  generalize bs.map prd = Bd at e3 hsq
  generalize xs.map rd = X at ht e3 hr
  generalize holdsB bs xs = hb at ht hr hst
  simp -implicitDefEqProofs [l1k, l2k, lap, bindT, ir_law_k22_b1, setAll, ev_for, x0, x1, k1, hsq, e3, ht, hr, hst, wipeR]
theorem out22_loop (ns : List Int) (hn : ns.length ≤ lim) {bs : List Pr} (h : TOk bs) : ∀ (cs : List PyData) (n : Nat) (l4 : Option Cn) (xs0 : List Rat), n + 10 * cs.length + 10 < lim → (cs = [] → l4 = some (.lst (xs0.map rd)) ∧ xs0.length = bs.length) →
    ∃ (N : Nat) (xs : List Rat), xs.length = bs.length ∧ forL (lap T22 (.one 3) ir_law_k22_b1 [3, 5, 6]) cs (Ro22 ns n bs l4) = .ok .next (Ro22 ns N bs (some (.lst (xs.map rd))))
  | [], n, l4, xs0, _, h0 => ⟨n, xs0, (h0 rfl).2, by rw [(h0 rfl).1]; rfl⟩
  | c :: cs, n, l4, xs0, h1, _ => by
    rw [List.length_cons] at h1
    have hl1 := h.l1
    obtain ⟨xs, e1, e2⟩ := out22 ns hn h c n l4 (by omega)
    obtain ⟨N, ys, f1, f2⟩ := out22_loop ns hn h cs (n + bs.length) (some (.lst (xs.map rd))) xs (by omega) (fun _ => ⟨rfl, e1⟩)
    refine ⟨N, ys, f1, ?_⟩
    unfold forL
    rw [e2]
    exact f2
def bad22 (n : Nat) (X : List PyData) : List PyData := [.none, .tuple [], .list X, .tuple (X ++ [.tuple [.int 0, .int 1]]), .tuple (List.replicate n (.int 0)), .tuple (List.replicate n (.tuple [.int 0, .int 2])), .int 5]
theorem bad22_bad {bs : List Pr} (h : TOk bs) {X : List PyData} (hX : X.length = bs.length) : ∀ d ∈ bad22 bs.length X, isTow bs d = false := by
  have hl0 := h.l0
  intro d hd
  simp only [bad22, List.mem_cons, List.not_mem_nil, or_false] at hd
  have rep : ∀ e : PyData, isFrac e = false → isTow bs (.tuple (List.replicate bs.length e)) = false := by
    intro e he
    show (decide ((List.replicate bs.length e).length = bs.length) && ((List.replicate bs.length e).all isFrac && _)) = false
    have : (List.replicate bs.length e).all isFrac = false := by
      obtain ⟨n, hn⟩ : ∃ n, bs.length = n + 1 := ⟨bs.length - 1, by omega⟩
      rw [hn, List.replicate_succ, List.all_cons, he]
      rfl
    rw [this]
    simp
  rcases hd with rfl | rfl | rfl | rfl | rfl | rfl | rfl
  · rfl
  · show (decide (([] : List PyData).length = bs.length) && _) = false
    rw [decide_eq_false (by rw [List.length_nil]; omega)]
    rfl
  · rfl
  · show (decide ((X ++ [PyData.tuple [.int 0, .int 1]]).length = bs.length) && _) = false
    rw [decide_eq_false (by rw [List.length_append, List.length_cons, List.length_nil]; omega)]
    rfl
  · exact rep _ rfl
  · exact rep _ (by decide +kernel)
  · rfl
theorem flat_rep (e : PyData) : ∀ n, (List.replicate n [e]).flatten = List.replicate n e
  | 0 => rfl
  | n + 1 => by rw [List.replicate_succ, List.flatten_cons, flat_rep e n]; rfl
theorem m_law_k22 (ns : List Int) (hn : ns.length ≤ lim) : F_law_k22 [scr ns] = .ok (.imm (.bool true)) [scr ns] := by
  have hlim : lim = 1000000 := rfl
  have g7 : 7 ≤ lim := by decide
  have hr3 : rng (.int 0) (.int 3) = some ((List.range 3).map fun (i : Nat) => .int (i : Int)) := rng0 (n := 3) (by omega)
  have hr6 : rng (.int 0) (.int 6) = some ((List.range 6).map fun (i : Nat) => .int (i : Int)) := rng0 (n := 6) (by omega)
  obtain ⟨bs5, a1, a2, a3⟩ := blocks22 ns hn ((List.range 3).map fun (i : Nat) => .int (i : Int)) 0 (by simp; omega)
  rw [List.length_map, List.length_range] at a1 a3
  obtain ⟨d, hd, hdr⟩ := m_draw ns 6 3 hn (by omega) (by decide)
  obtain ⟨k, hk⟩ : ∃ k : Nat, 1 + d = (k : Int) := ⟨(1 + d).toNat, by omega⟩
  have hk1 : 1 ≤ k := by omega
  have hk5 : k ≤ 3 := by omega
  have hbs : TOk (bs5.take k) := ⟨by rw [List.length_take]; omega, by rw [List.length_take]; omega, fun b hb => a2 b (List.mem_of_mem_take hb)⟩
  have hsl : slD (.tuple (bs5.map prd)) none (some (1 + d)) = some (.imm (tw (bs5.take k))) := by
    rw [hk]
    show some (Cn.imm (.tuple (cutD (bs5.map prd) none (some (k : Int))))) = _
    rw [cut_take]
    rfl
  generalize bs5.take k = bs at hbs hsl
  have hc : evE T22 ex_law_k22_c1 [some (scr ns), some (.lst []), none, none, none, none, none, none, none] = .ok (.val (.lst (bs5.map prd))) [some (scr ns), some (stt 6), none, none, none, none, none, none, none] := by
    have h0 : (Cn.lst []) = stt 0 := rfl
    unfold ex_law_k22_c1
    rw [h0]
    have hol : (bs5.map prd).length ≤ lim := by rw [List.length_map]; omega
    have e0 : evI T22 (.rng1 (.con (.int 3))) [some (scr ns), some (stt 0), none, none, none, none, none, none, none] = .ok ((List.range 3).map fun (i : Nat) => .int (i : Int)) [some (scr ns), some (stt 0), none, none, none, none, none, none, none] := by
      simp -implicitDefEqProofs [hr3]
    rw [ev_comp, e0, Rs.bind_ok]
    have ew : wipeR [some (scr ns), some (stt 0), none, none, none, none, none, none, none] [3] = [some (scr ns), some (stt 0), none, none, none, none, none, none, none] := rfl
    rw [ew, a3, Rs.noexc_ok, Rs.bind_ok, if_pos hol]
    rfl
  have hl0 := hbs.l0
  have hl1 := hbs.l1
  obtain ⟨N, xs, hxl, hlp⟩ := out22_loop ns hn hbs ((List.range 6).map fun (i : Nat) => .int (i : Int)) 7 none [] (by simp; omega) (fun e => by
    have := congrArg List.length e
    rw [List.length_map, List.length_range, List.length_nil] at this
    omega)
  have hXl : (xs.map rd).length = bs.length := by rw [List.length_map, hxl]
  have hbad := bad22_bad hbs hXl
  have m1 : binop .mul (.tuple [.int 0]) (.int (bs.length : Int)) = some (.imm (.tuple (List.replicate bs.length (.int 0)))) := by
    show (if ([PyData.int 0].length ≤ 1000 ∧ 0 < [PyData.int 0].length ∧ 1 ≤ (bs.length : Int) ∧ (bs.length : Int) ≤ 1000) then some (Cn.imm (.tuple (List.replicate ((bs.length : Int)).toNat [PyData.int 0]).flatten)) else none) = _
    rw [if_pos ⟨by decide, by decide, by omega, by omega⟩, Int.toNat_natCast, flat_rep]
  have m2 : binop .mul (.tuple [.tuple [.int 0, .int 2]]) (.int (bs.length : Int)) = some (.imm (.tuple (List.replicate bs.length (.tuple [.int 0, .int 2])))) := by
    show (if ([PyData.tuple [.int 0, .int 2]].length ≤ 1000 ∧ 0 < [PyData.tuple [.int 0, .int 2]].length ∧ 1 ≤ (bs.length : Int) ∧ (bs.length : Int) ≤ 1000) then some (Cn.imm (.tuple (List.replicate ((bs.length : Int)).toNat [PyData.tuple [.int 0, .int 2]]).flatten)) else none) = _
    rw [if_pos ⟨by decide, by decide, by omega, by omega⟩, Int.toNat_natCast, flat_rep]
  have hmp := fun d => m_is_tower hbs d
  generalize hX : xs.map rd = X at hlp hXl hbad
  have hbd : bad22 bs.length X = [.none, .tuple [], .list X, .tuple (X ++ [.tuple [.int 0, .int 1]]), .tuple (List.replicate bs.length (.int 0)), .tuple (List.replicate bs.length (.tuple [.int 0, .int 2])), .int 5] := rfl
  have hc2 : evE T22 ex_law_k22_c2 [some (scr ns), some (stt N), some (.imm (tw bs)), none, some (.lst X), none, none, some (.lst (bad22 bs.length X)), none] = .ok (.val (.lst ((bad22 bs.length X).map fun d => .bool (isTow bs d)))) [some (scr ns), some (stt N), some (.imm (tw bs)), none, some (.lst X), none, none, some (.imm (.list (bad22 bs.length X))), none] := by
    have hBl : (bad22 bs.length X).length ≤ lim := by show 7 ≤ 1000000; decide
    generalize bad22 bs.length X = BB at hbad hBl
    unfold ex_law_k22_c2
    rw [ev_comp_encB (fun d : PyData => d) BB (isTow bs) (ρ1 := [some (scr ns), some (stt N), some (.imm (tw bs)), none, some (.lst X), none, none, some (.imm (.list BB)), none]) (by simp [seqItems]) (fun d _ => by simp [turn, bindT, wipeR, hmp]) hBl]
    simp [wipeR, unwipe]
  have hany : bltop .any [.list ((bad22 bs.length X).map fun d => .bool (isTow bs d))] = some (.imm (.bool false)) := by
    rw [blt_any]
    have : (bad22 bs.length X).any (isTow bs) = false := List.any_eq_false.mpr fun d hd => by rw [hbad d hd]; simp
    rw [this]
  generalize ((bad22 bs.length X).map fun d => PyData.bool (isTow bs d)) = BL at hc2 hany
  rw [hbd] at hc2
  unfold Ro22 at hlp
  generalize ((List.range 6).map fun (i : Nat) => PyData.int (i : Int)) = L6 at hlp hr6
  generalize bs5.map prd = B5 at hc hsl
  have hXL : X.length + 1 ≤ lim := by omega
  refine evF_ret (ρ := [some (scr ns), some (stt N), some (.imm (tw bs)), none, some (.lst X), none, none, some (.imm (.list [.none, .tuple [], .list X, .tuple (X ++ [.tuple [.int 0, .int 1]]), .tuple (List.replicate bs.length (.int 0)), .tuple (List.replicate bs.length (.tuple [.int 0, .int 2])), .int 5])), none]) rfl rfl ?_ rfl
  generalize List.replicate bs.length (PyData.int 0) = R1 at hc2 m1
  generalize List.replicate bs.length (PyData.tuple [.int 0, .int 2]) = R2 at hc2 m2
  simp -implicitDefEqProofs [l1k, l2k, g7, ir_law_k22, hc, hdr, hsl, setAll, ev_for, hr6, hlp, tw_len, m1, m2, hXL, hc2, hany]
end BP
end

section
set_option maxHeartbeats 0
namespace A_k22
open PySem PySem.Spec PyProof.Rows L2 BP
def top (i : Nat) : Stmt := PySem.Challenge.pw_blockpiles_k22_whole_towers_judged.main.body.getD i (.Pass ⟨0, 0, 0, 0⟩)
abbrev s_divisor : Stmt := top 5
theorem sc_divisor : FnScope ["one", "other"] ["one", "other"] (defScope s_divisor) := ⟨rfl, rfl, rfl, by decide +kernel, rfl, by decide +kernel, by decide +kernel⟩
theorem tr_divisor : trSs 60 ⟨["one", "other"], defScope s_divisor, fun _ => true, [], [], [0, 1], [], [], []⟩ (defBody s_divisor) = ir_divisor := by kernel_rfl
abbrev s_ratio : Stmt := top 6
theorem sc_ratio : FnScope ["top", "bottom", "shared"] ["top", "bottom"] (defScope s_ratio) := ⟨rfl, rfl, rfl, by decide +kernel, rfl, by decide +kernel, by decide +kernel⟩
theorem tr_ratio : trSs 60 ⟨["top", "bottom", "shared"], defScope s_ratio, fun _ => true, [("divisor", 2)], [], [0, 1], [], [], []⟩ (defBody s_ratio) = ir_ratio := by kernel_rfl
abbrev s_plus : Stmt := top 7
theorem sc_plus : FnScope ["one", "other"] ["one", "other"] (defScope s_plus) := ⟨rfl, rfl, rfl, by decide +kernel, rfl, by decide +kernel, by decide +kernel⟩
theorem tr_plus : trSs 60 ⟨["one", "other"], defScope s_plus, fun _ => true, [("ratio", 2)], [], [0, 1], [], [], []⟩ (defBody s_plus) = ir_plus := by kernel_rfl
abbrev s_times : Stmt := top 8
theorem sc_times : FnScope ["one", "other"] ["one", "other"] (defScope s_times) := ⟨rfl, rfl, rfl, by decide +kernel, rfl, by decide +kernel, by decide +kernel⟩
theorem tr_times : trSs 60 ⟨["one", "other"], defScope s_times, fun _ => true, [("ratio", 2)], [], [0, 1], [], [], []⟩ (defBody s_times) = ir_times := by kernel_rfl
abbrev s_over : Stmt := top 9
theorem sc_over : FnScope ["one", "other"] ["one", "other"] (defScope s_over) := ⟨rfl, rfl, rfl, by decide +kernel, rfl, by decide +kernel, by decide +kernel⟩
theorem tr_over : trSs 60 ⟨["one", "other"], defScope s_over, fun _ => true, [("ratio", 2)], [], [0, 1], [], [], []⟩ (defBody s_over) = ir_over := by kernel_rfl
abbrev s_is_less : Stmt := top 10
theorem sc_is_less : FnScope ["one", "other"] ["one", "other"] (defScope s_is_less) := ⟨rfl, rfl, rfl, by decide +kernel, rfl, by decide +kernel, by decide +kernel⟩
theorem tr_is_less : trSs 60 ⟨["one", "other"], defScope s_is_less, fun _ => true, [], [], [0, 1], [], [], []⟩ (defBody s_is_less) = ir_is_less := by kernel_rfl
abbrev s_is_fraction : Stmt := top 11
theorem sc_is_fraction : FnScope ["value", "one", "far"] ["value"] (defScope s_is_fraction) := ⟨rfl, rfl, rfl, by decide +kernel, rfl, by decide +kernel, by decide +kernel⟩
theorem tr_is_fraction : trSs 60 ⟨["value", "one", "far"], defScope s_is_fraction, fun _ => true, [("divisor", 2)], [], [0], [], [], []⟩ (defBody s_is_fraction) = ir_is_fraction := by kernel_rfl
abbrev s_is_integer : Stmt := top 13
theorem sc_is_integer : FnScope ["value", "low", "high"] ["value", "low", "high"] (defScope s_is_integer) := ⟨rfl, rfl, rfl, by decide +kernel, rfl, by decide +kernel, by decide +kernel⟩
theorem tr_is_integer : trSs 60 ⟨["value", "low", "high"], defScope s_is_integer, fun _ => true, [], [], [0, 1, 2], [], [], []⟩ (defBody s_is_integer) = ir_is_integer := by kernel_rfl
abbrev s_is_tower_block : Stmt := top 15
theorem sc_is_tower_block : FnScope ["value"] ["value"] (defScope s_is_tower_block) := ⟨rfl, rfl, rfl, by decide +kernel, rfl, by decide +kernel, by decide +kernel⟩
theorem tr_is_tower_block : trSs 60 ⟨["value"], defScope s_is_tower_block, fun _ => true, [("is_integer", 3)], [], [0], [], [], []⟩ (defBody s_is_tower_block) = ir_is_tower_block := by kernel_rfl
abbrev s_blocks_stand : Stmt := top 16
theorem sc_blocks_stand : FnScope ["value", "one"] ["value"] (defScope s_blocks_stand) := ⟨rfl, rfl, rfl, by decide +kernel, rfl, by decide +kernel, by decide +kernel⟩
theorem tr_blocks_stand : trSs 60 ⟨["value", "one"], defScope s_blocks_stand, fun _ => true, [("is_tower_block", 1)], [], [0], [], [], []⟩ (defBody s_blocks_stand) = ir_blocks_stand := by kernel_rfl
abbrev s_need_blocks : Stmt := top 17
theorem sc_need_blocks : FnScope ["blocks"] ["blocks"] (defScope s_need_blocks) := ⟨rfl, rfl, rfl, by decide +kernel, rfl, by decide +kernel, by decide +kernel⟩
theorem tr_need_blocks : trSs 60 ⟨["blocks"], defScope s_need_blocks, fun _ => true, [("blocks_stand", 1)], [], [0], [], [], []⟩ (defBody s_need_blocks) = ir_need_blocks := by kernel_rfl
abbrev s_weight_from : Stmt := top 18
theorem sc_weight_from : FnScope ["blocks", "number", "width", "weight"] ["blocks", "number"] (defScope s_weight_from) := ⟨rfl, rfl, rfl, by decide +kernel, rfl, by decide +kernel, by decide +kernel⟩
theorem tr_weight_from : trSs 60 ⟨["blocks", "number", "width", "weight"], defScope s_weight_from, fun _ => true, [], [], [0, 1], [], [], []⟩ (defBody s_weight_from) = ir_weight_from := by kernel_rfl
abbrev s_middles : Stmt := top 19
theorem sc_middles : FnScope ["blocks", "lefts", "found", "number", "whole", "block", "left"] ["blocks", "lefts"] (defScope s_middles) := ⟨rfl, rfl, rfl, by decide +kernel, rfl, by decide +kernel, by decide +kernel⟩
theorem tr_middles : trSs 60 ⟨["blocks", "lefts", "found", "number", "whole", "block", "left"], defScope s_middles, fun _ => true, [("plus", 2), ("times", 2), ("ratio", 2), ("over", 2), ("weight_from", 2)], ["ZERO"], [0, 1], [], [], []⟩ (defBody s_middles) = ir_middles := by kernel_rfl
abbrev s_tower_holds : Stmt := top 20
theorem sc_tower_holds : FnScope ["blocks", "lefts", "some", "number", "below"] ["blocks", "lefts"] (defScope s_tower_holds) := ⟨rfl, rfl, rfl, by decide +kernel, rfl, by decide +kernel, by decide +kernel⟩
theorem tr_tower_holds : trSs 60 ⟨["blocks", "lefts", "some", "number", "below"], defScope s_tower_holds, fun _ => true, [("middles", 2), ("is_less", 2), ("plus", 2)], [], [0, 1], [], [], []⟩ (defBody s_tower_holds) = ir_tower_holds := by kernel_rfl
abbrev s_is_tower : Stmt := top 21
theorem sc_is_tower : FnScope ["blocks", "value", "one"] ["blocks", "value"] (defScope s_is_tower) := ⟨rfl, rfl, rfl, by decide +kernel, rfl, by decide +kernel, by decide +kernel⟩
theorem tr_is_tower : trSs 60 ⟨["blocks", "value", "one"], defScope s_is_tower, fun _ => true, [("need_blocks", 1), ("is_fraction", 1), ("tower_holds", 2)], [], [0, 1], [], [], []⟩ (defBody s_is_tower) = ir_is_tower := by kernel_rfl
abbrev s_law_same_truth : Stmt := top 23
theorem sc_law_same_truth : FnScope ["got", "due"] ["got", "due"] (defScope s_law_same_truth) := ⟨rfl, rfl, rfl, by decide +kernel, rfl, by decide +kernel, by decide +kernel⟩
theorem tr_law_same_truth : trSs 60 ⟨["got", "due"], defScope s_law_same_truth, fun _ => true, [], [], [0, 1], [], [], []⟩ (defBody s_law_same_truth) = ir_law_same_truth := by kernel_rfl
abbrev s_law_cell_at : Stmt := top 24
theorem sc_law_cell_at : FnScope ["script", "k", "spare", "again"] ["script", "k"] (defScope s_law_cell_at) := ⟨rfl, rfl, rfl, by decide +kernel, rfl, by decide +kernel, by decide +kernel⟩
theorem tr_law_cell_at : trSs 60 ⟨["script", "k", "spare", "again"], defScope s_law_cell_at, fun _ => true, [], [], [0, 1], [], [], []⟩ (defBody s_law_cell_at) = ir_law_cell_at := by kernel_rfl
abbrev s_law_mixed : Stmt := top 25
theorem sc_law_mixed : FnScope ["script", "k", "many", "spun"] ["script", "k", "many"] (defScope s_law_mixed) := ⟨rfl, rfl, rfl, by decide +kernel, rfl, by decide +kernel, by decide +kernel⟩
theorem tr_law_mixed : trSs 60 ⟨["script", "k", "many", "spun"], defScope s_law_mixed, fun _ => true, [("_law_cell_at", 2)], [], [0, 1, 2], [], [], []⟩ (defBody s_law_mixed) = ir_law_mixed := by kernel_rfl
abbrev s_law_draw : Stmt := top 26
theorem sc_law_draw : FnScope ["script", "state", "many"] ["script", "state", "many"] (defScope s_law_draw) := ⟨rfl, rfl, rfl, by decide +kernel, rfl, by decide +kernel, by decide +kernel⟩
theorem tr_law_draw : trSs 60 ⟨["script", "state", "many"], defScope s_law_draw, fun _ => true, [("_law_mixed", 3)], [], [0, 1, 2], [], [], []⟩ (defBody s_law_draw) = ir_law_draw := by kernel_rfl
abbrev s_law_sum : Stmt := top 27
theorem sc_law_sum : FnScope ["some", "top", "bottom", "one"] ["some"] (defScope s_law_sum) := ⟨rfl, rfl, rfl, by decide +kernel, rfl, by decide +kernel, by decide +kernel⟩
theorem tr_law_sum : trSs 60 ⟨["some", "top", "bottom", "one"], defScope s_law_sum, fun _ => true, [], [], [0], [], [], []⟩ (defBody s_law_sum) = ir_law_sum := by kernel_rfl
abbrev s_law_middle : Stmt := top 28
theorem sc_law_middle : FnScope ["blocks", "lefts", "parts", "width", "weight", "left", "top", "bottom"] ["blocks", "lefts"] (defScope s_law_middle) := ⟨rfl, rfl, rfl, by decide +kernel, rfl, by decide +kernel, by decide +kernel⟩
theorem tr_law_middle : trSs 60 ⟨["blocks", "lefts", "parts", "width", "weight", "left", "top", "bottom"], defScope s_law_middle, fun _ => true, [("_law_sum", 1)], [], [0, 1], [], [], []⟩ (defBody s_law_middle) = ir_law_middle := by kernel_rfl
abbrev s_law_holds : Stmt := top 29
theorem sc_law_holds : FnScope ["blocks", "lefts", "number", "top", "bottom", "low", "under", "wide"] ["blocks", "lefts"] (defScope s_law_holds) := ⟨rfl, rfl, rfl, by decide +kernel, rfl, by decide +kernel, by decide +kernel⟩
theorem tr_law_holds : trSs 60 ⟨["blocks", "lefts", "number", "top", "bottom", "low", "under", "wide"], defScope s_law_holds, fun _ => true, [("_law_middle", 2)], [], [0, 1], [], [], []⟩ (defBody s_law_holds) = ir_law_holds := by kernel_rfl
abbrev s_law : Stmt := top 30
theorem sc_law : FnScope ["script", "state", "blocks", "again", "lefts", "at", "block", "bad", "one"] ["script"] (defScope s_law) := ⟨rfl, rfl, rfl, by decide +kernel, rfl, by decide +kernel, by decide +kernel⟩
theorem tr_law : trSs 60 ⟨["script", "state", "blocks", "again", "lefts", "at", "block", "bad", "one"], defScope s_law, fun _ => true, [("_law_draw", 3), ("_law_same_truth", 2), ("is_tower", 2), ("_law_holds", 2)], [], [0], [4], [], []⟩ (defBody s_law) = ir_law_k22 := by kernel_rfl
theorem bd_divisor (kV doc pm : Value) (an : Option Addr) (cdv ct : Value) (us : List Value) (hl : us.length = (["one", "other"] : List Str).length) : bindArgs (PySem.W.fnOf "divisor" "divisor" (defArgs s_divisor) (defBody s_divisor) (defScope s_divisor) .none kV doc pm an cdv ct) ⟨us, []⟩ = pure ((["one", "other"] : List Str).zip us) := match us, hl with | [_, _], _ => by kernel_rfl
theorem bd_ratio (kV doc pm : Value) (an : Option Addr) (cdv ct : Value) (us : List Value) (hl : us.length = (["top", "bottom"] : List Str).length) : bindArgs (PySem.W.fnOf "ratio" "ratio" (defArgs s_ratio) (defBody s_ratio) (defScope s_ratio) .none kV doc pm an cdv ct) ⟨us, []⟩ = pure ((["top", "bottom"] : List Str).zip us) := match us, hl with | [_, _], _ => by kernel_rfl
theorem bd_plus (kV doc pm : Value) (an : Option Addr) (cdv ct : Value) (us : List Value) (hl : us.length = (["one", "other"] : List Str).length) : bindArgs (PySem.W.fnOf "plus" "plus" (defArgs s_plus) (defBody s_plus) (defScope s_plus) .none kV doc pm an cdv ct) ⟨us, []⟩ = pure ((["one", "other"] : List Str).zip us) := match us, hl with | [_, _], _ => by kernel_rfl
theorem bd_times (kV doc pm : Value) (an : Option Addr) (cdv ct : Value) (us : List Value) (hl : us.length = (["one", "other"] : List Str).length) : bindArgs (PySem.W.fnOf "times" "times" (defArgs s_times) (defBody s_times) (defScope s_times) .none kV doc pm an cdv ct) ⟨us, []⟩ = pure ((["one", "other"] : List Str).zip us) := match us, hl with | [_, _], _ => by kernel_rfl
theorem bd_over (kV doc pm : Value) (an : Option Addr) (cdv ct : Value) (us : List Value) (hl : us.length = (["one", "other"] : List Str).length) : bindArgs (PySem.W.fnOf "over" "over" (defArgs s_over) (defBody s_over) (defScope s_over) .none kV doc pm an cdv ct) ⟨us, []⟩ = pure ((["one", "other"] : List Str).zip us) := match us, hl with | [_, _], _ => by kernel_rfl
theorem bd_is_less (kV doc pm : Value) (an : Option Addr) (cdv ct : Value) (us : List Value) (hl : us.length = (["one", "other"] : List Str).length) : bindArgs (PySem.W.fnOf "is_less" "is_less" (defArgs s_is_less) (defBody s_is_less) (defScope s_is_less) .none kV doc pm an cdv ct) ⟨us, []⟩ = pure ((["one", "other"] : List Str).zip us) := match us, hl with | [_, _], _ => by kernel_rfl
theorem bd_is_fraction (kV doc pm : Value) (an : Option Addr) (cdv ct : Value) (us : List Value) (hl : us.length = (["value"] : List Str).length) : bindArgs (PySem.W.fnOf "is_fraction" "is_fraction" (defArgs s_is_fraction) (defBody s_is_fraction) (defScope s_is_fraction) .none kV doc pm an cdv ct) ⟨us, []⟩ = pure ((["value"] : List Str).zip us) := match us, hl with | [_], _ => by kernel_rfl
theorem bd_is_integer (kV doc pm : Value) (an : Option Addr) (cdv ct : Value) (us : List Value) (hl : us.length = (["value", "low", "high"] : List Str).length) : bindArgs (PySem.W.fnOf "is_integer" "is_integer" (defArgs s_is_integer) (defBody s_is_integer) (defScope s_is_integer) .none kV doc pm an cdv ct) ⟨us, []⟩ = pure ((["value", "low", "high"] : List Str).zip us) := match us, hl with | [_, _, _], _ => by kernel_rfl
theorem bd_is_tower_block (kV doc pm : Value) (an : Option Addr) (cdv ct : Value) (us : List Value) (hl : us.length = (["value"] : List Str).length) : bindArgs (PySem.W.fnOf "is_tower_block" "is_tower_block" (defArgs s_is_tower_block) (defBody s_is_tower_block) (defScope s_is_tower_block) .none kV doc pm an cdv ct) ⟨us, []⟩ = pure ((["value"] : List Str).zip us) := match us, hl with | [_], _ => by kernel_rfl
theorem bd_blocks_stand (kV doc pm : Value) (an : Option Addr) (cdv ct : Value) (us : List Value) (hl : us.length = (["value"] : List Str).length) : bindArgs (PySem.W.fnOf "blocks_stand" "blocks_stand" (defArgs s_blocks_stand) (defBody s_blocks_stand) (defScope s_blocks_stand) .none kV doc pm an cdv ct) ⟨us, []⟩ = pure ((["value"] : List Str).zip us) := match us, hl with | [_], _ => by kernel_rfl
theorem bd_need_blocks (kV doc pm : Value) (an : Option Addr) (cdv ct : Value) (us : List Value) (hl : us.length = (["blocks"] : List Str).length) : bindArgs (PySem.W.fnOf "need_blocks" "need_blocks" (defArgs s_need_blocks) (defBody s_need_blocks) (defScope s_need_blocks) .none kV doc pm an cdv ct) ⟨us, []⟩ = pure ((["blocks"] : List Str).zip us) := match us, hl with | [_], _ => by kernel_rfl
theorem bd_weight_from (kV doc pm : Value) (an : Option Addr) (cdv ct : Value) (us : List Value) (hl : us.length = (["blocks", "number"] : List Str).length) : bindArgs (PySem.W.fnOf "weight_from" "weight_from" (defArgs s_weight_from) (defBody s_weight_from) (defScope s_weight_from) .none kV doc pm an cdv ct) ⟨us, []⟩ = pure ((["blocks", "number"] : List Str).zip us) := match us, hl with | [_, _], _ => by kernel_rfl
theorem bd_middles (kV doc pm : Value) (an : Option Addr) (cdv ct : Value) (us : List Value) (hl : us.length = (["blocks", "lefts"] : List Str).length) : bindArgs (PySem.W.fnOf "middles" "middles" (defArgs s_middles) (defBody s_middles) (defScope s_middles) .none kV doc pm an cdv ct) ⟨us, []⟩ = pure ((["blocks", "lefts"] : List Str).zip us) := match us, hl with | [_, _], _ => by kernel_rfl
theorem bd_tower_holds (kV doc pm : Value) (an : Option Addr) (cdv ct : Value) (us : List Value) (hl : us.length = (["blocks", "lefts"] : List Str).length) : bindArgs (PySem.W.fnOf "tower_holds" "tower_holds" (defArgs s_tower_holds) (defBody s_tower_holds) (defScope s_tower_holds) .none kV doc pm an cdv ct) ⟨us, []⟩ = pure ((["blocks", "lefts"] : List Str).zip us) := match us, hl with | [_, _], _ => by kernel_rfl
theorem bd_is_tower (kV doc pm : Value) (an : Option Addr) (cdv ct : Value) (us : List Value) (hl : us.length = (["blocks", "value"] : List Str).length) : bindArgs (PySem.W.fnOf "is_tower" "is_tower" (defArgs s_is_tower) (defBody s_is_tower) (defScope s_is_tower) .none kV doc pm an cdv ct) ⟨us, []⟩ = pure ((["blocks", "value"] : List Str).zip us) := match us, hl with | [_, _], _ => by kernel_rfl
theorem bd_law_same_truth (kV doc pm : Value) (an : Option Addr) (cdv ct : Value) (us : List Value) (hl : us.length = (["got", "due"] : List Str).length) : bindArgs (PySem.W.fnOf "_law_same_truth" "_law_same_truth" (defArgs s_law_same_truth) (defBody s_law_same_truth) (defScope s_law_same_truth) .none kV doc pm an cdv ct) ⟨us, []⟩ = pure ((["got", "due"] : List Str).zip us) := match us, hl with | [_, _], _ => by kernel_rfl
theorem bd_law_cell_at (kV doc pm : Value) (an : Option Addr) (cdv ct : Value) (us : List Value) (hl : us.length = (["script", "k"] : List Str).length) : bindArgs (PySem.W.fnOf "_law_cell_at" "_law_cell_at" (defArgs s_law_cell_at) (defBody s_law_cell_at) (defScope s_law_cell_at) .none kV doc pm an cdv ct) ⟨us, []⟩ = pure ((["script", "k"] : List Str).zip us) := match us, hl with | [_, _], _ => by kernel_rfl
theorem bd_law_mixed (kV doc pm : Value) (an : Option Addr) (cdv ct : Value) (us : List Value) (hl : us.length = (["script", "k", "many"] : List Str).length) : bindArgs (PySem.W.fnOf "_law_mixed" "_law_mixed" (defArgs s_law_mixed) (defBody s_law_mixed) (defScope s_law_mixed) .none kV doc pm an cdv ct) ⟨us, []⟩ = pure ((["script", "k", "many"] : List Str).zip us) := match us, hl with | [_, _, _], _ => by kernel_rfl
theorem bd_law_draw (kV doc pm : Value) (an : Option Addr) (cdv ct : Value) (us : List Value) (hl : us.length = (["script", "state", "many"] : List Str).length) : bindArgs (PySem.W.fnOf "_law_draw" "_law_draw" (defArgs s_law_draw) (defBody s_law_draw) (defScope s_law_draw) .none kV doc pm an cdv ct) ⟨us, []⟩ = pure ((["script", "state", "many"] : List Str).zip us) := match us, hl with | [_, _, _], _ => by kernel_rfl
theorem bd_law_sum (kV doc pm : Value) (an : Option Addr) (cdv ct : Value) (us : List Value) (hl : us.length = (["some"] : List Str).length) : bindArgs (PySem.W.fnOf "_law_sum" "_law_sum" (defArgs s_law_sum) (defBody s_law_sum) (defScope s_law_sum) .none kV doc pm an cdv ct) ⟨us, []⟩ = pure ((["some"] : List Str).zip us) := match us, hl with | [_], _ => by kernel_rfl
theorem bd_law_middle (kV doc pm : Value) (an : Option Addr) (cdv ct : Value) (us : List Value) (hl : us.length = (["blocks", "lefts"] : List Str).length) : bindArgs (PySem.W.fnOf "_law_middle" "_law_middle" (defArgs s_law_middle) (defBody s_law_middle) (defScope s_law_middle) .none kV doc pm an cdv ct) ⟨us, []⟩ = pure ((["blocks", "lefts"] : List Str).zip us) := match us, hl with | [_, _], _ => by kernel_rfl
theorem bd_law_holds (kV doc pm : Value) (an : Option Addr) (cdv ct : Value) (us : List Value) (hl : us.length = (["blocks", "lefts"] : List Str).length) : bindArgs (PySem.W.fnOf "_law_holds" "_law_holds" (defArgs s_law_holds) (defBody s_law_holds) (defScope s_law_holds) .none kV doc pm an cdv ct) ⟨us, []⟩ = pure ((["blocks", "lefts"] : List Str).zip us) := match us, hl with | [_, _], _ => by kernel_rfl
theorem bd_law (kV doc pm : Value) (an : Option Addr) (cdv ct : Value) (us : List Value) (hl : us.length = (["script"] : List Str).length) : bindArgs (PySem.W.fnOf "law" "law" (defArgs s_law) (defBody s_law) (defScope s_law) .none kV doc pm an cdv ct) ⟨us, []⟩ = pure ((["script"] : List Str).zip us) := match us, hl with | [_], _ => by kernel_rfl
def fn : List He.DefD := [dd "divisor" s_divisor, dd "ratio" s_ratio, dd "plus" s_plus, dd "times" s_times, dd "over" s_over, dd "is_less" s_is_less, dd "is_fraction" s_is_fraction, dd "is_integer" s_is_integer, dd "is_tower_block" s_is_tower_block, dd "blocks_stand" s_blocks_stand, dd "need_blocks" s_need_blocks, dd "weight_from" s_weight_from, dd "middles" s_middles, dd "tower_holds" s_tower_holds, dd "is_tower" s_is_tower, dd "_law_same_truth" s_law_same_truth, dd "_law_cell_at" s_law_cell_at, dd "_law_mixed" s_law_mixed, dd "_law_draw" s_law_draw, dd "_law_sum" s_law_sum, dd "_law_middle" s_law_middle, dd "_law_holds" s_law_holds, dd "law" s_law]
def cl : List (Str × PyData) := [("ZERO", (.tuple [(.int 0), (.int 1)]))]
def fa : List He.Fa := [.glo "divisor", .glo "ratio", .glo "plus", .glo "times", .glo "over", .glo "is_less", .glo "is_fraction", .glo "is_integer", .glo "is_tower_block", .glo "blocks_stand", .glo "need_blocks", .glo "weight_from", .glo "middles", .glo "tower_holds", .glo "is_tower", .glo "_law_same_truth", .glo "_law_cell_at", .glo "_law_mixed", .glo "_law_draw", .glo "_law_sum", .glo "_law_middle", .glo "_law_holds", .glo "law"] ++ freeB
abbrev R : PySem.W.OpenRow := PySem.W.OpenLaw.row PySem.Challenge.rw_blockpiles_k22_whole_towers_judged
abbrev hk : PySem.W.Hook := He.hookX 4 fa fn [] [] (exC cl)
def ob (s : PySem.W.SharedT) : He.AlX := He.obsX 4 fa fn [] [] (exC cl) (HandSHeadRun.getT s)
theorem ob_eq (s : PySem.W.SharedT) : ob s = hk.obs s.abs := He.obsX_eq (HandSHeadRun.getT_eq s)
theorem run (w : World) : HandSHeadRun.RunEq R (PySem.W.view R.prog [30]) hk ob 4000 ((["__name__", "PileError", "InvalidTower", "ZERO", "divisor", "ratio", "plus", "times", "over", "is_less", "is_fraction", "is_integer", "is_tower_block", "blocks_stand", "need_blocks", "weight_from", "middles", "tower_holds", "is_tower", "_law_same_truth", "_law_cell_at", "_law_mixed", "_law_draw", "_law_sum", "_law_middle", "_law_holds"] : List Str)) w := by
  intro os
  kernel_rfl
theorem facts {P : Program} {w : World} {K : PySem.W.Frag} {h h2 : Heap} {mg : Str → Option Value} {f : Addr} (X : K.In h) (G : h.Ns mainGlobals mg) (hfa : mg ("law" : Str) = some (.ref f)) (c : He.SaysX fa fn [] [] (exC cl) w h2 K) :
    ∃ fd : FuncData, (∀ (s : Shared) (v : Value), BindsTo s fd ⟨[v], []⟩ [("script", v)]) ∧ ∀ base : Heap, FnOk P w K mg base (CX P w) 7 f fd ["script"] (spD K (fun _ => .none) 1 F_law_k22) := by
  have c0 := c.more
  have c := c.t.d
  have blt : ∀ x ∈ bltNames, mg x = none := fun x hx => He.free_ok X G (c.facts (f := .free x) (by unfold fa; exact List.mem_append_right _ (List.mem_map.mpr ⟨x, hx, rfl⟩)))
  have gl : ∀ (i : Nat) {x : Str}, fa[i]? = some (.glo x) → He.Fa.glo x ∈ fa := fun i _ h => List.mem_of_getElem? h
  have df : ∀ (i : Nat) {d : He.DefD}, fn[i]? = some d → d ∈ fn := fun i _ h => List.mem_of_getElem? h
  obtain ⟨fd, F⟩ := c.defs (df 22 rfl : dd "law" s_law ∈ fn)
  have e := hfa.symm.trans (He.glo_ok X G (c.facts (gl 22 rfl : He.Fa.glo "law" ∈ fa)))
  cases e
  have b := FunD.bindsA (ps := ["script"]) F bd_law
  refine ⟨fd, fun s v => b s [v] rfl, fun base => ?_⟩
  have h_divisor : Callee P w K mg base (fun _ => .none) 1 "divisor" 2 F_divisor := callee_mk (k := 0) (x := "divisor") (st := s_divisor) (N := ["one", "other"]) (ps := ["one", "other"]) (np := 2) (n := 60) (T := ⟨[], [], [], [], []⟩) (ir := ir_divisor) X G c (df 0 rfl) (gl 0 rfl) sc_divisor rfl tr_divisor bd_divisor blt .nil .nil .nil .nil .nil
  have h_ratio : Callee P w K mg base (fun _ => .none) 2 "ratio" 2 F_ratio := callee_mk (k := 1) (x := "ratio") (st := s_ratio) (N := ["top", "bottom", "shared"]) (ps := ["top", "bottom"]) (np := 2) (n := 60) (T := ⟨[F_divisor], [], [], [], []⟩) (ir := ir_ratio) X G c (df 1 rfl) (gl 1 rfl) sc_ratio rfl tr_ratio bd_ratio blt (.cons h_divisor (by decide) .nil) .nil .nil .nil .nil
  have h_plus : Callee P w K mg base (fun _ => .none) 3 "plus" 2 F_plus := callee_mk (k := 2) (x := "plus") (st := s_plus) (N := ["one", "other"]) (ps := ["one", "other"]) (np := 2) (n := 60) (T := ⟨[F_ratio], [], [], [], []⟩) (ir := ir_plus) X G c (df 2 rfl) (gl 2 rfl) sc_plus rfl tr_plus bd_plus blt (.cons h_ratio (by decide) .nil) .nil .nil .nil .nil
  have h_times : Callee P w K mg base (fun _ => .none) 3 "times" 2 F_times := callee_mk (k := 2) (x := "times") (st := s_times) (N := ["one", "other"]) (ps := ["one", "other"]) (np := 2) (n := 60) (T := ⟨[F_ratio], [], [], [], []⟩) (ir := ir_times) X G c (df 3 rfl) (gl 3 rfl) sc_times rfl tr_times bd_times blt (.cons h_ratio (by decide) .nil) .nil .nil .nil .nil
  have h_over : Callee P w K mg base (fun _ => .none) 3 "over" 2 F_over := callee_mk (k := 2) (x := "over") (st := s_over) (N := ["one", "other"]) (ps := ["one", "other"]) (np := 2) (n := 60) (T := ⟨[F_ratio], [], [], [], []⟩) (ir := ir_over) X G c (df 4 rfl) (gl 4 rfl) sc_over rfl tr_over bd_over blt (.cons h_ratio (by decide) .nil) .nil .nil .nil .nil
  have h_is_less : Callee P w K mg base (fun _ => .none) 1 "is_less" 2 F_is_less := callee_mk (k := 0) (x := "is_less") (st := s_is_less) (N := ["one", "other"]) (ps := ["one", "other"]) (np := 2) (n := 60) (T := ⟨[], [], [], [], []⟩) (ir := ir_is_less) X G c (df 5 rfl) (gl 5 rfl) sc_is_less rfl tr_is_less bd_is_less blt .nil .nil .nil .nil .nil
  have h_is_fraction : Callee P w K mg base (fun _ => .none) 2 "is_fraction" 1 F_is_fraction := callee_mk (k := 1) (x := "is_fraction") (st := s_is_fraction) (N := ["value", "one", "far"]) (ps := ["value"]) (np := 1) (n := 60) (T := ⟨[F_divisor], [], [], [], []⟩) (ir := ir_is_fraction) X G c (df 6 rfl) (gl 6 rfl) sc_is_fraction rfl tr_is_fraction bd_is_fraction blt (.cons h_divisor (by decide) .nil) .nil .nil .nil .nil
  have h_is_integer : Callee P w K mg base (fun _ => .none) 1 "is_integer" 3 F_is_integer := callee_mk (k := 0) (x := "is_integer") (st := s_is_integer) (N := ["value", "low", "high"]) (ps := ["value", "low", "high"]) (np := 3) (n := 60) (T := ⟨[], [], [], [], []⟩) (ir := ir_is_integer) X G c (df 7 rfl) (gl 7 rfl) sc_is_integer rfl tr_is_integer bd_is_integer blt .nil .nil .nil .nil .nil
  have h_is_tower_block : Callee P w K mg base (fun _ => .none) 2 "is_tower_block" 1 F_is_tower_block := callee_mk (k := 1) (x := "is_tower_block") (st := s_is_tower_block) (N := ["value"]) (ps := ["value"]) (np := 1) (n := 60) (T := ⟨[F_is_integer], [], [], [], []⟩) (ir := ir_is_tower_block) X G c (df 8 rfl) (gl 8 rfl) sc_is_tower_block rfl tr_is_tower_block bd_is_tower_block blt (.cons h_is_integer (by decide) .nil) .nil .nil .nil .nil
  have h_blocks_stand : Callee P w K mg base (fun _ => .none) 3 "blocks_stand" 1 F_blocks_stand := callee_mk (k := 2) (x := "blocks_stand") (st := s_blocks_stand) (N := ["value", "one"]) (ps := ["value"]) (np := 1) (n := 60) (T := ⟨[F_is_tower_block], [], [], [], []⟩) (ir := ir_blocks_stand) X G c (df 9 rfl) (gl 9 rfl) sc_blocks_stand rfl tr_blocks_stand bd_blocks_stand blt (.cons h_is_tower_block (by decide) .nil) .nil .nil .nil .nil
  have h_need_blocks : Callee P w K mg base (fun _ => .none) 4 "need_blocks" 1 F_need_blocks := callee_mk (k := 3) (x := "need_blocks") (st := s_need_blocks) (N := ["blocks"]) (ps := ["blocks"]) (np := 1) (n := 60) (T := ⟨[F_blocks_stand], [], [], [], []⟩) (ir := ir_need_blocks) X G c (df 10 rfl) (gl 10 rfl) sc_need_blocks rfl tr_need_blocks bd_need_blocks blt (.cons h_blocks_stand (by decide) .nil) .nil .nil .nil .nil
  have h_weight_from : Callee P w K mg base (fun _ => .none) 1 "weight_from" 2 F_weight_from := callee_mk (k := 0) (x := "weight_from") (st := s_weight_from) (N := ["blocks", "number", "width", "weight"]) (ps := ["blocks", "number"]) (np := 2) (n := 60) (T := ⟨[], [], [], [], []⟩) (ir := ir_weight_from) X G c (df 11 rfl) (gl 11 rfl) sc_weight_from rfl tr_weight_from bd_weight_from blt .nil .nil .nil .nil .nil
  have h_middles : Callee P w K mg base (fun _ => .none) 4 "middles" 2 F_middles := callee_mk (k := 3) (x := "middles") (st := s_middles) (N := ["blocks", "lefts", "found", "number", "whole", "block", "left"]) (ps := ["blocks", "lefts"]) (np := 2) (n := 60) (T := ⟨[F_plus, F_times, F_ratio, F_over, F_weight_from], [(.tuple [(.int 0), (.int 1)])], [], [], []⟩) (ir := ir_middles) X G c (df 12 rfl) (gl 12 rfl) sc_middles rfl tr_middles bd_middles blt (.cons h_plus (by decide) (.cons h_times (by decide) (.cons h_ratio (by decide) (.cons h_over (by decide) (.cons h_weight_from (by decide) .nil))))) (.cons (exC_con X G c0 0 rfl) .nil) .nil .nil .nil
  have h_tower_holds : Callee P w K mg base (fun _ => .none) 5 "tower_holds" 2 F_tower_holds := callee_mk (k := 4) (x := "tower_holds") (st := s_tower_holds) (N := ["blocks", "lefts", "some", "number", "below"]) (ps := ["blocks", "lefts"]) (np := 2) (n := 60) (T := ⟨[F_middles, F_is_less, F_plus], [], [], [], []⟩) (ir := ir_tower_holds) X G c (df 13 rfl) (gl 13 rfl) sc_tower_holds rfl tr_tower_holds bd_tower_holds blt (.cons h_middles (by decide) (.cons h_is_less (by decide) (.cons h_plus (by decide) .nil))) .nil .nil .nil .nil
  have h_is_tower : Callee P w K mg base (fun _ => .none) 6 "is_tower" 2 F_is_tower := callee_mk (k := 5) (x := "is_tower") (st := s_is_tower) (N := ["blocks", "value", "one"]) (ps := ["blocks", "value"]) (np := 2) (n := 60) (T := ⟨[F_need_blocks, F_is_fraction, F_tower_holds], [], [], [], []⟩) (ir := ir_is_tower) X G c (df 14 rfl) (gl 14 rfl) sc_is_tower rfl tr_is_tower bd_is_tower blt (.cons h_need_blocks (by decide) (.cons h_is_fraction (by decide) (.cons h_tower_holds (by decide) .nil))) .nil .nil .nil .nil
  have h_law_same_truth : Callee P w K mg base (fun _ => .none) 1 "_law_same_truth" 2 F_law_same_truth := callee_mk (k := 0) (x := "_law_same_truth") (st := s_law_same_truth) (N := ["got", "due"]) (ps := ["got", "due"]) (np := 2) (n := 60) (T := ⟨[], [], [], [], []⟩) (ir := ir_law_same_truth) X G c (df 15 rfl) (gl 15 rfl) sc_law_same_truth rfl tr_law_same_truth bd_law_same_truth blt .nil .nil .nil .nil .nil
  have h_law_cell_at : Callee P w K mg base (fun _ => .none) 1 "_law_cell_at" 2 F_law_cell_at := callee_mk (k := 0) (x := "_law_cell_at") (st := s_law_cell_at) (N := ["script", "k", "spare", "again"]) (ps := ["script", "k"]) (np := 2) (n := 60) (T := ⟨[], [], [], [], []⟩) (ir := ir_law_cell_at) X G c (df 16 rfl) (gl 16 rfl) sc_law_cell_at rfl tr_law_cell_at bd_law_cell_at blt .nil .nil .nil .nil .nil
  have h_law_mixed : Callee P w K mg base (fun _ => .none) 2 "_law_mixed" 3 F_law_mixed := callee_mk (k := 1) (x := "_law_mixed") (st := s_law_mixed) (N := ["script", "k", "many", "spun"]) (ps := ["script", "k", "many"]) (np := 3) (n := 60) (T := ⟨[F_law_cell_at], [], [], [], []⟩) (ir := ir_law_mixed) X G c (df 17 rfl) (gl 17 rfl) sc_law_mixed rfl tr_law_mixed bd_law_mixed blt (.cons h_law_cell_at (by decide) .nil) .nil .nil .nil .nil
  have h_law_draw : Callee P w K mg base (fun _ => .none) 3 "_law_draw" 3 F_law_draw := callee_mk (k := 2) (x := "_law_draw") (st := s_law_draw) (N := ["script", "state", "many"]) (ps := ["script", "state", "many"]) (np := 3) (n := 60) (T := ⟨[F_law_mixed], [], [], [], []⟩) (ir := ir_law_draw) X G c (df 18 rfl) (gl 18 rfl) sc_law_draw rfl tr_law_draw bd_law_draw blt (.cons h_law_mixed (by decide) .nil) .nil .nil .nil .nil
  have h_law_sum : Callee P w K mg base (fun _ => .none) 1 "_law_sum" 1 F_law_sum := callee_mk (k := 0) (x := "_law_sum") (st := s_law_sum) (N := ["some", "top", "bottom", "one"]) (ps := ["some"]) (np := 1) (n := 60) (T := ⟨[], [], [], [], []⟩) (ir := ir_law_sum) X G c (df 19 rfl) (gl 19 rfl) sc_law_sum rfl tr_law_sum bd_law_sum blt .nil .nil .nil .nil .nil
  have h_law_middle : Callee P w K mg base (fun _ => .none) 2 "_law_middle" 2 F_law_middle := callee_mk (k := 1) (x := "_law_middle") (st := s_law_middle) (N := ["blocks", "lefts", "parts", "width", "weight", "left", "top", "bottom"]) (ps := ["blocks", "lefts"]) (np := 2) (n := 60) (T := ⟨[F_law_sum], [], [], [], []⟩) (ir := ir_law_middle) X G c (df 20 rfl) (gl 20 rfl) sc_law_middle rfl tr_law_middle bd_law_middle blt (.cons h_law_sum (by decide) .nil) .nil .nil .nil .nil
  have h_law_holds : Callee P w K mg base (fun _ => .none) 3 "_law_holds" 2 F_law_holds := callee_mk (k := 2) (x := "_law_holds") (st := s_law_holds) (N := ["blocks", "lefts", "number", "top", "bottom", "low", "under", "wide"]) (ps := ["blocks", "lefts"]) (np := 2) (n := 60) (T := ⟨[F_law_middle], [], [], [], []⟩) (ir := ir_law_holds) X G c (df 21 rfl) (gl 21 rfl) sc_law_holds rfl tr_law_holds bd_law_holds blt (.cons h_law_middle (by decide) .nil) .nil .nil .nil .nil
  exact fn_mk (k := 6) (x := "law") (st := s_law) (N := ["script", "state", "blocks", "again", "lefts", "at", "block", "bad", "one"]) (ps := ["script"]) (np := 1) (n := 60) (T := ⟨[F_law_draw, F_law_same_truth, F_is_tower, F_law_holds], [], [], [], []⟩) (ir := ir_law_k22) F sc_law rfl tr_law blt (.cons h_law_draw (by decide) (.cons h_law_same_truth (by decide) (.cons h_is_tower (by decide) (.cons h_law_holds (by decide) .nil)))) .nil .nil .nil .nil
end A_k22
open PySem PySem.W PySem.Calls PyProof.Rows
theorem PySem.Challenge.cw_blockpiles_k22_whole_towers_judged_holds : PySem.Challenge.rw_blockpiles_k22_whole_towers_judged.Holds := by
  w_on; o_law
  refine HandSHeadRun.head_any (r := OpenLaw.row PySem.Challenge.rw_blockpiles_k22_whole_towers_judged) (q := view (OpenLaw.row PySem.Challenge.rw_blockpiles_k22_whole_towers_judged).prog [30]) (H := A_k22.hk) (ob := A_k22.ob) (M := 4000) (loose := ((["__name__", "PileError", "InvalidTower", "ZERO", "divisor", "ratio", "plus", "times", "over", "is_less", "is_fraction", "is_integer", "is_tower_block", "blocks_stand", "need_blocks", "weight_from", "middles", "tower_holds", "is_tower", "_law_same_truth", "_law_cell_at", "_law_mixed", "_law_draw", "_law_sum", "_law_middle", "_law_holds"] : List Str))) (d := HandSHeadRun.topDef (OpenLaw.row PySem.Challenge.rw_blockpiles_k22_whole_towers_judged).prog 30) (kwd := []) A_k22.ob_eq
    (by kernel_rfl) (fun s => by kernel_rfl) A_k22.run (by kernel_rfl) (by kernel_rfl) (by kernel_rfl) (by rfl) (by first | assumption | decide +kernel) (by decide +kernel) ⟨rfl, rfl, rfl, rfl, rfl, by decide +kernel⟩ ?hw ?hc
  case hw => w_witness2
  case hc =>
    refine BP.walk_end (l := PySem.Challenge.rw_blockpiles_k22_whole_towers_judged) (n := 63) (k := 7) (x := "script") rfl (by decide) (by kernel_rfl) ⟨rfl, by decide, by decide⟩ ?F
    intro w mg fa h Y G hmg0
    obtain ⟨K, KX, c⟩ := Y
    have hmg : mg ("law" : PySem.Str) = some (.ref fa) := by
      have e : (HandSHeadRun.topDef (OpenLaw.row PySem.Challenge.rw_blockpiles_k22_whole_towers_judged).prog 30).name = ("law" : PySem.Str) := by kernel_rfl
      rw [← e]
      exact hmg0
    obtain ⟨fd, hb, hF⟩ := A_k22.facts (P := (PySem.Challenge.rw_blockpiles_k22_whole_towers_judged).prog) (w := w) KX G hmg c
    exact ⟨K, fd, _, KX, hb, fun H a ns hl _ hS => BP.law_sp (BP.exC_no c.more) hS ⟨_, BP.m_law_k22 ns (Nat.le_trans hl (by decide))⟩, fun base _ _ => hF base⟩
end
