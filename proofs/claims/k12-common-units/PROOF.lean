import PyProof.Rows.All
import Wide.All
import OpenK.AllK
import Wide.FinOn
import HandS.ForMost
import HandS.ForExc
import HandS.Wide
import HandS.IsInst
import HandS.Flow
import HandS.CallSlots
import HandS.EndBits
import PySem.Challenge.RW_everydecider_k12_common_units
set_option Elab.async false
set_option linter.all false
set_option maxRecDepth 100000
set_option maxHeartbeats 4000000
namespace Mi
open PySem L2

/-- frozen data: a tree, never written; scr: the script itself -/
inductive D where
  | non | bl (b : Bool) | int (i : Int) | str (s : Str)
  | tup (xs : List D) | lst (xs : List D)
  | ins (c : String) (fs : List (String × D))
  | scr (ns : List Int)

/-- a value at run time: data, a mutable cell, a tuple with cells in it, an exception in hand -/
inductive MV where
  | d (x : D) | c (i : Nat) | t (xs : List MV)

inductive Cell where
  | lst (xs : List MV)
  | ins (c : String) (fs : List (String × MV))
  | froz (d : D)

abbrev Sto := List Cell
abbrev Slots := List (Option MV)

inductive R (α : Type) where
  | ok (a : α) (S : Sto)
  | exc (c : String) (fs : List (String × D)) (S : Sto)
  | stuck

def R.bind {α β : Type} (r : R α) (k : α → Sto → R β) : R β := match r with
  | .ok a S => k a S
  | .exc c fs S => .exc c fs S
  | .stuck => .stuck
@[simp] theorem R.bind_ok {α β : Type} (a : α) (S : Sto) (k : α → Sto → R β) : (R.ok a S).bind k = k a S := rfl
@[simp] theorem R.bind_exc {α β : Type} (c : String) (fs : List (String × D)) (S : Sto) (k : α → Sto → R β) : (R.exc c fs S).bind k = .exc c fs S := rfl
@[simp] theorem R.bind_stuck {α β : Type} (k : α → Sto → R β) : (R.stuck : R α).bind k = .stuck := rfl
def R.opt {α : Type} (o : Option α) (S : Sto) : R α := match o with
  | some a => .ok a S
  | none => .stuck
@[simp] theorem R.opt_some {α : Type} (a : α) (S : Sto) : R.opt (some a) S = .ok a S := rfl
@[simp] theorem R.opt_none {α : Type} (S : Sto) : R.opt (none : Option α) S = .stuck := rfl

/-- how a statement ends -/
inductive F where
  | next (σ : Slots) (S : Sto)
  | ret (v : MV) (S : Sto)
  | brk (σ : Slots) (S : Sto)
  | cont (σ : Slots) (S : Sto)
  | exc (c : String) (fs : List (String × D)) (σ : Slots) (S : Sto)
  | stuck

def R.toF {α : Type} (r : R α) (σ : Slots) (k : α → Sto → F) : F := match r with
  | .ok a S => k a S
  | .exc c fs S => .exc c fs σ S
  | .stuck => .stuck
@[simp] theorem R.toF_ok {α : Type} (a : α) (S : Sto) (σ : Slots) (k : α → Sto → F) : (R.ok a S).toF σ k = k a S := rfl
@[simp] theorem R.toF_exc {α : Type} (c : String) (fs : List (String × D)) (S : Sto) (σ : Slots) (k : α → Sto → F) : (R.exc c fs S).toF σ k = .exc c fs σ S := rfl
@[simp] theorem R.toF_stuck {α : Type} (σ : Slots) (k : α → Sto → F) : (R.stuck : R α).toF σ k = .stuck := rfl
def F.seq (f : F) (k : Slots → Sto → F) : F := match f with
  | .next σ S => k σ S
  | f => f
@[simp] theorem F.seq_next (σ : Slots) (S : Sto) (k : Slots → Sto → F) : (F.next σ S).seq k = k σ S := rfl
@[simp] theorem F.seq_ret (v : MV) (S : Sto) (k : Slots → Sto → F) : (F.ret v S).seq k = .ret v S := rfl
@[simp] theorem F.seq_brk (σ : Slots) (S : Sto) (k : Slots → Sto → F) : (F.brk σ S).seq k = .brk σ S := rfl
@[simp] theorem F.seq_cont (σ : Slots) (S : Sto) (k : Slots → Sto → F) : (F.cont σ S).seq k = .cont σ S := rfl
@[simp] theorem F.seq_exc (c : String) (fs : List (String × D)) (σ : Slots) (S : Sto) (k : Slots → Sto → F) : (F.exc c fs σ S).seq k = .exc c fs σ S := rfl
@[simp] theorem F.seq_stuck (k : Slots → Sto → F) : F.stuck.seq k = .stuck := rfl

inductive Bop where | add | sub | mul | fdiv | mod | pow
  deriving DecidableEq
inductive Cop where | eq | ne | lt | le | gt | ge | is_ | isn | in_ | nin
  deriving DecidableEq

/-- built-ins by name -/
inductive Bl where | abs | int | max | len | list | tuple
  deriving DecidableEq
def Bl.name : Bl → String
  | .abs => "abs" | .int => "int" | .max => "max" | .len => "len" | .list => "list" | .tuple => "tuple"

inductive Tg where
  | nm (i : Nat) | tp (is : List Nat)

mutual
inductive E where
  | var (i : Nat) | int (i : Int) | bl (b : Bool) | non | str (s : String)
  | bin (o : Bop) (a b : E)
  | neg (a : E)
  | cmp (o : Cop) (a b : E)
  | chain (o p : Cop) (a b c : E)
  | and_ (a b : E) | or_ (a b : E) | one (a : E)
  | not_ (a : E)
  | ife (t a b : E)
  | tup (es : Es) | lst (cell : Bool) (es : Es)
  | ix (a i : E)
  | call (raw : Bool) (f : String) (es : Es)
  | blt (cell : Bool) (b : Bl) (es : Es)
  | isi (a : E) (ty : String)
  | app (a e : E)
  | lc (cell : Bool) (elt : E) (tg : Tg) (it : It) (own : List (String × Nat))
inductive Es where
  | nil | cons (e : E) (r : Es)
inductive It where
  | seq (e : E) | range1 (e : E) | range2 (a b : E)
end

mutual
inductive Sm where
  | asg (tg : Tg) (e : E)
  | par (i j : Nat) (a b : E)
  | setix (a i e : E)
  | expr (e : E)
  | ret (e : E)
  | ifs (t : E) (a b : Sms)
  | for_ (tg : Tg) (it : It) (body : Sms)
  | while_ (t : E) (body : Sms)
inductive Sms where
  | nil | cons (s : Sm) (r : Sms)
end

/-! ### operations on data -/
def mulOk (i j : Int) : Bool := decide (i.natAbs.log2 + j.natAbs.log2 < 1000000)
def divOk (j : Int) : Bool := decide (j ≠ 0 ∧ j.natAbs.log2 < 9000)
def powOk (i j : Int) : Bool := decide (0 ≤ j ∧ j ≤ 1000000 ∧ i.natAbs < 2 ^ 64)
def szOk (n : Nat) : Bool := decide (n ≤ 1000000)

def binD (o : Bop) (a b : D) : Option D := match o, a, b with
  | .add, .int i, .int j => some (.int (i + j))
  | .sub, .int i, .int j => some (.int (i - j))
  | .mul, .int i, .int j => if mulOk i j then some (.int (i * j)) else none
  | .fdiv, .int i, .int j => if divOk j then some (.int (i.fdiv j)) else none
  | .mod, .int i, .int j => if j ≠ 0 then some (.int (i.fmod j)) else none
  | .pow, .int i, .int j => if powOk i j then some (.int (i ^ j.toNat)) else none
  | .add, .lst xs, .lst ys => if szOk (xs.length + ys.length) then some (.lst (xs ++ ys)) else none
  | _, _, _ => none

/-- a cell's or a frozen list's items -/
def allD : List MV → Option (List D)
  | [] => some []
  | .d x :: r => (allD r).map (x :: ·)
  | _ :: _ => none

/-- v as data: reading alone; at most n deep through cells -/
def deep : Nat → Sto → MV → Option D
  | _, _, .d x => some x
  | 0, _, _ => none
  | n + 1, S, .c i => match S[i]? with
    | some (.froz d) => some d
    | some (.lst ms) => (ms.mapM (deep n S)).map .lst
    | _ => none
  | n + 1, S, .t ms => (ms.mapM (deep n S)).map .tup

/-- data, or a list of data -/
def flat (S : Sto) : MV → Option D
  | .d x => some x
  | .c i => match S[i]? with
    | some (.froz d) => some d
    | some (.lst ms) => (allD ms).map .lst
    | _ => none
  | .t _ => none
/-- an operation on data -/
def dop (S : Sto) (x y : MV) (f : D → D → Option D) : R MV := match flat S x, flat S y with
  | some a, some b => match f a b with
    | some z => .ok (.d z) S
    | none => .stuck
  | _, _ => .stuck
/-- a question to data -/
def dqu (S : Sto) (x y : MV) (f : D → D → Option Bool) : R MV := match deep 4 S x, deep 4 S y with
  | some a, some b => match f a b with
    | some z => .ok (.d (.bl z)) S
    | none => .stuck
  | _, _ => .stuck

/-- the items of a list or tuple -/
def items (S : Sto) : MV → Option (List MV)
  | .d (.lst xs) => some (xs.map .d)
  | .d (.tup xs) => some (xs.map .d)
  | .t xs => some xs
  | .c i => match S[i]? with
    | some (.lst ms) => some ms
    | some (.froz (.lst xs)) => some (xs.map .d)
    | _ => none
  | _ => none

/-- frozen, at most n deep: live cells of data alone become data -/
def freezeL (f : MV → Sto → R D) : List MV → Sto → R (List D)
  | [], S => .ok [] S
  | v :: r, S => (f v S).bind fun d S1 => (freezeL f r S1).bind fun ds S2 => .ok (d :: ds) S2
def freeze : Nat → MV → Sto → R D
  | _, .d x, S => .ok x S
  | 0, _, _ => .stuck
  | n + 1, .c i, S => match S[i]? with
    | some (.froz d) => .ok d S
    | some (.lst ms) => (freezeL (freeze n) ms S).bind fun ds S1 => match S1[i]? with
      | some (.lst _) => .ok (.lst ds) (S1.set i (.froz (.lst ds)))
      | _ => .stuck
    | _ => .stuck
  | n + 1, .t ms, S => (freezeL (freeze n) ms S).bind fun ds S1 => .ok (.tup ds) S1

/-- the items that a loop walks: a live cell is frozen -/
def walked (v : MV) (S : Sto) : R (List MV) := match v with
  | .t ms => .ok ms S
  | v => (freeze 4 v S).bind fun d S1 => match d with
    | .lst xs => .ok (xs.map .d) S1
    | .tup xs => .ok (xs.map .d) S1
    | _ => .stuck

/-- a new list: data, or a cell -/
def newL (cell : Bool) (ms : List MV) (S : Sto) : R MV :=
  if szOk ms.length then
    if cell then .ok (.c S.length) (S ++ [.lst ms]) else match allD ms with
      | some ds => .ok (.d (.lst ds)) S
      | none => .ok (.c S.length) (S ++ [.lst ms])
  else .stuck
def newT (ms : List MV) (S : Sto) : R MV :=
  if szOk ms.length then match allD ms with
    | some ds => .ok (.d (.tup ds)) S
    | none => .ok (.t ms) S
  else .stuck

/-- an index, of any sign -/
def ixOf (n : Nat) (i : Int) : Option Nat := L2.ixN n i

/-- equality of data -/
def dep : Nat → D → Bool
  | 0, .lst _ => false
  | 0, .tup _ => false
  | n + 1, .lst xs => xs.all (dep n)
  | n + 1, .tup xs => xs.all (dep n)
  | _, .ins _ _ => false
  | _, .scr _ => false
  | _, .str s => PyData.strOk s
  | _, _ => true
mutual
def eqD : D → D → Bool
  | .non, .non => true
  | .bl a, .bl b => a == b
  | .bl a, .int j => (if a then 1 else 0) == j
  | .int i, .bl b => i == (if b then 1 else 0)
  | .int i, .int j => i == j
  | .str x, .str y => x == y
  | .lst xs, .lst ys => eqDs xs ys
  | .tup xs, .tup ys => eqDs xs ys
  | _, _ => false
def eqDs : List D → List D → Bool
  | [], [] => true
  | x :: xs, y :: ys => eqD x y && eqDs xs ys
  | _, _ => false
end

def cmpD (o : Cop) (a b : D) : Option Bool := match o, a, b with
  | .lt, .int i, .int j => some (decide (i < j))
  | .le, .int i, .int j => some (decide (i ≤ j))
  | .gt, .int i, .int j => some (decide (j < i))
  | .ge, .int i, .int j => some (decide (j ≤ i))
  | .eq, a, b => if dep 8 a && dep 8 b then some (eqD a b) else none
  | .ne, a, b => if dep 8 a && dep 8 b then some (!eqD a b) else none
  | _, _, _ => none

def truth (S : Sto) (v : MV) : Option Bool := match v with
  | .d .non => some false
  | .d (.bl b) => some b
  | .d (.int i) => some (i != 0)
  | v => (items S v).map fun ms => !ms.isEmpty

/-- the built-in class of a value -/
def tyD (S : Sto) (v : MV) : Option String := match v with
  | .d .non => some "NoneType"
  | .d (.bl _) => some "bool"
  | .d (.int _) => some "int"
  | .d (.str _) => some "str"
  | .d (.tup _) => some "tuple"
  | .t _ => some "tuple"
  | .d (.lst _) => some "list"
  | .c i => match S[i]? with
    | some (.lst _) => some "list"
    | some (.froz (.lst _)) => some "list"
    | _ => none
  | _ => none
def isiT (t ty : String) : Option Bool :=
  if ["int", "bool", "str", "list", "tuple"].contains ty then some (t == ty || (t == "bool" && ty == "int")) else none
def isiF (ty : String) (v : MV) (S : Sto) : R MV := match tyD S v with
  | some t => match isiT t ty with
    | some k => .ok (.d (.bl k)) S
    | none => .stuck
  | none => .stuck
def negF (x : MV) (S : Sto) : R MV := match x with
  | .d (.int i) => .ok (.d (.int (-i))) S
  | _ => .stuck
/-- an index -/
def ixF (x k : MV) (S : Sto) : R MV := match items S x, k with
  | some ms, .d (.int k) => match L2.atI ms k with
    | some m => .ok m S
    | none => .stuck
  | _, _ => .stuck
/-- a live list -/
def lstC (S : Sto) : MV → Bool
  | .c i => match S[i]? with
    | some (.lst _) => true
    | _ => false
  | _ => false
/-- append -/
def appF (x y : MV) (S : Sto) : R MV := match x with
  | .c i => match S[i]? with
    | some (.lst ms) => if szOk (ms.length + 1) then .ok (.d .non) (S.set i (.lst (ms ++ [y]))) else .stuck
    | _ => .stuck
  | _ => .stuck
/-- x[k] = v -/
def setF (x k v : MV) (S : Sto) : R Unit := match x, k with
  | .c id, .d (.int k) => match S[id]? with
    | some (.lst ms) => match L2.ixN ms.length k with
      | some j => .ok () (S.set id (.lst (ms.set j v)))
      | none => .stuck
    | _ => .stuck
  | _, _ => .stuck

/-- the sum of ints -/
def intsOf : List MV → Option (List Int)
  | [] => some []
  | .d (.int i) :: r => (intsOf r).map (i :: ·)
  | _ => none

def absF (vs : List MV) (S : Sto) : R MV := match vs with
  | [.d (.int i)] => .ok (.d (.int (if i < 0 then -i else i))) S
  | _ => .stuck
def intF (vs : List MV) (S : Sto) : R MV := match vs with
  | [.d (.int i)] => .ok (.d (.int i)) S
  | [.d (.bl k)] => .ok (.d (.int (if k = true then 1 else 0))) S
  | _ => .stuck
def maxF (vs : List MV) (S : Sto) : R MV := match vs with
  | [.d (.int i), .d (.int j)] => .ok (.d (.int (if j > i then j else i))) S
  | _ => .stuck
def lenF (vs : List MV) (S : Sto) : R MV := match vs with
  | [v] => match items S v with
    | some ms => .ok (.d (.int ms.length)) S
    | none => .stuck
  | _ => .stuck
def listF (cell : Bool) (vs : List MV) (S : Sto) : R MV := match vs with
  | [.d (.scr ns)] => newL cell (ns.map fun n => .d (.int n)) S
  | [v] => match items S v with
    | some ms => newL cell ms S
    | none => .stuck
  | _ => .stuck
def tupF (vs : List MV) (S : Sto) : R MV := match vs with
  | [.d (.tup xs)] => .ok (.d (.tup xs)) S
  | [.d (.lst xs)] => newT (xs.map .d) S
  | [.c i] => match items S (.c i) with
    | some ms => newT ms S
    | none => .stuck
  | _ => .stuck
def bltF (cell : Bool) (b : Bl) : List MV → Sto → R MV := match b with
  | .abs => absF
  | .int => intF
  | .max => maxF
  | .len => lenF
  | .list => listF cell
  | .tuple => tupF

def tupItems : MV → Option (List MV)
  | .d (.tup xs) => some (xs.map .d)
  | .t ms => some ms
  | _ => none
def setAll : Slots → List Nat → List MV → Slots
  | σ, i :: is, m :: ms => setAll (σ.set i (some m)) is ms
  | σ, _, _ => σ
def bindTg (tg : Tg) (σ : Slots) (v : MV) : Option Slots := match tg with
  | .nm i => some (σ.set i (some v))
  | .tp is => match tupItems v with
    | some ms => if ms.length = is.length then some (setAll σ is ms) else none
    | none => none

abbrev Calls := Bool → String → List MV → Sto → R MV

/-- the comprehension's walk -/
def lcGo (el : Slots → Sto → R MV) (tg : Tg) (σ : Slots) : List MV → List MV → Sto → R (List MV)
  | [], acc, S => .ok acc.reverse S
  | x :: xs, acc, S => match bindTg tg σ x with
    | some σ1 => match el σ1 S with
      | .ok y S1 => lcGo el tg σ xs (y :: acc) S1
      | _ => .stuck
    | none => .stuck

def wipeM (σ : Slots) : List Nat → Slots
  | [] => σ
  | i :: r => (wipeM σ r).set i none

def rangeL (lo hi : Int) : List MV := (List.range (hi - lo).toNat).map fun (k : Nat) => MV.d (.int (lo + (k : Int)))
def rgOk (i : Int) : Bool := decide (-1000000000 ≤ i ∧ i ≤ 1000000000)

section
variable (C : Calls)
mutual
def ev : E → Slots → Sto → R MV
  | .var i, σ, S => match σ[i]? with
    | some (some v) => .ok v S
    | _ => .stuck
  | .int i, _, S => .ok (.d (.int i)) S
  | .bl b, _, S => .ok (.d (.bl b)) S
  | .non, _, S => .ok (.d .non) S
  | .str s, _, S => .ok (.d (.str (Str.ofString s))) S
  | .bin o a b, σ, S => (ev a σ S).bind fun x S1 => (ev b σ S1).bind fun y S2 => dop S2 x y (binD o)
  | .neg a, σ, S => (ev a σ S).bind fun x S1 => negF x S1
  | .cmp o a b, σ, S => (ev a σ S).bind fun x S1 => (ev b σ S1).bind fun y S2 => dqu S2 x y (cmpD o)
  | .chain o p a b c, σ, S => (ev a σ S).bind fun x S1 => (ev b σ S1).bind fun y S2 => (dqu S2 x y (cmpD o)).bind fun k S3 => match k with
    | .d (.bl true) => (ev c σ S3).bind fun z S4 => dqu S4 y z (cmpD p)
    | .d (.bl false) => .ok (.d (.bl false)) S3
    | _ => .stuck
  | .and_ a b, σ, S => (ev a σ S).bind fun x S1 => match truth S1 x with
    | some true => ev b σ S1
    | some false => .ok x S1
    | none => .stuck
  | .or_ a b, σ, S => (ev a σ S).bind fun x S1 => match truth S1 x with
    | some true => .ok x S1
    | some false => ev b σ S1
    | none => .stuck
  | .one a, σ, S => ev a σ S
  | .not_ a, σ, S => (ev a σ S).bind fun x S1 => match truth S1 x with
    | some k => .ok (.d (.bl (!k))) S1
    | none => .stuck
  | .ife t a b, σ, S => (ev t σ S).bind fun x S1 => match truth S1 x with
    | some true => ev a σ S1
    | some false => ev b σ S1
    | none => .stuck
  | .tup es, σ, S => (evs es σ S).bind fun ms S1 => newT ms S1
  | .lst cell es, σ, S => (evs es σ S).bind fun ms S1 => newL cell ms S1
  | .ix a i, σ, S => (ev a σ S).bind fun x S1 => (ev i σ S1).bind fun k S2 => ixF x k S2
  | .call raw f es, σ, S => (evs es σ S).bind fun ms S1 => C raw f ms S1
  | .blt cell b es, σ, S => (evs es σ S).bind fun ms S1 => bltF cell b ms S1
  | .isi a ty, σ, S => (ev a σ S).bind fun x S1 => isiF ty x S1
  | .app a e, σ, S => (ev a σ S).bind fun x S1 => if lstC S1 x then (ev e σ S1).bind fun y S2 => appF x y S2 else .stuck
  | .lc cell elt tg it own, σ, S => (evI it σ S).bind fun ms S1 =>
      (lcGo (ev elt) tg (wipeM σ (own.map (·.2))) ms [] S1).bind fun ys S2 => newL cell ys S2
def evs : Es → Slots → Sto → R (List MV)
  | .nil, _, S => .ok [] S
  | .cons e r, σ, S => (ev e σ S).bind fun v S1 => (evs r σ S1).bind fun vs S2 => .ok (v :: vs) S2
def evI : It → Slots → Sto → R (List MV)
  | .seq e, σ, S => (ev e σ S).bind fun v S1 => walked v S1
  | .range1 e, σ, S => (ev e σ S).bind fun v S1 => match v with
    | .d (.int j) => if rgOk j then .ok (rangeL 0 j) S1 else .stuck
    | _ => .stuck
  | .range2 a b, σ, S => (ev a σ S).bind fun v S1 => (ev b σ S1).bind fun w S2 => match v, w with
    | .d (.int i), .d (.int j) => if rgOk i && rgOk j then .ok (rangeL i j) S2 else .stuck
    | _, _ => .stuck
end
def evT (m : E) (σ : Slots) (S : Sto) : R Bool := (ev C m σ S).bind fun v S1 => R.opt (truth S1 v) S1

/-- the for's walk over a list of items -/
def forGo (tg : Tg) (body : Slots → Sto → F) : List MV → Slots → Sto → F
  | [], σ, S => .next σ S
  | x :: xs, σ, S => match bindTg tg σ x with
      | some σ1 => match body σ1 S with
        | .next σ2 S2 => forGo tg body xs σ2 S2
        | .cont σ2 S2 => forGo tg body xs σ2 S2
        | .brk σ2 S2 => .next σ2 S2
        | f => f
      | none => .stuck
def whGo (test : Slots → Sto → R Bool) (body : Slots → Sto → F) : Nat → Slots → Sto → F
  | 0, _, _ => .stuck
  | n + 1, σ, S => (test σ S).toF σ fun k S1 => if k then match body σ S1 with
      | .next σ2 S2 => whGo test body n σ2 S2
      | .cont σ2 S2 => whGo test body n σ2 S2
      | .brk σ2 S2 => .next σ2 S2
      | f => f
    else .next σ S1

mutual
def ex (fu : Nat) : Sm → Slots → Sto → F
  | .asg tg e, σ, S => (ev C e σ S).toF σ fun v S1 => match bindTg tg σ v with
    | some σ1 => .next σ1 S1
    | none => .stuck
  | .par i j a b, σ, S => (ev C a σ S).toF σ fun v S1 => (ev C b σ S1).toF σ fun w S2 => .next ((σ.set i (some v)).set j (some w)) S2
  | .setix a i e, σ, S => (ev C e σ S).toF σ fun v S1 => (ev C a σ S1).toF σ fun x S2 => (ev C i σ S2).toF σ fun k S3 => (setF x k v S3).toF σ fun _ S4 => .next σ S4
  | .expr e, σ, S => (ev C e σ S).toF σ fun _ S1 => .next σ S1
  | .ret e, σ, S => (ev C e σ S).toF σ fun v S1 => .ret v S1
  | .ifs t a b, σ, S => (evT C t σ S).toF σ fun k S1 => if k then exs fu a σ S1 else exs fu b σ S1
  | .for_ tg it body, σ, S => (evI C it σ S).toF σ fun ms S1 => forGo tg (exs fu body) ms σ S1
  | .while_ t body, σ, S => whGo (evT C t) (exs fu body) fu σ S
def exs (fu : Nat) : Sms → Slots → Sto → F
  | .nil, σ, S => .next σ S
  | .cons s r, σ, S => (ex fu s σ S).seq fun σ1 S1 => exs fu r σ1 S1
end
end

/-- a def: its names by slot (parameters first), the number of its parameters, its body -/
structure Df where
  names : List String
  np : Nat
  body : Sms
def run (C : Calls) (fu : Nat) (d : Df) (vs : List MV) (S : Sto) : R MV :=
  if vs.length = d.np then match exs C fu d.body (vs.map some ++ List.replicate (d.names.length - vs.length) none) S with
    | .ret v S' => .ok v S'
    | .next _ S' => .ok (.d .non) S'
    | .exc c fs _ S' => .exc c fs S'
    | _ => .stuck
  else .stuck
/-- a call that sees data alone -/
def pureCall (g : List MV → Sto → R MV) (vs : List MV) (S : Sto) : R MV :=
  (freezeL (freeze 4) vs S).bind fun ds S1 => match g (ds.map .d) [] with
    | .ok v S2 => match freeze 4 v S2 with
      | .ok r _ => .ok (.d r) S1
      | _ => .stuck
    | .exc c fs _ => .exc c fs S1
    | .stuck => .stuck
def callN (P : String → Option Df) (fu : Nat) : Nat → Calls
  | 0 => fun _ _ _ _ => .stuck
  | n + 1 => fun raw f vs S => match P f with
    | none => .stuck
    | some d => if raw then run (callN P fu n) fu d vs S else pureCall (run (callN P fu n) fu d) vs S
end Mi
namespace Mi
open PySem L2

/-- what the written part tells: the fragment, the classes -/
structure Wd where
  K : PySem.W.Frag
  cl : String → Option Addr
/-! ### what a value stands for -/
mutual
/-- v, in the frozen heap G, is the data d -/
inductive Rep (cl : Wd) (G : Hp) : V → D → Prop
  | non : Rep cl G .non .non
  | bl (b : Bool) : Rep cl G (.bl b) (.bl b)
  | int (i : Int) : Rep cl G (.int i) (.int i)
  | str (x : Str) : Rep cl G (.str x) (.str x)
  | lst {a : Addr} {vs : List V} {ds : List D} : G a = some (.lst vs) → RepL cl G vs ds → Rep cl G (.ref a) (.lst ds)
  | scr {a : Addr} {ns : List Int} : SqL cl.K G a (ns.map V.int) → Rep cl G (.ref a) (.scr ns)
  | tup {a : Addr} {vs : List V} {ds : List D} : G a = some (.tup vs) → RepL cl G vs ds → Rep cl G (.ref a) (.tup ds)
  | ins {a C dx : Addr} {c : String} {fv : List (Str × V)} {fd : List (String × D)} : cl.cl c = some C → G a = some (.ins C dx fv) → G dx = some (.own a) → RepF cl G fv fd → Rep cl G (.ref a) (.ins c fd)
inductive RepL (cl : Wd) (G : Hp) : List V → List D → Prop
  | nil : RepL cl G [] []
  | cons {v : V} {vs : List V} {d : D} {ds : List D} : Rep cl G v d → RepL cl G vs ds → RepL cl G (v :: vs) (d :: ds)
inductive RepF (cl : Wd) (G : Hp) : List (Str × V) → List (String × D) → Prop
  | nil : RepF cl G [] []
  | cons {f : String} {v : V} {vs : List (Str × V)} {d : D} {ds : List (String × D)} : Rep cl G v d → RepF cl G vs ds → RepF cl G ((Str.ofString f, v) :: vs) ((f, d) :: ds)
end

def Ex (H H' : Hp) : Prop := ∀ a o, H a = some o → H' a = some o
theorem Ex.refl (H : Hp) : Ex H H := fun _ _ h => h
theorem Ex.trans {H H1 H2 : Hp} (a : Ex H H1) (b : Ex H1 H2) : Ex H H2 := fun x o h => b x o (a x o h)
theorem Ex.new {H : Hp} {p : Addr} {o : HO} (h : H p = none) : Ex H (upd H p o) := fun a u e => by
  rw [upd_ne (ne_of_none e h)]
  exact e
theorem Ex.back {H H' : Hp} {p : Addr} (e : Ex H H') (h : H' p = none) : H p = none := by
  cases q : H p with
  | none => rfl
  | some o => rw [e p o q] at h; cases h
theorem Ex.both {H H' : Hp} {p : Addr} {o : HO} (e : Ex H H') : Ex (upd H p o) (upd H' p o) := fun a u h => by
  by_cases ha : a = p
  · subst ha; rw [upd_same] at h ⊢; exact h
  · rw [upd_ne ha] at h ⊢; exact e a u h

theorem Ex.rd {H H' : Hp} {a : Addr} {u : HO} (e : Ex H H') (h : Rd H a u) : Rd H' a u := by
  rcases h with h | ⟨o, h⟩
  · exact Or.inl (e a _ h)
  · exact Or.inr ⟨o, e a _ h⟩
theorem Ex.sq {K : PySem.W.Frag} {H H' : Hp} {a : Addr} {xs : List V} (e : Ex H H') (h : SqL K H a xs) : SqL K H' a xs := by
  rcases h with h | h
  · exact Or.inl (e.rd h)
  · exact Or.inr h
section
variable {cl : Wd} {G G' : Hp}
mutual
theorem Rep.mono (e : Ex G G') : ∀ {v : V} {d : D}, Rep cl G v d → Rep cl G' v d
  | _, _, .non => .non
  | _, _, .bl b => .bl b
  | _, _, .int i => .int i
  | _, _, .str x => .str x
  | _, _, .lst h r => .lst (e _ _ h) (RepL.mono e r)
  | _, _, .scr h => .scr (Ex.sq e h)
  | _, _, .tup h r => .tup (e _ _ h) (RepL.mono e r)
  | _, _, .ins c h o r => .ins c (e _ _ h) (e _ _ o) (RepF.mono e r)
theorem RepL.mono (e : Ex G G') : ∀ {vs : List V} {ds : List D}, RepL cl G vs ds → RepL cl G' vs ds
  | _, _, .nil => .nil
  | _, _, .cons h r => .cons (h.mono e) (RepL.mono e r)
theorem RepF.mono (e : Ex G G') : ∀ {vs : List (Str × V)} {ds : List (String × D)}, RepF cl G vs ds → RepF cl G' vs ds
  | _, _, .nil => .nil
  | _, _, .cons h r => .cons (h.mono e) (RepF.mono e r)
end
theorem RepL.length : ∀ {vs : List V} {ds : List D}, RepL cl G vs ds → vs.length = ds.length
  | _, _, .nil => rfl
  | _, _, .cons _ r => by simp [RepL.length r]
theorem RepL.get : ∀ {vs : List V} {ds : List D} {i : Nat} {d : D}, RepL cl G vs ds → ds[i]? = some d → ∃ v, vs[i]? = some v ∧ Rep cl G v d
  | _, _, _, _, .nil, e => by simp at e
  | _, _, 0, _, .cons h _, e => by simp at e; subst e; exact ⟨_, rfl, h⟩
  | _, _, i + 1, _, .cons _ r, e => by
    obtain ⟨v, h1, h2⟩ := RepL.get (i := i) r (by simpa using e)
    exact ⟨v, by simpa using h1, h2⟩
theorem RepL.append : ∀ {vs ws : List V} {ds es : List D}, RepL cl G vs ds → RepL cl G ws es → RepL cl G (vs ++ ws) (ds ++ es)
  | _, _, _, _, .nil, s => s
  | _, _, _, _, .cons h r, s => .cons h (RepL.append r s)
end

/-! ### machine values -/
def Cell.live : Cell → Bool
  | .froz _ => false
  | _ => true
def Lv (S : Sto) (i : Nat) : Prop := ∃ c, S[i]? = some c ∧ c.live = true

mutual
/-- v is the value m: G the frozen heap, al where the cells lie, n how many there are -/
inductive RepM (cl : Wd) (G : Hp) (al : Nat → Addr) (n : Nat) : V → MV → Prop
  | d {v : V} {x : D} : Rep cl G v x → RepM cl G al n v (.d x)
  | c (i : Nat) : i < n → RepM cl G al n (.ref (al i)) (.c i)
  | t {a : Addr} {vs : List V} {ms : List MV} : G a = some (.tup vs) → RepMs cl G al n vs ms → RepM cl G al n (.ref a) (.t ms)
inductive RepMs (cl : Wd) (G : Hp) (al : Nat → Addr) (n : Nat) : List V → List MV → Prop
  | nil : RepMs cl G al n [] []
  | cons {v : V} {vs : List V} {m : MV} {ms : List MV} : RepM cl G al n v m → RepMs cl G al n vs ms → RepMs cl G al n (v :: vs) (m :: ms)
end

/-- what stands at a live cell -/
inductive RepC (cl : Wd) (G : Hp) (al : Nat → Addr) (n : Nat) : HO → Cell → Prop
  | lst {vs : List V} {ms : List MV} : RepMs cl G al n vs ms → RepC cl G al n (.lst vs) (.lst ms)

/-- the store S as it lies in H: G is the frozen part -/
structure Rl (cl : Wd) (G : Hp) (al : Nat → Addr) (S : Sto) (H : Hp) : Prop where
  ex : Ex G H
  live : ∀ i c, S[i]? = some c → c.live = true → G (al i) = none ∧ ∃ o, H (al i) = some o ∧ RepC cl G al S.length o c
  froz : ∀ i d, S[i]? = some (.froz d) → Rep cl G (.ref (al i)) d
  inj : ∀ i j, Lv S i → Lv S j → al i = al j → i = j

/-- slots -/
def RepS (cl : Wd) (G : Hp) (al : Nat → Addr) (n : Nat) (σ : L2.St) (τ : Slots) : Prop :=
  σ.length = τ.length ∧ ∀ (i : Nat) (m : MV), τ[i]? = some (some m) → ∃ v, σ[i]? = some (some v) ∧ RepM cl G al n v m

/-- from one state to a later one -/
structure Gr (G : Hp) (al : Nat → Addr) (S : Sto) (H : Hp) (G' : Hp) (al' : Nat → Addr) (S' : Sto) (H' : Hp) : Prop where
  fz : Ex G G'
  len : S.length ≤ S'.length
  at_ : ∀ i, i < S.length → al' i = al i
  lv : ∀ i, Lv S' i → Lv S i ∨ (S.length ≤ i ∧ H (al' i) = none)
  fr : ∀ a o, H a = some o → (∀ i, Lv S i → al i ≠ a) → H' a = some o
  dom : ∀ a, H' a = none → H a = none
  new : ∀ a, G a = none → G' a ≠ none → H a = none ∨ ∃ i, Lv S i ∧ al i = a

theorem Lv.lt {S : Sto} {i : Nat} (h : Lv S i) : i < S.length := by
  obtain ⟨c, e, _⟩ := h
  exact (List.getElem?_eq_some_iff.mp e).1

section
variable {cl : Wd} {G G' G1 G2 : Hp} {al al' al1 al2 : Nat → Addr} {n n' : Nat} {S S' S1 S2 : Sto} {H H' H1 H2 : Hp}
mutual
theorem RepM.mono (e : Ex G G') (hn : n ≤ n') (ha : ∀ i, i < n → al' i = al i) : ∀ {v : V} {m : MV}, RepM cl G al n v m → RepM cl G' al' n' v m
  | _, _, .d h => .d (h.mono e)
  | _, _, .c i h => by rw [← ha i h]; exact .c i (Nat.lt_of_lt_of_le h hn)
  | _, _, .t h r => .t (e _ _ h) (RepMs.mono e hn ha r)
theorem RepMs.mono (e : Ex G G') (hn : n ≤ n') (ha : ∀ i, i < n → al' i = al i) : ∀ {vs : List V} {ms : List MV}, RepMs cl G al n vs ms → RepMs cl G' al' n' vs ms
  | _, _, .nil => .nil
  | _, _, .cons h r => .cons (h.mono e hn ha) (RepMs.mono e hn ha r)
end
theorem RepC.mono (e : Ex G G') (hn : n ≤ n') (ha : ∀ i, i < n → al' i = al i) {o : HO} {c : Cell} : RepC cl G al n o c → RepC cl G' al' n' o c
  | .lst h => .lst (h.mono e hn ha)
theorem RepM.gr (g : Gr G al S H G' al' S' H') {v : V} {m : MV} (h : RepM cl G al S.length v m) : RepM cl G' al' S'.length v m := h.mono g.fz g.len g.at_
theorem RepMs.gr (g : Gr G al S H G' al' S' H') {vs : List V} {ms : List MV} (h : RepMs cl G al S.length vs ms) : RepMs cl G' al' S'.length vs ms := h.mono g.fz g.len g.at_
theorem RepS.gr (g : Gr G al S H G' al' S' H') {σ : L2.St} {τ : Slots} (h : RepS cl G al S.length σ τ) : RepS cl G' al' S'.length σ τ :=
  ⟨h.1, fun i m e => let ⟨v, h1, h2⟩ := h.2 i m e; ⟨v, h1, h2.gr g⟩⟩
theorem Gr.refl : Gr G al S H G al S H := ⟨Ex.refl _, Nat.le_refl _, fun _ _ => rfl, fun _ h => .inl h, fun _ _ h _ => h, fun _ h => h, fun a h h' => absurd h h'⟩
theorem Gr.trans (a : Gr G al S H G1 al1 S1 H1) (b : Gr G1 al1 S1 H1 G2 al2 S2 H2) : Gr G al S H G2 al2 S2 H2 where
  fz := a.fz.trans b.fz
  len := Nat.le_trans a.len b.len
  at_ := fun i h => (b.at_ i (Nat.lt_of_lt_of_le h a.len)).trans (a.at_ i h)
  lv := fun i h => by
    rcases b.lv i h with h1 | ⟨h1, h2⟩
    · rcases a.lv i h1 with h3 | ⟨h3, h4⟩
      · exact .inl h3
      · exact .inr ⟨h3, by rw [b.at_ i h1.lt]; exact h4⟩
    · exact .inr ⟨Nat.le_trans a.len h1, a.dom _ h2⟩
  fr := fun x o h hn => b.fr x o (a.fr x o h hn) fun i hi e => by
    rcases a.lv i hi with h3 | ⟨_, h4⟩
    · exact hn i h3 ((a.at_ i h3.lt).symm.trans e)
    · rw [e, h] at h4; cases h4
  dom := fun x h => a.dom x (b.dom x h)
  new := fun x h h2 => by
    by_cases h1 : G1 x = none
    · rcases b.new x h1 h2 with h3 | ⟨i, hi, e⟩
      · exact .inl (a.dom x h3)
      · rcases a.lv i hi with h4 | ⟨_, h4⟩
        · exact .inr ⟨i, h4, (a.at_ i h4.lt).symm.trans e⟩
        · exact .inl (by rw [← e]; exact h4)
    · exact a.new x h h1

/-- a new frozen object -/
theorem Rl.newG (r : Rl cl G al S H) {p : Addr} {o : HO} (hp : H p = none) : Rl cl (upd G p o) al S (upd H p o) where
  ex := r.ex.both
  live := fun i c e l => by
    obtain ⟨h1, u, h2, h3⟩ := r.live i c e l
    have ne : al i ≠ p := ne_of_none h2 hp
    exact ⟨by rw [upd_ne ne]; exact h1, u, by rw [upd_ne ne]; exact h2, h3.mono (Ex.new (r.ex.back hp)) (Nat.le_refl _) fun _ _ => rfl⟩
  froz := fun i d e => (r.froz i d e).mono (Ex.new (r.ex.back hp))
  inj := r.inj
theorem Gr.newG (r : Rl cl G al S H) {p : Addr} {o : HO} (hp : H p = none) : Gr G al S H (upd G p o) al S (upd H p o) where
  fz := Ex.new (r.ex.back hp)
  len := Nat.le_refl _
  at_ := fun _ _ => rfl
  lv := fun i h => .inl h
  fr := fun a u h _ => by rw [upd_ne (ne_of_none h hp)]; exact h
  dom := fun a h => by
    by_cases e : a = p
    · rw [e]; exact hp
    · rw [upd_ne e] at h; exact h
  new := fun a h h' => by
    by_cases e : a = p
    · rw [e]; exact .inl hp
    · rw [upd_ne e] at h'; exact absurd h h'

theorem Lv.snoc {c : Cell} {i : Nat} : Lv (S ++ [c]) i → Lv S i ∨ (i = S.length ∧ c.live = true) := by
  rintro ⟨d, e, l⟩
  by_cases h : i < S.length
  · rw [List.getElem?_append_left h] at e; exact .inl ⟨d, e, l⟩
  · have hl : i < (S ++ [c]).length := (List.getElem?_eq_some_iff.mp e).1
    rw [List.length_append] at hl
    have : i = S.length := by simp at hl; omega
    subst this
    rw [List.getElem?_concat_length] at e
    cases e
    exact .inr ⟨rfl, l⟩
/-- a new cell -/
def alw (al : Nat → Addr) (n : Nat) (p : Addr) : Nat → Addr := fun i => if i = n then p else al i
theorem alw_at {i : Nat} {p : Addr} (h : i < n) : alw al n p i = al i := if_neg (Nat.ne_of_lt h)
theorem alw_new {p : Addr} : alw al n p n = p := if_pos rfl
theorem Rl.newC (r : Rl cl G al S H) {p : Addr} {o : HO} {c : Cell} (hp : H p = none) (hl : c.live = true) (hc : RepC cl G al S.length o c) :
    Rl cl G (alw al S.length p) (S ++ [c]) (upd H p o) where
  ex := fun a u h => by rw [upd_ne (ne_of_none (r.ex a u h) hp)]; exact r.ex a u h
  live := fun i d e l => by
    have hlen : S.length ≤ (S ++ [c]).length := by simp
    rcases Lv.snoc ⟨d, e, l⟩ with h | ⟨h, _⟩
    · have hi := h.lt
      rw [List.getElem?_append_left hi] at e
      obtain ⟨h1, u, h2, h3⟩ := r.live i d e l
      rw [alw_at hi]
      exact ⟨h1, u, by rw [upd_ne (ne_of_none h2 hp)]; exact h2, h3.mono (Ex.refl _) hlen fun j hj => alw_at hj⟩
    · subst h
      rw [List.getElem?_concat_length] at e
      cases e
      rw [alw_new]
      exact ⟨r.ex.back hp, o, upd_same, hc.mono (Ex.refl _) hlen fun j hj => alw_at hj⟩
  froz := fun i d e => by
    by_cases hi : i < S.length
    · rw [List.getElem?_append_left hi] at e
      rw [alw_at hi]
      exact r.froz i d e
    · have hl' : i < (S ++ [c]).length := (List.getElem?_eq_some_iff.mp e).1
      have : i = S.length := by simp at hl'; omega
      subst this
      rw [List.getElem?_concat_length] at e
      cases e
      cases hl
  inj := fun i j hi hj e => by
    rcases Lv.snoc hi with h | ⟨h, _⟩
    · rcases Lv.snoc hj with h' | ⟨h', _⟩
      · rw [alw_at h.lt, alw_at h'.lt] at e; exact r.inj i j h h' e
      · subst h'
        rw [alw_at h.lt, alw_new] at e
        obtain ⟨d, e1, l⟩ := h
        obtain ⟨_, u, h2, _⟩ := r.live i d e1 l
        rw [e, hp] at h2; cases h2
    · subst h
      rcases Lv.snoc hj with h' | ⟨h', _⟩
      · rw [alw_at h'.lt, alw_new] at e
        obtain ⟨d, e1, l⟩ := h'
        obtain ⟨_, u, h2, _⟩ := r.live j d e1 l
        rw [← e, hp] at h2; cases h2
      · exact h'.symm
theorem Gr.newC {p : Addr} {o : HO} {c : Cell} (hp : H p = none) : Gr G al S H G (alw al S.length p) (S ++ [c]) (upd H p o) where
  fz := Ex.refl _
  len := by simp
  at_ := fun i h => alw_at h
  lv := fun i h => by
    rcases Lv.snoc h with h | ⟨h, _⟩
    · exact .inl h
    · subst h; exact .inr ⟨Nat.le_refl _, by rw [alw_new]; exact hp⟩
  fr := fun a u h _ => by rw [upd_ne (ne_of_none h hp)]; exact h
  dom := fun a h => by
    by_cases e : a = p
    · rw [e]; exact hp
    · rw [upd_ne e] at h; exact h
  new := fun a h h' => absurd h h'

theorem Lv.set {c : Cell} {i j : Nat} : Lv (S.set i c) j → (j ≠ i ∧ Lv S j) ∨ (j = i ∧ i < S.length ∧ c.live = true) := by
  rintro ⟨d, e, l⟩
  by_cases h : i = j
  · subst h
    by_cases hi : i < S.length
    · rw [List.getElem?_set_self hi] at e; cases e; exact .inr ⟨rfl, hi, l⟩
    · rw [List.getElem?_eq_none (by simpa using Nat.le_of_not_lt hi)] at e; cases e
  · rw [List.getElem?_set_ne h] at e
    exact .inl ⟨fun z => h z.symm, d, e, l⟩
/-- a live cell is written -/
theorem Rl.write (r : Rl cl G al S H) {i : Nat} {o : HO} {c : Cell} (hi : Lv S i) (hl : c.live = true) (hc : RepC cl G al S.length o c) : Rl cl G al (S.set i c) (upd H (al i) o) where
  ex := fun a u h => by
    obtain ⟨d, e, l⟩ := hi
    have ne : a ≠ al i := ne_of_none h (r.live i d e l).1
    rw [upd_ne ne]; exact r.ex a u h
  live := fun j d e l => by
    rcases Lv.set ⟨d, e, l⟩ with ⟨hj, h⟩ | ⟨hj, hlt, _⟩
    · have e' : S[j]? = some d := by rw [List.getElem?_set_ne (Ne.symm hj)] at e; exact e
      obtain ⟨h1, u, h2, h3⟩ := r.live j d e' l
      have ne : al j ≠ al i := fun z => hj (r.inj j i h hi z)
      exact ⟨h1, u, by rw [upd_ne ne]; exact h2, by rw [List.length_set]; exact h3⟩
    · subst hj
      rw [List.getElem?_set_self hlt] at e
      cases e
      obtain ⟨d', e', l'⟩ := hi
      exact ⟨(r.live _ d' e' l').1, o, upd_same, by rw [List.length_set]; exact hc⟩
  froz := fun j d e => by
    by_cases h : i = j
    · subst h
      rw [List.getElem?_set_self hi.lt] at e
      cases e; cases hl
    · rw [List.getElem?_set_ne h] at e; exact r.froz j d e
  inj := fun j k hj hk e => by
    have f : ∀ j, Lv (S.set i c) j → Lv S j := fun j h => by
      rcases Lv.set h with ⟨_, h⟩ | ⟨h, _, _⟩
      · exact h
      · rw [h]; exact hi
    exact r.inj j k (f j hj) (f k hk) e
theorem Gr.write (r : Rl cl G al S H) {i : Nat} {o : HO} {c : Cell} (hi : Lv S i) : Gr G al S H G al (S.set i c) (upd H (al i) o) where
  fz := Ex.refl _
  len := by simp
  at_ := fun _ _ => rfl
  lv := fun j h => by
    rcases Lv.set h with ⟨_, h⟩ | ⟨h, _, _⟩
    · exact .inl h
    · rw [h]; exact .inl hi
  fr := fun a u h hn => by rw [upd_ne fun z => hn i hi z.symm]; exact h
  dom := fun a h => by
    by_cases e : a = al i
    · rw [e, upd_same] at h; cases h
    · rw [upd_ne e] at h; exact h
  new := fun a h h' => absurd h h'

/-- a live list is frozen -/
theorem Rl.fz (r : Rl cl G al S H) {i : Nat} {c : Cell} {vs : List V} {ds : List D} (e : S[i]? = some c) (l : c.live = true) (ho : H (al i) = some (.lst vs)) (hr : RepL cl G vs ds) :
    Rl cl (upd G (al i) (.lst vs)) al (S.set i (.froz (.lst ds))) H where
  ex := fun a u h => by
    by_cases ea : a = al i
    · subst ea; rw [upd_same] at h; cases h; exact ho
    · rw [upd_ne ea] at h; exact r.ex a u h
  live := fun j d e2 l2 => by
    rcases Lv.set ⟨d, e2, l2⟩ with ⟨hj, h⟩ | ⟨_, _, hl⟩
    · have e' : S[j]? = some d := by rw [List.getElem?_set_ne (Ne.symm hj)] at e2; exact e2
      obtain ⟨h1, u, h2, h3⟩ := r.live j d e' l2
      have ne : al j ≠ al i := fun z => hj (r.inj j i h ⟨c, e, l⟩ z)
      exact ⟨by rw [upd_ne ne]; exact h1, u, h2, by rw [List.length_set]; exact h3.mono (Ex.new (r.live i c e l).1) (Nat.le_refl _) fun _ _ => rfl⟩
    · cases hl
  froz := fun j d e2 => by
    have x := Ex.new (o := .lst vs) (r.live i c e l).1
    by_cases h : i = j
    · subst h
      rw [List.getElem?_set_self (List.getElem?_eq_some_iff.mp e).1] at e2
      cases e2
      exact .lst upd_same (hr.mono x)
    · rw [List.getElem?_set_ne h] at e2; exact (r.froz j d e2).mono x
  inj := fun j k hj hk e2 => by
    have f : ∀ j, Lv (S.set i (.froz (.lst ds))) j → Lv S j := fun j h => by
      rcases Lv.set h with ⟨_, h⟩ | ⟨_, _, h⟩
      · exact h
      · cases h
    exact r.inj j k (f j hj) (f k hk) e2
theorem Gr.fz_ (r : Rl cl G al S H) {i : Nat} {c : Cell} {vs : List V} {ds : List D} (e : S[i]? = some c) (l : c.live = true) :
    Gr G al S H (upd G (al i) (.lst vs)) al (S.set i (.froz (.lst ds))) H where
  fz := Ex.new (r.live i c e l).1
  len := by simp
  at_ := fun _ _ => rfl
  lv := fun j h => by
    rcases Lv.set h with ⟨_, h⟩ | ⟨_, _, h⟩
    · exact .inl h
    · cases h
  fr := fun a u h _ => h
  dom := fun a h => h
  new := fun a h h' => by
    by_cases ea : a = al i
    · exact .inr ⟨i, ⟨c, e, l⟩, ea.symm⟩
    · rw [upd_ne ea] at h'; exact absurd h h'
end
end Mi
namespace Mi
open PySem L2 PyProof.Rows

theorem PE.imp {X : Cx} {e : Expr} {t t' : TE} (h : PE X e t) (i : ∀ σ H Q, t' σ H Q → t σ H Q) : PE X e t' := ⟨fun p s σ H Q I q => h.run p s σ H Q I (i σ H Q q)⟩
theorem PT.imp {X : Cx} {e : Expr} {t t' : TT} (h : PT X e t) (i : ∀ σ H Q, t' σ H Q → t σ H Q) : PT X e t' := ⟨fun p s σ H Q I q => h.run p s σ H Q I (i σ H Q q)⟩
theorem PW.imp {X : Cx} {e : Expr} {t t' : TT} (h : PW X e t) (i : ∀ σ H Q, t' σ H Q → t σ H Q) : PW X e t' := ⟨fun w p s σ H Q I q => h.run w p s σ H Q I (i σ H Q q)⟩
theorem PA.imp {X : Cx} {e : List Expr} {t t' : TA} (h : PA X e t) (i : ∀ σ H Q, t' σ H Q → t σ H Q) : PA X e t' := ⟨fun o p s σ H Q I q => h.run o p s σ H Q I (i σ H Q q)⟩
theorem PS.imp {X : Cx} {e : Stmt} {t t' : TS} (h : PS X e t) (i : ∀ D σ H, t' D σ H → t D σ H) : PS X e t' := ⟨fun p s σ H D I q => h.run p s σ H D I (i D σ H q)⟩
theorem PSs.imp {X : Cx} {e : List Stmt} {t t' : TS} (h : PSs X e t) (i : ∀ D σ H, t' D σ H → t D σ H) : PSs X e t' := ⟨fun p s σ H D I q => h.run p s σ H D I (i D σ H q)⟩
theorem PI.imp {X : Cx} {tg e : Expr} {t t' : TI} (h : PI X tg e t) (i : ∀ σ H R, t' σ H R → t σ H R) : PI X tg e t' := ⟨fun p s σ H R I q => h.run p s σ H R I (i σ H R q)⟩
theorem PG.imp {X : Cx} {e : Expr} {t t' : TG} (h : PG X e t) (i : ∀ v σ H Q, t' v σ H Q → t v σ H Q) : PG X e t' := ⟨fun p s σ H v u Q I r q => h.run p s σ H v u Q I r (i v σ H Q q)⟩

/-- an exception's data -/
inductive XRep (cl : Wd) (G H : Hp) : String → List (String × D) → Value → Option Addr → Prop
  | bare {c : String} {C : Addr} : cl.cl c = some C → XRep cl G H c [] (.ref C) none
  | flds {c : String} {C d : Addr} {fv : List (Str × V)} {f : String × D} {fs : List (String × D)} : cl.cl c = some C → H d = some (.xd fv) → RepF cl G fv (f :: fs) → XRep cl G H c (f :: fs) (.ref C) (some d)

/-- what is wanted of an outcome -/
def Pst (cl : Wd) (G : Hp) (al : Nat → Addr) (S : Sto) (H : Hp) {α : Type} (r : R α) (ok : Hp → (Nat → Addr) → Sto → Hp → α → Prop) (E : XK) : Prop := match r with
  | .ok a S' => ∀ G' al' H', Gr G al S H G' al' S' H' → Rl cl G' al' S' H' → ok G' al' S' H' a
  | .exc c fs S' => ∀ G' al' H' cv d, Gr G al S H G' al' S' H' → Rl cl G' al' S' H' → XRep cl G' H' c fs cv d → E cv d H'
  | .stuck => False

section
variable {cl : Wd} {G G1 : Hp} {al al1 : Nat → Addr} {S S1 : Sto} {H H1 : Hp} {α β : Type} {r : R α} {E : XK}
theorem Pst.gr {ok : Hp → (Nat → Addr) → Sto → Hp → α → Prop} (g : Gr G al S H G1 al1 S1 H1) (h : Pst cl G al S H r ok E) : Pst cl G1 al1 S1 H1 r ok E := by
  cases r with
  | ok a S' => exact fun G' al' H' g' r' => h G' al' H' (g.trans g') r'
  | exc c fs S' => exact fun G' al' H' cv d g' r' x => h G' al' H' cv d (g.trans g') r' x
  | stuck => exact h
theorem Pst.bind {k : α → Sto → R β} {ok : Hp → (Nat → Addr) → Sto → Hp → β → Prop} (h : Pst cl G al S H (r.bind k) ok E) :
    Pst cl G al S H r (fun G1 al1 S1 H1 a => Pst cl G1 al1 S1 H1 (k a S1) ok E) E := by
  cases r with
  | ok a S' => exact fun G' al' H' g' r' => Pst.gr g' h
  | exc c fs S' => exact h
  | stuck => exact h
theorem Pst.imp {ok ok' : Hp → (Nat → Addr) → Sto → Hp → α → Prop} (h : Pst cl G al S H r ok E) (i : ∀ G' al' S' H' a, Gr G al S H G' al' S' H' → Rl cl G' al' S' H' → ok G' al' S' H' a → ok' G' al' S' H' a) : Pst cl G al S H r ok' E := by
  cases r with
  | ok a S' => exact fun G' al' H' g' r' => i _ _ _ _ _ g' r' (h G' al' H' g' r')
  | exc c fs S' => exact h
  | stuck => exact h
/-- an outcome at once -/
theorem Pst.now {a : α} {ok : Hp → (Nat → Addr) → Sto → Hp → α → Prop} (h : Pst cl G al S H (.ok a S) ok E) (r : Rl cl G al S H) : ok G al S H a := h G al H Gr.refl r
end

/-- a value's wish -/
def Vk (cl : Wd) (Q : VK) : Hp → (Nat → Addr) → Sto → Hp → MV → Prop := fun G al S H m => ∀ v, RepM cl G al S.length v m → Q v H
def Vks (cl : Wd) (Q : List V → Hp → Prop) : Hp → (Nat → Addr) → Sto → Hp → List MV → Prop := fun G al S H ms => ∀ vs, RepMs cl G al S.length vs ms → Q vs H
def Bk (Q : Bool → Hp → Prop) : Hp → (Nat → Addr) → Sto → Hp → Bool → Prop := fun _ _ _ H k => Q k H

/-- the reading of a computation that starts from the slots -/
def rd (cl : Wd) (W : WX) (f : Slots → Sto → R MV) : TE := fun σ H Q => ∃ G al S τ, Rl cl G al S H ∧ RepS cl G al S.length σ τ ∧ Pst cl G al S H (f τ S) (Vk cl Q) (WE W σ)
def rdT (cl : Wd) (W : WX) (f : Slots → Sto → R Bool) : TT := fun σ H Q => ∃ G al S τ, Rl cl G al S H ∧ RepS cl G al S.length σ τ ∧ Pst cl G al S H (f τ S) (Bk Q) (WE W σ)
def rdA (cl : Wd) (W : WX) (f : Slots → Sto → R (List MV)) : TA := fun σ H Q => ∃ G al S τ, Rl cl G al S H ∧ RepS cl G al S.length σ τ ∧ Pst cl G al S H (f τ S) (Vks cl Q) (WE W σ)

/-- a two-place operation on values -/
def r2 (cl : Wd) (E : XK) (g : MV → MV → Sto → R MV) : R2 := fun x y H Q => ∃ G al S mx my, Rl cl G al S H ∧ RepM cl G al S.length x mx ∧ RepM cl G al S.length y my ∧ Pst cl G al S H (g mx my S) (Vk cl Q) E
def r1 (cl : Wd) (E : XK) (g : MV → Sto → R MV) : V → Hp → VK → Prop := fun x H Q => ∃ G al S mx, Rl cl G al S H ∧ RepM cl G al S.length x mx ∧ Pst cl G al S H (g mx S) (Vk cl Q) E
def rN (cl : Wd) (E : XK) (g : List MV → Sto → R MV) : List V → Hp → VK → Prop := fun xs H Q => ∃ G al S ms, Rl cl G al S H ∧ RepMs cl G al S.length xs ms ∧ Pst cl G al S H (g ms S) (Vk cl Q) E

section
variable {cl : Wd} {W : WX}
/-- from the slots, through one part, to what follows -/
theorem rd_bind {f : Slots → Sto → R MV} {k : Slots → MV → Sto → R MV} {σ : L2.St} {H : Hp} {Q : VK} (h : rd cl W (fun τ S => (f τ S).bind (k τ)) σ H Q) :
    rd cl W f σ H fun v H1 => ∃ G al S τ m, Rl cl G al S H1 ∧ RepS cl G al S.length σ τ ∧ RepM cl G al S.length v m ∧ Pst cl G al S H1 (k τ m S) (Vk cl Q) (WE W σ) := by
  obtain ⟨G, al, S, τ, rl, rs, p⟩ := h
  exact ⟨G, al, S, τ, rl, rs, p.bind.imp fun G1 al1 S1 H1 m g rl1 q v rm => ⟨G1, al1, S1, τ, m, rl1, rs.gr g, rm, q⟩⟩
theorem op_of {f g : Slots → Sto → R MV} {op : MV → MV → Sto → R MV} {σ : L2.St} {H : Hp} {Q : VK}
    (h : rd cl W (fun τ S => (f τ S).bind fun x S1 => (g τ S1).bind fun y S2 => op x y S2) σ H Q) : tOp (r2 cl (WE W σ) op) (rd cl W f) (rd cl W g) σ H Q := by
  obtain ⟨G, al, S, τ, rl, rs, p⟩ := h
  refine ⟨G, al, S, τ, rl, rs, p.bind.imp fun G1 al1 S1 H1 mx g1 rl1 q x rx => ?_⟩
  refine ⟨G1, al1, S1, τ, rl1, rs.gr g1, q.bind.imp fun G2 al2 S2 H2 my g2 rl2 q2 y ry => ?_⟩
  exact ⟨G2, al2, S2, mx, my, rl2, rx.gr g2, ry, q2⟩
theorem un_of {f : Slots → Sto → R MV} {op : MV → Sto → R MV} {σ : L2.St} {H : Hp} {Q : VK}
    (h : rd cl W (fun τ S => (f τ S).bind fun x S1 => op x S1) σ H Q) : tUn (r1 cl (WE W σ) op) (rd cl W f) σ H Q := by
  obtain ⟨G, al, S, τ, rl, rs, p⟩ := h
  exact ⟨G, al, S, τ, rl, rs, p.bind.imp fun G1 al1 S1 H1 mx g1 rl1 q x rx => ⟨G1, al1, S1, mx, rl1, rx, q⟩⟩
theorem cb_of {f : Slots → Sto → R (List MV)} {op : List MV → Sto → R MV} {σ : L2.St} {H : Hp} {Q : VK}
    (h : rd cl W (fun τ S => (f τ S).bind fun x S1 => op x S1) σ H Q) : tCB (rN cl (WE W σ) op) (rdA cl W f) σ H Q := by
  obtain ⟨G, al, S, τ, rl, rs, p⟩ := h
  exact ⟨G, al, S, τ, rl, rs, p.bind.imp fun G1 al1 S1 H1 mx g1 rl1 q x rx => ⟨G1, al1, S1, mx, rl1, rx, q⟩⟩
end

/-! ### RepM by cases -/
section
variable {cl : Wd} {G H : Hp} {al : Nat → Addr} {S : Sto} {n : Nat} {v : V}
theorem RepM.int_inv {i : Int} (h : RepM cl G al n v (.d (.int i))) : v = .int i := by
  cases h with | d h => cases h; rfl
theorem RepM.bl_inv {i : Bool} (h : RepM cl G al n v (.d (.bl i))) : v = .bl i := by
  cases h with | d h => cases h; rfl
theorem RepMs.length : ∀ {vs : List V} {ms : List MV}, RepMs cl G al n vs ms → vs.length = ms.length
  | _, _, .nil => rfl
  | _, _, .cons _ r => by simp [RepMs.length r]
theorem RepMs.get : ∀ {vs : List V} {ms : List MV} {i : Nat} {m : MV}, RepMs cl G al n vs ms → ms[i]? = some m → ∃ v, vs[i]? = some v ∧ RepM cl G al n v m
  | _, _, _, _, .nil, e => by simp at e
  | _, _, 0, _, .cons h _, e => by simp at e; subst e; exact ⟨_, rfl, h⟩
  | _, _, i + 1, _, .cons _ r, e => by
    obtain ⟨v, h1, h2⟩ := RepMs.get (i := i) r (by simpa using e)
    exact ⟨v, by simpa using h1, h2⟩
theorem RepMs.append : ∀ {vs ws : List V} {ms ns : List MV}, RepMs cl G al n vs ms → RepMs cl G al n ws ns → RepMs cl G al n (vs ++ ws) (ms ++ ns)
  | _, _, _, _, .nil, s => s
  | _, _, _, _, .cons h r, s => .cons h (RepMs.append r s)
theorem RepMs.ofL : ∀ {vs : List V} {ds : List D}, RepL cl G vs ds → RepMs cl G al n vs (ds.map .d)
  | _, _, .nil => .nil
  | _, _, .cons h r => .cons (.d h) (RepMs.ofL r)
theorem RepMs.all : ∀ {vs : List V} {ms : List MV} {ds : List D}, RepMs cl G al n vs ms → allD ms = some ds → RepL cl G vs ds
  | _, _, _, .nil, e => by simp [allD] at e; subst e; exact .nil
  | _, _, _, .cons (.d h) r, e => by
    simp only [allD, Option.map_eq_some_iff] at e
    obtain ⟨ds, e1, rfl⟩ := e
    exact .cons h (RepMs.all r e1)
  | _, _, _, .cons (.c _ _) r, e => by simp [allD] at e
  | _, _, _, .cons (.t _ _) r, e => by simp [allD] at e
theorem RepMs.set {v : V} {m : MV} (h : RepM cl G al n v m) : ∀ {vs : List V} {ms : List MV} (i : Nat), RepMs cl G al n vs ms → RepMs cl G al n (vs.set i v) (ms.set i m)
  | _, _, _, .nil => .nil
  | _, _, 0, .cons _ r => .cons h r
  | _, _, i + 1, .cons q r => .cons q (RepMs.set h i r)

/-- the items of a list or tuple lie there -/
theorem items_ok (rl : Rl cl G al S H) {m : MV} {ms : List MV} (h : RepM cl G al S.length v m) (e : items S m = some ms) :
    ∃ a vs, v = .ref a ∧ (H a = some (.lst vs) ∨ H a = some (.tup vs)) ∧ RepMs cl G al S.length vs ms := by
  cases h with
  | d h =>
    cases h with
    | lst h r => simp only [items, Option.some.injEq] at e; subst e; exact ⟨_, _, rfl, .inl (rl.ex _ _ h), .ofL r⟩
    | tup h r => simp only [items, Option.some.injEq] at e; subst e; exact ⟨_, _, rfl, .inr (rl.ex _ _ h), .ofL r⟩
    | _ => simp [items] at e
  | c i hi =>
    simp only [items] at e
    cases q : S[i]? with
    | none => rw [q] at e; cases e
    | some c =>
      rw [q] at e
      cases c with
      | lst ns =>
        simp only [Option.some.injEq] at e; subst e
        obtain ⟨_, o, h2, h3⟩ := rl.live i _ q rfl
        cases h3 with
        | lst h3 => exact ⟨_, _, rfl, .inl h2, h3⟩
      | ins c fs => cases e
      | froz d =>
        cases d with
        | lst xs =>
          simp only [Option.some.injEq] at e; subst e
          have := rl.froz i _ q
          cases this with
          | lst h r => exact ⟨_, _, rfl, .inl (rl.ex _ _ h), .ofL r⟩
        | _ => cases e
  | t h r => simp only [items, Option.some.injEq] at e; subst e; exact ⟨_, _, rfl, .inr (rl.ex _ _ h), r⟩
end
end Mi
namespace Mi
open PySem L2 PyProof.Rows

/-! ### data read off the heap -/
section
variable {cl : Wd} {G H : Hp} {al : Nat → Addr} {S : Sto} {n : Nat} {v : V}
theorem deepL_ok {f : MV → Option D} (hf : ∀ v m d, RepM cl G al S.length v m → f m = some d → Rep cl H v d) : ∀ {vs : List V} {ms : List MV} {ds : List D}, RepMs cl G al S.length vs ms → ms.mapM f = some ds → RepL cl H vs ds
  | _, _, _, .nil, e => by simp at e; subst e; exact .nil
  | _, _, _, .cons h r, e => by
    simp only [List.mapM_cons, Option.bind_eq_bind, Option.pure_def, Option.bind_eq_some_iff] at e
    obtain ⟨d, e1, ds, e2, e3⟩ := e
    cases e3
    exact .cons (hf _ _ _ h e1) (deepL_ok hf r e2)
theorem deep_ok (rl : Rl cl G al S H) : ∀ (n : Nat) (v : V) (m : MV) (d : D), RepM cl G al S.length v m → deep n S m = some d → Rep cl H v d
  | n, v, .d x, d, h, e => by
    have e' : x = d := by cases n <;> simpa [deep] using e
    subst e'
    cases h with | d h => exact h.mono rl.ex
  | 0, v, .c i, d, h, e => by simp [deep] at e
  | 0, v, .t ms, d, h, e => by simp [deep] at e
  | n + 1, v, .c i, d, h, e => by
    cases h with
    | c i hi =>
      simp only [deep] at e
      cases q : S[i]? with
      | none => rw [q] at e; cases e
      | some c =>
        rw [q] at e
        cases c with
        | ins c fs => cases e
        | froz d' => cases e; exact (rl.froz i _ q).mono rl.ex
        | lst ms =>
          simp only [Option.map_eq_some_iff] at e
          obtain ⟨ds, e1, rfl⟩ := e
          obtain ⟨_, o, h2, h3⟩ := rl.live i _ q rfl
          cases h3 with
          | lst h3 => exact .lst h2 (deepL_ok (fun v m d h e => deep_ok rl n v m d h e) h3 e1)
  | n + 1, v, .t ms, d, h, e => by
    cases h with
    | t h r =>
      simp only [deep, Option.map_eq_some_iff] at e
      obtain ⟨ds, e1, rfl⟩ := e
      exact .tup (rl.ex _ _ h) (deepL_ok (fun v m d h e => deep_ok rl n v m d h e) r e1)

/-- flat data: scalars stand by themselves, a list's items are frozen -/
theorem flat_ok (rl : Rl cl G al S H) {m : MV} {d : D} (h : RepM cl G al S.length v m) (e : flat S m = some d) :
    Rep cl G v d ∨ ∃ ds a vs, d = .lst ds ∧ v = .ref a ∧ H a = some (.lst vs) ∧ RepL cl G vs ds := by
  cases h with
  | d h => simp only [flat, Option.some.injEq] at e; subst e; exact .inl h
  | t h r => simp [flat] at e
  | c i hi =>
    simp only [flat] at e
    cases q : S[i]? with
    | none => rw [q] at e; cases e
    | some c =>
      rw [q] at e
      cases c with
      | ins c fs => cases e
      | froz d' => cases e; exact .inl (rl.froz i _ q)
      | lst ms =>
        simp only [Option.map_eq_some_iff] at e
        obtain ⟨ds, e1, rfl⟩ := e
        obtain ⟨_, o, h2, h3⟩ := rl.live i _ q rfl
        cases h3 with
        | lst h3 => exact .inr ⟨ds, _, _, rfl, rfl, h2, h3.all e1⟩
theorem flat_int (rl : Rl cl G al S H) {m : MV} {i : Int} (h : RepM cl G al S.length v m) (e : flat S m = some (.int i)) : v = .int i := by
  rcases flat_ok rl h e with h | ⟨ds, a, vs, e, _⟩
  · cases h; rfl
  · cases e
theorem flat_lst (rl : Rl cl G al S H) {m : MV} {ds : List D} (h : RepM cl G al S.length v m) (e : flat S m = some (.lst ds)) : ∃ a vs, v = .ref a ∧ H a = some (.lst vs) ∧ RepL cl G vs ds := by
  rcases flat_ok rl h e with h | ⟨ds, a, vs, e, h1, h2, h3⟩
  · cases h with | lst h4 r => exact ⟨_, _, rfl, rl.ex _ _ h4, r⟩
  · cases e; exact ⟨a, vs, h1, h2, h3⟩
end

theorem sz_ok {n : Nat} (h : szOk n = true) : n ≤ sizeLine := Nat.le_trans (of_decide_eq_true h) (by decide)
theorem sz_lt {n : Nat} (h : szOk (n + 1) = true) : n < sizeLine := Nat.lt_of_lt_of_le (of_decide_eq_true h) (by decide)

/-- a new frozen list, tuple -/
theorem fin_lst {cl : Wd} {G H : Hp} {al : Nat → Addr} {S : Sto} {E : XK} {Q : VK} {ds : List D} {vs : List V} {p : Addr} (rl : Rl cl G al S H) (r : RepL cl G vs ds) (q : Pst cl G al S H (.ok (.d (.lst ds)) S) (Vk cl Q) E) (hp : H p = none) : Q (.ref p) (upd H p (.lst vs)) :=
  q _ _ _ (Gr.newG rl hp) (rl.newG hp) _ (.d (.lst upd_same (r.mono (Ex.new (rl.ex.back hp)))))
theorem fin_tup {cl : Wd} {G H : Hp} {al : Nat → Addr} {S : Sto} {E : XK} {Q : VK} {ds : List D} {vs : List V} {p : Addr} (rl : Rl cl G al S H) (r : RepL cl G vs ds) (q : Pst cl G al S H (.ok (.d (.tup ds)) S) (Vk cl Q) E) (hp : H p = none) : Q (.ref p) (upd H p (.tup vs)) :=
  q _ _ _ (Gr.newG rl hp) (rl.newG hp) _ (.d (.tup upd_same (r.mono (Ex.new (rl.ex.back hp)))))
theorem fin_d {cl : Wd} {G H : Hp} {al : Nat → Addr} {S : Sto} {E : XK} {Q : VK} {v : V} {d : D} (rl : Rl cl G al S H) (r : Rep cl G v d) (q : Pst cl G al S H (.ok (.d d) S) (Vk cl Q) E) : Q v H := q.now rl v (.d r)

def opOf : Bop → Operator
  | .add => .Add | .sub => .Sub | .mul => .Mult | .fdiv => .FloorDiv | .mod => .Mod | .pow => .Pow

section
variable {X : Cx} {cl : Wd} {E : XK}
theorem op_fdivX : OpR X (binaryOp .FloorDiv) (rI (fun _ j => j ≠ 0 ∧ j.natAbs.log2 < 9000) fun i j => .int (i.fdiv j)) := opI fun _ _ _ _ _ _ _ hc q => PyProof.Rows.floordiv_int hc.1 q (.inl (PyProof.noPylong_of_log2 hc.2))

theorem op_bin (o : Bop) : OpR X (binaryOp (opOf o)) (r2 cl E fun x y S => dop S x y (binD o)) := by
  intro pins s σ H x y v u Q I rx ry h
  obtain ⟨G, al, S, mx, my, rl, hx, hy, p⟩ := h
  simp only [dop] at p
  split at p
  · rename_i a b ea eb
    split at p
    · rename_i z ez
      unfold binD at ez
      split at ez
      · cases ez
        have := flat_int rl hx ea; have := flat_int rl hy eb; subst_vars
        exact op_add pins s σ H _ _ v u Q I rx ry ⟨_, _, rfl, rfl, fin_d rl (.int _) p⟩
      · cases ez
        have := flat_int rl hx ea; have := flat_int rl hy eb; subst_vars
        exact op_sub pins s σ H _ _ v u Q I rx ry ⟨_, _, rfl, rfl, fin_d rl (.int _) p⟩
      · split at ez
        · rename_i hc
          cases ez
          have := flat_int rl hx ea; have := flat_int rl hy eb; subst_vars
          exact op_mulW pins s σ H _ _ v u Q I rx ry ⟨_, _, rfl, rfl, (of_decide_eq_true hc : _ + _ < _), fin_d rl (.int _) p⟩
        · cases ez
      · split at ez
        · rename_i hc
          cases ez
          have := flat_int rl hx ea; have := flat_int rl hy eb; subst_vars
          exact op_fdivX pins s σ H _ _ v u Q I rx ry ⟨_, _, rfl, rfl, of_decide_eq_true hc, fin_d rl (.int _) p⟩
        · cases ez
      · split at ez
        · rename_i hc
          cases ez
          have := flat_int rl hx ea; have := flat_int rl hy eb; subst_vars
          exact op_modN pins s σ H _ _ v u Q I rx ry ⟨_, _, rfl, rfl, hc, fin_d rl (.int _) p⟩
        · cases ez
      · split at ez
        · rename_i hc
          cases ez
          have := flat_int rl hx ea; have := flat_int rl hy eb; subst_vars
          exact op_pow pins s σ H _ _ v u Q I rx ry ⟨_, _, rfl, rfl, (of_decide_eq_true hc : _ ∧ _ ∧ _), fin_d rl (.int _) p⟩
        · cases ez
      · split at ez
        · rename_i hc
          cases ez
          obtain ⟨a1, v1, rfl, h1, r1⟩ := flat_lst rl hx ea
          obtain ⟨a2, v2, rfl, h2, r2⟩ := flat_lst rl hy eb
          refine op_cat pins s σ H _ _ v u Q I rx ry ⟨_, _, _, _, rfl, rfl, h1, h2, ?_, fun q hq => fin_lst rl (r1.append r2) p hq⟩
          rw [r1.length, r2.length]; exact sz_ok hc
        · cases ez
      · cases ez
    · exact p.elim
  · exact p.elim

/-! ### comparisons -/
mutual
def toPy : D → PyData
  | .non => .none
  | .bl b => .bool b
  | .int i => .int i
  | .str s => .str s
  | .lst xs => .list (toPys xs)
  | .tup xs => .tuple (toPys xs)
  | .ins _ _ => .none
  | .scr _ => .none
def toPys : List D → List PyData
  | [] => []
  | x :: xs => toPy x :: toPys xs
end
theorem toPys_shape {n : Nat} (f : ∀ d, dep n d = true → (toPy d).canLay0 = true ∧ (toPy d).depth ≤ n) : ∀ xs : List D, xs.all (dep n) = true → PyData.canLayAll0 (toPys xs) = true ∧ PyData.depthAll (toPys xs) ≤ n
  | [], _ => by simp [toPys, PyData.canLayAll0, PyData.depthAll]
  | x :: xs, h => by
    simp only [List.all_cons, Bool.and_eq_true] at h
    obtain ⟨h1, h2⟩ := f x h.1
    obtain ⟨h3, h4⟩ := toPys_shape f xs h.2
    simp only [toPys, PyData.canLayAll0, PyData.depthAll, h1, h3, Bool.and_self, true_and]
    omega
theorem toPy_shape : ∀ (n : Nat) (d : D), dep n d = true → (toPy d).canLay0 = true ∧ (toPy d).depth ≤ n
  | n, .non, _ => by simp [toPy, PyData.canLay0, PyData.depth]
  | n, .bl _, _ => by simp [toPy, PyData.canLay0, PyData.depth]
  | n, .int _, _ => by simp [toPy, PyData.canLay0, PyData.depth]
  | n, .str t, h => by
    have h' : PyData.strOk t = true := by cases n <;> simpa [dep] using h
    simp [toPy, PyData.canLay0, PyData.depth, h']
  | n, .ins _ _, h => by cases n <;> simp [dep] at h
  | n, .scr _, h => by cases n <;> simp [dep] at h
  | 0, .lst _, h => by simp [dep] at h
  | 0, .tup _, h => by simp [dep] at h
  | n + 1, .lst xs, h => by
    obtain ⟨h1, h2⟩ := toPys_shape (fun d h => toPy_shape n d h) xs (by simpa only [dep] using h)
    simp only [toPy, PyData.canLay0, PyData.depth]
    exact ⟨h1, by omega⟩
  | n + 1, .tup xs, h => by
    obtain ⟨h1, h2⟩ := toPys_shape (fun d h => toPy_shape n d h) xs (by simpa only [dep] using h)
    simp only [toPy, PyData.canLay0, PyData.depth]
    exact ⟨h1, by omega⟩
theorem shaped_of {d : D} (h : dep 8 d = true) : SeqAt.shaped (toPy d) = true := by
  obtain ⟨h1, h2⟩ := toPy_shape 8 d h
  unfold SeqAt.shaped
  rw [h1, Bool.true_and]
  exact decide_eq_true (Nat.le_trans h2 (by decide))
theorem dpL {K : W.Frag} {H : Hp} {n : Nat} (f : ∀ v d, Rep cl H v d → dep n d = true → Dp K H v (toPy d)) : ∀ {vs : List V} {ds : List D}, RepL cl H vs ds → ds.all (dep n) = true → DpAll K H vs (toPys ds)
  | _, _, .nil, _ => .nil
  | _, _, .cons h r, e => by
    simp only [List.all_cons, Bool.and_eq_true] at e
    exact .cons (f _ _ h e.1) (dpL f r e.2)
theorem dp_of {K : W.Frag} {H : Hp} : ∀ (n : Nat) (v : V) (d : D), Rep cl H v d → dep n d = true → Dp K H v (toPy d)
  | n, _, _, .non, _ => .non
  | n, _, _, .bl b, _ => .bl b
  | n, _, _, .int i, _ => .int i
  | n, _, _, .str x, _ => .str x
  | 0, _, _, .lst h r, e => by simp [dep] at e
  | 0, _, _, .tup h r, e => by simp [dep] at e
  | n + 1, _, _, .lst h r, e => .lst (SqL.of h) (dpL (fun v d h e => dp_of n v d h e) r (by simpa only [dep] using e))
  | n + 1, _, _, .tup h r, e => .tup (SqT.of h) (dpL (fun v d h e => dp_of n v d h e) r (by simpa only [dep] using e))
  | n, _, _, .ins _ _ _ _, e => by cases n <;> simp [dep] at e
  | n, _, _, .scr _, e => by cases n <;> simp [dep] at e
theorem eqvs_of (f : ∀ a b, a ∈ (xs : List D) → dep n a = true → dep n b = true → PyData.eqv (toPy a) (toPy b) = eqD a b) : ∀ (ys : List D), xs.all (dep n) = true → ys.all (dep n) = true → PyData.eqvAll (toPys xs) (toPys ys) = eqDs xs ys := by
  induction xs with
  | nil => intro ys _ _; cases ys <;> simp [toPys, PyData.eqvAll, eqDs]
  | cons x xs ih =>
    intro ys h1 h2
    cases ys with
    | nil => simp [toPys, PyData.eqvAll, eqDs]
    | cons y ys =>
      simp only [List.all_cons, Bool.and_eq_true] at h1 h2
      simp only [toPys, PyData.eqvAll, eqDs]
      rw [f x y (by simp) h1.1 h2.1, ih (fun a b ha => f a b (by simp [ha])) ys h1.2 h2.2]
theorem eqv_of : ∀ (n : Nat) (a b : D), dep n a = true → dep n b = true → PyData.eqv (toPy a) (toPy b) = eqD a b := by
  intro n
  induction n with
  | zero => intro a b ha hb; cases a <;> cases b <;> first | (simp [dep] at ha; done) | (simp [dep] at hb; done) | simp [toPy, PyData.eqv, eqD]
  | succ n ih =>
    intro a b ha hb
    cases a with
    | lst xs =>
      cases b with
      | lst ys => simp only [dep] at ha hb; simp only [toPy, PyData.eqv, eqD]; exact eqvs_of (fun a b _ h1 h2 => ih a b h1 h2) ys ha hb
      | _ => first | (simp [dep] at hb; done) | simp [toPy, PyData.eqv, eqD]
    | tup xs =>
      cases b with
      | tup ys => simp only [dep] at ha hb; simp only [toPy, PyData.eqv, eqD]; exact eqvs_of (fun a b _ h1 h2 => ih a b h1 h2) ys ha hb
      | _ => first | (simp [dep] at hb; done) | simp [toPy, PyData.eqv, eqD]
    | _ => cases b <;> first | (simp [dep] at ha; done) | (simp [dep] at hb; done) | simp [toPy, PyData.eqv, eqD]

def copOf : Cop → CmpOp
  | .eq => .Eq | .ne => .NotEq | .lt => .Lt | .le => .LtE | .gt => .Gt | .ge => .GtE | .is_ => .Is | .isn => .IsNot | .in_ => .In | .nin => .NotIn
theorem rep_int {G : Hp} {v : V} {i : Int} (h : Rep cl G v (.int i)) : v = .int i := by cases h; rfl
theorem op_cmp (o : Cop) (hK : X.K = cl.K) (hu : X.A.units + 64 < cLine) : OpR X (compareOp (copOf o)) (r2 cl E fun x y S => dqu S x y (cmpD o)) := by
  intro pins s σ H x y v u Q I rx ry h
  obtain ⟨G, al, S, mx, my, rl, hx, hy, p⟩ := h
  simp only [dqu] at p
  split at p
  · rename_i a b ea eb
    split at p
    · rename_i z ez
      have ha := deep_ok rl _ _ _ _ hx ea
      have hb := deep_ok rl _ _ _ _ hy eb
      unfold cmpD at ez
      split at ez
      · cases ez; have := rep_int ha; have := rep_int hb; subst_vars
        exact op_lt pins s σ H _ _ v u Q I rx ry ⟨_, _, rfl, rfl, fin_d rl (.bl _) p⟩
      · cases ez; have := rep_int ha; have := rep_int hb; subst_vars
        exact op_le pins s σ H _ _ v u Q I rx ry ⟨_, _, rfl, rfl, fin_d rl (.bl _) p⟩
      · cases ez; have := rep_int ha; have := rep_int hb; subst_vars
        exact op_gt pins s σ H _ _ v u Q I rx ry ⟨_, _, rfl, rfl, fin_d rl (.bl _) p⟩
      · cases ez; have := rep_int ha; have := rep_int hb; subst_vars
        exact op_ge pins s σ H _ _ v u Q I rx ry ⟨_, _, rfl, rfl, fin_d rl (.bl _) p⟩
      · split at ez
        · rename_i hc
          rw [Bool.and_eq_true] at hc
          cases ez
          refine op_eqD hu pins s σ H _ _ v u Q I rx ry ⟨_, _, dp_of _ _ _ ha hc.1, dp_of _ _ _ hb hc.2, shaped_of hc.1, shaped_of hc.2, ?_⟩
          rw [eqv_of 8 _ _ hc.1 hc.2]
          exact fin_d rl (.bl _) p
        · cases ez
      · split at ez
        · rename_i hc
          rw [Bool.and_eq_true] at hc
          cases ez
          refine op_neD hu pins s σ H _ _ v u Q I rx ry ⟨_, _, dp_of _ _ _ ha hc.1, dp_of _ _ _ hb hc.2, shaped_of hc.1, shaped_of hc.2, ?_⟩
          rw [eqv_of 8 _ _ hc.1 hc.2]
          exact fin_d rl (.bl _) p
        · cases ez
      · cases ez
    · exact p.elim
  · exact p.elim
end
end Mi
namespace Mi
open PySem L2 PyProof.Rows

section
variable {cl : Wd} {G H : Hp} {al : Nat → Addr} {S : Sto} {v : V} {E : XK} {Q : VK}
theorem truth_ok (rl : Rl cl G al S H) {m : MV} {k : Bool} (h : RepM cl G al S.length v m) (e : truth S m = some k) : TruV cl.K v H k := by
  have seq : ∀ ms, items S m = some ms → k = !ms.isEmpty → TruV cl.K v H k := fun ms e1 e2 => by
    obtain ⟨a, vs, rfl, hv, r⟩ := items_ok rl h e1
    have el : ms.isEmpty = vs.isEmpty := by
      have := r.length
      cases vs <;> cases ms <;> simp_all
    rcases hv with hv | hv
    · exact .inl ⟨vs, SqL.of hv, by rw [e2, el]⟩
    · exact .inr (.inl ⟨vs, SqT.of hv, by rw [e2, el]⟩)
  unfold truth at e
  split at e
  · cases h with | d h => cases h; exact (Option.some.inj e).symm
  · cases h with | d h => cases h; exact (Option.some.inj e).symm
  · cases h with | d h => cases h; exact (Option.some.inj e).symm
  · simp only [Option.map_eq_some_iff] at e
    obtain ⟨ms, e1, e2⟩ := e
    exact seq ms e1 e2.symm

/-- a new list at a fresh place -/
theorem newL_ok (rl : Rl cl G al S H) {cell : Bool} {ms : List MV} {vs : List V} (r : RepMs cl G al S.length vs ms) (q : Pst cl G al S H (newL cell ms S) (Vk cl Q) E) :
    vs.length ≤ sizeLine ∧ ∀ p, H p = none → Q (.ref p) (upd H p (.lst vs)) := by
  unfold newL at q
  split at q
  · rename_i hz
    refine ⟨by rw [r.length]; exact sz_ok hz, fun p hp => ?_⟩
    have cellq : Pst cl G al S H (.ok (.c S.length) (S ++ [.lst ms])) (Vk cl Q) E → Q (.ref p) (upd H p (.lst vs)) := fun q => by
      refine q _ (alw al S.length p) _ (Gr.newC hp) (rl.newC hp rfl (.lst r)) _ ?_
      have := RepM.c (cl := cl) (G := G) (al := alw al S.length p) (n := (S ++ [Cell.lst ms]).length) S.length (by simp)
      rw [alw_new] at this
      exact this
    split at q
    · exact cellq q
    · split at q
      · rename_i ds ed
        exact fin_lst rl (r.all ed) q hp
      · exact cellq q
  · exact q.elim
theorem newT_ok (rl : Rl cl G al S H) {ms : List MV} {vs : List V} (r : RepMs cl G al S.length vs ms) (q : Pst cl G al S H (newT ms S) (Vk cl Q) E) :
    vs.length ≤ sizeLine ∧ ∀ p, H p = none → Q (.ref p) (upd H p (.tup vs)) := by
  unfold newT at q
  split at q
  · rename_i hz
    refine ⟨by rw [r.length]; exact sz_ok hz, fun p hp => ?_⟩
    split at q
    · rename_i ds ed
      exact fin_tup rl (r.all ed) q hp
    · exact q _ _ _ (Gr.newG rl hp) (rl.newG hp) _ (.t upd_same (r.mono (Ex.new (rl.ex.back hp)) (Nat.le_refl _) fun _ _ => rfl))
  · exact q.elim

/-- freezing changes nothing that is there -/
theorem freezeL_ok {f : MV → Sto → R D} (hf : ∀ (G : Hp) (al : Nat → Addr) (S : Sto) (v : V) (m : MV) (ok : Hp → (Nat → Addr) → Sto → Hp → D → Prop) (E : XK), Rl cl G al S H → RepM cl G al S.length v m → Pst cl G al S H (f m S) ok E → ∃ G' S' d, f m S = .ok d S' ∧ Gr G al S H G' al S' H ∧ Rl cl G' al S' H ∧ Rep cl G' v d) :
    ∀ {ms : List MV} {vs : List V} {G : Hp} {al : Nat → Addr} {S : Sto} {ok : Hp → (Nat → Addr) → Sto → Hp → List D → Prop}, Rl cl G al S H → RepMs cl G al S.length vs ms → Pst cl G al S H (freezeL f ms S) ok E →
      ∃ G' S' ds, freezeL f ms S = .ok ds S' ∧ Gr G al S H G' al S' H ∧ Rl cl G' al S' H ∧ RepL cl G' vs ds
  | [], _, G, al, S, ok, rl, .nil, q => ⟨G, S, [], rfl, Gr.refl, rl, .nil⟩
  | m :: ms, _, G, al, S, ok, rl, .cons h r, q => by
    simp only [freezeL] at q ⊢
    obtain ⟨G1, S1, d, e1, g1, rl1, h1⟩ := hf G al S _ m _ E rl h q.bind
    rw [e1] at q ⊢
    simp only [R.bind_ok] at q ⊢
    obtain ⟨G2, S2, ds, e2, g2, rl2, r2⟩ := freezeL_ok hf rl1 (r.gr g1) (Pst.gr g1 q).bind
    rw [e2]
    exact ⟨G2, S2, d :: ds, rfl, g1.trans g2, rl2, .cons (h1.mono g2.fz) r2⟩
theorem freeze_ok : ∀ (n : Nat) {G : Hp} {al : Nat → Addr} {S : Sto} {v : V} {m : MV} {ok : Hp → (Nat → Addr) → Sto → Hp → D → Prop} {E : XK}, Rl cl G al S H → RepM cl G al S.length v m → Pst cl G al S H (freeze n m S) ok E →
    ∃ G' S' d, freeze n m S = .ok d S' ∧ Gr G al S H G' al S' H ∧ Rl cl G' al S' H ∧ Rep cl G' v d := by
  intro n
  induction n with
  | zero =>
    intro G al S v m ok E rl h q
    cases h with
    | d h => exact ⟨G, S, _, rfl, Gr.refl, rl, h⟩
    | c i hi => exact q.elim
    | t h r => exact q.elim
  | succ n ih =>
    intro G al S v m ok E rl h q
    have ihL := fun {ms : List MV} {vs : List V} {ok} (r : RepMs cl G al S.length vs ms) (q : Pst cl G al S H (freezeL (freeze n) ms S) ok E) =>
      freezeL_ok (cl := cl) (H := H) (E := E) (f := freeze n) (fun G al S v m ok E rl h q => ih rl h q) rl r q
    cases h with
    | d h => exact ⟨G, S, _, rfl, Gr.refl, rl, h⟩
    | t h r =>
      simp only [freeze] at q ⊢
      obtain ⟨G1, S1, ds, e1, g1, rl1, r1⟩ := ihL r q.bind
      rw [e1]
      exact ⟨G1, S1, _, rfl, g1, rl1, .tup (g1.fz _ _ h) r1⟩
    | c i hi =>
      simp only [freeze] at q ⊢
      cases hc : S[i]? with
      | none => rw [hc] at q; exact q.elim
      | some c =>
        rw [hc] at q
        cases c with
        | ins c fs => exact q.elim
        | froz d => exact ⟨G, S, d, rfl, Gr.refl, rl, rl.froz i d hc⟩
        | lst ms =>
          simp only at q ⊢
          obtain ⟨_, o, h2, h3⟩ := rl.live i _ hc rfl
          cases h3 with
          | lst h3 =>
            obtain ⟨G1, S1, ds, e1, g1, rl1, r1⟩ := ihL h3 q.bind
            rw [e1] at q ⊢
            simp only [R.bind_ok] at q ⊢
            cases hc1 : S1[i]? with
            | none => rw [hc1] at q; exact q.elim
            | some c1 =>
              rw [hc1] at q
              cases c1 with
              | ins _ _ => exact q.elim
              | froz _ => exact q.elim
              | lst ms1 =>
                refine ⟨_, _, .lst ds, rfl, g1.trans (Gr.fz_ rl1 hc1 rfl), rl1.fz hc1 rfl h2 r1, ?_⟩
                exact .lst upd_same (r1.mono (Ex.new (rl1.live i _ hc1 rfl).1))
theorem freezes_ok {n : Nat} {ms : List MV} {vs : List V} {ok : Hp → (Nat → Addr) → Sto → Hp → List D → Prop} (rl : Rl cl G al S H) (r : RepMs cl G al S.length vs ms) (q : Pst cl G al S H (freezeL (freeze n) ms S) ok E) :
    ∃ G' S' ds, freezeL (freeze n) ms S = .ok ds S' ∧ Gr G al S H G' al S' H ∧ Rl cl G' al S' H ∧ RepL cl G' vs ds :=
  freezeL_ok (fun G al S v m ok E rl h q => freeze_ok n rl h q) rl r q
end

section
variable {X : Cx} {cl : Wd} {E : XK}
theorem atI_rep {cl : Wd} {G : Hp} {al : Nat → Addr} {n : Nat} {vs : List V} {ms : List MV} {k : Int} {m : MV} (r : RepMs cl G al n vs ms) (e : L2.atI ms k = some m) : ∃ v, L2.atI vs k = some v ∧ RepM cl G al n v m := by
  unfold L2.atI at e ⊢
  rw [r.length]
  cases q : ixN ms.length k with
  | none => rw [q] at e; cases e
  | some j => rw [q] at e; exact r.get e
theorem ix_seq (hK : X.K = cl.K) : IxR X (r2 cl E ixF) := by
  intro value slice pins s σ H x y v u Q I rx ry h hs
  obtain ⟨G, al, S, mx, my, rl, hx, hy, p⟩ := h
  simp only [ixF] at p
  split at p
  · rename_i ms k em
    split at p
    · rename_i m ei
      obtain ⟨a, vs, rfl, hv, r⟩ := items_ok rl hx em
      have := hy.int_inv; subst this
      obtain ⟨w, e1, r1⟩ := atI_rep r ei
      rcases hv with hv | hv
      · exact ix_list value slice pins s σ H _ _ v u Q I rx ry ⟨_, _, _, _, rfl, rfl, SqL.of hv, e1, p.now rl _ r1⟩ hs
      · exact ix_tup value slice pins s σ H _ _ v u Q I rx ry ⟨_, _, _, _, rfl, rfl, SqT.of hv, e1, p.now rl _ r1⟩ hs
    · exact p.elim
  · exact p.elim

theorem un_negM : UnR X (unaryOp .USub) (r1 cl E negF) := by
  intro pins s σ H x v Q I rx h
  obtain ⟨G, al, S, mx, rl, hx, p⟩ := h
  unfold negF at p
  split at p
  · have := hx.int_inv; subst this
    exact un_neg pins s σ H _ v Q I rx ⟨_, rfl, fin_d rl (.int _) p⟩
  · exact p.elim

def rApp (cl : Wd) (E : XK) : V → List V → Hp → VK → Prop := fun x vs H Q => ∃ y, vs = [y] ∧ r2 cl E appF x y H Q
theorem mt_app : MtM X "list.append" (rApp cl E) := by
  intro pins s σ H x vs v us Q I rx rv h
  obtain ⟨y, rfl, G, al, S, mx, my, rl, hx, hy, p⟩ := h
  unfold appF at p
  split at p
  · rename_i i
    split at p
    · rename_i ms es
      split at p
      · rename_i hz
        cases hx with
        | c _ hi =>
          obtain ⟨h1, o, h2, h3⟩ := rl.live i _ es rfl
          cases h3 with
          | lst h3 =>
            have lv : Lv S i := ⟨_, es, rfl⟩
            refine mt_append pins s σ H _ _ v us Q I rx rv ⟨_, _, _, rfl, rfl, h2, by rw [h3.length]; exact sz_lt hz, ?_⟩
            exact p _ _ _ (Gr.write rl lv) (rl.write lv rfl (.lst (h3.append (.cons hy .nil)))) _ (.d .non)
      · exact p.elim
    · exact p.elim
  · exact p.elim

/-- x[k] = v -/
def rSetM (cl : Wd) (E : XK) : V → V → V → Hp → (Hp → Prop) → Prop := fun o i v H Q => ∃ G al S mo mi mv, Rl cl G al S H ∧ RepM cl G al S.length o mo ∧ RepM cl G al S.length i mi ∧ RepM cl G al S.length v mv ∧
  Pst cl G al S H (setF mo mi mv S) (fun _ _ _ H' _ => Q H') E
theorem set_cell : PSet X (rSetM cl E) := by
  intro pins s σ H o i v ov iv u Q I ro ri rv h
  obtain ⟨G, al, S, mo, mi, mv, rl, ho, hi, hv, p⟩ := h
  unfold setF at p
  split at p
  · rename_i id k
    split at p
    · rename_i ms es
      split at p
      · rename_i j ej
        cases ho with
        | c _ hlt =>
          have := hi.int_inv; subst this
          obtain ⟨h1, ob, h2, h3⟩ := rl.live id _ es rfl
          cases h3 with
          | lst h3 =>
            have lv : Lv S id := ⟨_, es, rfl⟩
            refine set_list pins s σ H _ _ v ov iv u Q I ro ri rv ⟨_, _, _, j, rfl, rfl, h2, by rw [h3.length]; exact ej, ?_⟩
            exact p _ _ _ (Gr.write rl lv) (rl.write lv rfl (.lst (RepMs.set hv j h3)))
      · exact p.elim
    · exact p.elim
  · exact p.elim

/-! ### isinstance -/
theorem kit_tab : ∀ t ∈ ["NoneType", "bool", "int", "str", "tuple", "list"], ∀ ty ∈ ["int", "bool", "str", "list", "tuple"], kitB t ty = some (t == ty || (t == "bool" && ty == "int")) := by decide +kernel
theorem tyD_ok {G H : Hp} {al : Nat → Addr} {S : Sto} {v : V} (rl : Rl cl G al S H) {m : MV} {t : String} (h : RepM cl G al S.length v m) (e : tyD S m = some t) : TyX cl.K H v (.type t) ∧ t ∈ ["NoneType", "bool", "int", "str", "tuple", "list"] := by
  cases h with
  | d h =>
    cases h with
    | non => simp only [tyD, Option.some.injEq] at e; subst e; exact ⟨.base .non, by decide⟩
    | bl b => simp only [tyD, Option.some.injEq] at e; subst e; exact ⟨.base (.bl b), by decide⟩
    | int i => simp only [tyD, Option.some.injEq] at e; subst e; exact ⟨.base (.int i), by decide⟩
    | str x => simp only [tyD, Option.some.injEq] at e; subst e; exact ⟨.base (.str x), by decide⟩
    | lst h r => simp only [tyD, Option.some.injEq] at e; subst e; exact ⟨.base (.lst (rl.ex _ _ h)), by decide⟩
    | tup h r => simp only [tyD, Option.some.injEq] at e; subst e; exact ⟨.base (.tup (rl.ex _ _ h)), by decide⟩
    | ins _ _ _ _ => simp [tyD] at e
    | scr _ => simp [tyD] at e
  | t h r => simp only [tyD, Option.some.injEq] at e; subst e; exact ⟨.base (.tup (rl.ex _ _ h)), by decide⟩
  | c i hi =>
    simp only [tyD] at e
    cases q : S[i]? with
    | none => rw [q] at e; cases e
    | some c =>
      rw [q] at e
      cases c with
      | ins _ _ => cases e
      | lst ms =>
        simp only [Option.some.injEq] at e; subst e
        obtain ⟨_, o, h2, h3⟩ := rl.live i _ q rfl
        cases h3 with | lst h3 => exact ⟨.base (.lst h2), by decide⟩
      | froz d =>
        cases d with
        | lst xs =>
          simp only [Option.some.injEq] at e; subst e
          have := rl.froz i _ q
          cases this with | lst h r => exact ⟨.base (.lst (rl.ex _ _ h)), by decide⟩
        | _ => cases e
theorem call_isiM (ty : String) (hK : X.K = cl.K) : CallR X (.builtin "isinstance") (fun xs H Q => ∃ x, xs = [x, .ty ty] ∧ r1 cl E (isiF ty) x H Q) := by
  intro pins s σ H xs us Q I rv h
  obtain ⟨x, rfl, G, al, S, mx, rl, hx, p⟩ := h
  unfold isiF at p
  split at p
  · rename_i t et
    split at p
    · rename_i k ek
      obtain ⟨h1, h2⟩ := tyD_ok rl hx et
      unfold isiT at ek
      split at ek
      · rename_i hc
        have hm : ty ∈ ["int", "bool", "str", "list", "tuple"] := by simpa using hc
        refine call_isi pins s σ H _ us Q I rv ⟨x, .ty ty, .type t, .type ty, k, rfl, .ty ty, by rw [hK]; exact h1, ?_, fin_d rl (.bl _) p⟩
        rw [← Option.some.inj ek]
        exact kit_ty (kit_tab t h2 ty hm)
      · cases ek
    · exact p.elim
  · exact p.elim

/-! ### built-ins -/
theorem bt_len : CallR X (.builtin "len") (rN cl E lenF) := by
  intro pins s σ H xs us Q I rv h
  obtain ⟨G, al, S, ms, rl, hx, p⟩ := h
  unfold lenF at p
  split at p
  · cases hx with
    | cons h1 r =>
      cases r
      split at p
      · rename_i ns en
        obtain ⟨a, vs, rfl, hv, r⟩ := items_ok rl h1 en
        refine call_len_seq pins s σ H _ us Q I rv ⟨a, vs, rfl, ?_, ?_⟩
        · rcases hv with hv | hv
          · exact .inl (SqL.of hv)
          · exact .inr (SqT.of hv)
        · rw [r.length]; exact fin_d rl (.int _) p
      · exact p.elim
  · exact p.elim
theorem bt_abs : CallR X (.builtin "abs") (rN cl E absF) := by
  intro pins s σ H xs us Q I rv h
  obtain ⟨G, al, S, ms, rl, hx, p⟩ := h
  unfold absF at p
  split at p
  · cases hx with
    | cons h1 r =>
      cases r
      have := h1.int_inv; subst this
      exact call_abs pins s σ H _ us Q I rv ⟨_, rfl, fin_d rl (.int _) p⟩
  · exact p.elim
theorem bt_int : CallR X (.type "int") (rN cl E intF) := by
  intro pins s σ H xs us Q I rv h
  obtain ⟨G, al, S, ms, rl, hx, p⟩ := h
  unfold intF at p
  split at p
  · cases hx with
    | cons h1 r =>
      cases r
      have := h1.int_inv; subst this
      exact call_int1 pins s σ H _ us Q I rv (.inl ⟨_, rfl, fin_d rl (.int _) p⟩)
  · cases hx with
    | cons h1 r =>
      cases r
      have := h1.bl_inv; subst this
      exact call_int1 pins s σ H _ us Q I rv (.inr ⟨_, rfl, fin_d rl (.int _) p⟩)
  · exact p.elim
theorem bt_max (hc : X.calm = true) : CallR X (.builtin "max") (rN cl E maxF) := by
  intro pins s σ H xs us Q I rv h
  obtain ⟨G, al, S, ms, rl, hx, p⟩ := h
  unfold maxF at p
  split at p
  · cases hx with
    | cons h1 r =>
      cases r with
      | cons h2 r =>
        cases r
        have := h1.int_inv; subst this
        have := h2.int_inv; subst this
        exact call_max2 hc pins s σ H _ us Q I rv ⟨_, _, rfl, fin_d rl (.int _) p⟩
  · exact p.elim
theorem repMs_ints {cl : Wd} {G : Hp} {al : Nat → Addr} {n : Nat} : ∀ ns : List Int, RepMs cl G al n (ns.map V.int) (ns.map fun n => .d (.int n))
  | [] => .nil
  | i :: ns => .cons (.d (.int i)) (repMs_ints ns)
theorem bt_list {cell : Bool} (hK : X.K = cl.K) : CallR X (.type "list") (rN cl E (listF cell)) := by
  intro pins s σ H xs us Q I rv h
  obtain ⟨G, al, S, ms, rl, hx, p⟩ := h
  unfold listF at p
  split at p
  · cases hx with
    | cons h1 r =>
      cases r
      cases h1 with
      | d h1 =>
        cases h1 with
        | scr h1 =>
          exact call_list_of pins s σ H _ us Q I rv ⟨_, _, rfl, .inl (by rw [hK]; exact rl.ex.sq h1), (newL_ok rl (repMs_ints _) p).2⟩
  · cases hx with
    | cons h1 r =>
      cases r
      split at p
      · rename_i ns en
        obtain ⟨a, vs, rfl, hv, r⟩ := items_ok rl h1 en
        refine call_list_of pins s σ H _ us Q I rv ⟨a, vs, rfl, ?_, (newL_ok rl r p).2⟩
        rcases hv with hv | hv
        · exact .inl (SqL.of hv)
        · exact .inr (SqT.of hv)
      · exact p.elim
  · exact p.elim
theorem bt_tuple : CallR X (.type "tuple") (rN cl E tupF) := by
  intro pins s σ H xs us Q I rv h
  obtain ⟨G, al, S, ms, rl, hx, p⟩ := h
  unfold tupF at p
  split at p
  · cases hx with
    | cons h1 r =>
      cases r
      cases h1 with
      | d h1 =>
        cases h1 with
        | tup h1 r => exact call_tuple_of pins s σ H _ us Q I rv ⟨_, _, rfl, .inr ⟨SqT.of (rl.ex _ _ h1), fin_d rl (.tup h1 r) p⟩⟩
  · cases hx with
    | cons h1 r =>
      cases r
      cases h1 with
      | d h1 =>
        cases h1 with
        | lst h1 r => exact call_tuple_of pins s σ H _ us Q I rv ⟨_, _, rfl, .inl ⟨SqL.of (rl.ex _ _ h1), (newT_ok rl (.ofL r) p).2⟩⟩
  · rename_i i
    cases hx with
    | cons h1 r =>
      cases r
      split at p
      · rename_i ns en
        obtain ⟨a, vs, rfl, hv, r⟩ := items_ok rl h1 en
        refine call_tuple_of pins s σ H _ us Q I rv ⟨a, vs, rfl, ?_⟩
        cases h1 with
        | c _ hi =>
          have hv' : H (al i) = some (.lst vs) := by
            simp only [items] at en
            cases q : S[i]? with
            | none => rw [q] at en; cases en
            | some c =>
              rw [q] at en
              cases c with
              | ins _ _ => cases en
              | lst ms =>
                obtain ⟨_, o, h2, h3⟩ := rl.live i _ q rfl
                cases h3 with
                | lst h3 =>
                  rcases hv with hv | hv
                  · exact hv
                  · rw [h2] at hv; cases hv
              | froz d =>
                cases d with
                | lst xs =>
                  have := rl.froz i _ q
                  cases this with
                  | lst h r =>
                    rcases hv with hv | hv
                    · exact hv
                    · rw [rl.ex _ _ h] at hv; cases hv
                | _ => cases en
          exact .inl ⟨SqL.of hv', (newT_ok rl r p).2⟩
      · exact p.elim
  · exact p.elim

/-- the value that a built-in's name stands for -/
def Bl.isTy : Bl → Bool
  | .int => true | .list => true | .tuple => true
  | _ => false
theorem bt_any {cell : Bool} (b : Bl) (hK : X.K = cl.K) (hc : X.calm = true) : CallR X (if b.isTy then .type b.name else .builtin b.name) (rN cl E (bltF cell b)) := by
  cases b with
  | abs => exact bt_abs
  | int => exact bt_int
  | max => exact bt_max hc
  | len => exact bt_len
  | list => exact bt_list hK
  | tuple => exact bt_tuple
theorem boot_any (b : Bl) : bootBuiltins (Str.ofString b.name) = some (if b.isTy then .type b.name else .builtin b.name) := by
  cases b <;> decide +kernel
end
end Mi
namespace Mi
open PySem L2 PyProof.Rows

/-! ### the text is the mini text -/
def visC (sc : Scope) (x : Str) : Bool := match sc.names.lookup x with
  | some .local => true | some .cell => true | some .free => true
  | _ => false
def locC (sc : Scope) (x : Str) : Bool := match sc.names.lookup x with
  | some .local => true | some .cell => true
  | _ => false
def glC (sc : Scope) (x : Str) : Bool := match sc.names.lookup x with
  | some .globalImplicit => true
  | _ => false
def plainN (x : Str) : Bool := !(x == ("__debug__" : Str)) && !(x == ("__classdict__" : Str)) && !(x == ("__name__" : Str))
def noStar : Expr → Bool
  | .Starred _ _ => false
  | _ => true
def noSet : Expr → Bool
  | .Set _ _ _ => false
  | _ => true
def noSl : Expr → Bool
  | .Slice _ _ _ _ => false
  | _ => true
def noSup : Expr → Bool
  | .Call (.Name _ _) [] [] _ => false
  | _ => true
def slotC (N : List Str) (sc : Scope) (x : Str) (i : Nat) : Bool := decide (N[i]? = some x) && locC sc x
/-- names by slot -/
def nmC (fn : Str → Bool) (N : List Str) (sc : Scope) (i : Nat) (x : Str) : Bool := decide (N[i]? = some x) && locC sc x && (fn x || decide (sc.names.lookup x = some .local))
def tgNames (fn : Str → Bool) (N : List Str) (sc : Scope) : List Nat → List Expr → Bool
  | [], [] => true
  | i :: is, .Name x _ :: xs => nmC fn N sc i x && tgNames fn N sc is xs
  | _, _ => false
def sameTg (fn : Str → Bool) (N : List Str) (sc : Scope) : Tg → Expr → Bool
  | .nm i, .Name x _ => nmC fn N sc i x
  | .tp is, .Tuple xs _ _ => tgNames fn N sc is xs
  | _, _ => false

def Tg.sl : Tg → List Nat
  | .nm i => [i]
  | .tp is => is

mutual
def same (fs : List String) (N : List Str) (sc : Scope) : E → Expr → Bool
  | .var i, .Name x _ => decide (N[i]? = some x) && visC sc x && plainN x
  | .int i, .Constant (.int j) _ _ => decide (i = j)
  | .bl b, .Constant (.bool c) _ _ => b == c
  | .non, .Constant .none _ _ => true
  | .str s, .Constant (.str t) _ _ => t == Str.ofString s
  | .bin o a b, .BinOp x p y _ => decide (p = opOf o) && same fs N sc a x && same fs N sc b y
  | .neg a, .UnaryOp .USub x _ => same fs N sc a x
  | .cmp o a b, .Compare x [p] [y] _ => decide (p = copOf o) && noSet y && same fs N sc a x && same fs N sc b y
  | .chain o p a b c, .Compare x [q, r] [y, z] _ => decide (q = copOf o) && decide (r = copOf p) && noSet z && same fs N sc a x && same fs N sc b y && same fs N sc c z
  | .and_ a b, .BoolOp .And (x :: y :: rest) p => same fs N sc a x && same fs N sc b (.BoolOp .And (y :: rest) p)
  | .or_ a b, .BoolOp .Or (x :: y :: rest) p => same fs N sc a x && same fs N sc b (.BoolOp .Or (y :: rest) p)
  | .one a, .BoolOp _ [x] _ => same fs N sc a x
  | .not_ a, .UnaryOp .Not x _ => same fs N sc a x
  | .ife t a b, .IfExp x y z _ => same fs N sc t x && same fs N sc a y && same fs N sc b z
  | .tup es, .Tuple xs _ _ => sames fs N sc es xs
  | .lst _ es, .List xs _ => sames fs N sc es xs
  | .ix a i, .Subscript x y _ => noSl y && same fs N sc a x && same fs N sc i y
  | .call _ f es, .Call (.Name g _) xs [] _ => fs.contains f && (g == Str.ofString f) && glC sc g && plainN g && sames fs N sc es xs
  | .blt _ b es, .Call (.Name g _) (x :: xs) [] _ => (g == Str.ofString b.name) && glC sc g && sames fs N sc es (x :: xs)
  | .isi a ty, .Call (.Name g _) [x, .Name t _] [] _ => (g == ("isinstance" : Str)) && glC sc g && (t == Str.ofString ty) && ["int", "bool", "str", "list", "tuple"].contains ty && glC sc t && noStar x && same fs N sc a x
  | .app a e, .Call (.Attribute o m p) [y] [] q => (m == ("append" : Str)) && noSup o && (p.endLine == q.line) && noStar y && same fs N sc a o && same fs N sc e y
  | .lc _ elt tg it own, .ListComp x [⟨t, iter, [], as⟩] scope _ =>
      decide (as = 0) && blkC N sc scope (own.map fun p => (Str.ofString p.1, p.2)) && tg.sl.all (fun j => (own.map (·.2)).contains j) && noSet iter && sameIt fs N sc it iter && sameTg (fun x => scope.names.lookup x == some .cell) N (relS scope sc) tg t && same fs N (relS scope sc) elt x
  | _, _ => false
def sames (fs : List String) (N : List Str) (sc : Scope) : Es → List Expr → Bool
  | .nil, [] => true
  | .cons e r, x :: xs => noStar x && same fs N sc e x && sames fs N sc r xs
  | _, _ => false
def sameIt (fs : List String) (N : List Str) (sc : Scope) : It → Expr → Bool
  | .seq e, x => same fs N sc e x
  | .range1 e, .Call (.Name g _) [x] [] _ => (g == ("range" : Str)) && glC sc g && noStar x && same fs N sc e x
  | .range2 a b, .Call (.Name g _) [x, y] [] _ => (g == ("range" : Str)) && glC sc g && noStar x && noStar y && same fs N sc a x && same fs N sc b y
  | _, _ => false
end

/-! ### where a text runs -/
def bnames : List String := ["abs", "int", "max", "len", "list", "tuple", "isinstance", "range", "bool", "str"]
/-- what the program's text tells: calls keep their promises, built-in names are the built-ins -/
structure Pf (fs : List String) (cl : Wd) (C : Calls) (prog : Program) (w : World) (K : PySem.W.Frag) (mg : Str → Option Value) (base : Heap) (k : Nat) : Prop where
  kk : K = cl.K
  call : ∀ raw f, fs.contains f = true → ∃ a fd ps, mg (Str.ofString f) = some (.ref a) ∧ PySem.W.keepIn K (.ref a) = true ∧ Binds K fd ps [] ∧ FnOk prog w K mg base (CX prog w) k a fd ps (fun vs H Q E => rN cl E (C raw f) vs H Q)
  nob : ∀ x ∈ bnames, mg (Str.ofString x) = none
structure Ctx (fs : List String) (cl : Wd) (C : Calls) (X : Cx) (W : WX) (k : Nat) : Prop where
  pf : Pf fs cl C X.prog X.w X.K X.mg X.base k
  room : Room k X.A
  calm : X.calm = true
  takes : Takes X W
  own : PassesOwn (model X.prog X.w) X.A X.env X.xe
  nd : X.N.Nodup
abbrev W0 : WX := fun _ _ _ _ => False
theorem Ctx.blk {fs : List String} {cl : Wd} {C : Calls} {X : Cx} {W : WX} {k : Nat} (c : Ctx fs cl C X W k) (s : Shared) (H : Hp) (scope : Scope) (cenv : Env) (fp : List Addr) : Ctx fs cl C (X.blk s H scope cenv fp) W0 k :=
  ⟨c.pf, c.room, c.calm, fun u s' x => by
    obtain ⟨_, _, _, _, _, _, _, _, _, _, _, _, _, _, _, _, z⟩ := x
    exact z.elim, PassesOwn.never, c.nd⟩

theorem vis_of {sc : Scope} {x : Str} (h : visC sc x = true) : Vis sc x := by
  unfold visC at h
  unfold Vis
  split at h <;> simp_all
theorem loc_of {sc : Scope} {x : Str} (h : locC sc x = true) : L2.Loc sc x := by
  unfold locC at h
  unfold L2.Loc
  split at h <;> simp_all
theorem gl_of {X : Cx} {x : Str} (h : glC X.env.scope x = true) : Gl X x := by
  unfold glC at h
  unfold Gl Env.kindOf
  split at h <;> simp_all
theorem plain_of {x : Str} (h : plainN x = true) : (x == ("__debug__" : Str)) = false ∧ (x == ("__classdict__" : Str)) = false ∧ x ≠ ("__name__" : Str) := by
  unfold plainN at h
  simp only [Bool.and_eq_true, Bool.not_eq_true'] at h
  exact ⟨h.1.1, h.1.2, fun e => by have := h.2; rw [e] at this; simp at this⟩
theorem star_of {e : Expr} {es : List Expr} {env : Env} (h : noStar e = true) : starEach (e :: es) env = (false, eval e env) :: starEach es env := by
  cases e <;> first | rfl | (simp [noStar] at h)
theorem fold_of {e : Expr} {env : Env} (h : noSet e = true) : ∀ x, foldedSetIterable e env x = pure x := by
  intro x
  cases e <;> first | rfl | (simp [noSet] at h)
theorem mark_of {e : Expr} {op : CmpOp} (h : noSet e = true) : behindInMarks op e = false := by
  cases e <;> first | rfl | (simp [noSet] at h)
theorem plainIx_of {e : Expr} (h : noSl e = true) : PlainIx e := by
  intro o i
  cases e <;> first | rfl | (simp [noSl] at h)
theorem sup_of {e : Expr} {f : Str} {env : Env} {whole : Sem Value} (h : noSup e = true) : attributeBase e f env whole = whole := by
  cases e with
  | Call g args kws pos =>
    cases g with
    | Name id p =>
      cases args with
      | cons a r => rfl
      | nil =>
        cases kws with
        | cons a r => rfl
        | nil => exact absurd (show false = true from h) Bool.false_ne_true
    | _ => rfl
  | _ => rfl

/-! ### targets -/
section
variable {cl : Wd} {C : Calls} {X : Cx}
/-- alike but at some slots -/
def Agr (is : List Nat) (σ σ' : L2.St) : Prop := σ'.length = σ.length ∧ ∀ j, j ∉ is → σ'[j]? = σ[j]?
def rdG (cl : Wd) (tg : Tg) : TG := fun v σ H Q => ∃ G al S τ m, Rl cl G al S H ∧ RepS cl G al S.length σ τ ∧ RepM cl G al S.length v m ∧ ∃ τ', bindTg tg τ m = some τ' ∧ ∀ σ', RepS cl G al S.length σ' τ' → Agr tg.sl σ σ' → Q σ' H
theorem RepS.set {G : Hp} {al : Nat → Addr} {n : Nat} {σ : L2.St} {τ : Slots} (h : RepS cl G al n σ τ) {v : V} {m : MV} (r : RepM cl G al n v m) (i : Nat) : RepS cl G al n (σ.set i (some v)) (τ.set i (some m)) := by
  refine ⟨by simp [h.1], fun j m' e => ?_⟩
  by_cases hj : i = j
  · subst hj
    by_cases hi : i < τ.length
    · rw [List.getElem?_set_self hi] at e
      cases e
      exact ⟨v, by rw [List.getElem?_set_self (by rw [h.1]; exact hi)], r⟩
    · rw [List.getElem?_eq_none (by simpa using Nat.le_of_not_lt hi)] at e; cases e
  · rw [List.getElem?_set_ne hj] at e ⊢
    exact h.2 j m' e
theorem RepS.wipe {G : Hp} {al : Nat → Addr} {n : Nat} : ∀ (is : List Nat) {σ : L2.St} {τ : Slots}, RepS cl G al n σ τ → RepS cl G al n (L2.wipe σ is) (wipeM τ is)
  | [], _, _, h => h
  | i :: is, σ, τ, h => by
    have ih := RepS.wipe is h
    show RepS cl G al n ((L2.wipe σ is).set i none) ((wipeM τ is).set i none)
    refine ⟨by simp [ih.1], fun j m e => ?_⟩
    by_cases hj : i = j
    · subst hj
      by_cases hi : i < (wipeM τ is).length
      · rw [List.getElem?_set_self hi] at e; cases e
      · rw [List.getElem?_eq_none (by simpa using Nat.le_of_not_lt hi)] at e; cases e
    · rw [List.getElem?_set_ne hj] at e ⊢
      exact ih.2 j m e
def gAll : List Nat → TGs
  | [] => gNil
  | i :: is => gCons (gName i) (gAll is)
theorem nm_of {i : Nat} {x : Str} (h : nmC X.fn X.N X.env.scope i x = true) : X.N[i]? = some x ∧ L2.Loc X.env.scope x ∧ (X.fn x = true ∨ X.env.scope.names.lookup x = some .local) := by
  simp only [nmC, Bool.and_eq_true, Bool.or_eq_true, decide_eq_true_eq] at h
  exact ⟨h.1.1, loc_of h.1.2, h.2⟩
theorem pgs_all (nd : X.N.Nodup) : ∀ (is : List Nat) (xs : List Expr), tgNames X.fn X.N X.env.scope is xs = true → PGs X xs (gAll is) ∧ (assignEach xs X.env).length = is.length ∧ (assignEach xs X.env).findIdx? (·.1) = none
  | [], [], _ => ⟨pgs_nil, rfl, rfl⟩
  | [], _ :: _, h => by simp [tgNames] at h
  | _ :: _, [], h => by simp [tgNames] at h
  | i :: is, x :: xs, h => by
    cases x with
    | Name x p =>
      simp only [tgNames, Bool.and_eq_true] at h
      obtain ⟨h1, h3⟩ := h
      obtain ⟨g1, g2, g3⟩ := pgs_all nd is xs h3
      obtain ⟨n1, n2, n3⟩ := nm_of h1
      refine ⟨pgs_cons (pg_name nd n1 n2 n3) g1 rfl, ?_, ?_⟩
      · show (assignEach xs X.env).length + 1 = is.length + 1
        rw [g2]
      · show List.findIdx? (·.1) ((false, assign (.Name x p) X.env) :: assignEach xs X.env) = none
        rw [List.findIdx?_cons]
        simp [g3]
    | _ => simp [tgNames] at h
theorem gAll_ok {G : Hp} {al : Nat → Addr} {n : Nat} {H : Hp} : ∀ (is : List Nat) {vs : List V} {ms : List MV} {σ : L2.St} {τ : Slots} {Q : L2.St → Hp → Prop}, RepMs cl G al n vs ms → ms.length = is.length → RepS cl G al n σ τ → (∀ σ', RepS cl G al n σ' (setAll τ is ms) → Agr is σ σ' → Q σ' H) → gAll is vs σ H Q
  | [], _, _, _, _, _, .nil, _, rs, q => ⟨rfl, q _ rs ⟨rfl, fun _ _ => rfl⟩⟩
  | [], _, _, _, _, _, .cons _ _, e, _, _ => by simp at e
  | i :: is, _, _, _, _, _, .nil, e, _, _ => by simp at e
  | i :: is, _, _, _, _, _, .cons h r, e, rs, q => ⟨_, _, rfl, gAll_ok is r (by simpa using e) (rs.set h i) fun σ' rs' ag => q σ' rs' ⟨ag.1.trans (List.length_set ..), fun j hj => by
      simp only [List.mem_cons, not_or] at hj
      rw [ag.2 j hj.2, List.getElem?_set_ne (Ne.symm hj.1)]⟩⟩
theorem pg_tg {tg : Tg} {t : Expr} (nd : X.N.Nodup) (hc : X.calm = true) (hK : X.K = cl.K) (h : sameTg X.fn X.N X.env.scope tg t = true) : PG X t (rdG cl tg) := by
  cases tg with
  | nm i =>
    cases t with
    | Name x p =>
      simp only [sameTg] at h
      obtain ⟨n1, n2, n3⟩ := nm_of h
      refine PG.imp (pg_name nd n1 n2 n3) fun v σ H Q ⟨G, al, S, τ, m, rl, rs, rm, τ', e, q⟩ => ?_
      cases e
      exact q _ (rs.set rm i) ⟨List.length_set .., fun j hj => by
        have : j ≠ i := by simpa [Tg.sl] using hj
        rw [List.getElem?_set_ne (Ne.symm this)]⟩
    | _ => simp [sameTg] at h
  | tp is =>
    cases t with
    | Tuple xs kk p =>
      simp only [sameTg] at h
      obtain ⟨g1, g2, g3⟩ := pgs_all nd is xs h
      refine PG.imp (pg_tup hc g1 g2 g3) fun v σ H Q ⟨G, al, S, τ, m, rl, rs, rm, τ', e, q⟩ => ?_
      simp only [bindTg] at e
      split at e
      · rename_i ms em
        split at e
        · rename_i hl
          cases e
          cases rm with
          | d h =>
            cases h with
            | tup h r =>
              simp only [tupItems, Option.some.injEq] at em; subst em
              refine ⟨_, _, rfl, SqT.of (rl.ex _ _ h), ?_, gAll_ok is (.ofL r) hl rs q⟩
              rw [r.length]; simpa using hl
            | _ => simp [tupItems] at em
          | c _ _ => simp [tupItems] at em
          | t h r =>
            simp only [tupItems, Option.some.injEq] at em; subst em
            exact ⟨_, _, rfl, SqT.of (rl.ex _ _ h), by rw [r.length]; exact hl, gAll_ok is r hl rs q⟩
        · cases e
      · cases e
    | _ => simp [sameTg] at h
end
end Mi
namespace Mi
open PySem L2 PyProof.Rows

/-! ### what is walked -/
/-- the iterator J gives the items ms, from the state (G, al, n) on -/
def Jw (cl : Wd) (J : L2.It) (G : Hp) (al : Nat → Addr) (n : Nat) (ms : List MV) : Prop :=
  ∀ (i : Nat) (G' : Hp) (al' : Nat → Addr) (S' : Sto) (H' : Hp), Rl cl G' al' S' H' → Ex G G' → n ≤ S'.length → (∀ j, j < n → al' j = al j) →
    (∀ m, ms[i]? = some m → J.go i H' ∧ ∀ x H'', J.yld i H' x H'' → ∃ G'', Gr G' al' S' H' G'' al' S' H'' ∧ Rl cl G'' al' S' H'' ∧ RepM cl G'' al' S'.length x m) ∧ (ms.length ≤ i → J.stop i H')
def rdI (cl : Wd) (W : WX) (f : Slots → Sto → R (List MV)) : TI := fun σ H Rr => ∃ G al S τ, Rl cl G al S H ∧ RepS cl G al S.length σ τ ∧
  Pst cl G al S H (f τ S) (fun G' al' S' H' ms => ∀ J, Jw cl J G' al' S'.length ms → Rr J H') (WE W σ)
section
variable {cl : Wd} {G : Hp} {al : Nat → Addr} {n : Nat} {vs : List V} {ms : List MV} {a : Addr}
theorem jw_list {K : PySem.W.Frag} (h : G a = some (.lst vs)) (r : RepMs cl G al n vs ms) : Jw cl (Itl K a) G al n ms := by
  intro i G' al' S' H' rl e hn ha
  have hH : H' a = some (.lst vs) := rl.ex _ _ (e _ _ h)
  refine ⟨fun m em => ?_, fun hl => ⟨vs, SqL.of hH, by rw [r.length]; exact hl⟩⟩
  obtain ⟨v, e1, r1⟩ := r.get em
  refine ⟨⟨vs, v, SqL.of hH, e1⟩, fun x H'' y => ?_⟩
  obtain ⟨e2, y⟩ := y
  subst e2
  have := y vs (SqL.of hH)
  rw [e1] at this
  cases this
  exact ⟨G', Gr.refl, rl, r1.mono e hn ha⟩
theorem jw_tup {K : PySem.W.Frag} (h : G a = some (.tup vs)) (r : RepMs cl G al n vs ms) : Jw cl (Itt K a) G al n ms := by
  intro i G' al' S' H' rl e hn ha
  have hH : H' a = some (.tup vs) := rl.ex _ _ (e _ _ h)
  refine ⟨fun m em => ?_, fun hl => ⟨vs, SqT.of hH, by rw [r.length]; exact hl⟩⟩
  obtain ⟨v, e1, r1⟩ := r.get em
  refine ⟨⟨vs, v, SqT.of hH, e1⟩, fun x H'' y => ?_⟩
  obtain ⟨e2, y⟩ := y
  subst e2
  have := y vs (SqT.of hH)
  rw [e1] at this
  cases this
  exact ⟨G', Gr.refl, rl, r1.mono e hn ha⟩
theorem jw_range {lo : Int} {hi : Int} : Jw cl (Itr lo (hi - lo).toNat) G al n (rangeL lo hi) := by
  intro i G' al' S' H' rl e hn ha
  have hlen : (rangeL lo hi).length = (hi - lo).toNat := by simp [rangeL]
  refine ⟨fun m em => ?_, fun hl => by rw [hlen] at hl; exact hl⟩
  have hlt : i < (hi - lo).toNat := by
    have := (List.getElem?_eq_some_iff.mp em).1
    rw [hlen] at this; exact this
  refine ⟨hlt, fun x H'' y => ?_⟩
  obtain ⟨e2, y⟩ := y
  subst e2 y
  have em' : m = .d (.int (lo + (i : Int))) := by
    simp only [rangeL, List.getElem?_map, List.getElem?_range hlt, Option.map_some, Option.some.injEq] at em
    exact em.symm
  subst em'
  exact ⟨G', Gr.refl, rl, .d (.int _)⟩
end

/-- walked: a list or tuple, frozen -/
theorem walked_ok {cl : Wd} {G H : Hp} {al : Nat → Addr} {S : Sto} {v : V} {m : MV} {ok : Hp → (Nat → Addr) → Sto → Hp → List MV → Prop} {E : XK} (rl : Rl cl G al S H) (h : RepM cl G al S.length v m) (q : Pst cl G al S H (walked m S) ok E) :
    ∃ G' S' ms a vs, walked m S = .ok ms S' ∧ Gr G al S H G' al S' H ∧ Rl cl G' al S' H ∧ v = .ref a ∧ (G' a = some (.lst vs) ∨ G' a = some (.tup vs)) ∧ RepMs cl G' al S'.length vs ms := by
  unfold walked at q ⊢
  split at q
  · rename_i ms
    cases h with
    | t h r => exact ⟨G, S, ms, _, _, rfl, Gr.refl, rl, rfl, .inr h, r⟩
  · obtain ⟨G1, S1, d, e1, g1, rl1, r1⟩ := freeze_ok 4 rl h q.bind
    rw [e1] at q ⊢
    simp only [R.bind_ok] at q ⊢
    cases d with
    | lst xs => cases r1 with | lst h2 r => exact ⟨G1, S1, _, _, _, rfl, g1, rl1, rfl, .inl h2, .ofL r⟩
    | tup xs => cases r1 with | tup h2 r => exact ⟨G1, S1, _, _, _, rfl, g1, rl1, rfl, .inr h2, .ofL r⟩
    | _ => exact q.elim

section
variable {X : Cx} {cl : Wd} {W : WX} {tg : Expr}
theorem pi_seq {e : Expr} {f : Slots → Sto → R MV} (hK : X.K = cl.K) (he : PE X e (rd cl W f)) : PI X tg e (rdI cl W fun τ S => (f τ S).bind fun v S1 => walked v S1) := by
  refine ⟨fun pins s σ H Rr I h => ?_⟩
  obtain ⟨G, al, S, τ, rl, rs, p⟩ := h
  have q : rd cl W f σ H (fun v H1 => ∃ a vs, v = .ref a ∧ ((H1 a = some (.lst vs) ∧ Rr (Itl X.K a) H1) ∨ (H1 a = some (.tup vs) ∧ Rr (Itt X.K a) H1))) := by
    refine ⟨G, al, S, τ, rl, rs, p.bind.imp fun G1 al1 S1 H1 m g1 rl1 q v rm => ?_⟩
    obtain ⟨G2, S2, ms, a, vs, e2, g2, rl2, ev, hv, r2⟩ := walked_ok rl1 rm q
    rw [e2] at q
    have fin := q G2 al1 H1 g2 rl2
    refine ⟨a, vs, ev, ?_⟩
    rcases hv with hv | hv
    · exact .inl ⟨rl2.ex _ _ hv, fin _ (jw_list hv r2)⟩
    · exact .inr ⟨rl2.ex _ _ hv, fin _ (jw_tup hv r2)⟩
  refine thn (he.run pins s σ H _ I q) fun v s1 ⟨x, H1, I1, r1, a, vs, ex, q1⟩ => ?_
  subst ex
  cases r1
  rcases q1 with ⟨hv, q1⟩ | ⟨hv, q1⟩
  · obtain ⟨its, rv, p, hz⟩ := I1.list (SqL.of hv)
    refine wpAny_pyIter_list p.isList ?_
    refine ⟨s1.heap.objs.size, [s1.heap.objs.size], _, _, H1, rfl, I1.kept (t' := s1.toks) fun b o e => Heap.get?_push_of_some _ e, turn_list a _, ⟨_, Heap.get?_push_size _ rfl, rfl, rfl⟩, fun b hb => ?_, q1⟩
    have e : b = s1.heap.objs.size := by simpa using hb
    subst e
    exact I1.fpOk (Nat.le_refl _) (I1.hok.fresh (Nat.le_refl _))
  · obtain ⟨its, rv, p, hz⟩ := I1.tuple (SqT.of hv)
    refine wpAny_pyIter_tuple (show s1.heap.IsTuple a its.toArray from p) ?_
    refine ⟨s1.heap.objs.size, [s1.heap.objs.size], _, _, H1, rfl, I1.kept (t' := s1.toks) fun b o e => Heap.get?_push_of_some _ e, turn_tuple a _, ⟨_, Heap.get?_push_size _ rfl, rfl, rfl⟩, fun b hb => ?_, q1⟩
    have e : b = s1.heap.objs.size := by simpa using hb
    subst e
    exact I1.fpOk (Nat.le_refl _) (I1.hok.fresh (Nat.le_refl _))
end

/-! ### a place that the state does not know (the list that a comprehension fills) -/
section
variable {cl : Wd} {G G0 : Hp} {al al0 : Nat → Addr} {S S0 : Sto} {H H0 : Hp} {p : Addr} {o : HO}
def Out (G : Hp) (al : Nat → Addr) (S : Sto) (p : Addr) : Prop := G p = none ∧ ∀ i, Lv S i → al i ≠ p
theorem Out.of (rl : Rl cl G al S H) (hp : H p = none) : Out G al S p := ⟨rl.ex.back hp, fun i ⟨c, e, l⟩ z => by
  obtain ⟨_, u, h2, _⟩ := rl.live i c e l
  rw [z, hp] at h2; cases h2⟩
theorem Out.gr {G' : Hp} {al' : Nat → Addr} {S' : Sto} {H' : Hp} (x : Out G al S p) (h : H p = some o) (g : Gr G al S H G' al' S' H') : Out G' al' S' p ∧ H' p = some o := by
  refine ⟨⟨?_, fun i l z => ?_⟩, g.fr p o h x.2⟩
  · cases q : G' p with
    | none => rfl
    | some u =>
      rcases g.new p x.1 (by rw [q]; simp) with z | ⟨i, l, z⟩
      · rw [h] at z; cases z
      · exact absurd z (x.2 i l)
  · rcases g.lv i l with l' | ⟨_, l'⟩
    · exact x.2 i l' ((g.at_ i l'.lt).symm.trans z)
    · rw [z, h] at l'; cases l'
theorem Rl.out (rl : Rl cl G al S H) (x : Out G al S p) : Rl cl G al S (upd H p o) where
  ex := fun a u h => by rw [upd_ne (ne_of_none h x.1)]; exact rl.ex a u h
  live := fun i c e l => by
    obtain ⟨h1, u, h2, h3⟩ := rl.live i c e l
    exact ⟨h1, u, by rw [upd_ne (x.2 i ⟨c, e, l⟩)]; exact h2, h3⟩
  froz := rl.froz
  inj := rl.inj
theorem Gr.out (g : Gr G0 al0 S0 H0 G al S H) (hp : H0 p = none) : Gr G0 al0 S0 H0 G al S (upd H p o) where
  fz := g.fz
  len := g.len
  at_ := g.at_
  lv := g.lv
  fr := fun a u h hn => by rw [upd_ne (ne_of_none h hp)]; exact g.fr a u h hn
  dom := fun a h => by
    by_cases e : a = p
    · rw [e]; exact hp
    · rw [upd_ne e] at h; exact g.dom a h
  new := g.new
/-- such a place is taken in: frozen, or as a cell -/
theorem Rl.inG (rl : Rl cl G al S H) (x : Out G al S p) (h : H p = some o) : Rl cl (upd G p o) al S H where
  ex := fun a u e => by
    by_cases ea : a = p
    · subst ea; rw [upd_same] at e; cases e; exact h
    · rw [upd_ne ea] at e; exact rl.ex a u e
  live := fun i c e l => by
    obtain ⟨h1, u, h2, h3⟩ := rl.live i c e l
    exact ⟨by rw [upd_ne (x.2 i ⟨c, e, l⟩)]; exact h1, u, h2, h3.mono (Ex.new x.1) (Nat.le_refl _) fun _ _ => rfl⟩
  froz := fun i d e => (rl.froz i d e).mono (Ex.new x.1)
  inj := rl.inj
theorem Gr.inG (g : Gr G0 al0 S0 H0 G al S H) (x : Out G al S p) (hp : H0 p = none) : Gr G0 al0 S0 H0 (upd G p o) al S H where
  fz := g.fz.trans (Ex.new x.1)
  len := g.len
  at_ := g.at_
  lv := g.lv
  fr := g.fr
  dom := g.dom
  new := fun a h h' => by
    by_cases ea : a = p
    · rw [ea]; exact .inl hp
    · rw [upd_ne ea] at h'; exact g.new a h h'
theorem Rl.inC (rl : Rl cl G al S H) (x : Out G al S p) (h : H p = some o) {c : Cell} (hl : c.live = true) (hc : RepC cl G al S.length o c) : Rl cl G (alw al S.length p) (S ++ [c]) H where
  ex := rl.ex
  live := fun i d e l => by
    have hlen : S.length ≤ (S ++ [c]).length := by simp
    rcases Lv.snoc ⟨d, e, l⟩ with h' | ⟨h', _⟩
    · have hi := h'.lt
      rw [List.getElem?_append_left hi] at e
      obtain ⟨h1, u, h2, h3⟩ := rl.live i d e l
      rw [alw_at hi]
      exact ⟨h1, u, h2, h3.mono (Ex.refl _) hlen fun j hj => alw_at hj⟩
    · subst h'
      rw [List.getElem?_concat_length] at e
      cases e
      rw [alw_new]
      exact ⟨x.1, o, h, hc.mono (Ex.refl _) hlen fun j hj => alw_at hj⟩
  froz := fun i d e => by
    by_cases hi : i < S.length
    · rw [List.getElem?_append_left hi] at e
      rw [alw_at hi]
      exact rl.froz i d e
    · have hl' : i < (S ++ [c]).length := (List.getElem?_eq_some_iff.mp e).1
      have : i = S.length := by simp at hl'; omega
      subst this
      rw [List.getElem?_concat_length] at e
      cases e
      cases hl
  inj := fun i j hi hj e => by
    rcases Lv.snoc hi with h' | ⟨h', _⟩
    · rcases Lv.snoc hj with h'' | ⟨h'', _⟩
      · rw [alw_at h'.lt, alw_at h''.lt] at e; exact rl.inj i j h' h'' e
      · subst h''
        rw [alw_at h'.lt, alw_new] at e
        exact absurd e (x.2 i h')
    · subst h'
      rcases Lv.snoc hj with h'' | ⟨h'', _⟩
      · rw [alw_at h''.lt, alw_new] at e
        exact absurd e.symm (x.2 j h'')
      · exact h''.symm
theorem Gr.inC (g : Gr G0 al0 S0 H0 G al S H) {c : Cell} (hp : H0 p = none) : Gr G0 al0 S0 H0 G (alw al S.length p) (S ++ [c]) H where
  fz := g.fz
  len := Nat.le_trans g.len (by simp)
  at_ := fun i h => (alw_at (Nat.lt_of_lt_of_le h g.len)).trans (g.at_ i h)
  lv := fun i h => by
    rcases Lv.snoc h with h | ⟨h, _⟩
    · rw [alw_at h.lt]; exact g.lv i h
    · subst h; exact .inr ⟨g.len, by rw [alw_new]; exact hp⟩
  fr := g.fr
  dom := g.dom
  new := g.new
/-- the list is done: newL over a place that is filled -/
theorem newL_in {cell : Bool} {ms : List MV} {vs : List V} {E : XK} {Q : VK} (rl : Rl cl G al S H) (x : Out G al S p) (h : H p = some (.lst vs)) (r : RepMs cl G al S.length vs ms) (g : Gr G0 al0 S0 H0 G al S H) (hp : H0 p = none)
    (q : Pst cl G0 al0 S0 H0 (newL cell ms S) (Vk cl Q) E) : Q (.ref p) H := by
  unfold newL at q
  split at q
  · have cellq : Pst cl G0 al0 S0 H0 (.ok (.c S.length) (S ++ [.lst ms])) (Vk cl Q) E → Q (.ref p) H := fun q => by
      refine q _ (alw al S.length p) _ (g.inC hp) (rl.inC x h rfl (.lst r)) _ ?_
      have := RepM.c (cl := cl) (G := G) (al := alw al S.length p) (n := (S ++ [Cell.lst ms]).length) S.length (by simp)
      rw [alw_new] at this
      exact this
    split at q
    · exact cellq q
    · split at q
      · rename_i ds ed
        exact q _ _ _ (g.inG x hp) (rl.inG x h) _ (.d (.lst upd_same ((r.all ed).mono (Ex.new x.1))))
      · exact cellq q
  · exact q.elim
end

/-! ### the comprehension -/
section
variable {cl : Wd} {W : WX}
theorem wipe_get : ∀ (is : List Nat) (σ : L2.St) (j : Nat), (L2.wipe σ is)[j]? = if j ∈ is ∧ j < σ.length then some none else σ[j]? := by
  intro is
  induction is with
  | nil => intro σ j; simp [L2.wipe]
  | cons i is ih =>
    intro σ j
    show ((L2.wipe σ is).set i none)[j]? = _
    rw [List.getElem?_set]
    by_cases hij : i = j
    · subst hij
      by_cases hl : i < σ.length
      · simp [wipe_length, hl]
      · simp [wipe_length, hl]
    · rw [if_neg hij, ih]
      have : j ≠ i := fun z => hij z.symm
      simp [this]
theorem wipe_agr {is vs : List Nat} {σ σ' : L2.St} (a : Agr is (L2.wipe σ vs) σ') (h : ∀ j ∈ is, j ∈ vs) : L2.wipe σ' vs = L2.wipe σ vs := by
  have hl : σ'.length = σ.length := a.1.trans (wipe_length σ vs)
  apply List.ext_getElem?
  intro j
  rw [wipe_get, hl]
  by_cases hj : j ∈ vs ∧ j < σ.length
  · rw [if_pos hj, wipe_get, if_pos hj]
  · rw [if_neg hj]
    by_cases hv : j ∈ vs
    · have : ¬ j < σ.length := fun z => hj ⟨hv, z⟩
      rw [List.getElem?_eq_none (by omega), List.getElem?_eq_none (by rw [wipe_length]; omega)]
    · exact a.2 j fun z => hv (h j z)

theorem lcGo_end {fe : Slots → Sto → R MV} {tg : Tg} {σ : Slots} : ∀ (xs acc : List MV) (S : Sto), lcGo fe tg σ xs acc S = .stuck ∨ ∃ ys S', lcGo fe tg σ xs acc S = .ok ys S' ∧ acc.length ≤ ys.length
  | [], acc, S => .inr ⟨acc.reverse, S, rfl, by simp⟩
  | x :: xs, acc, S => by
    simp only [lcGo]
    split
    · split
      · rename_i y S1 _
        rcases lcGo_end (fe := fe) (tg := tg) (σ := σ) xs (y :: acc) S1 with h | ⟨ys, S', h, hl⟩
        · exact .inl h
        · exact .inr ⟨ys, S', h, by simp at hl; omega⟩
      · exact .inl rfl
    · exact .inl rfl
theorem lcGo_sz {fe : Slots → Sto → R MV} {tg : Tg} {τ : Slots} {xs acc : List MV} {y : MV} {S S0 : Sto} {cell : Bool} {G : Hp} {al : Nat → Addr} {H : Hp} {ok : Hp → (Nat → Addr) → Sto → Hp → MV → Prop} {E : XK}
    (q : Pst cl G al S0 H ((lcGo fe tg τ xs (y :: acc) S).bind fun ys S2 => newL cell ys S2) ok E) : acc.length < sizeLine := by
  rcases lcGo_end (fe := fe) (tg := tg) (σ := τ) xs (y :: acc) S with h | ⟨ys, S', h, hl⟩
  · rw [h] at q; exact q.elim
  · rw [h] at q
    simp only [R.bind_ok, newL] at q
    split at q
    · rename_i hz
      have := sz_ok hz
      simp at hl
      omega
    · exact q.elim
/-- the comprehension: from its items on -/
theorem lc_of {fi : Slots → Sto → R (List MV)} {fe : Slots → Sto → R MV} {tg : Tg} {vs : List Nat} {cell : Bool} {σ : L2.St} {H : Hp} {Q : VK} (hs : ∀ j ∈ tg.sl, j ∈ vs)
    (h : rd cl W (fun τ S => (fi τ S).bind fun ms S1 => (lcGo fe tg (wipeM τ vs) ms [] S1).bind fun ys S2 => newL cell ys S2) σ H Q) :
    tLc (rdI cl W fi) (rdG cl tg) tYes (rd cl W0 fe) vs σ H Q := by
  obtain ⟨G0, al0, S0, τ, rl0, rs0, p⟩ := h
  refine ⟨G0, al0, S0, τ, rl0, rs0, p.bind.imp fun G1 al1 S1 H1 ms g1 rl1 q J jw => fun D hD => ?_⟩
  have rs1 : RepS cl G1 al1 S1.length (L2.wipe σ vs) (wipeM τ vs) := (rs0.gr g1).wipe vs
  have jw' := jw
  -- the state at turn i: acc made (backwards), the rest of the walk meets what is wanted
  refine ⟨fun i m H' => ∃ G al S acc av, m = ms.length - i ∧ i ≤ ms.length ∧ Gr G1 al1 S1 H1 G al S H' ∧ Rl cl G al S H' ∧ Out G al S D ∧ H' D = some (.lst av) ∧ RepMs cl G al S.length av acc.reverse ∧
      Pst cl G1 al1 S1 H1 ((lcGo fe tg (wipeM τ vs) (ms.drop i) acc S).bind fun ys S2 => newL cell ys S2) (Vk cl Q) (WE W σ), ?_, ?_⟩
  · refine ⟨ms.length, G1, al1, S1, [], [], by simp, Nat.zero_le _, Gr.refl.out hD, rl1.out (Out.of rl1 hD), Out.of rl1 hD, upd_same, .nil, ?_⟩
    rw [List.drop_zero]; exact q
  · rintro i m H' ⟨G, al, S, acc, av, rfl, hi, g, rl, out, hv, ra, q⟩
    obtain ⟨jgo, jst⟩ := jw' i G al S H' rl g.fz g.len g.at_
    by_cases hlt : i < ms.length
    · right
      have e1 : ms[i]? = some ms[i] := List.getElem?_eq_getElem hlt
      rw [List.drop_eq_getElem_cons hlt] at q
      obtain ⟨go, jy⟩ := jgo _ e1
      refine ⟨go, fun H2 => ∃ m', m' < ms.length - i ∧ ∃ G al S acc av, m' = ms.length - (i + 1) ∧ i + 1 ≤ ms.length ∧ Gr G1 al1 S1 H1 G al S H2 ∧ Rl cl G al S H2 ∧ Out G al S D ∧ H2 D = some (.lst av) ∧ RepMs cl G al S.length av acc.reverse ∧
        Pst cl G1 al1 S1 H1 ((lcGo fe tg (wipeM τ vs) (ms.drop (i + 1)) acc S).bind fun ys S2 => newL cell ys S2) (Vk cl Q) (WE W σ), fun H2 h2 => h2, fun x H'' y => ?_⟩
      obtain ⟨G2, g2, rl2, rx⟩ := jy x H'' y
      obtain ⟨out2, hv2⟩ := out.gr hv g2
      have g02 := g.trans g2
      simp only [lcGo] at q
      split at q
      · rename_i τ1 eb
        refine ⟨G2, al, S, wipeM τ vs, ms[i], rl2, rs1.gr g02, rx, τ1, eb, fun σ2 rs2 ag => ?_⟩
        refine ⟨wipe_agr ag hs, ?_⟩
        dsimp only [tYes]
        rw [if_pos rfl]
        refine ⟨G2, al, S, τ1, rl2, rs2, ?_⟩
        split at q
        · rename_i y S3 ey
          rw [ey]
          intro G3 al3 H3 g3 rl3 v rv
          obtain ⟨out3, hv3⟩ := out2.gr hv2 g3
          have hz : av.length < sizeLine := by
            rw [ra.length, List.length_reverse]
            exact lcGo_sz q
          refine ⟨av, hv3, hz, ms.length - (i + 1), by omega, G3, al3, S3, y :: acc, av ++ [v], rfl, hlt, (g02.trans g3).out hD, rl3.out out3, out3, upd_same, ?_, q⟩
          rw [List.reverse_cons]
          exact ((ra.gr g2).gr g3).append (.cons rv .nil)
        · exact q.elim
      · exact q.elim
    · left
      have hi' : i = ms.length := by omega
      subst hi'
      refine ⟨jst (Nat.le_refl _), ?_⟩
      rw [List.drop_length] at q
      simp only [lcGo, R.bind_ok] at q
      exact newL_in rl out hv ra g hD q
end
end Mi
namespace Mi
open PySem L2 PyProof.Rows

section
variable {X : Cx} {cl : Wd} {W : WX}
/-- operations whose wish hangs on the slots -/
theorem pe_opE {a b : Expr} {ta tb : TE} {op : Operator} {r : XK → R2} {pos : Pos} (ho : ∀ E, OpR X (binaryOp op) (r E)) (ha : PE X a ta) (hb : PE X b tb) : PE X (.BinOp a op b pos) (fun σ H Q => tOp (r (WE W σ)) ta tb σ H Q) :=
  ⟨fun pins s σ H Q I h => (pe_op (ho (WE W σ)) ha hb).run pins s σ H Q I h⟩
theorem pe_unE {a : Expr} {ta : TE} {op : UnaryOp} {r : XK → V → Hp → VK → Prop} {pos : Pos} (ho : ∀ E, UnR X (unaryOp op) (r E)) (ha : PE X a ta) : PE X (.UnaryOp op a pos) (fun σ H Q => tUn (r (WE W σ)) ta σ H Q) :=
  ⟨fun pins s σ H Q I h => (pe_un (ho (WE W σ)) ha).run pins s σ H Q I h⟩
theorem pe_cmpE {a b : Expr} {ta tb : TE} {op : CmpOp} {r : XK → R2} {pos : Pos} (ho : ∀ E, OpR X (compareOp op) (r E)) (ha : PE X a ta) (hb : PE X b tb) (hm : behindInMarks op b = false) : PE X (.Compare a [op] [b] pos) (fun σ H Q => tOp (r (WE W σ)) ta tb σ H Q) :=
  ⟨fun pins s σ H Q I h => (pe_cmpR (ho (WE W σ)) ha hb hm).run pins s σ H Q I h⟩
theorem pt_cmpE {a b : Expr} {ta tb : TE} {op : CmpOp} {r : XK → R2} {pos : Pos} (ho : ∀ E, OpR X (compareOp op) (r E)) (ha : PE X a ta) (hb : PE X b tb) (hm : behindInMarks op b = false) : PT X (.Compare a [op] [b] pos) (fun σ H Q => tTest (tOp (r (WE W σ)) ta tb) σ H Q) :=
  ⟨fun pins s σ H Q I h => (pt_cmpR (ho (WE W σ)) ha hb hm).run pins s σ H Q I h⟩
theorem pe_ixE {a b : Expr} {ta tb : TE} {r : XK → R2} {pos : Pos} (ho : ∀ E, IxR X (r E)) (ha : PE X a ta) (hb : PE X b tb) (hm : PlainIx b) : PE X (.Subscript a b pos) (fun σ H Q => tOp (r (WE W σ)) ta tb σ H Q) :=
  ⟨fun pins s σ H Q I h => (pe_ix (ho (WE W σ)) ha hb hm).run pins s σ H Q I h⟩

theorem any_back {X : Cx} {pos : Pos} : ∀ {es : List Expr}, (∀ e ∈ es, noStar e = true) → (backTo pos (starEach es X.env)).any (·.1) = false
  | [], _ => rfl
  | e :: es, h => by
    rw [star_of (h e (by simp))]
    show (false || (backTo pos (starEach es X.env)).any (·.1)) = false
    rw [any_back fun e he => h e (by simp [he])]
    rfl

/-- a test of any expression that is no test by its form -/
theorem tt_of {f : Slots → Sto → R MV} {K : PySem.W.Frag} (hK : K = cl.K) {σ : L2.St} {H : Hp} {Q : Bool → Hp → Prop} (h : rdT cl W (fun τ S => (f τ S).bind fun v S1 => R.opt (truth S1 v) S1) σ H Q) :
    rd cl W f σ H fun x H' => ∃ k, TruV K x H' k ∧ Q k H' := by
  obtain ⟨G, al, S, τ, rl, rs, p⟩ := h
  refine ⟨G, al, S, τ, rl, rs, p.bind.imp fun G1 al1 S1 H1 m g rl1 q v rv => ?_⟩
  cases e : truth S1 m with
  | none => rw [e] at q; exact q.elim
  | some k =>
    rw [e] at q
    exact ⟨k, by rw [hK]; exact truth_ok rl1 rv e, q.now rl1⟩
theorem PT.ife {t a b : Expr} {tt ta tb : TT} {pos : Pos} (ht : PT X t tt) (ha : PT X a ta) (hb : PT X b tb) : PT X (.IfExp t a b pos) (fun σ H Q => tt σ H fun k H1 => if k = true then ta σ H1 Q else tb σ H1 Q) := by
  refine ⟨fun pins s σ H Q I h => ?_⟩
  show wpAny _ _ (PySem.isTrue t X.env (eval t X.env) >>= fun k => if k = true then PySem.isTrue a X.env (eval a X.env) else PySem.isTrue b X.env (eval b X.env)) _ _ _
  refine wpAny_bind (thn (ht.run pins s σ H _ I h) fun k s1 ⟨H1, I1, q⟩ => ?_)
  cases k with
  | true => exact ha.run pins s1 σ H1 Q I1 q
  | false => exact hb.run pins s1 σ H1 Q I1 q
theorem PT.toPW {op : BoolOp} {es : List Expr} {pos : Pos} {t : TT} (h : PT X (.BoolOp op es pos) t) : PW X (.BoolOp op es pos) t := ⟨fun _ pins s σ H Q I q => h.run pins s σ H Q I q⟩
end

/-- a call of a def -/
theorem pe_def {fs : List String} {cl : Wd} {C : Calls} {X : Cx} {W : WX} {k : Nat} (c : Ctx fs cl C X W k) {raw : Bool} {f : String} {xs : List Expr} {p pos : Pos} {fa : Slots → Sto → R (List MV)} (hf : fs.contains f = true) (hg : Gl X (Str.ofString f)) (hp : plainN (Str.ofString f) = true)
    (ha : PA X xs (rdA cl W fa)) (hst : ∀ e ∈ xs, noStar e = true) (h0 : xs = [] → fa = fun _ S => .ok [] S) : PE X (.Call (.Name (Str.ofString f) p) xs [] pos) (rd cl W fun τ S => (fa τ S).bind fun ms S1 => C raw f ms S1) := by
  obtain ⟨a, fd, ps, hm, hk, hb, F⟩ := c.pf.call raw f hf
  have hd := (plain_of hp).1
  have hx : ∀ σ, PassesAt (CX X.prog X.w) X σ (WE W σ) := fun σ => passAt c.takes σ
  refine ⟨fun pins s σ H Q I h => ?_⟩
  refine wpAny_Call_Name_kw (ld_glob I hg hm ?_ hd)
  have q : rdA cl W fa σ H fun vs H1 => rN cl (WE W σ) (C raw f) vs H1 Q := by
    obtain ⟨G, al, S, τ, rl, rs, p⟩ := h
    exact ⟨G, al, S, τ, rl, rs, p.bind.imp fun G1 al1 S1 H1 ms g rl1 q vs rv => ⟨G1, al1, S1, ms, rl1, rv, q⟩⟩
  cases xs with
  | nil =>
    have q1 : rN cl (WE W σ) (C raw f) [] H Q := by
      obtain ⟨G, al, S, τ, rl, rs, p⟩ := q
      rw [h0 rfl] at p
      exact p.now rl [] .nil
    exact PySem.W.callWith_K0 I.kIn hk (run_fnSD (E := WE W) (us := []) (vs := []) (dvs := []) (ds := []) F c.room hb .nil (hx σ) I .nil q1)
  | cons e es =>
    refine PySem.W.callWith_K (h₀ := X.base) I.ok.mod.kin hk (thn (ha.run pos pins s σ H _ I q) fun us s1 ⟨vs, H1, I1, r, q⟩ => ⟨I1.kIn, ?_⟩) (star_of (hst e (by simp))) (any_back fun e he => hst e (by simp [he]))
    have := run_fnSD (E := WE W) (dvs := []) (ds := []) F c.room hb .nil (hx σ) I1 r (by rw [List.append_nil]; exact q)
    exact this

theorem dqu_bl {S : Sto} {x y : MV} {f : D → D → Option Bool} : dqu S x y f = .stuck ∨ ∃ z, dqu S x y f = .ok (.d (.bl z)) S := by
  unfold dqu
  split
  · split
    · exact .inr ⟨_, rfl⟩
    · exact .inl rfl
  · exact .inl rfl

section
variable {fs : List String} {cl : Wd} {C : Calls} {k : Nat}
theorem sames_star : ∀ {N : List Str} {sc : Scope} (es : Es) (xs : List Expr), sames fs N sc es xs = true → (∀ e ∈ xs, noStar e = true) ∧ (xs = [] → evs C es = fun _ S => .ok [] S)
  | N, sc, .nil, [], _ => ⟨fun e h => by simp at h, fun _ => rfl⟩
  | N, sc, .nil, _ :: _, h => by simp [sames] at h
  | N, sc, .cons _ _, [], h => by simp [sames] at h
  | N, sc, .cons e r, x :: xs, h => by
    simp only [sames, Bool.and_eq_true] at h
    refine ⟨fun y hy => ?_, fun z => by simp at z⟩
    rcases List.mem_cons.mp hy with e1 | e1
    · rw [e1]; exact h.1.1
    · exact (sames_star r xs h.2).1 y e1

/-- a computation that gives truth values alone, as a test -/
theorem bl_of {W : WX} {f : Slots → Sto → R MV} (hf : ∀ τ S m S', f τ S = .ok m S' → ∃ z, m = .d (.bl z)) {σ : L2.St} {H : Hp} {Q : Bool → Hp → Prop} (q : rdT cl W (fun τ S => (f τ S).bind fun v S1 => R.opt (truth S1 v) S1) σ H Q) :
    rd cl W f σ H (fun x H' => ∃ k, x = .bl k ∧ Q k H') := by
  obtain ⟨G, al, S, τ, rl, rs, p⟩ := q
  refine ⟨G, al, S, τ, rl, rs, ?_⟩
  dsimp only at p
  cases e : f τ S with
  | stuck => rw [e] at p; exact p
  | exc c fs S' => rw [e] at p; exact p
  | ok m S' =>
    rw [e] at p
    obtain ⟨z, rfl⟩ := hf τ S m S' e
    intro G' al' H' g rl' v rv
    have := rv.bl_inv; subst this
    exact ⟨z, rfl, p G' al' H' g rl'⟩
theorem cmp_bl {o : Cop} {a b : E} {τ : Slots} {S S' : Sto} {m : MV} (h : ev C (.cmp o a b) τ S = .ok m S') : ∃ z, m = .d (.bl z) := by
  simp only [ev] at h
  cases e1 : ev C a τ S with
  | ok x S1 =>
    rw [e1] at h
    simp only [R.bind_ok] at h
    cases e2 : ev C b τ S1 with
    | ok y S2 =>
      rw [e2] at h
      simp only [R.bind_ok] at h
      rcases dqu_bl (S := S2) (x := x) (y := y) (f := cmpD o) with e3 | ⟨z, e3⟩
      · rw [e3] at h; cases h
      · rw [e3] at h; cases h; exact ⟨z, rfl⟩
    | exc _ _ _ => rw [e2] at h; cases h
    | stuck => rw [e2] at h; cases h
  | exc _ _ _ => rw [e1] at h; cases h
  | stuck => rw [e1] at h; cases h

/-- a < b < c -/
theorem chain_of {W : WX} {fa fb fc : Slots → Sto → R MV} {o p : MV → MV → Sto → R MV} {σ : L2.St} {H : Hp} {Q : VK}
    (h : rd cl W (fun τ S => (fa τ S).bind fun x S1 => (fb τ S1).bind fun y S2 => (o x y S2).bind fun k S3 => match k with
      | .d (.bl true) => (fc τ S3).bind fun z S4 => p y z S4
      | .d (.bl false) => .ok (.d (.bl false)) S3
      | _ => .stuck) σ H Q) : tChain (r2 cl (WE W σ) o) (r2 cl (WE W σ) p) (rd cl W fa) (rd cl W fb) (rd cl W fc) σ H Q := by
  obtain ⟨G, al, S, τ, rl, rs, q⟩ := h
  refine ⟨G, al, S, τ, rl, rs, q.bind.imp fun G1 al1 S1 H1 mx g1 rl1 q x rx => ?_⟩
  refine ⟨G1, al1, S1, τ, rl1, rs.gr g1, q.bind.imp fun G2 al2 S2 H2 my g2 rl2 q y ry => ?_⟩
  refine ⟨G2, al2, S2, mx, my, rl2, rx.gr g2, ry, q.bind.imp fun G3 al3 S3 H3 mk g3 rl3 q v rv => ?_⟩
  cases mk with
  | d dd =>
    cases dd with
    | bl kk =>
      have := rv.bl_inv; subst this
      refine ⟨kk, rfl, ?_⟩
      cases kk with
      | true =>
        rw [if_pos rfl]
        exact ⟨G3, al3, S3, τ, rl3, (rs.gr g1).gr (g2.trans g3), q.bind.imp fun G4 al4 S4 H4 mz g4 rl4 q z rz => ⟨G4, al4, S4, my, mz, rl4, ry.gr (g3.trans g4), rz, q⟩⟩
      | false =>
        rw [if_neg Bool.false_ne_true]
        exact q.now rl3 _ (.d (.bl _))
    | _ => exact q.elim
  | _ => exact q.elim
theorem pe_chainE {X : Cx} {W : WX} {a b c : Expr} {ta tb tc : TE} {op op' : CmpOp} {r r' : XK → R2} {pos : Pos} (ho : ∀ E, OpR X (compareOp op) (r E)) (ho' : ∀ E, OpR X (compareOp op') (r' E)) (ha : PE X a ta) (hb : PE X b tb) (hc : PE X c tc) (hm : lastMarks [op, op'] [b, c] = false) :
    PE X (.Compare a [op, op'] [b, c] pos) (fun σ H Q => tChain (r (WE W σ)) (r' (WE W σ)) ta tb tc σ H Q) :=
  ⟨fun pins s σ H Q I h => (pe_chain (ho (WE W σ)) (ho' (WE W σ)) ha hb hc hm).run pins s σ H Q I h⟩
theorem pt_chainE {X : Cx} {W : WX} {a b c : Expr} {ta tb tc : TE} {op op' : CmpOp} {r r' : XK → R2} {pos : Pos} (ho : ∀ E, OpR X (compareOp op) (r E)) (ho' : ∀ E, OpR X (compareOp op') (r' E)) (ha : PE X a ta) (hb : PE X b tb) (hc : PE X c tc) (hm : lastMarks [op, op'] [b, c] = false) :
    PT X (.Compare a [op, op'] [b, c] pos) (fun σ H Q => tTest (tChain (r (WE W σ)) (r' (WE W σ)) ta tb tc) σ H Q) :=
  ⟨fun pins s σ H Q I h => (pt_chain (ho (WE W σ)) (ho' (WE W σ)) ha hb hc hm).run pins s σ H Q I h⟩
theorem chain_bl {o p : Cop} {a b c : E} {τ : Slots} {S S' : Sto} {m : MV} (h : ev C (.chain o p a b c) τ S = .ok m S') : ∃ z, m = .d (.bl z) := by
  simp only [ev] at h
  cases e1 : ev C a τ S with
  | ok x S1 =>
    rw [e1] at h
    simp only [R.bind_ok] at h
    cases e2 : ev C b τ S1 with
    | ok y S2 =>
      rw [e2] at h
      simp only [R.bind_ok] at h
      rcases dqu_bl (S := S2) (x := x) (y := y) (f := cmpD o) with e3 | ⟨z, e3⟩
      · rw [e3] at h; cases h
      · rw [e3] at h
        simp only [R.bind_ok] at h
        cases z with
        | false => cases h; exact ⟨_, rfl⟩
        | true =>
          simp only at h
          cases e4 : ev C c τ S2 with
          | ok z S4 =>
            rw [e4] at h
            simp only [R.bind_ok] at h
            rcases dqu_bl (S := S4) (x := y) (y := z) (f := cmpD p) with e5 | ⟨z, e5⟩
            · rw [e5] at h; cases h
            · rw [e5] at h; cases h; exact ⟨_, rfl⟩
          | exc _ _ _ => rw [e4] at h; cases h
          | stuck => rw [e4] at h; cases h
    | exc _ _ _ => rw [e2] at h; cases h
    | stuck => rw [e2] at h; cases h
  | exc _ _ _ => rw [e1] at h; cases h
  | stuck => rw [e1] at h; cases h

/-- and, or, not, if: by truth -/
theorem and_of {W : WX} {K : PySem.W.Frag} (hK : K = cl.K) {fa fb : Slots → Sto → R MV} {σ : L2.St} {H : Hp} {Q : VK} (h : rd cl W (fun τ S => (fa τ S).bind fun x S1 => match truth S1 x with
    | some true => fb τ S1
    | some false => .ok x S1
    | none => .stuck) σ H Q) : tAndT K (rd cl W fa) (rd cl W fb) σ H Q := by
  obtain ⟨G, al, S, τ, rl, rs, q⟩ := h
  refine ⟨G, al, S, τ, rl, rs, q.bind.imp fun G1 al1 S1 H1 mx g1 rl1 q x rx => ?_⟩
  cases e : truth S1 mx with
  | none => rw [e] at q; exact q.elim
  | some kk =>
    rw [e] at q
    refine ⟨kk, by rw [hK]; exact truth_ok rl1 rx e, ?_⟩
    cases kk with
    | true => rw [if_pos rfl]; exact ⟨G1, al1, S1, τ, rl1, rs.gr g1, q⟩
    | false => rw [if_neg Bool.false_ne_true]; exact q.now rl1 _ rx
theorem or_of {W : WX} {K : PySem.W.Frag} (hK : K = cl.K) {fa fb : Slots → Sto → R MV} {σ : L2.St} {H : Hp} {Q : VK} (h : rd cl W (fun τ S => (fa τ S).bind fun x S1 => match truth S1 x with
    | some true => .ok x S1
    | some false => fb τ S1
    | none => .stuck) σ H Q) : tOrT K (rd cl W fa) (rd cl W fb) σ H Q := by
  obtain ⟨G, al, S, τ, rl, rs, q⟩ := h
  refine ⟨G, al, S, τ, rl, rs, q.bind.imp fun G1 al1 S1 H1 mx g1 rl1 q x rx => ?_⟩
  cases e : truth S1 mx with
  | none => rw [e] at q; exact q.elim
  | some kk =>
    rw [e] at q
    refine ⟨kk, by rw [hK]; exact truth_ok rl1 rx e, ?_⟩
    cases kk with
    | true => rw [if_pos rfl]; exact q.now rl1 _ rx
    | false => rw [if_neg Bool.false_ne_true]; exact ⟨G1, al1, S1, τ, rl1, rs.gr g1, q⟩
theorem not_of {W : WX} {K : PySem.W.Frag} (hK : K = cl.K) {fa : Slots → Sto → R MV} {σ : L2.St} {H : Hp} {Q : VK} (h : rd cl W (fun τ S => (fa τ S).bind fun x S1 => match truth S1 x with
    | some k => .ok (.d (.bl (!k))) S1
    | none => .stuck) σ H Q) : tNotT K (rd cl W fa) σ H Q := by
  obtain ⟨G, al, S, τ, rl, rs, q⟩ := h
  refine ⟨G, al, S, τ, rl, rs, q.bind.imp fun G1 al1 S1 H1 mx g1 rl1 q x rx => ?_⟩
  cases e : truth S1 mx with
  | none => rw [e] at q; exact q.elim
  | some kk =>
    rw [e] at q
    exact ⟨kk, by rw [hK]; exact truth_ok rl1 rx e, q.now rl1 _ (.d (.bl _))⟩
/-- the tests' own forms -/
theorem tand_of {W : WX} {fa fb : Slots → Sto → R MV} {σ : L2.St} {H : Hp} {Q : Bool → Hp → Prop} (h : rdT cl W (fun τ S => ((fa τ S).bind fun x S1 => match truth S1 x with
    | some true => fb τ S1
    | some false => .ok x S1
    | none => .stuck).bind fun v S1 => R.opt (truth S1 v) S1) σ H Q) :
    tAnd (rdT cl W fun τ S => (fa τ S).bind fun v S1 => R.opt (truth S1 v) S1) (rdT cl W fun τ S => (fb τ S).bind fun v S1 => R.opt (truth S1 v) S1) σ H Q := by
  obtain ⟨G, al, S, τ, rl, rs, q⟩ := h
  refine ⟨G, al, S, τ, rl, rs, ?_⟩
  dsimp only at q ⊢
  cases e : fa τ S with
  | stuck => rw [e] at q; exact q
  | exc c fs S' => rw [e] at q; exact q
  | ok m S1 =>
    rw [e] at q
    simp only [R.bind_ok] at q ⊢
    cases e2 : truth S1 m with
    | none => rw [e2] at q; exact q
    | some kk =>
      rw [e2] at q
      intro G1 al1 H1 g1 rl1
      cases kk with
      | true => (unfold Bk; dsimp only; rw [if_pos rfl]; exact ⟨G1, al1, S1, τ, rl1, rs.gr g1, Pst.gr g1 q⟩)
      | false =>
        simp only [R.bind_ok, e2, R.opt_some] at q
        (unfold Bk; dsimp only; rw [if_neg Bool.false_ne_true]; exact (q G1 al1 H1 g1 rl1))
theorem tor_of {W : WX} {fa fb : Slots → Sto → R MV} {σ : L2.St} {H : Hp} {Q : Bool → Hp → Prop} (h : rdT cl W (fun τ S => ((fa τ S).bind fun x S1 => match truth S1 x with
    | some true => .ok x S1
    | some false => fb τ S1
    | none => .stuck).bind fun v S1 => R.opt (truth S1 v) S1) σ H Q) :
    tOr (rdT cl W fun τ S => (fa τ S).bind fun v S1 => R.opt (truth S1 v) S1) (rdT cl W fun τ S => (fb τ S).bind fun v S1 => R.opt (truth S1 v) S1) σ H Q := by
  obtain ⟨G, al, S, τ, rl, rs, q⟩ := h
  refine ⟨G, al, S, τ, rl, rs, ?_⟩
  dsimp only at q ⊢
  cases e : fa τ S with
  | stuck => rw [e] at q; exact q
  | exc c fs S' => rw [e] at q; exact q
  | ok m S1 =>
    rw [e] at q
    simp only [R.bind_ok] at q ⊢
    cases e2 : truth S1 m with
    | none => rw [e2] at q; exact q
    | some kk =>
      rw [e2] at q
      intro G1 al1 H1 g1 rl1
      cases kk with
      | true =>
        simp only [R.bind_ok, e2, R.opt_some] at q
        (unfold Bk; dsimp only; rw [if_pos rfl]; exact (q G1 al1 H1 g1 rl1))
      | false => (unfold Bk; dsimp only; rw [if_neg Bool.false_ne_true]; exact ⟨G1, al1, S1, τ, rl1, rs.gr g1, Pst.gr g1 q⟩)
theorem tnot_of {W : WX} {fa : Slots → Sto → R MV} {σ : L2.St} {H : Hp} {Q : Bool → Hp → Prop} (h : rdT cl W (fun τ S => ((fa τ S).bind fun x S1 => match truth S1 x with
    | some k => .ok (.d (.bl (!k))) S1
    | none => .stuck).bind fun v S1 => R.opt (truth S1 v) S1) σ H Q) :
    tNot (rdT cl W fun τ S => (fa τ S).bind fun v S1 => R.opt (truth S1 v) S1) σ H Q := by
  obtain ⟨G, al, S, τ, rl, rs, q⟩ := h
  refine ⟨G, al, S, τ, rl, rs, ?_⟩
  dsimp only at q ⊢
  cases e : fa τ S with
  | stuck => rw [e] at q; exact q
  | exc c fs S' => rw [e] at q; exact q
  | ok m S1 =>
    rw [e] at q
    simp only [R.bind_ok] at q ⊢
    cases e2 : truth S1 m with
    | none => rw [e2] at q; exact q
    | some kk =>
      rw [e2] at q
      exact q
/-- a if t else b -/
theorem if_of {W : WX} {ft fa fb : Slots → Sto → R MV} {σ : L2.St} {H : Hp} {Q : VK} (h : rd cl W (fun τ S => (ft τ S).bind fun x S1 => match truth S1 x with
    | some true => fa τ S1
    | some false => fb τ S1
    | none => .stuck) σ H Q) : tIf (rdT cl W fun τ S => (ft τ S).bind fun v S1 => R.opt (truth S1 v) S1) (rd cl W fa) (rd cl W fb) σ H Q := by
  obtain ⟨G, al, S, τ, rl, rs, q⟩ := h
  refine ⟨G, al, S, τ, rl, rs, ?_⟩
  dsimp only at q ⊢
  cases e : ft τ S with
  | stuck => rw [e] at q; exact q
  | exc c fs S' => rw [e] at q; exact q
  | ok m S1 =>
    rw [e] at q
    simp only [R.bind_ok] at q ⊢
    cases e2 : truth S1 m with
    | none => rw [e2] at q; exact q
    | some kk =>
      rw [e2] at q
      intro G1 al1 H1 g1 rl1
      cases kk with
      | true => (unfold Bk; dsimp only; rw [if_pos rfl]; exact ⟨G1, al1, S1, τ, rl1, rs.gr g1, Pst.gr g1 q⟩)
      | false => (unfold Bk; dsimp only; rw [if_neg Bool.false_ne_true]; exact ⟨G1, al1, S1, τ, rl1, rs.gr g1, Pst.gr g1 q⟩)
theorem tif_of {W : WX} {ft fa fb : Slots → Sto → R MV} {σ : L2.St} {H : Hp} {Q : Bool → Hp → Prop} (h : rdT cl W (fun τ S => ((ft τ S).bind fun x S1 => match truth S1 x with
    | some true => fa τ S1
    | some false => fb τ S1
    | none => .stuck).bind fun v S1 => R.opt (truth S1 v) S1) σ H Q) :
    (rdT cl W fun τ S => (ft τ S).bind fun v S1 => R.opt (truth S1 v) S1) σ H fun k H1 => if k = true then (rdT cl W fun τ S => (fa τ S).bind fun v S1 => R.opt (truth S1 v) S1) σ H1 Q else (rdT cl W fun τ S => (fb τ S).bind fun v S1 => R.opt (truth S1 v) S1) σ H1 Q := by
  obtain ⟨G, al, S, τ, rl, rs, q⟩ := h
  refine ⟨G, al, S, τ, rl, rs, ?_⟩
  dsimp only at q ⊢
  cases e : ft τ S with
  | stuck => rw [e] at q; exact q
  | exc c fs S' => rw [e] at q; exact q
  | ok m S1 =>
    rw [e] at q
    simp only [R.bind_ok] at q ⊢
    cases e2 : truth S1 m with
    | none => rw [e2] at q; exact q
    | some kk =>
      rw [e2] at q
      intro G1 al1 H1 g1 rl1
      cases kk with
      | true => (unfold Bk; dsimp only; rw [if_pos rfl]; exact ⟨G1, al1, S1, τ, rl1, rs.gr g1, Pst.gr g1 q⟩)
      | false => (unfold Bk; dsimp only; rw [if_neg Bool.false_ne_true]; exact ⟨G1, al1, S1, τ, rl1, rs.gr g1, Pst.gr g1 q⟩)

/-- what is shown of an expression -/
def Snd (fs : List String) (cl : Wd) (C : Calls) (k : Nat) (m : E) : Prop := ∀ (e : Expr) (X : Cx) (W : WX), Ctx fs cl C X W k → same fs X.N X.env.scope m e = true → PE X e (rd cl W (ev C m)) ∧ PT X e (rdT cl W (evT C m))
/-- .. where the form is no test's own -/
theorem Snd.plain {m : E} {e : Expr} {X : Cx} {W : WX} (c : Ctx fs cl C X W k) (h : PE X e (rd cl W (ev C m))) (hp : ∀ whole : Sem Value, PySem.isTrue e X.env whole = do
    let v ← whole
    standAt e.pos
    holding [v] (truthy v)) : PE X e (rd cl W (ev C m)) ∧ PT X e (rdT cl W (evT C m)) :=
  ⟨h, PT.imp (pt_truth h hp) fun σ H Q q => tt_of c.pf.kk q⟩
end
end Mi
namespace Mi
open PySem L2 PyProof.Rows
section
variable {fs : List String} {cl : Wd} {C : Calls} {k : Nat}

mutual
theorem sound : ∀ m : E, Snd fs cl C k m
  | .var i => by
    intro e X W c h
    cases e with
    | Name x p =>
      simp only [same, Bool.and_eq_true, decide_eq_true_eq] at h
      obtain ⟨⟨h1, h2⟩, h3⟩ := h
      refine Snd.plain c (PE.imp (pe_var h1 (vis_of h2) (plain_of h3).1 (plain_of h3).2.1) fun σ H Q ⟨G, al, S, τ, rl, rs, p⟩ => ?_) fun _ => rfl
      simp only [ev] at p
      split at p
      · rename_i v e
        obtain ⟨u, e1, r1⟩ := rs.2 i v e
        exact ⟨u, e1, p.now rl u r1⟩
      · exact p.elim
    | _ => simp [same] at h
  | .int i => by
    intro e X W c h
    cases e with
    | Constant v kk p =>
      cases v with
      | int j =>
        simp only [same, decide_eq_true_eq] at h
        subst h
        exact Snd.plain c (PE.imp pe_int fun σ H Q ⟨G, al, S, τ, rl, rs, p⟩ => p.now rl _ (.d (.int _))) fun _ => rfl
      | _ => simp [same] at h
    | _ => simp [same] at h
  | .bl b => by
    intro e X W c h
    cases e with
    | Constant v kk p =>
      cases v with
      | bool j =>
        simp only [same, beq_iff_eq] at h
        subst h
        exact Snd.plain c (PE.imp pe_bl fun σ H Q ⟨G, al, S, τ, rl, rs, p⟩ => p.now rl _ (.d (.bl _))) fun _ => rfl
      | _ => simp [same] at h
    | _ => simp [same] at h
  | .non => by
    intro e X W c h
    cases e with
    | Constant v kk p =>
      cases v with
      | none => exact Snd.plain c (PE.imp pe_non fun σ H Q ⟨G, al, S, τ, rl, rs, p⟩ => p.now rl _ (.d .non)) fun _ => rfl
      | _ => simp [same] at h
    | _ => simp [same] at h
  | .str s => by
    intro e X W c h
    cases e with
    | Constant v kk p =>
      cases v with
      | str t =>
        simp only [same, beq_iff_eq] at h
        subst h
        exact Snd.plain c (PE.imp pe_str fun σ H Q ⟨G, al, S, τ, rl, rs, p⟩ => p.now rl _ (.d (.str _))) fun _ => rfl
      | _ => simp [same] at h
    | _ => simp [same] at h
  | .bin o a b => by
    intro e X W c h
    cases e with
    | BinOp x p y pos =>
      simp only [same, Bool.and_eq_true, decide_eq_true_eq] at h
      obtain ⟨⟨h1, h2⟩, h3⟩ := h
      subst h1
      have ha := (sound a x X W c h2).1
      have hb := (sound b y X W c h3).1
      exact Snd.plain c (PE.imp (pe_opE (W := W) (r := fun E => r2 cl E fun x y S => dop S x y (binD o)) (fun E => op_bin o) ha hb) fun σ H Q q => op_of q) fun _ => rfl
    | _ => simp [same] at h
  | .neg a => by
    intro e X W c h
    cases e with
    | UnaryOp op x pos =>
      cases op with
      | USub =>
        simp only [same] at h
        have ha := (sound a x X W c h).1
        exact Snd.plain c (PE.imp (pe_unE (W := W) (r := fun E => r1 cl E negF) (fun E => un_negM) ha) fun σ H Q q => un_of q) fun _ => rfl
      | _ => simp [same] at h
    | _ => simp [same] at h
  | .cmp o a b => by
    intro e X W c h
    cases e with
    | Compare x ops ys pos =>
      match ops, ys, h with
      | [p], [y], h =>
        simp only [same, Bool.and_eq_true, decide_eq_true_eq] at h
        obtain ⟨⟨⟨h1, h2⟩, h3⟩, h4⟩ := h
        subst h1
        have ha := (sound a x X W c h3).1
        have hb := (sound b y X W c h4).1
        have ho : ∀ E, OpR X (compareOp (copOf o)) (r2 cl E fun x y S => dqu S x y (cmpD o)) := fun E => op_cmp o c.pf.kk c.room.units
        refine ⟨PE.imp (pe_cmpE (W := W) (r := fun E => r2 cl E fun x y S => dqu S x y (cmpD o)) ho ha hb (mark_of h2)) fun σ H Q q => op_of q, ?_⟩
        refine PT.imp (pt_cmpE (W := W) (r := fun E => r2 cl E fun x y S => dqu S x y (cmpD o)) ho ha hb (mark_of h2)) fun σ H Q q => ?_
        have q' : rd cl W (ev C (.cmp o a b)) σ H (fun x H' => ∃ k, x = .bl k ∧ Q k H') := bl_of (fun τ S m S' h => cmp_bl h) q
        exact op_of q'
      | [], _, h => simp [same] at h
      | _ :: _ :: _, _, h => simp [same] at h
      | [_], [], h => simp [same] at h
      | [_], _ :: _ :: _, h => simp [same] at h
    | _ => simp [same] at h
  | .chain o p a b c => by
    intro e X W ct h
    cases e with
    | Compare x ops ys pos =>
      match ops, ys, h with
      | [q, r], [y, z], h =>
        simp only [same, Bool.and_eq_true, decide_eq_true_eq] at h
        obtain ⟨⟨⟨⟨⟨h1, h2⟩, h3⟩, h4⟩, h5⟩, h6⟩ := h
        subst h1; subst h2
        have ha := (sound a x X W ct h4).1
        have hb := (sound b y X W ct h5).1
        have hc := (sound c z X W ct h6).1
        have ho : ∀ o E, OpR X (compareOp (copOf o)) (r2 cl E fun x y S => dqu S x y (cmpD o)) := fun o E => op_cmp o ct.pf.kk ct.room.units
        have hm : lastMarks [copOf o, copOf p] [y, z] = false := mark_of h3
        refine ⟨PE.imp (pe_chainE (W := W) (r := fun E => r2 cl E fun x y S => dqu S x y (cmpD o)) (r' := fun E => r2 cl E fun x y S => dqu S x y (cmpD p)) (ho o) (ho p) ha hb hc hm) fun σ H Q q => chain_of q, ?_⟩
        refine PT.imp (pt_chainE (W := W) (r := fun E => r2 cl E fun x y S => dqu S x y (cmpD o)) (r' := fun E => r2 cl E fun x y S => dqu S x y (cmpD p)) (ho o) (ho p) ha hb hc hm) fun σ H Q q => ?_
        have q' : rd cl W (ev C (.chain o p a b c)) σ H (fun x H' => ∃ k, x = .bl k ∧ Q k H') := bl_of (fun τ S m S' h => chain_bl h) q
        exact chain_of q'
      | [], _, h => simp [same] at h
      | [_], _, h => simp [same] at h
      | _ :: _ :: _ :: _, _, h => simp [same] at h
      | [_, _], [], h => simp [same] at h
      | [_, _], [_], h => simp [same] at h
      | [_, _], _ :: _ :: _ :: _, h => simp [same] at h
    | _ => simp [same] at h
  | .and_ a b => by
    intro e X W c h
    cases e with
    | BoolOp op vs pos =>
      cases op with
      | Or => simp [same] at h
      | And =>
        match vs, h with
        | x :: y :: rest, h =>
          simp only [same, Bool.and_eq_true] at h
          obtain ⟨ha, ta⟩ := sound a x X W c h.1
          obtain ⟨hb, tb⟩ := sound b _ X W c h.2
          exact ⟨PE.imp (pe_andT ha hb) fun σ H Q q => and_of c.pf.kk q, PT.imp (pw_and ta (PT.toPW tb)).pt fun σ H Q q => tand_of q⟩
        | [], h => simp [same] at h
        | [_], h => simp [same] at h
    | _ => simp [same] at h
  | .or_ a b => by
    intro e X W c h
    cases e with
    | BoolOp op vs pos =>
      cases op with
      | And => simp [same] at h
      | Or =>
        match vs, h with
        | x :: y :: rest, h =>
          simp only [same, Bool.and_eq_true] at h
          obtain ⟨ha, ta⟩ := sound a x X W c h.1
          obtain ⟨hb, tb⟩ := sound b _ X W c h.2
          exact ⟨PE.imp (pe_orT ha hb) fun σ H Q q => or_of c.pf.kk q, PT.imp (pw_or ta (PT.toPW tb)).pt fun σ H Q q => tor_of q⟩
        | [], h => simp [same] at h
        | [_], h => simp [same] at h
    | _ => simp [same] at h
  | .one a => by
    intro e X W c h
    cases e with
    | BoolOp op vs pos =>
      match vs, h with
      | [x], h =>
        simp only [same] at h
        obtain ⟨ha, ta⟩ := sound a x X W c h
        refine ⟨pe_one ha, ?_⟩
        cases op with
        | And => exact (pw_and1 ta).pt
        | Or => exact (pw_or1 ta).pt
      | [], h => simp [same] at h
      | _ :: _ :: _, h => simp [same] at h
    | _ => simp [same] at h
  | .not_ a => by
    intro e X W c h
    cases e with
    | UnaryOp op x pos =>
      cases op with
      | Not =>
        simp only [same] at h
        obtain ⟨ha, ta⟩ := sound a x X W c h
        exact ⟨PE.imp (pe_notT ha) fun σ H Q q => not_of c.pf.kk q, PT.imp (pt_not ta) fun σ H Q q => tnot_of q⟩
      | _ => simp [same] at h
    | _ => simp [same] at h
  | .ife t a b => by
    intro e X W c h
    cases e with
    | IfExp x y z pos =>
      simp only [same, Bool.and_eq_true] at h
      obtain ⟨ht, tt⟩ := sound t x X W c h.1.1
      obtain ⟨ha, ta⟩ := sound a y X W c h.1.2
      obtain ⟨hb, tb⟩ := sound b z X W c h.2
      exact ⟨PE.imp (pe_ifExp tt ha hb) fun σ H Q q => if_of q, PT.imp (PT.ife tt ta tb) fun σ H Q q => tif_of q⟩
    | _ => simp [same] at h
  | .tup es => by
    intro e X W c h
    cases e with
    | Tuple xs kk pos =>
      simp only [same] at h
      refine Snd.plain c (PE.imp (pe_tup (soundA es xs X W c h)) fun σ H Q ⟨G, al, S, τ, rl, rs, q⟩ => ?_) fun _ => rfl
      exact ⟨G, al, S, τ, rl, rs, q.bind.imp fun G1 al1 S1 H1 ms g1 rl1 q vs rv => newT_ok rl1 rv q⟩
    | _ => simp [same] at h
  | .lst cell es => by
    intro e X W c h
    cases e with
    | List xs pos =>
      simp only [same] at h
      refine Snd.plain c (PE.imp (pe_lst (soundA es xs X W c h)) fun σ H Q ⟨G, al, S, τ, rl, rs, q⟩ => ?_) fun _ => rfl
      exact ⟨G, al, S, τ, rl, rs, q.bind.imp fun G1 al1 S1 H1 ms g1 rl1 q vs rv => newL_ok rl1 rv q⟩
    | _ => simp [same] at h
  | .ix a i => by
    intro e X W c h
    cases e with
    | Subscript x y pos =>
      simp only [same, Bool.and_eq_true] at h
      have ha := (sound a x X W c h.1.2).1
      have hb := (sound i y X W c h.2).1
      exact Snd.plain c (PE.imp (pe_ixE (W := W) (r := fun E => r2 cl E ixF) (fun E => ix_seq c.pf.kk) ha hb (plainIx_of h.1.1)) fun σ H Q q => op_of q) fun _ => rfl
    | _ => simp [same] at h
  | .call raw f es => by
    intro e X W c h
    cases e with
    | Call g xs kws pos =>
      cases g with
      | Name g p =>
        cases kws with
        | cons _ _ => simp [same] at h
        | nil =>
          simp only [same, Bool.and_eq_true, beq_iff_eq] at h
          obtain ⟨⟨⟨⟨h1, h2⟩, h3⟩, h4⟩, h5⟩ := h
          subst h2
          obtain ⟨s1, s2⟩ := sames_star (C := C) es xs h5
          exact Snd.plain c (pe_def c h1 (gl_of h3) h4 (soundA es xs X W c h5) s1 s2) fun _ => rfl
      | _ => simp [same] at h
    | _ => simp [same] at h
  | .blt cell b es => by
    intro e X W c h
    cases e with
    | Call g xs kws pos =>
      cases g with
      | Name g p =>
        cases kws with
        | cons _ _ => cases xs <;> simp [same] at h
        | nil =>
          cases xs with
          | nil => simp [same] at h
          | cons x xs =>
            simp only [same, Bool.and_eq_true, beq_iff_eq] at h
            obtain ⟨⟨h2, h3⟩, h5⟩ := h
            subst h2
            obtain ⟨s1, s2⟩ := sames_star (C := C) es (x :: xs) h5
            have ha := soundA es (x :: xs) X W c h5
            have hn : X.mg (Str.ofString b.name) = none := c.pf.nob _ (by cases b <;> decide)
            have st := star_of (es := xs) (env := X.env) (s1 x (by simp))
            have an : (backTo pos (starEach xs X.env)).any (·.1) = false := any_back fun e he => s1 e (by simp [he])
            have hb := boot_any b
            refine Snd.plain c ⟨fun pins s σ H Q I q => ?_⟩ fun _ => rfl
            have r := bt_any (X := X) (cl := cl) (E := WE W σ) (cell := cell) b c.pf.kk c.calm
            have q' : tCB (rN cl (WE W σ) (bltF cell b)) (rdA cl W (evs C es)) σ H Q := cb_of q
            cases hty : b.isTy with
            | true =>
              rw [hty] at r hb
              exact (pe_callTy r (gl_of h3) hn hb ha (by cases b <;> decide) (by cases b <;> decide) st an).run pins s σ H Q I q'
            | false =>
              rw [hty] at r hb
              exact (pe_callB r (gl_of h3) hn hb ha (by cases b <;> decide) (by cases b <;> decide) st an).run pins s σ H Q I q'
      | _ => simp [same] at h
    | _ => simp [same] at h
  | .isi a ty => by
    intro e X W c h
    cases e with
    | Call g xs kws pos =>
      cases g with
      | Name g p =>
        match xs, kws, h with
        | [x, t], [], h =>
          cases t with
          | Name t tp =>
            simp only [same, Bool.and_eq_true, beq_iff_eq] at h
            obtain ⟨⟨⟨⟨⟨⟨h1, h2⟩, h3⟩, h4⟩, h5⟩, h6⟩, h7⟩ := h
            subst h1; subst h3
            have ha := (sound a x X W c h7).1
            have hm : ty ∈ ["int", "bool", "str", "list", "tuple"] := by simpa using h4
            have hn : X.mg (Str.ofString ty) = none := c.pf.nob _ (by
              simp only [List.mem_cons, List.mem_nil_iff, or_false] at hm
              rcases hm with rfl | rfl | rfl | rfl | rfl <;> decide)
            have hb : bootBuiltins (Str.ofString ty) = some (.type ty) := by
              simp only [List.mem_cons, List.mem_nil_iff, or_false] at hm
              rcases hm with rfl | rfl | rfl | rfl | rfl <;> decide +kernel
            have hd : (Str.ofString ty == ("__debug__" : Str)) = false ∧ Str.ofString ty ≠ ("__name__" : Str) := by
              simp only [List.mem_cons, List.mem_nil_iff, or_false] at hm
              rcases hm with rfl | rfl | rfl | rfl | rfl <;> exact ⟨by decide, by decide⟩
            have ht : PE X (.Name (Str.ofString ty) tp) (tC (.ty ty)) := pe_bltn (gl_of h5) hn hb rfl hd.2 hd.1
            have st : starEach [x, .Name (Str.ofString ty) tp] X.env = (false, eval x X.env) :: starEach [.Name (Str.ofString ty) tp] X.env := star_of h6
            refine Snd.plain c ⟨fun pins s σ H Q I q => ?_⟩ fun _ => rfl
            refine (pe_callB (call_isiM (X := X) (cl := cl) (E := WE W σ) ty c.pf.kk) (gl_of h2) (c.pf.nob "isinstance" (by decide)) (by decide +kernel) (pa_cons ha (pa_cons ht pa_nil) st) (by decide) (by decide) st rfl).run pins s σ H Q I ?_
            obtain ⟨G, al, S, τ, rl, rs, q⟩ := q
            exact ⟨G, al, S, τ, rl, rs, q.bind.imp fun G1 al1 S1 H1 m g1 rl1 q v rv => ⟨v, rfl, G1, al1, S1, m, rl1, rv, q⟩⟩
          | _ => simp [same] at h
        | [], _, h => simp [same] at h
        | [_], _, h => simp [same] at h
        | _ :: _ :: _ :: _, _, h => simp [same] at h
        | [x, t], _ :: _, h => cases t <;> simp [same] at h
      | _ => simp [same] at h
    | _ => simp [same] at h
  | .app a m => by
    intro e X W c h
    cases e with
    | Call g xs kws pos =>
      cases g with
      | Attribute o f p =>
        match xs, kws, h with
        | [y], [], h =>
          simp only [same, Bool.and_eq_true, beq_iff_eq] at h
          obtain ⟨⟨⟨⟨⟨h1, h2⟩, h3⟩, h4⟩, h5⟩, h6⟩ := h
          subst h1
          have ha := (sound a o X W c h5).1
          have hm := (sound m y X W c h6).1
          have st : starEach [y] X.env = (false, eval y X.env) :: starEach [] X.env := star_of h4
          refine Snd.plain c ⟨fun pins s σ H Q I q => ?_⟩ fun _ => rfl
          refine (pe_bm PySem.F.plainAttrs_list PySem.F.slot_list_append PySem.F.type_list_append (mt_app (X := X) (cl := cl) (E := WE W σ)) ha (pa_cons hm pa_nil st) (sup_of h2) (by rw [st]; rfl) (by rw [h3]; simp) st rfl).run pins s σ H Q I ?_
          obtain ⟨G, al, S, τ, rl, rs, q⟩ := q
          refine ⟨G, al, S, τ, rl, rs, q.bind.imp fun G1 al1 S1 H1 mx g1 rl1 q v rv => ?_⟩
          split at q
          · rename_i hl
            refine ⟨?_, G1, al1, S1, τ, rl1, rs.gr g1, q.bind.imp fun G2 al2 S2 H2 my g2 rl2 q w rw' => ⟨w, rfl, G2, al2, S2, mx, my, rl2, rv.gr g2, rw', q⟩⟩
            unfold lstC at hl
            split at hl
            · rename_i i
              split at hl
              · rename_i ms es
                cases rv with
                | c _ hi =>
                  obtain ⟨_, ob, h2, h3⟩ := rl1.live i _ es rfl
                  cases h3 with
                  | lst h3 => exact .inl ⟨rfl, _, SqL.of h2⟩
              · cases hl
            · cases hl
          · exact q.elim
        | [], _, h => simp [same] at h
        | _ :: _ :: _, _, h => simp [same] at h
        | [_], _ :: _, h => simp [same] at h
      | _ => simp [same] at h
    | _ => simp [same] at h
  | .lc cell elt tg it own => by
    intro e X W c h
    cases e with
    | ListComp x gens scope pos =>
      match gens, h with
      | [⟨t, iter, [], as⟩], h =>
        simp only [same, Bool.and_eq_true, List.all_eq_true, decide_eq_true_eq] at h
        obtain ⟨⟨⟨⟨⟨⟨h0, h1⟩, h2⟩, h3⟩, h4⟩, h5⟩, h6⟩ := h
        subst h0
        have hI := soundI it iter t X W c h4
        refine Snd.plain c (PE.imp (pe_lc c.calm c.nd hI (blkOk_by h1)
          (fun s H CC cl' fp => pg_tg (cl := cl) (tg := tg) (X := X.blk s H scope (compEnvC scope cl' CC X.env) fp) c.nd c.calm c.pf.kk h5)
          (fun _ _ _ _ _ => pts_nil)
          (fun s H CC cl' fp => (sound elt x (X.blk s H scope (compEnvC scope cl' CC X.env) fp) W0 (c.blk s H scope (compEnvC scope cl' CC X.env) fp) h6).1) (fold_of h3)) fun σ H Q q => ?_) fun _ => rfl
        have hs : ∀ j ∈ tg.sl, j ∈ own.map (·.2) := fun j hj => by simpa using h2 j hj
        have := lc_of hs q
        rw [List.map_map]
        exact this
      | [], h => simp [same] at h
      | _ :: _ :: _, h => simp [same] at h
      | [⟨t, iter, _ :: _, _⟩], h => simp [same] at h
    | _ => simp [same] at h
theorem soundA : ∀ (es : Es) (xs : List Expr) (X : Cx) (W : WX), Ctx fs cl C X W k → sames fs X.N X.env.scope es xs = true → PA X xs (rdA cl W (evs C es))
  | .nil, [], X, W, c, h => PA.imp pa_nil fun σ H Q ⟨G, al, S, τ, rl, rs, q⟩ => q.now rl _ .nil
  | .nil, _ :: _, X, W, c, h => by simp [sames] at h
  | .cons _ _, [], X, W, c, h => by simp [sames] at h
  | .cons e r, x :: xs, X, W, c, h => by
    simp only [sames, Bool.and_eq_true] at h
    have ha := (sound e x X W c h.1.2).1
    have hr := soundA r xs X W c h.2
    refine PA.imp (pa_cons ha hr (star_of h.1.1)) fun σ H Q ⟨G, al, S, τ, rl, rs, q⟩ => ?_
    refine ⟨G, al, S, τ, rl, rs, q.bind.imp fun G1 al1 S1 H1 m g1 rl1 q v rv => ?_⟩
    refine ⟨G1, al1, S1, τ, rl1, rs.gr g1, q.bind.imp fun G2 al2 S2 H2 ms g2 rl2 q vs rvs => ?_⟩
    exact q.now rl2 _ (.cons (rv.gr g2) rvs)
theorem soundI : ∀ (it : It) (e tg : Expr) (X : Cx) (W : WX), Ctx fs cl C X W k → sameIt fs X.N X.env.scope it e = true → PI X tg e (rdI cl W (evI C it))
  | .seq m, e, tg, X, W, c, h => by
    simp only [sameIt] at h
    exact pi_seq c.pf.kk (sound m e X W c h).1
  | .range1 m, e, tg, X, W, c, h => by
    cases e with
    | Call g xs kws pos =>
      cases g with
      | Name g p =>
        match xs, kws, h with
        | [x], [], h =>
          simp only [sameIt, Bool.and_eq_true, beq_iff_eq] at h
          obtain ⟨⟨⟨h1, h2⟩, h3⟩, h4⟩ := h
          subst h1
          have ha := (sound m x X W c h4).1
          have st : starEach [x] X.env = [(false, eval x X.env)] := star_of h3
          refine PI.imp (pi_range1 (gl_of h2) (c.pf.nob "range" (by decide)) (pa_cons ha pa_nil st) st) fun σ H Rr ⟨G, al, S, τ, rl, rs, q⟩ => ?_
          refine ⟨G, al, S, τ, rl, rs, q.bind.imp fun G1 al1 S1 H1 mx g1 rl1 q v rv => ?_⟩
          split at q
          · rename_i j
            split at q
            · rename_i hj
              have := rv.int_inv; subst this
              have hj' : -1000000000 ≤ j ∧ j ≤ 1000000000 := of_decide_eq_true hj
              refine ⟨j, rfl, by omega, by omega, ?_⟩
              have := q.now rl1 _ (jw_range (cl := cl) (G := G1) (al := al1) (n := S1.length) (lo := 0) (hi := j))
              rw [Int.sub_zero] at this
              exact this
            · exact q.elim
          · exact q.elim
        | [], _, h => simp [sameIt] at h
        | _ :: _ :: _, _, h => simp [sameIt] at h
        | [_], _ :: _, h => simp [sameIt] at h
      | _ => simp [sameIt] at h
    | _ => simp [sameIt] at h
  | .range2 a b, e, tg, X, W, c, h => by
    cases e with
    | Call g xs kws pos =>
      cases g with
      | Name g p =>
        match xs, kws, h with
        | [x, y], [], h =>
          simp only [sameIt, Bool.and_eq_true, beq_iff_eq] at h
          obtain ⟨⟨⟨⟨⟨h1, h2⟩, h3⟩, h3'⟩, h4⟩, h5⟩ := h
          subst h1
          have ha := (sound a x X W c h4).1
          have hb := (sound b y X W c h5).1
          have st2 : starEach [y] X.env = [(false, eval y X.env)] := star_of h3'
          have st1 : starEach [x, y] X.env = (false, eval x X.env) :: starEach [y] X.env := star_of h3
          have st : starEach [x, y] X.env = [(false, eval x X.env), (false, eval y X.env)] := by rw [st1, st2]
          refine PI.imp (pi_range2 (gl_of h2) (c.pf.nob "range" (by decide)) (pa_cons ha (pa_cons hb pa_nil st2) st1) st st2) fun σ H Rr ⟨G, al, S, τ, rl, rs, q⟩ => ?_
          refine ⟨G, al, S, τ, rl, rs, q.bind.imp fun G1 al1 S1 H1 mx g1 rl1 q v rv => ?_⟩
          refine ⟨G1, al1, S1, τ, rl1, rs.gr g1, q.bind.imp fun G2 al2 S2 H2 my g2 rl2 q w rw' => ?_⟩
          split at q
          · rename_i i j _
            split at q
            · rename_i hj
              have := rv.int_inv; subst this
              have := rw'.int_inv; subst this
              rw [Bool.and_eq_true] at hj
              have hi' : -1000000000 ≤ i ∧ i ≤ 1000000000 := of_decide_eq_true hj.1
              have hj' : -1000000000 ≤ j ∧ j ≤ 1000000000 := of_decide_eq_true hj.2
              exact ⟨i, j, rfl, ⟨by omega, by omega, by omega, by omega⟩, q.now rl2 _ jw_range⟩
            · exact q.elim
          · exact q.elim
        | [], _, h => simp [sameIt] at h
        | [_], _, h => simp [sameIt] at h
        | _ :: _ :: _ :: _, _, h => simp [sameIt] at h
        | [_, _], _ :: _, h => simp [sameIt] at h
      | _ => simp [sameIt] at h
    | _ => simp [sameIt] at h
end
end
end Mi
namespace Mi
open PySem L2 PyProof.Rows

def noComp : Expr → Bool
  | .ListComp _ _ _ _ => false
  | .SetComp _ _ _ _ => false
  | .DictComp _ _ _ _ _ => false
  | _ => true
def noTup : Expr → Bool
  | .Tuple _ _ _ => false
  | _ => true
def fnK (sc : Scope) : Bool := match sc.kind with
  | .function => true
  | _ => false
def parC (sc : Scope) (x : Str) (px : Pos) (y : Str) (py : Pos) (a b : Expr) : Bool :=
  fnK sc && decide (sc.names.lookup x = some .local) && decide (sc.names.lookup y = some .local) && (px.line == py.line) && !(x == y) && noStar a && noStar b && !(foldedForSure 8 a && foldedForSure 8 b) && !(constantsAlone 8 a && constantsAlone 8 b)

def isPar : List Expr → Expr → Option (Str × Pos × Str × Pos × Expr × Expr)
  | [.Tuple [.Name y py, .Name z pz] _ _], .Tuple [u, v] _ _ => some (y, py, z, pz, u, v)
  | _, _ => none
theorem isPar_inv {ts : List Expr} {x : Expr} {y z : Str} {py pz : Pos} {u v : Expr} (h : isPar ts x = some (y, py, z, pz, u, v)) : ∃ kt pt k2 pt2, ts = [.Tuple [.Name y py, .Name z pz] kt pt] ∧ x = .Tuple [u, v] k2 pt2 := by
  unfold isPar at h
  split at h
  · cases h; exact ⟨_, _, _, _, rfl, rfl⟩
  · cases h
def isSub : List Expr → Option (Expr × Expr × Pos)
  | [.Subscript o k p] => some (o, k, p)
  | _ => none
theorem isSub_inv {ts : List Expr} {o k : Expr} {p : Pos} (h : isSub ts = some (o, k, p)) : ts = [.Subscript o k p] := by
  unfold isSub at h
  split at h
  · cases h; rfl
  · cases h

mutual
def sameS (fs : List String) (N : List Str) (sc : Scope) : Sm → Stmt → Bool
  | .asg tg e, .Assign [t] x _ => fnK sc && sameTg (fun _ => true) N sc tg t && same fs N sc e x && (match tg with
      | .nm _ => true
      | .tp _ => noTup x && noComp x)
  | .par i j a b, .Assign ts t _ => match isPar ts t with
      | some (x, px, y, py, u, v) => decide (N[i]? = some x) && decide (N[j]? = some y) && decide (i ≠ j) && parC sc x px y py u v && same fs N sc a u && same fs N sc b v
      | none => false
  | .setix a i e, .Assign ts x _ => match isSub ts with
      | some (o, k, _) => noSl k && same fs N sc a o && same fs N sc i k && same fs N sc e x && noComp x
      | none => false
  | .expr e, .Expr x _ => noComp x && same fs N sc e x
  | .ret e, .Return (some x) _ => same fs N sc e x
  | .ifs t a b, .If x ys zs _ => same fs N sc t x && sameB fs N sc a ys && sameB fs N sc b zs
  | .for_ tg it body, .For t x ys [] _ => noSet x && sameTg (fun _ => true) N sc tg t && sameIt fs N sc it x && sameB fs N sc body ys
  | .while_ t body, .While x ys [] _ => same fs N sc t x && sameB fs N sc body ys
  | _, _ => false
def sameB (fs : List String) (N : List Str) (sc : Scope) : Sms → List Stmt → Bool
  | .nil, [] => true
  | .cons s r, x :: xs => sameS fs N sc s x && sameB fs N sc r xs
  | _, _ => false
end

/-- what is wanted of a statement's outcome -/
def PstF (cl : Wd) (W : WX) (D : Ends) (G : Hp) (al : Nat → Addr) (S : Sto) (H : Hp) (r : F) : Prop := match r with
  | .next τ' S' => ∀ G' al' H' σ', Gr G al S H G' al' S' H' → Rl cl G' al' S' H' → RepS cl G' al' S'.length σ' τ' → D.nx σ' H'
  | .brk τ' S' => ∀ G' al' H' σ', Gr G al S H G' al' S' H' → Rl cl G' al' S' H' → RepS cl G' al' S'.length σ' τ' → D.bk σ' H'
  | .cont τ' S' => ∀ G' al' H' σ', Gr G al S H G' al' S' H' → Rl cl G' al' S' H' → RepS cl G' al' S'.length σ' τ' → D.ct σ' H'
  | .ret m S' => ∀ G' al' H' v, Gr G al S H G' al' S' H' → Rl cl G' al' S' H' → RepM cl G' al' S'.length v m → D.rt v H'
  | .exc c fs τ' S' => ∀ G' al' H' σ' cv d, Gr G al S H G' al' S' H' → Rl cl G' al' S' H' → RepS cl G' al' S'.length σ' τ' → XRep cl G' H' c fs cv d → W cv d σ' H'
  | .stuck => False
def rdS (cl : Wd) (W : WX) (f : Slots → Sto → F) : TS := fun D σ H => ∃ G al S τ, Rl cl G al S H ∧ RepS cl G al S.length σ τ ∧ PstF cl W D G al S H (f τ S)

section
variable {cl : Wd} {W : WX} {D : Ends} {G G1 : Hp} {al al1 : Nat → Addr} {S S1 : Sto} {H H1 : Hp} {r : F}
theorem PstF.gr (g : Gr G al S H G1 al1 S1 H1) (h : PstF cl W D G al S H r) : PstF cl W D G1 al1 S1 H1 r := by
  cases r with
  | next τ' S' => exact fun G' al' H' σ' g' => h G' al' H' σ' (g.trans g')
  | brk τ' S' => exact fun G' al' H' σ' g' => h G' al' H' σ' (g.trans g')
  | cont τ' S' => exact fun G' al' H' σ' g' => h G' al' H' σ' (g.trans g')
  | ret τ' S' => exact fun G' al' H' σ' g' => h G' al' H' σ' (g.trans g')
  | exc c fs τ' S' => exact fun G' al' H' σ' cv d g' => h G' al' H' σ' cv d (g.trans g')
  | stuck => exact h
/-- an expression, then the rest -/
theorem PstF.toF {α : Type} {e : R α} {τ : Slots} {σ : L2.St} {kk : α → Sto → F} (rs : RepS cl G al S.length σ τ) (h : PstF cl W D G al S H (e.toF τ kk)) :
    Pst cl G al S H e (fun G1 al1 S1 H1 a => PstF cl W D G1 al1 S1 H1 (kk a S1)) (WE W σ) := by
  cases e with
  | ok a S' => exact fun G' al' H' g' r' => PstF.gr g' h
  | exc c fs S' => exact fun G' al' H' cv d g' r' x => h G' al' H' σ cv d g' r' (rs.gr g') x
  | stuck => exact h
end

/-- the side conditions of an assignment -/
theorem swaps_of {t e : Expr} {line : Nat} {env : Env} (h : noComp e = true) : swapsWith e (some t) line env = pure false := by
  cases e <;> first | rfl | (simp [noComp] at h)
theorem swaps_none {e : Expr} {line : Nat} {env : Env} (h : noComp e = true) : swapsWith e none line env = pure false := by
  cases e <;> first | rfl | (simp [noComp] at h)
theorem swapsS_of {t e : Expr} {line : Nat} {env : Env} (h : noComp e = true) : swapsWithSole [t] e line env = pure false := swaps_of h
theorem swst_name {x : Str} {p : Pos} {e : Expr} {env : Env} : swappedStores [.Name x p] e env = pure none := by
  cases e <;> rfl
theorem swst_sub {o k : Expr} {p : Pos} {e : Expr} {env : Env} : swappedStores [.Subscript o k p] e env = pure none := by
  cases e <;> rfl
theorem swst_tup {ts : List Expr} {k : Nat} {p : Pos} {e : Expr} {env : Env} (h : noTup e = true) : swappedStores [.Tuple ts k p] e env = pure none := by
  cases e <;> first | rfl | (simp [noTup] at h)
theorem assign_sub {o k : Expr} {p : Pos} {env : Env} (h : noSl k = true) (v : Value) : assign (.Subscript o k p) env v = (do
    let ov ← holding [v] (eval o env)
    let iv ← holding [v, ov] (eval k env)
    standAt p
    holding [v, ov, iv] (setItem ov iv v)
    release [v, ov, iv] []) := by
  cases k <;> first | rfl | (simp [noSl] at h)
theorem fnK_of {sc : Scope} (h : fnK sc = true) : sc.kind = .function := by
  unfold fnK at h
  split at h
  · assumption
  · cases h
theorem par_of {env : Env} {x y : Str} {px py pt pt2 : Pos} {kt k2 : Nat} {a b : Expr} (h : parC env.scope x px y py a b = true) :
    swappedStores [.Tuple [.Name x px, .Name y py] kt pt] (.Tuple [a, b] k2 pt2) env = pure (some [x, y]) := by
  simp only [parC, Bool.and_eq_true, decide_eq_true_eq, Bool.not_eq_true', beq_iff_eq, Bool.and_eq_false_imp, beq_eq_false_iff_ne] at h
  obtain ⟨⟨⟨⟨⟨⟨⟨⟨h1, h2⟩, h3⟩, h4⟩, h5⟩, h6⟩, h7⟩, h8⟩, h9⟩ := h
  have hk := fnK_of h1
  have hb : env.blockKind = .function := by unfold Env.blockKind; rw [hk]; rfl
  have sa : (match a with | .Starred .. => true | _ => false) = false := by cases a <;> first | rfl | (simp [noStar] at h6)
  have sb : (match b with | .Starred .. => true | _ => false) = false := by cases b <;> first | rfl | (simp [noStar] at h7)
  have k1 : env.kindOf x = some .local := h2
  have k2 : env.kindOf y = some .local := h3
  have f8 : (foldedForSure 8 a && foldedForSure 8 b) = false := by
    cases e : foldedForSure 8 a with
    | false => rfl
    | true => rw [Bool.true_and]; exact h8 e
  have f9 : (constantsAlone 8 a && constantsAlone 8 b) = false := by
    cases e : constantsAlone 8 a with
    | false => rfl
    | true => rw [Bool.true_and]; exact h9 e
  have ne : (x == y) = false := by simpa using h5
  have ne' : (y == x) = false := by simpa using fun z => h5 z.symm
  simp [swappedStores, hb, k1, k2, h4, sa, sb, f8, f9, List.eraseDups_cons, ne, ne', Expr.pos]
  intro z
  exfalso
  rcases z with z | z
  · cases a <;> first | (simp [noStar] at h6; done) | (simp at z)
  · cases b <;> first | (simp [noStar] at h7; done) | (simp at z)

section
variable {fs : List String} {cl : Wd} {C : Calls} {k fu : Nat}
/-- a statement runs as it reads -/
def SndS (fs : List String) (cl : Wd) (C : Calls) (k fu : Nat) (m : Sm) : Prop := ∀ (st : Stmt) (X : Cx) (W : WX), Ctx fs cl C X W k → (X.fn = fun _ => true) → sameS fs X.N X.env.scope m st = true → PS X st (rdS cl W (ex C fu m))
def SndB (fs : List String) (cl : Wd) (C : Calls) (k fu : Nat) (m : Sms) : Prop := ∀ (st : List Stmt) (X : Cx) (W : WX), Ctx fs cl C X W k → (X.fn = fun _ => true) → sameB fs X.N X.env.scope m st = true → PSs X st (rdS cl W (exs C fu m))

theorem asg_of {W : WX} {D : Ends} {f : Slots → Sto → R MV} {tg : Tg} {σ : L2.St} {H : Hp} (h : rdS cl W (fun τ S => (f τ S).toF τ fun v S1 => match bindTg tg τ v with
    | some σ1 => .next σ1 S1
    | none => .stuck) D σ H) : tAsg (rd cl W f) (rdG cl tg) D σ H := by
  obtain ⟨G, al, S, τ, rl, rs, p⟩ := h
  refine ⟨G, al, S, τ, rl, rs, (PstF.toF rs p).imp fun G1 al1 S1 H1 m g1 rl1 q v rv => ?_⟩
  cases e : bindTg tg τ m with
  | none => rw [e] at q; exact q.elim
  | some τ' =>
    rw [e] at q
    exact ⟨G1, al1, S1, τ, m, rl1, rs.gr g1, rv, τ', e, fun σ' rs' _ => q G1 al1 H1 σ' Gr.refl rl1 rs'⟩

/-- the for's walk -/
theorem for_of {W : WX} {D : Ends} {fi : Slots → Sto → R (List MV)} {fb : Slots → Sto → F} {tg : Tg} {σ : L2.St} {H : Hp} (h : rdS cl W (fun τ S => (fi τ S).toF τ fun ms S1 => forGo tg fb ms τ S1) D σ H) :
    tFor (rdI cl W fi) (rdG cl tg) (rdS cl W fb) D σ H := by
  obtain ⟨G0, al0, S0, τ, rl0, rs0, p⟩ := h
  refine ⟨G0, al0, S0, τ, rl0, rs0, (PstF.toF rs0 p).imp fun G1 al1 S1 H1 ms g1 rl1 q J jw => ?_⟩
  refine ⟨fun i m σ' H' => ∃ G al S τ', m = ms.length - i ∧ i ≤ ms.length ∧ Gr G1 al1 S1 H1 G al S H' ∧ Rl cl G al S H' ∧ RepS cl G al S.length σ' τ' ∧ PstF cl W D G al S H' (forGo tg fb (ms.drop i) τ' S), ?_, ?_⟩
  · exact ⟨ms.length, G1, al1, S1, τ, by simp, Nat.zero_le _, Gr.refl, rl1, rs0.gr g1, by rw [List.drop_zero]; exact q⟩
  · rintro i m σ' H' ⟨G, al, S, τ', rfl, hi, g, rl, rs, q⟩
    obtain ⟨jgo, jst⟩ := jw i G al S H' rl g.fz g.len g.at_
    by_cases hlt : i < ms.length
    · right
      have e1 : ms[i]? = some ms[i] := List.getElem?_eq_getElem hlt
      rw [List.drop_eq_getElem_cons hlt] at q
      obtain ⟨go, jy⟩ := jgo _ e1
      refine ⟨go, fun σ2 H2 => ∃ G al S τ', i + 1 ≤ ms.length ∧ Gr G1 al1 S1 H1 G al S H2 ∧ Rl cl G al S H2 ∧ RepS cl G al S.length σ2 τ' ∧ PstF cl W D G al S H2 (forGo tg fb (ms.drop (i + 1)) τ' S),
        fun σ2 H2 ⟨G, al, S, τ', a1, a2, a3, a4, a5⟩ => ⟨ms.length - (i + 1), by omega, G, al, S, τ', rfl, a1, a2, a3, a4, a5⟩, fun x H'' y => ?_⟩
      obtain ⟨G2, g2, rl2, rx⟩ := jy x H'' y
      have g02 := g.trans g2
      simp only [forGo] at q
      split at q
      · rename_i τ1 eb
        refine ⟨G2, al, S, τ', ms[i], rl2, rs.gr g2, rx, τ1, eb, fun σ2 rs2 _ => ?_⟩
        refine ⟨G2, al, S, τ1, rl2, rs2, ?_⟩
        have q2 := PstF.gr g2 q
        cases e : fb τ1 S with
        | next τ2 S2 =>
          rw [e] at q2
          exact fun G3 al3 H3 σ3 g3 rl3 rs3 => ⟨G3, al3, S2, τ2, hlt, g02.trans g3, rl3, rs3, PstF.gr g3 q2⟩
        | cont τ2 S2 =>
          rw [e] at q2
          exact fun G3 al3 H3 σ3 g3 rl3 rs3 => ⟨G3, al3, S2, τ2, hlt, g02.trans g3, rl3, rs3, PstF.gr g3 q2⟩
        | brk τ2 S2 => rw [e] at q2; exact q2
        | ret v S2 => rw [e] at q2; exact q2
        | exc c fs τ2 S2 => rw [e] at q2; exact q2
        | stuck => rw [e] at q2; exact q2
      · exact q.elim
    · left
      have hi' : i = ms.length := by omega
      subst hi'
      refine ⟨jst (Nat.le_refl _), ?_⟩
      rw [List.drop_length] at q
      exact q G al H' σ' Gr.refl rl rs

/-- the while's walk -/
theorem wh_of {W : WX} {D : Ends} {ft : Slots → Sto → R Bool} {fb : Slots → Sto → F} {σ : L2.St} {H : Hp} (h : rdS cl W (whGo ft fb fu) D σ H) : tWhile (rdT cl W ft) (rdS cl W fb) D σ H := by
  obtain ⟨G0, al0, S0, τ, rl0, rs0, p⟩ := h
  refine ⟨fun m σ' H' => ∃ G al S τ', Rl cl G al S H' ∧ RepS cl G al S.length σ' τ' ∧ PstF cl W D G al S H' (whGo ft fb m τ' S), ⟨fu, G0, al0, S0, τ, rl0, rs0, p⟩, ?_⟩
  rintro m σ' H' ⟨G, al, S, τ', rl, rs, q⟩
  cases m with
  | zero => exact q.elim
  | succ m =>
    simp only [whGo] at q
    refine ⟨G, al, S, τ', rl, rs, (PstF.toF rs q).imp fun G1 al1 S1 H1 b g1 rl1 q => ?_⟩
    unfold Bk
    cases b with
    | false =>
      rw [if_neg Bool.false_ne_true]
      exact q G1 al1 H1 σ' Gr.refl rl1 (rs.gr g1)
    | true =>
      rw [if_pos rfl]
      simp only [if_true] at q
      refine ⟨fun σ2 H2 => ∃ G al S τ', Rl cl G al S H2 ∧ RepS cl G al S.length σ2 τ' ∧ PstF cl W D G al S H2 (whGo ft fb m τ' S), fun σ2 H2 x => ⟨m, Nat.lt_succ_self m, x⟩, G1, al1, S1, τ', rl1, rs.gr g1, ?_⟩
      cases e : fb τ' S1 with
      | next τ2 S2 => rw [e] at q; exact fun G3 al3 H3 σ3 g3 rl3 rs3 => ⟨G3, al3, S2, τ2, rl3, rs3, PstF.gr g3 q⟩
      | cont τ2 S2 => rw [e] at q; exact fun G3 al3 H3 σ3 g3 rl3 rs3 => ⟨G3, al3, S2, τ2, rl3, rs3, PstF.gr g3 q⟩
      | brk τ2 S2 => rw [e] at q; exact q
      | ret v S2 => rw [e] at q; exact q
      | exc c fs τ2 S2 => rw [e] at q; exact q
      | stuck => rw [e] at q; exact q
end
end Mi
namespace Mi
open PySem L2 PyProof.Rows
section
variable {fs : List String} {cl : Wd} {C : Calls} {k fu : Nat}

/-- an assignment to a name: by the comprehension's own rule where the text has it so -/
theorem asg_name {X : Cx} {W : WX} {m : E} {i : Nat} {x : Str} {e : Expr} {px pos : Pos} (c : Ctx fs cl C X W k) (hk : X.env.scope.kind = .function) (n1 : X.N[i]? = some x) (n2 : L2.Loc X.env.scope x) (n3 : X.fn x = true ∨ X.env.scope.names.lookup x = some .local) (h : same fs X.N X.env.scope m e = true) :
    PS X (.Assign [.Name x px] e pos) (tAsg (rd cl W (ev C m)) (gName i)) := by
  by_cases hn : noComp e = true
  · exact ps_set c.nd n1 n2 (sound m e X W c h).1 (swaps_of hn) n3
  · have he := (sound m e X W c h).1
    cases e with
    | ListComp y gens scope lp =>
      have sw : swapsWith (.ListComp y gens scope lp) (some (.Name x px)) pos.line X.env = pure (X.env.blockKind == .function && X.env.kindOf x == some .local && px.line == (Expr.ListComp y gens scope lp).pos.line
        && !(scope.names.any fun (n, k) => n == x && (k == .local || k == .cell))) := rfl
      cases hb : (X.env.blockKind == .function && X.env.kindOf x == some .local && px.line == (Expr.ListComp y gens scope lp).pos.line
        && !(scope.names.any fun (n, k) => n == x && (k == .local || k == .cell))) with
      | false => rw [hb] at sw; exact ps_set c.nd n1 n2 he sw n3
      | true =>
        rw [hb] at sw
        simp only [Bool.and_eq_true, beq_iff_eq] at hb
        have hl : X.env.scope.names.lookup x = some .local := hb.1.1.2
        cases m with
        | lc cell elt tg it own =>
          match gens, h, sw with
          | [⟨t, iter, [], as⟩], h, sw =>
            simp only [same, Bool.and_eq_true, List.all_eq_true, decide_eq_true_eq] at h
            obtain ⟨⟨⟨⟨⟨⟨h0, h1⟩, h2⟩, h3⟩, h4⟩, h5⟩, h6⟩ := h
            subst h0
            have hI := soundI it iter t X W c h4
            refine PS.imp (ps_setLc c.calm c.nd n1 hl sw hI (blkOk_by h1)
              (fun s H CC cl' fp => pg_tg (cl := cl) (tg := tg) (X := X.blk s H scope (compEnvC scope cl' CC X.env) fp) c.nd c.calm c.pf.kk h5)
              (fun _ _ _ _ _ => pts_nil)
              (fun s H CC cl' fp => (sound elt y (X.blk s H scope (compEnvC scope cl' CC X.env) fp) W0 (c.blk s H scope (compEnvC scope cl' CC X.env) fp) h6).1) (fold_of h3)) fun D σ H q => ?_
            have hs : ∀ j ∈ tg.sl, j ∈ own.map (·.2) := fun j hj => by simpa using h2 j hj
            have := lc_of hs q
            rw [List.map_map]
            exact this
          | [], h, _ => simp [same] at h
          | _ :: _ :: _, h, _ => simp [same] at h
          | [⟨t, iter, _ :: _, _⟩], h, _ => simp [same] at h
        | _ => simp [same] at h
    | SetComp _ _ _ _ => cases m <;> simp [same] at h
    | DictComp _ _ _ _ _ => cases m <;> simp [same] at h
    | _ => exact absurd rfl hn

mutual
theorem soundS : ∀ m : Sm, SndS fs cl C k fu m
  | .asg tg e => by
    intro st X W c hf h
    cases st with
    | Assign ts x pos =>
      match ts, h with
      | [t], h =>
        simp only [sameS, Bool.and_eq_true] at h
        obtain ⟨⟨⟨h1, h2⟩, h3⟩, h4⟩ := h
        rw [← hf] at h2
        cases tg with
        | nm i =>
          cases t with
          | Name y p =>
            obtain ⟨n1, n2, n3⟩ := nm_of (show nmC X.fn X.N X.env.scope i y = true from h2)
            refine PS.imp (asg_name (W := W) (m := e) c (fnK_of h1) n1 n2 n3 h3) fun D σ H q => ?_
            obtain ⟨G, al, S, τ, rl, rs, p⟩ := q
            exact ⟨G, al, S, τ, rl, rs, (PstF.toF rs p).imp fun G1 al1 S1 H1 m g1 rl1 q v rv => q G1 al1 H1 _ Gr.refl rl1 ((rs.gr g1).set rv i)⟩
          | _ => simp [sameTg] at h2
        | tp is =>
          simp only [Bool.and_eq_true] at h4
          have hg := pg_tg (cl := cl) c.nd c.calm c.pf.kk h2
          cases t with
          | Tuple us kk p => exact PS.imp (ps_asg (sound e x X W c h3).1 hg (swapsS_of h4.2) (swst_tup h4.1) rfl) fun D σ H q => asg_of q
          | _ => simp [sameTg] at h2
      | [], h => simp [sameS] at h
      | _ :: _ :: _, h => simp [sameS] at h
    | _ => simp [sameS] at h
  | .par i j a b => by
    intro st X W c hf h
    cases st with
    | Assign ts x pos =>
      simp only [sameS] at h
      split at h
      · rename_i y py z pz u v ei
        obtain ⟨kt, pt, k2, pt2, rfl, rfl⟩ := isPar_inv ei
        simp only [Bool.and_eq_true, decide_eq_true_eq] at h
        obtain ⟨⟨⟨⟨⟨h1, h2⟩, h3⟩, h4⟩, h5⟩, h6⟩ := h
        have hw := par_of (kt := kt) (pt := pt) (k2 := k2) (pt2 := pt2) h4
        simp only [parC, Bool.and_eq_true, decide_eq_true_eq] at h4
        obtain ⟨⟨⟨⟨⟨⟨⟨⟨p1, p2⟩, p3⟩, p4⟩, p5⟩, p6⟩, p7⟩, p8⟩, p9⟩ := h4
        have ha := (sound a u X W c h5).1
        have hb := (sound b v X W c h6).1
        refine PS.imp (ps_par c.calm c.nd h1 h2 h3 p2 p3 (pa_cons ha (pa_cons hb pa_nil (star_of p7)) (star_of p6)) hw rfl) fun D σ H q => ?_
        obtain ⟨G, al, S, τ, rl, rs, p⟩ := q
        refine ⟨G, al, S, τ, rl, rs, (PstF.toF rs p).imp fun G1 al1 S1 H1 m g1 rl1 q v rv => ?_⟩
        refine ⟨G1, al1, S1, τ, rl1, rs.gr g1, (PstF.toF (rs.gr g1) q).imp fun G2 al2 S2 H2 m2 g2 rl2 q w rw' => ?_⟩
        exact ⟨v, w, rfl, q G2 al2 H2 _ Gr.refl rl2 ((((rs.gr g1).gr g2).set (rv.gr g2) i).set rw' j)⟩
      · cases h
    | _ => simp [sameS] at h
  | .setix a i e => by
    intro st X W c hf h
    cases st with
    | Assign ts x pos =>
      simp only [sameS] at h
      split at h
      · rename_i o kx sp ei
        have := isSub_inv ei; subst this
        simp only [Bool.and_eq_true] at h
        obtain ⟨⟨⟨⟨h0, h1⟩, h2⟩, h3⟩, h4⟩ := h
        have ha := (sound a o X W c h1).1
        have hi := (sound i kx X W c h2).1
        have he := (sound e x X W c h3).1
        refine ⟨fun pins s σ H D I q => ?_⟩
        have hg := pg_sub (pos := sp) ha hi (set_cell (X := X) (cl := cl) (E := WE W σ)) (assign_sub h0)
        refine (ps_asg he hg (swapsS_of h4) swst_sub rfl).run pins s σ H D I ?_
        obtain ⟨G, al, S, τ, rl, rs, p⟩ := q
        refine ⟨G, al, S, τ, rl, rs, (PstF.toF rs p).imp fun G1 al1 S1 H1 mv g1 rl1 q v rv => ?_⟩
        refine ⟨G1, al1, S1, τ, rl1, rs.gr g1, (PstF.toF (rs.gr g1) q).imp fun G2 al2 S2 H2 mo g2 rl2 q o ro => ?_⟩
        have rs2 := (rs.gr g1).gr g2
        refine ⟨G2, al2, S2, τ, rl2, rs2, (PstF.toF rs2 q).imp fun G3 al3 S3 H3 mi g3 rl3 q ii ri => ?_⟩
        have rs3 := rs2.gr g3
        exact ⟨G3, al3, S3, mo, mi, mv, rl3, ro.gr g3, ri, (rv.gr g2).gr g3, (PstF.toF rs3 q).imp fun G4 al4 S4 H4 _ g4 rl4 q => q G4 al4 H4 σ Gr.refl rl4 (rs3.gr g4)⟩
      · cases h
    | _ => simp [sameS] at h
  | .expr e => by
    intro st X W c hf h
    cases st with
    | Expr x pos =>
      simp only [sameS, Bool.and_eq_true] at h
      refine PS.imp (ps_expr (sound e x X W c h.2).1 (swaps_none h.1)) fun D σ H q => ?_
      obtain ⟨G, al, S, τ, rl, rs, p⟩ := q
      exact ⟨G, al, S, τ, rl, rs, (PstF.toF rs p).imp fun G1 al1 S1 H1 m g1 rl1 q v rv => q G1 al1 H1 σ Gr.refl rl1 (rs.gr g1)⟩
    | _ => simp [sameS] at h
  | .ret e => by
    intro st X W c hf h
    cases st with
    | Return v pos =>
      cases v with
      | none => simp [sameS] at h
      | some x =>
        simp only [sameS] at h
        refine PS.imp (ps_ret (sound e x X W c h).1) fun D σ H q => ?_
        obtain ⟨G, al, S, τ, rl, rs, p⟩ := q
        exact ⟨G, al, S, τ, rl, rs, (PstF.toF rs p).imp fun G1 al1 S1 H1 m g1 rl1 q v rv => q G1 al1 H1 v Gr.refl rl1 rv⟩
    | _ => simp [sameS] at h
  | .ifs t a b => by
    intro st X W c hf h
    cases st with
    | If x ys zs pos =>
      simp only [sameS, Bool.and_eq_true] at h
      refine PS.imp (ps_if (sound t x X W c h.1.1).2 (soundB a ys X W c hf h.1.2) (soundB b zs X W c hf h.2)) fun D σ H q => ?_
      obtain ⟨G, al, S, τ, rl, rs, p⟩ := q
      refine ⟨G, al, S, τ, rl, rs, (PstF.toF rs p).imp fun G1 al1 S1 H1 b g1 rl1 q => ?_⟩
      unfold Bk
      cases b with
      | true => rw [if_pos rfl]; exact ⟨G1, al1, S1, τ, rl1, rs.gr g1, q⟩
      | false => rw [if_neg Bool.false_ne_true]; exact ⟨G1, al1, S1, τ, rl1, rs.gr g1, q⟩
    | _ => simp [sameS] at h
  | .for_ tg it body => by
    intro st X W c hf h
    cases st with
    | For t x ys oe pos =>
      cases oe with
      | cons _ _ => simp [sameS] at h
      | nil =>
        simp only [sameS, Bool.and_eq_true] at h
        obtain ⟨⟨⟨h1, h2⟩, h3⟩, h4⟩ := h
        rw [← hf] at h2
        exact PS.imp (ps_for c.own c.calm (soundI it x t X W c h3) (pg_tg (cl := cl) c.nd c.calm c.pf.kk h2) (soundB body ys X W c hf h4) (fold_of h1)) fun D σ H q => for_of q
    | _ => simp [sameS] at h
  | .while_ t body => by
    intro st X W c hf h
    cases st with
    | While x ys oe pos =>
      cases oe with
      | cons _ _ => simp [sameS] at h
      | nil =>
        simp only [sameS, Bool.and_eq_true] at h
        exact PS.imp (ps_while c.own (sound t x X W c h.1).2 (soundB body ys X W c hf h.2)) fun D σ H q => wh_of q
    | _ => simp [sameS] at h
theorem soundB : ∀ m : Sms, SndB fs cl C k fu m
  | .nil => by
    intro st X W c hf h
    cases st with
    | cons _ _ => simp [sameB] at h
    | nil => exact PSs.imp pss_nil fun D σ H ⟨G, al, S, τ, rl, rs, p⟩ => p G al H σ Gr.refl rl rs
  | .cons s r => by
    intro st X W c hf h
    cases st with
    | nil => simp [sameB] at h
    | cons x xs =>
      simp only [sameB, Bool.and_eq_true] at h
      refine PSs.imp (pss_cons (soundS s x X W c hf h.1) (soundB r xs X W c hf h.2)) fun D σ H ⟨G, al, S, τ, rl, rs, p⟩ => ?_
      refine ⟨G, al, S, τ, rl, rs, ?_⟩
      simp only [exs] at p
      cases e : ex C fu s τ S with
      | next τ1 S1 => rw [e] at p; exact fun G' al' H' σ' g rl' rs' => ⟨G', al', S1, τ1, rl', rs', PstF.gr g p⟩
      | ret v S1 => rw [e] at p; exact p
      | brk τ1 S1 => rw [e] at p; exact p
      | cont τ1 S1 => rw [e] at p; exact p
      | exc c fs τ1 S1 => rw [e] at p; exact p
      | stuck => rw [e] at p; exact p
end
end
end Mi
namespace Mi
open PySem L2 PyProof.Rows

/-- a def of the text is the mini def -/
def DfOk (fs : List String) (K : PySem.W.Frag) (mg : Str → Option Value) (f : String) (d : Df) : Prop := ∃ (qual : Str) (st : Stmt) (a : Addr) (fd : FuncData),
  Fun K (Str.ofString f) qual st a fd ∧ mg (Str.ofString f) = some (.ref a) ∧ FnScope (d.names.map Str.ofString) ((d.names.take d.np).map Str.ofString) (defScope st) ∧
  Binds K fd ((d.names.take d.np).map Str.ofString) [] ∧ sameB fs (d.names.map Str.ofString) (defScope st) d.body (defBody st) = true ∧ d.np ≤ d.names.length

section
variable {cl : Wd} {G H : Hp} {al : Nat → Addr} {S : Sto}
theorem repS_start {n : Nat} {vs : List V} {ms : List MV} (r : RepMs cl G al n vs ms) (N : List Str) (m : Nat) (hN : N.length = m) : RepS cl G al n (start N vs) (ms.map some ++ List.replicate (m - ms.length) none) := by
  have hl := r.length
  refine ⟨by simp [L2.start, hl, hN], fun i mv e => ?_⟩
  by_cases hi : i < ms.length
  · rw [List.getElem?_append_left (by simpa using hi), List.getElem?_map] at e
    cases q : ms[i]? with
    | none => rw [q] at e; cases e
    | some m' =>
      rw [q] at e
      cases e
      obtain ⟨v, h1, h2⟩ := r.get q
      refine ⟨v, ?_, h2⟩
      unfold L2.start
      rw [List.getElem?_append_left (by simpa [hl] using hi), List.getElem?_map, h1]
      rfl
  · rw [List.getElem?_append_right (by simpa using Nat.le_of_not_lt hi)] at e
    rw [List.getElem?_replicate] at e
    split at e <;> cases e
theorem Rl.empty (rl : Rl cl G al S H) : Rl cl G al [] H := ⟨rl.ex, fun i c e => by simp at e, fun i d e => by simp at e, fun i j ⟨c, e, _⟩ => by simp at e⟩
/-- behind a call that saw data alone the caller's cells stand -/
theorem pure_back {S1 S2 : Sto} {G2 H2 : Hp} {al2 : Nat → Addr} (rl : Rl cl G al S1 H) (g : Gr G al [] H G2 al2 S2 H2) (rl2 : Rl cl G2 al2 S2 H2) : Gr G al S1 H G2 al S1 H2 ∧ Rl cl G2 al S1 H2 := by
  have fr : ∀ a o, H a = some o → H2 a = some o := fun a o h => g.fr a o h fun i ⟨c, e, _⟩ => by simp at e
  have new : ∀ a, G a = none → G2 a ≠ none → H a = none := fun a h h' => by
    rcases g.new a h h' with z | ⟨i, ⟨c, e, _⟩, _⟩
    · exact z
    · simp at e
  refine ⟨⟨g.fz, Nat.le_refl _, fun _ _ => rfl, fun i h => .inl h, fun a o h _ => fr a o h, g.dom, fun a h h' => .inl (new a h h')⟩, ⟨rl2.ex, fun i c e l => ?_, fun i d e => (rl.froz i d e).mono g.fz, rl.inj⟩⟩
  obtain ⟨h1, o, h2, h3⟩ := rl.live i c e l
  refine ⟨?_, o, fr _ _ h2, h3.mono g.fz (Nat.le_refl _) fun _ _ => rfl⟩
  cases q : G2 (al i) with
  | none => rfl
  | some u =>
    have := new _ h1 (by rw [q]; simp)
    rw [h2] at this; cases this
end

section
variable {fs : List String} {cl : Wd} {prog : Program} {w : World} {K : PySem.W.Frag} {mg : Str → Option Value} {base : Heap} {P : String → Option Df} {fu : Nat}
theorem run_len {C : Calls} {d : Df} {ms : List MV} {S : Sto} (h : run C fu d ms S ≠ .stuck) : ms.length = d.np := by
  unfold run at h
  split at h
  · assumption
  · exact absurd rfl h
/-- what run wants of the body -/
theorem run_post {C : Calls} {d : Df} {E : XK} {Q : VK} {G H : Hp} {al : Nat → Addr} {S S0 : Sto} {ms : List MV} (ok : Hp → (Nat → Addr) → Sto → Hp → MV → Prop) (h : Pst cl G al S H (run C fu d ms S0) ok E)
    (hok : ∀ m S' G' al' H', Gr G al S H G' al' S' H' → Rl cl G' al' S' H' → ok G' al' S' H' m → ∀ v, RepM cl G' al' S'.length v m → Q v H') :
    PstF cl (fun c d _ H => E c d H) { nx := fun _ H' => Q .non H', rt := Q } G al S H (exs C fu d.body (ms.map some ++ List.replicate (d.names.length - ms.length) none) S0) := by
  unfold run at h
  split at h
  · split at h
    · rename_i e; rw [e]; exact fun G' al' H' v g r rv => hok _ _ _ _ _ g r (h G' al' H' g r) v rv
    · rename_i e; rw [e]; exact fun G' al' H' σ' g r rs => hok _ _ _ _ _ g r (h G' al' H' g r) _ (.d .non)
    · rename_i e; rw [e]; exact fun G' al' H' σ' cv d g r rs x => h G' al' H' cv d g r x
    · exact h.elim
  · exact h.elim
theorem def_step {f : String} {d : Df} {n : Nat} {qual : Str} {st : Stmt} {a : Addr} {fd : FuncData} (ih : Pf fs cl (callN P fu n) prog w K mg base n) (hd : P f = some d) (F : Fun K (Str.ofString f) qual st a fd)
    (sc : FnScope (d.names.map Str.ofString) ((d.names.take d.np).map Str.ofString) (defScope st)) (hs : sameB fs (d.names.map Str.ofString) (defScope st) d.body (defBody st) = true) (hnp : d.np ≤ d.names.length) (raw : Bool) :
    FnOk prog w K mg base (CX prog w) (n + 1) a fd ((d.names.take d.np).map Str.ofString) (fun vs H Q E => rN cl E (callN P fu (n + 1) raw f) vs H Q) := by
  have hlen : ((d.names.take d.np).map Str.ofString).length = d.np := by simp [Nat.min_eq_left hnp]
  refine F.okX sc (fun vs H Q E h => ?_) (fun cdv A outer s H vs Q E hr h => ?_)
  · rw [hlen]
    obtain ⟨G, al, S, ms, rl, rv, q⟩ := h
    simp only [callN, hd] at q
    rw [rv.length]
    cases raw with
    | true =>
      simp only [if_true] at q
      exact run_len (fu := fu) (C := callN P fu n) (S := S) fun z => by rw [z] at q; exact q
    | false =>
      simp only [Bool.false_eq_true, if_false, pureCall] at q
      obtain ⟨G1, S1, ds, e1, g1, rl1, r1⟩ := freezes_ok rl rv q.bind
      rw [e1] at q
      simp only [R.bind_ok] at q
      have : (ds.map MV.d).length = d.np := run_len (fu := fu) (C := callN P fu n) (S := []) fun z => by rw [z] at q; exact q
      rw [List.length_map, ← r1.length, rv.length] at this
      exact this
  · refine ⟨rdS cl (fun c d _ H => E c d H) (exs (callN P fu n) fu d.body), ?_, ?_⟩
    · refine soundB d.body _ _ _ ⟨ih, hr, rfl, takes_of rfl rfl rfl rfl, passes_of rfl, sc.nd⟩ rfl hs
    · obtain ⟨G, al, S, ms, rl, rv, q⟩ := h
      simp only [callN, hd] at q
      have hnm : (d.names.map Str.ofString).length = d.names.length := by simp
      cases raw with
      | true =>
        simp only [if_true] at q
        exact ⟨G, al, S, _, rl, repS_start rv _ _ hnm, run_post _ q fun m S' G' al' H' g r k v rv => k v rv⟩
      | false =>
        simp only [Bool.false_eq_true, if_false, pureCall] at q
        obtain ⟨G1, S1, ds, e1, g1, rl1, r1⟩ := freezes_ok rl rv q.bind
        rw [e1] at q
        simp only [R.bind_ok] at q
        have q1 := Pst.gr g1 q
        have rs : RepS cl G1 al 0 (start (d.names.map Str.ofString) vs) ((ds.map MV.d).map some ++ List.replicate (d.names.length - (ds.map MV.d).length) none) := repS_start (.ofL r1) _ _ hnm
        refine ⟨G1, al, [], _, rl1.empty, rs, run_post (fun G' al' S' H' m => ∀ v, RepM cl G' al' S'.length v m → Q v H') ?_ fun m S' G' al' H' g r k v rv => k v rv⟩
        cases er : run (callN P fu n) fu d (ds.map MV.d) [] with
        | stuck => rw [er] at q1; exact q1
        | exc c fs' S2 =>
          rw [er] at q1
          intro G2 al2 H2 cv dd g2 rl2 x
          obtain ⟨g3, rl3⟩ := pure_back rl1 g2 rl2
          exact q1 G2 al H2 cv dd g3 rl3 x
        | ok m S2 =>
          rw [er] at q1
          intro G2 al2 H2 g2 rl2 v rv
          dsimp only at q1
          have qf : Pst cl G2 al2 S2 H2 (freeze 4 m S2) (fun _ _ _ _ _ => True) (fun _ _ _ => True) := by
            cases ef : freeze 4 m S2 with
            | ok r S3 => exact fun _ _ _ _ _ => trivial
            | exc _ _ _ => rw [ef] at q1; exact q1.elim
            | stuck => rw [ef] at q1; exact q1.elim
          obtain ⟨G3, S3, r, e3, g3, rl3, r3⟩ := freeze_ok 4 rl2 rv qf
          rw [e3] at q1
          obtain ⟨g4, rl4⟩ := pure_back rl1 (g2.trans g3) rl3
          exact q1 G3 al H2 g4 rl4 v (.d r3)
theorem defs_ok (hK : K = cl.K) (hfs : ∀ f, fs.contains f = true → ∃ d, P f = some d ∧ DfOk fs K mg f d) (nob : ∀ x ∈ bnames, mg (Str.ofString x) = none) : ∀ n : Nat, Pf fs cl (callN P fu n) prog w K mg base n := by
  intro n
  induction n with
  | zero =>
    refine ⟨hK, fun raw f hf => ?_, nob⟩
    obtain ⟨d, hd, qual, st, a, fd, F, hm, sc, hb, hs, hnp⟩ := hfs f hf
    refine ⟨a, fd, _, hm, F.kp, hb, ⟨fun vs H Q E h => ?_, fun A outer s H args us vs Q E _ _ _ _ h => ?_⟩⟩
    · obtain ⟨_, _, _, _, _, _, q⟩ := h; exact q.elim
    · obtain ⟨_, _, _, _, _, _, q⟩ := h; exact q.elim
  | succ n ih =>
    refine ⟨hK, fun raw f hf => ?_, nob⟩
    obtain ⟨d, hd, qual, st, a, fd, F, hm, sc, hb, hs, hnp⟩ := hfs f hf
    exact ⟨a, fd, _, hm, F.kp, hb, def_step ih hd F sc hs hnp raw⟩
end

/-! ### the law -/
/-- the law's promise, from the mini law -/
theorem law_sp {cl : Wd} {C : Calls} {ns : List Int} {S' : Sto} {H : Hp} {a : Addr} (hS : SqL cl.K H a (ns.map V.int)) (h : C true "law" [.d (.scr ns)] [] = .ok (.d (.bl true)) S') :
    rN cl (fun _ _ _ => False) (C true "law") [.ref a] H (fun v _ => v = .bl true) := by
  refine ⟨H, fun _ => 0, [], [.d (.scr ns)], ⟨Ex.refl H, fun i c e => by simp at e, fun i d e => by simp at e, fun i j ⟨c, e, _⟩ => by simp at e⟩, .cons (.d (.scr hS)) .nil, ?_⟩
  rw [h]
  intro G' al' H' _ _ v rv
  exact rv.bl_inv
theorem walk {l : PySem.W.OpenLaw} {q : Program} {loose : List Str} {XP : (Str → Option Value) → Heap → Prop} {YP : World → Heap → Prop} {d : DefRec} {K : Params → PySem.W.Frag} {x : Str} {C : Calls} {k : Nat} (hk : k ≤ 200) (hn : l.most = some 63) (hdf : d.params.defaults = [])
    (hY : ∀ (w : World) (h : Heap), YP w h → (K w.params).In h) (hC : ∀ ns : List Int, ns.length ≤ 63 → (∀ z ∈ ns, Builtin.Int.intBits z ≤ 1048576) → ∃ S', C true "law" [.d (.scr ns)] [] = .ok (.d (.bl true)) S') (cl : PySem.W.Frag → String → Option Addr)
    (F : ∀ (w : World) (mg : Str → Option Value) (fa : Addr) (h : Heap), (K w.params).In h → h.Ns mainGlobals mg → mg d.name = some (.ref fa) →
      ∃ fd : FuncData, (∀ (s : Shared) (u : Value), BindsTo s fd ⟨[u], []⟩ [(x, u)]) ∧ ∀ base : Heap, (K w.params).In base → base.Ns mainGlobals mg → FnOk l.prog w (K w.params) mg base (CX l.prog w) k fa fd [x] (fun vs H Q E => rN ⟨K w.params, cl (K w.params)⟩ E (C true "law") vs H Q)) :
    PySem.W.WalkO q loose XP YP l.row.toRowW d [] (fun f vs => PySem.call f vs) :=
  L2.walk_ofB (n := 63) (k := k) (x := x) (CX := fun w => CX l.prog w) (sp := fun w => fun vs H Q E => rN ⟨K w.params, cl (K w.params)⟩ E (C true "law") vs H Q) hn (by decide) hdf
    ((⟨rfl, by decide, by decide⟩ : Room 200 callerA).mono hk) hY F (fun w H a ns hl hb _ hS => let ⟨S', e⟩ := hC ns hl hb; law_sp hS e) fun w H s e s' z => by
      obtain ⟨_, _, _, _, _, _, _, _, _, _, _, _, q⟩ := z
      exact q
end Mi
namespace Mi
open PySem L2

@[simp] theorem freeze_d (n : Nat) (x : D) (S : Sto) : freeze n (.d x) S = .ok x S := by cases n <;> rfl
@[simp] theorem freezeL_nil (f : MV → Sto → R D) (S : Sto) : freezeL f [] S = .ok [] S := rfl
@[simp] theorem freezeL_cons (f : MV → Sto → R D) (v : MV) (r : List MV) (S : Sto) : freezeL f (v :: r) S = (f v S).bind fun d S1 => (freezeL f r S1).bind fun ds S2 => .ok (d :: ds) S2 := rfl
theorem freezeL_d (n : Nat) : ∀ (ds : List D) (S : Sto), freezeL (freeze n) (ds.map .d) S = .ok ds S
  | [], S => rfl
  | d :: ds, S => by simp [freezeL_d n ds S]
@[simp] theorem deep_d (n : Nat) (S : Sto) (x : D) : deep n S (.d x) = some x := by cases n <;> rfl
@[simp] theorem flat_d (S : Sto) (x : D) : flat S (.d x) = some x := rfl
@[simp] theorem allD_nil : allD [] = some [] := rfl
@[simp] theorem allD_d (x : D) (r : List MV) : allD (.d x :: r) = (allD r).map (x :: ·) := rfl
@[simp] theorem allD_map : ∀ ds : List D, allD (ds.map .d) = some ds
  | [] => rfl
  | d :: ds => by simp [allD_map ds]

section
variable (C : Calls) (fu : Nat) (σ : Slots) (S : Sto)
@[simp] theorem ev_var (i : Nat) : ev C (.var i) σ S = match σ[i]? with
    | some (some v) => .ok v S
    | _ => .stuck := rfl
@[simp] theorem ev_int (i : Int) : ev C (.int i) σ S = .ok (.d (.int i)) S := rfl
@[simp] theorem ev_bl (b : Bool) : ev C (.bl b) σ S = .ok (.d (.bl b)) S := rfl
@[simp] theorem ev_non : ev C .non σ S = .ok (.d .non) S := rfl
@[simp] theorem ev_str (s : String) : ev C (.str s) σ S = .ok (.d (.str (Str.ofString s))) S := rfl
@[simp] theorem ev_bin (o : Bop) (a b : E) : ev C (.bin o a b) σ S = (ev C a σ S).bind fun x S1 => (ev C b σ S1).bind fun y S2 => dop S2 x y (binD o) := rfl
@[simp] theorem ev_neg (a : E) : ev C (.neg a) σ S = (ev C a σ S).bind fun x S1 => negF x S1 := rfl
@[simp] theorem ev_cmp (o : Cop) (a b : E) : ev C (.cmp o a b) σ S = (ev C a σ S).bind fun x S1 => (ev C b σ S1).bind fun y S2 => dqu S2 x y (cmpD o) := rfl
@[simp] theorem ev_chain (o p : Cop) (a b c : E) : ev C (.chain o p a b c) σ S = (ev C a σ S).bind fun x S1 => (ev C b σ S1).bind fun y S2 => (dqu S2 x y (cmpD o)).bind fun k S3 => match k with
    | .d (.bl true) => (ev C c σ S3).bind fun z S4 => dqu S4 y z (cmpD p)
    | .d (.bl false) => .ok (.d (.bl false)) S3
    | _ => .stuck := rfl
@[simp] theorem ev_and (a b : E) : ev C (.and_ a b) σ S = (ev C a σ S).bind fun x S1 => match truth S1 x with
    | some true => ev C b σ S1
    | some false => .ok x S1
    | none => .stuck := rfl
@[simp] theorem ev_or (a b : E) : ev C (.or_ a b) σ S = (ev C a σ S).bind fun x S1 => match truth S1 x with
    | some true => .ok x S1
    | some false => ev C b σ S1
    | none => .stuck := rfl
@[simp] theorem ev_one (a : E) : ev C (.one a) σ S = ev C a σ S := rfl
@[simp] theorem ev_not (a : E) : ev C (.not_ a) σ S = (ev C a σ S).bind fun x S1 => match truth S1 x with
    | some k => .ok (.d (.bl (!k))) S1
    | none => .stuck := rfl
@[simp] theorem ev_ife (t a b : E) : ev C (.ife t a b) σ S = (ev C t σ S).bind fun x S1 => match truth S1 x with
    | some true => ev C a σ S1
    | some false => ev C b σ S1
    | none => .stuck := rfl
@[simp] theorem ev_tup (es : Es) : ev C (.tup es) σ S = (evs C es σ S).bind fun ms S1 => newT ms S1 := rfl
@[simp] theorem ev_lst (cell : Bool) (es : Es) : ev C (.lst cell es) σ S = (evs C es σ S).bind fun ms S1 => newL cell ms S1 := rfl
@[simp] theorem ev_ix (a i : E) : ev C (.ix a i) σ S = (ev C a σ S).bind fun x S1 => (ev C i σ S1).bind fun k S2 => ixF x k S2 := rfl
@[simp] theorem ev_call (raw : Bool) (f : String) (es : Es) : ev C (.call raw f es) σ S = (evs C es σ S).bind fun ms S1 => C raw f ms S1 := rfl
@[simp] theorem ev_blt (cell : Bool) (b : Bl) (es : Es) : ev C (.blt cell b es) σ S = (evs C es σ S).bind fun ms S1 => bltF cell b ms S1 := rfl
@[simp] theorem ev_isi (a : E) (ty : String) : ev C (.isi a ty) σ S = (ev C a σ S).bind fun x S1 => isiF ty x S1 := rfl
@[simp] theorem ev_app (a e : E) : ev C (.app a e) σ S = (ev C a σ S).bind fun x S1 => if lstC S1 x then (ev C e σ S1).bind fun y S2 => appF x y S2 else .stuck := rfl
@[simp] theorem ev_lc (cell : Bool) (elt : E) (tg : Tg) (it : It) (own : List (String × Nat)) : ev C (.lc cell elt tg it own) σ S = (evI C it σ S).bind fun ms S1 =>
      (lcGo (ev C elt) tg (wipeM σ (own.map (·.2))) ms [] S1).bind fun ys S2 => newL cell ys S2 := rfl
@[simp] theorem evs_nil : evs C .nil σ S = .ok [] S := rfl
@[simp] theorem evs_cons (e : E) (r : Es) : evs C (.cons e r) σ S = (ev C e σ S).bind fun v S1 => (evs C r σ S1).bind fun vs S2 => .ok (v :: vs) S2 := rfl
@[simp] theorem evI_seq (e : E) : evI C (.seq e) σ S = (ev C e σ S).bind fun v S1 => walked v S1 := rfl
@[simp] theorem evI_range1 (e : E) : evI C (.range1 e) σ S = (ev C e σ S).bind fun v S1 => match v with
    | .d (.int j) => if rgOk j then .ok (rangeL 0 j) S1 else .stuck
    | _ => .stuck := rfl
@[simp] theorem evI_range2 (a b : E) : evI C (.range2 a b) σ S = (ev C a σ S).bind fun v S1 => (ev C b σ S1).bind fun w S2 => match v, w with
    | .d (.int i), .d (.int j) => if rgOk i && rgOk j then .ok (rangeL i j) S2 else .stuck
    | _, _ => .stuck := rfl
@[simp] theorem evT_eq (m : E) : evT C m σ S = (ev C m σ S).bind fun v S1 => R.opt (truth S1 v) S1 := rfl
@[simp] theorem ex_asg (tg : Tg) (e : E) : ex C fu (.asg tg e) σ S = (ev C e σ S).toF σ fun v S1 => match bindTg tg σ v with
    | some σ1 => .next σ1 S1
    | none => .stuck := rfl
@[simp] theorem ex_par (i j : Nat) (a b : E) : ex C fu (.par i j a b) σ S = (ev C a σ S).toF σ fun v S1 => (ev C b σ S1).toF σ fun w S2 => .next ((σ.set i (some v)).set j (some w)) S2 := rfl
@[simp] theorem ex_setix (a i e : E) : ex C fu (.setix a i e) σ S = (ev C e σ S).toF σ fun v S1 => (ev C a σ S1).toF σ fun x S2 => (ev C i σ S2).toF σ fun k S3 => (setF x k v S3).toF σ fun _ S4 => .next σ S4 := rfl
@[simp] theorem ex_expr (e : E) : ex C fu (.expr e) σ S = (ev C e σ S).toF σ fun _ S1 => .next σ S1 := rfl
@[simp] theorem ex_ret (e : E) : ex C fu (.ret e) σ S = (ev C e σ S).toF σ fun v S1 => .ret v S1 := rfl
@[simp] theorem ex_ifs (t : E) (a b : Sms) : ex C fu (.ifs t a b) σ S = (evT C t σ S).toF σ fun k S1 => if k then exs C fu a σ S1 else exs C fu b σ S1 := rfl
@[simp] theorem ex_for (tg : Tg) (it : It) (body : Sms) : ex C fu (.for_ tg it body) σ S = (evI C it σ S).toF σ fun ms S1 => forGo tg (exs C fu body) ms σ S1 := rfl
@[simp] theorem ex_while (t : E) (body : Sms) : ex C fu (.while_ t body) σ S = whGo (evT C t) (exs C fu body) fu σ S := rfl
@[simp] theorem exs_nil : exs C fu .nil σ S = .next σ S := rfl
@[simp] theorem exs_cons (s : Sm) (r : Sms) : exs C fu (.cons s r) σ S = (ex C fu s σ S).seq fun σ1 S1 => exs C fu r σ1 S1 := rfl
@[simp] theorem forGo_nil (tg : Tg) (b : Slots → Sto → F) : forGo tg b [] σ S = .next σ S := rfl
theorem forGo_cons (tg : Tg) (b : Slots → Sto → F) (x : MV) (xs : List MV) : forGo tg b (x :: xs) σ S = match bindTg tg σ x with
      | some σ1 => match b σ1 S with
        | .next σ2 S2 => forGo tg b xs σ2 S2
        | .cont σ2 S2 => forGo tg b xs σ2 S2
        | .brk σ2 S2 => .next σ2 S2
        | f => f
      | none => .stuck := rfl
theorem whGo_succ (t : Slots → Sto → R Bool) (b : Slots → Sto → F) (n : Nat) : whGo t b (n + 1) σ S = (t σ S).toF σ fun k S1 => if k then match b σ S1 with
      | .next σ2 S2 => whGo t b n σ2 S2
      | .cont σ2 S2 => whGo t b n σ2 S2
      | .brk σ2 S2 => .next σ2 S2
      | f => f
    else .next σ S1 := rfl
@[simp] theorem bindTg_nm (i : Nat) (v : MV) : bindTg (.nm i) σ v = some (σ.set i (some v)) := rfl
@[simp] theorem bindTg_tp (is : List Nat) (xs : List D) : bindTg (.tp is) σ (.d (.tup xs)) = if xs.length = is.length then some (setAll σ is (xs.map .d)) else none := by
  simp [bindTg, tupItems]
@[simp] theorem setAll_nil (ms : List MV) : setAll σ [] ms = σ := by cases ms <;> rfl
@[simp] theorem setAll_cons (i : Nat) (is : List Nat) (m : MV) (ms : List MV) : setAll σ (i :: is) (m :: ms) = setAll (σ.set i (some m)) is ms := rfl
@[simp] theorem dop_d (x y : D) (f : D → D → Option D) : dop S (.d x) (.d y) f = match f x y with
    | some z => .ok (.d z) S
    | none => .stuck := rfl
@[simp] theorem dqu_d (x y : D) (f : D → D → Option Bool) : dqu S (.d x) (.d y) f = match f x y with
    | some z => .ok (.d (.bl z)) S
    | none => .stuck := rfl
@[simp] theorem binD_add (i j : Int) : binD .add (.int i) (.int j) = some (.int (i + j)) := rfl
@[simp] theorem binD_sub (i j : Int) : binD .sub (.int i) (.int j) = some (.int (i - j)) := rfl
@[simp] theorem binD_mul (i j : Int) : binD .mul (.int i) (.int j) = if mulOk i j then some (.int (i * j)) else none := rfl
@[simp] theorem binD_fdiv (i j : Int) : binD .fdiv (.int i) (.int j) = if divOk j then some (.int (i.fdiv j)) else none := rfl
@[simp] theorem binD_mod (i j : Int) : binD .mod (.int i) (.int j) = if j ≠ 0 then some (.int (i.fmod j)) else none := rfl
@[simp] theorem binD_pow (i j : Int) : binD .pow (.int i) (.int j) = if powOk i j then some (.int (i ^ j.toNat)) else none := rfl
@[simp] theorem binD_cat (xs ys : List D) : binD .add (.lst xs) (.lst ys) = if szOk (xs.length + ys.length) then some (.lst (xs ++ ys)) else none := rfl
@[simp] theorem cmpD_lt (i j : Int) : cmpD .lt (.int i) (.int j) = some (decide (i < j)) := rfl
@[simp] theorem cmpD_le (i j : Int) : cmpD .le (.int i) (.int j) = some (decide (i ≤ j)) := rfl
@[simp] theorem cmpD_gt (i j : Int) : cmpD .gt (.int i) (.int j) = some (decide (j < i)) := rfl
@[simp] theorem cmpD_ge (i j : Int) : cmpD .ge (.int i) (.int j) = some (decide (j ≤ i)) := rfl
@[simp] theorem cmpD_eqI (i j : Int) : cmpD .eq (.int i) (.int j) = some (decide (i = j)) := rfl
@[simp] theorem cmpD_neI (i j : Int) : cmpD .ne (.int i) (.int j) = some (!decide (i = j)) := rfl
theorem cmpD_eq (a b : D) : cmpD .eq a b = if dep 8 a && dep 8 b then some (eqD a b) else none := by cases a <;> rfl
theorem cmpD_ne (a b : D) : cmpD .ne a b = if dep 8 a && dep 8 b then some (!eqD a b) else none := by cases a <;> rfl
@[simp] theorem truth_bl (b : Bool) : truth S (.d (.bl b)) = some b := rfl
@[simp] theorem truth_non : truth S (.d .non) = some false := rfl
@[simp] theorem truth_int (i : Int) : truth S (.d (.int i)) = some (i != 0) := rfl
@[simp] theorem negF_int (i : Int) : negF (.d (.int i)) S = .ok (.d (.int (-i))) S := rfl
@[simp] theorem items_lst (xs : List D) : items S (.d (.lst xs)) = some (xs.map .d) := rfl
@[simp] theorem items_tup (xs : List D) : items S (.d (.tup xs)) = some (xs.map .d) := rfl
@[simp] theorem items_t (xs : List MV) : items S (.t xs) = some xs := rfl
@[simp] theorem items_c (i : Nat) : items S (.c i) = match S[i]? with
    | some (.lst ms) => some ms
    | some (.froz (.lst xs)) => some (xs.map .d)
    | _ => none := rfl
@[simp] theorem ixF_int (x : MV) (k : Int) : ixF x (.d (.int k)) S = match items S x with
    | some ms => match L2.atI ms k with
      | some m => .ok m S
      | none => .stuck
    | none => .stuck := by unfold ixF; cases items S x <;> rfl
@[simp] theorem bltF_abs (c : Bool) (i : Int) : bltF c .abs [.d (.int i)] S = .ok (.d (.int (if i < 0 then -i else i))) S := rfl
@[simp] theorem bltF_int (c : Bool) (i : Int) : bltF c .int [.d (.int i)] S = .ok (.d (.int i)) S := rfl
@[simp] theorem bltF_intb (c : Bool) (k : Bool) : bltF c .int [.d (.bl k)] S = .ok (.d (.int (if k = true then 1 else 0))) S := rfl
@[simp] theorem bltF_max (c : Bool) (i j : Int) : bltF c .max [.d (.int i), .d (.int j)] S = .ok (.d (.int (if j > i then j else i))) S := rfl
@[simp] theorem bltF_len (c : Bool) (v : MV) : bltF c .len [v] S = match items S v with
    | some ms => .ok (.d (.int ms.length)) S
    | none => .stuck := rfl
@[simp] theorem bltF_listL (c : Bool) (xs : List D) : bltF c .list [.d (.lst xs)] S = newL c (xs.map .d) S := rfl
@[simp] theorem bltF_listT (c : Bool) (xs : List D) : bltF c .list [.d (.tup xs)] S = newL c (xs.map .d) S := rfl
@[simp] theorem bltF_listS (c : Bool) (ns : List Int) : bltF c .list [.d (.scr ns)] S = newL c (ns.map fun n => .d (.int n)) S := rfl
@[simp] theorem bltF_listC (c : Bool) (i : Nat) : bltF c .list [.c i] S = match items S (.c i) with
    | some ms => newL c ms S
    | none => .stuck := rfl
@[simp] theorem bltF_tupL (c : Bool) (xs : List D) : bltF c .tuple [.d (.lst xs)] S = newT (xs.map .d) S := rfl
@[simp] theorem bltF_tupT (c : Bool) (xs : List D) : bltF c .tuple [.d (.tup xs)] S = .ok (.d (.tup xs)) S := rfl
@[simp] theorem bltF_tupC (c : Bool) (i : Nat) : bltF c .tuple [.c i] S = match items S (.c i) with
    | some ms => newT ms S
    | none => .stuck := rfl
theorem newL_d (xs : List D) (h : szOk xs.length = true) : newL false (xs.map .d) S = .ok (.d (.lst xs)) S := by simp [newL, h]
theorem newL_c (ms : List MV) (h : szOk ms.length = true) : newL true ms S = .ok (.c S.length) (S ++ [.lst ms]) := by simp [newL, h]
theorem newT_d (xs : List D) (h : szOk xs.length = true) : newT (xs.map .d) S = .ok (.d (.tup xs)) S := by simp [newT, h]
@[simp] theorem walked_lst (xs : List D) : walked (.d (.lst xs)) S = .ok (xs.map .d) S := rfl
@[simp] theorem walked_tup (xs : List D) : walked (.d (.tup xs)) S = .ok (xs.map .d) S := rfl
end

/-! ### sizes -/
theorem mulOk_of {i j : Int} {a b : Nat} (ha : i.natAbs < 2 ^ a) (hb : j.natAbs < 2 ^ b) (h : a + b ≤ 900000 := by decide) : mulOk i j = true := by
  have l : ∀ {n k : Nat}, n < 2 ^ k → n.log2 ≤ k := fun {n k} h => by
    by_cases h0 : n = 0
    · subst h0; simp
    · have := (Nat.log2_lt h0).mpr h; omega
  have h1 := l ha
  have h2 := l hb
  unfold mulOk
  exact decide_eq_true (by omega)
theorem divOk_of {j : Int} {b : Nat} (h0 : j ≠ 0) (hb : j.natAbs < 2 ^ b) (h : b ≤ 8000 := by decide) : divOk j = true := by
  unfold divOk
  refine decide_eq_true ⟨h0, ?_⟩
  have : j.natAbs ≠ 0 := by omega
  have := (Nat.log2_lt this).mpr hb
  omega
theorem powOk_of {i j : Int} (h0 : 0 ≤ j) (h1 : j ≤ 1000000) (hb : i.natAbs < 2 ^ 64) : powOk i j = true := decide_eq_true ⟨h0, h1, hb⟩
theorem szOk_of {n : Nat} (h : n ≤ 1000000) : szOk n = true := decide_eq_true h

/-! ### calls -/
theorem callN_raw {P : String → Option Df} {fu n : Nat} {f : String} {d : Df} {vs : List MV} {S : Sto} (h : P f = some d) : callN P fu (n + 1) true f vs S = run (callN P fu n) fu d vs S := by
  simp only [callN, h, if_true]
theorem callN_pure {P : String → Option Df} {fu n : Nat} {f : String} {d : Df} {vs : List MV} {S : Sto} (h : P f = some d) : callN P fu (n + 1) false f vs S = pureCall (run (callN P fu n) fu d) vs S := by
  simp only [callN, h, Bool.false_eq_true, if_false]
/-- a pure call of data -/
theorem pureCall_d {g : List MV → Sto → R MV} {ds : List D} {S S2 S3 : Sto} {v : MV} {r : D} (h : g (ds.map .d) [] = .ok v S2) (hf : freeze 4 v S2 = .ok r S3) : pureCall g (ds.map .d) S = .ok (.d r) S := by
  unfold pureCall
  rw [freezeL_d, R.bind_ok, h]
  simp only [hf]
theorem call_d {P : String → Option Df} {fu n : Nat} {f : String} {d : Df} {ds : List D} {S S2 S3 : Sto} {v : MV} {r : D} (hp : P f = some d) (h : run (callN P fu n) fu d (ds.map .d) [] = .ok v S2) (hf : freeze 4 v S2 = .ok r S3) :
    callN P fu (n + 1) false f (ds.map .d) S = .ok (.d r) S := by
  rw [callN_pure hp]
  exact pureCall_d h hf
theorem run_ret {C : Calls} {fu : Nat} {d : Df} {vs : List MV} {S S' : Sto} {v : MV} (hl : vs.length = d.np) (h : exs C fu d.body (vs.map some ++ List.replicate (d.names.length - vs.length) none) S = .ret v S') : run C fu d vs S = .ok v S' := by
  unfold run
  rw [if_pos hl, h]

/-! ### the pool and its draws -/
/-- ints as data -/
def iD (ns : List Int) : List D := ns.map D.int
@[simp] theorem iD_nil : iD [] = [] := rfl
@[simp] theorem iD_cons (n : Int) (ns : List Int) : iD (n :: ns) = .int n :: iD ns := rfl
@[simp] theorem iD_length (ns : List Int) : (iD ns).length = ns.length := by simp [iD]
/-- the pool: at, held, the script's numbers -/
def pl (a h : Int) (ns : List Int) : Cell := .lst [.d (.int a), .d (.int h), .d (.lst (iD ns))]
end Mi
namespace Mi
open PySem L2 PyProof.Rows
def Fu : Nat := 10 ^ 1000
def LV : Nat := 10
/-! the mini text of law_k12_common_units, printed by gen.py -/
def d_divisor : Df := ⟨["one", "other"], 2, (.cons (.par 0 1 (.blt false .abs (.cons (.var 0) .nil)) (.blt false .abs (.cons (.var 1) .nil)))
    (.cons (.while_ (.cmp .ne (.var 1) (.int 0)) (.cons (.par 0 1 (.var 1) (.bin .mod (.var 0) (.var 1)))
    .nil))
    (.cons (.ret (.var 0))
    .nil)))⟩
def d_lowest : Df := ⟨["numbers", "part", "number"], 1, (.cons (.asg (.nm 1) (.int 0))
    (.cons (.for_ (.nm 2) (.seq (.var 0)) (.cons (.asg (.nm 1) (.call false "divisor" (.cons (.var 1) (.cons (.var 2) .nil))))
    .nil))
    (.cons (.ret (.ife (.cmp .eq (.var 1) (.int 0)) (.blt true .list (.cons (.var 0) .nil)) (.lc true (.bin .fdiv (.var 2) (.var 1)) (.nm 2) (.seq (.var 0)) [("number", 2)])))
    .nil)))⟩
def d_common : Df := ⟨["ratios", "unit", "top", "bottom"], 1, (.cons (.asg (.nm 1) (.int 1))
    (.cons (.for_ (.tp [2, 3]) (.seq (.var 0)) (.cons (.asg (.nm 1) (.bin .mul (.bin .fdiv (.var 1) (.call false "divisor" (.cons (.var 1) (.cons (.var 3) .nil)))) (.var 3)))
    .nil))
    (.cons (.ret (.tup (.cons (.var 1) (.cons (.lc true (.bin .mul (.var 2) (.bin .fdiv (.var 1) (.var 3))) (.tp [2, 3]) (.seq (.var 0)) [("top", 2), ("bottom", 3)]) .nil))))
    .nil)))⟩
def l_pool : Df := ⟨["_law_script"], 1, (.cons (.ret (.lst true (.cons (.int 0) (.cons (.int 0) (.cons (.blt false .list (.cons (.var 0) .nil)) .nil)))))
    .nil)⟩
def l_take : Df := ⟨["_law_pool_here", "_law_many", "_law_at", "_law_cell", "_law_mixed", "_law_digit"], 2, (.cons (.ifs (.cmp .eq (.ix (.var 0) (.int 1)) (.int 0)) (.cons (.asg (.nm 2) (.ix (.var 0) (.int 0)))
    (.cons (.setix (.var 0) (.int 0) (.bin .add (.var 2) (.int 1)))
    (.cons (.asg (.nm 3) (.ix (.bin .add (.ix (.var 0) (.int 2)) (.lst false (.cons (.int 0) .nil))) (.bin .mod (.blt false .int (.cons (.var 2) .nil)) (.blt false .max (.cons (.int 1) (.cons (.blt false .len (.cons (.ix (.var 0) (.int 2)) .nil)) .nil))))))
    (.cons (.asg (.nm 4) (.bin .mod (.bin .pow (.bin .add (.bin .add (.bin .mod (.blt false .int (.cons (.var 3) .nil)) (.int 2147483647)) (.bin .mul (.int 7919) (.var 2))) (.int 13)) (.int 5)) (.int 2147483647)))
    (.cons (.asg (.nm 4) (.bin .mod (.bin .pow (.bin .add (.bin .add (.var 4) (.bin .mul (.int 104729) (.var 2))) (.int 29)) (.int 3)) (.int 2147483629)))
    (.cons (.ifs (.cmp .lt (.var 3) (.bin .pow (.int 10) (.int 18))) (.cons (.ret (.bin .mod (.bin .fdiv (.var 4) (.int 11)) (.var 1)))
    .nil) .nil)
    (.cons (.setix (.var 0) (.int 1) (.var 3))
    .nil))))))) .nil)
    (.cons (.asg (.nm 5) (.bin .mod (.blt false .int (.cons (.ix (.var 0) (.int 1)) .nil)) (.var 1)))
    (.cons (.setix (.var 0) (.int 1) (.bin .fdiv (.ix (.var 0) (.int 1)) (.var 1)))
    (.cons (.ret (.var 5))
    .nil))))⟩
def l_is_number : Df := ⟨["_law_thing"], 1, (.cons (.ret (.and_ (.isi (.var 0) "int") (.one (.not_ (.isi (.var 0) "bool")))))
    .nil)⟩
def l_divisor : Df := ⟨["_law_numbers", "_law_found", "_law_number", "_law_one", "_law_other"], 1, (.cons (.asg (.nm 1) (.int 0))
    (.cons (.for_ (.nm 2) (.seq (.var 0)) (.cons (.asg (.nm 3) (.blt false .abs (.cons (.var 2) .nil)))
    (.cons (.asg (.nm 4) (.var 1))
    (.cons (.while_ (.cmp .ne (.var 4) (.int 0)) (.cons (.par 3 4 (.var 4) (.bin .mod (.blt false .int (.cons (.var 3) .nil)) (.var 4)))
    .nil))
    (.cons (.asg (.nm 1) (.var 3))
    .nil)))))
    (.cons (.ret (.var 1))
    .nil)))⟩
def l_ratio : Df := ⟨["_law_up", "_law_down", "_law_part"], 2, (.cons (.asg (.nm 2) (.call false "_law_divisor" (.cons (.lst false (.cons (.var 0) (.cons (.var 1) .nil))) .nil)))
    (.cons (.ifs (.cmp .lt (.var 1) (.int 0)) (.cons (.asg (.nm 2) (.neg (.var 2)))
    .nil) .nil)
    (.cons (.ret (.tup (.cons (.bin .fdiv (.var 0) (.var 2)) (.cons (.bin .fdiv (.var 1) (.var 2)) .nil))))
    .nil)))⟩
def l_common : Df := ⟨["_law_some", "_law_unit", "_law_one"], 1, (.cons (.asg (.nm 1) (.int 1))
    (.cons (.for_ (.nm 2) (.seq (.var 0)) (.cons (.asg (.nm 1) (.bin .fdiv (.bin .mul (.var 1) (.ix (.var 2) (.int 1))) (.call false "_law_divisor" (.cons (.lst false (.cons (.var 1) (.cons (.ix (.var 2) (.int 1)) .nil))) .nil))))
    .nil))
    (.cons (.ret (.lst false (.cons (.var 1) (.cons (.lc false (.bin .mul (.ix (.var 2) (.int 0)) (.bin .fdiv (.var 1) (.ix (.var 2) (.int 1)))) (.nm 2) (.seq (.var 0)) [("_law_one", 2)]) .nil))))
    .nil)))⟩
def l_lowest_list : Df := ⟨["_law_numbers", "_law_part", "_law_number"], 1, (.cons (.asg (.nm 1) (.call false "_law_divisor" (.cons (.var 0) .nil)))
    (.cons (.ifs (.cmp .eq (.var 1) (.int 0)) (.cons (.ret (.blt false .list (.cons (.var 0) .nil)))
    .nil) .nil)
    (.cons (.ret (.lc false (.bin .fdiv (.var 2) (.var 1)) (.nm 2) (.seq (.var 0)) [("_law_number", 2)]))
    .nil)))⟩
def d_law : Df := ⟨["_law_script", "_law_pool_here", "_law_size", "_law_ratios", "_law_k", "_law_top", "_law_given", "_law_told", "_law_due", "_law_tops", "_law_factor", "_law_numbers", "_law_kept", "_law_shortest"], 1, (.cons (.asg (.nm 1) (.call true "_law_pool" (.cons (.var 0) .nil)))
    (.cons (.asg (.nm 2) (.ix (.lst false (.cons (.int 60) (.cons (.bin .pow (.int 10) (.int 10)) .nil))) (.call true "_law_take" (.cons (.var 1) (.cons (.int 2) .nil)))))
    (.cons (.asg (.nm 3) (.lst true .nil))
    (.cons (.for_ (.nm 4) (.range1 (.call true "_law_take" (.cons (.var 1) (.cons (.int 7) .nil)))) (.cons (.asg (.nm 5) (.bin .sub (.call true "_law_take" (.cons (.var 1) (.cons (.bin .add (.bin .mul (.int 2) (.var 2)) (.int 1)) .nil))) (.var 2)))
    (.cons (.expr (.app (.var 3) (.call false "_law_ratio" (.cons (.var 5) (.cons (.bin .add (.int 1) (.call true "_law_take" (.cons (.var 1) (.cons (.var 2) .nil)))) .nil)))))
    .nil)))
    (.cons (.asg (.nm 6) (.blt false .list (.cons (.var 3) .nil)))
    (.cons (.asg (.nm 7) (.call true "common" (.cons (.var 6) .nil)))
    (.cons (.asg (.nm 8) (.call false "_law_common" (.cons (.var 3) .nil)))
    (.cons (.ifs (.or_ (.not_ (.isi (.var 7) "tuple")) (.or_ (.cmp .ne (.blt false .len (.cons (.var 7) .nil)) (.int 2)) (.one (.not_ (.call false "_law_is_number" (.cons (.ix (.var 7) (.int 0)) .nil)))))) (.cons (.ret (.bl false))
    .nil) .nil)
    (.cons (.ifs (.or_ (.cmp .ne (.lst false (.cons (.ix (.var 7) (.int 0)) (.cons (.ix (.var 7) (.int 1)) .nil))) (.var 8)) (.one (.cmp .ne (.var 6) (.var 3)))) (.cons (.ret (.bl false))
    .nil) .nil)
    (.cons (.asg (.nm 9) (.ix (.var 7) (.int 1)))
    (.cons (.expr (.app (.var 9) (.int 7)))
    (.cons (.ifs (.cmp .ne (.lst false (.cons (.ix (.call false "common" (.cons (.blt false .tuple (.cons (.var 6) .nil)) .nil)) (.int 0)) (.cons (.ix (.call false "common" (.cons (.blt false .tuple (.cons (.var 6) .nil)) .nil)) (.int 1)) .nil))) (.var 8)) (.cons (.ret (.bl false))
    .nil) .nil)
    (.cons (.asg (.nm 10) (.call true "_law_take" (.cons (.var 1) (.cons (.int 1000) .nil))))
    (.cons (.asg (.nm 11) (.lc false (.bin .mul (.var 10) (.bin .sub (.call true "_law_take" (.cons (.var 1) (.cons (.int 41) .nil))) (.int 20))) (.nm 4) (.range1 (.call true "_law_take" (.cons (.var 1) (.cons (.int 7) .nil)))) [("_law_k", 4)]))
    (.cons (.asg (.nm 12) (.blt false .list (.cons (.var 11) .nil)))
    (.cons (.asg (.nm 13) (.call true "lowest" (.cons (.var 11) .nil)))
    (.cons (.ifs (.or_ (.cmp .ne (.var 13) (.call false "_law_lowest_list" (.cons (.var 12) .nil))) (.one (.cmp .ne (.var 11) (.var 12)))) (.cons (.ret (.bl false))
    .nil) .nil)
    (.cons (.expr (.app (.var 13) (.int 7)))
    (.cons (.ret (.and_ (.cmp .eq (.var 11) (.var 12)) (.one (.cmp .eq (.call false "lowest" (.cons (.blt false .tuple (.cons (.var 11) .nil)) .nil)) (.call false "_law_lowest_list" (.cons (.var 12) .nil))))))
    .nil)))))))))))))))))))⟩
def prog : String → Option Df
  | "divisor" => some d_divisor
  | "lowest" => some d_lowest
  | "common" => some d_common
  | "_law_pool" => some l_pool
  | "_law_take" => some l_take
  | "_law_is_number" => some l_is_number
  | "_law_divisor" => some l_divisor
  | "_law_ratio" => some l_ratio
  | "_law_common" => some l_common
  | "_law_lowest_list" => some l_lowest_list
  | "law" => some d_law
  | _ => none
def fns : List String := ["divisor", "lowest", "common", "_law_pool", "_law_take", "_law_is_number", "_law_divisor", "_law_ratio", "_law_common", "_law_lowest_list", "law"]
/-! ### the text, printed by gen.py -/
def topS (i : Nat) : Stmt := PySem.Challenge.pw_everydecider_k12_common_units.main.body.getD i (.Pass ⟨0, 0, 0, 0⟩)
abbrev s_d_divisor : Stmt := topS 1
theorem sc_d_divisor : FnScope (d_divisor.names.map Str.ofString) ((d_divisor.names.take d_divisor.np).map Str.ofString) (defScope s_d_divisor) := ⟨rfl, rfl, rfl, by decide +kernel, by decide +kernel, by decide +kernel, by decide +kernel⟩
theorem same_d_divisor : sameB fns (d_divisor.names.map Str.ofString) (defScope s_d_divisor) d_divisor.body (defBody s_d_divisor) = true := by decide +kernel
abbrev s_d_lowest : Stmt := topS 2
theorem sc_d_lowest : FnScope (d_lowest.names.map Str.ofString) ((d_lowest.names.take d_lowest.np).map Str.ofString) (defScope s_d_lowest) := ⟨rfl, rfl, rfl, by decide +kernel, by decide +kernel, by decide +kernel, by decide +kernel⟩
theorem same_d_lowest : sameB fns (d_lowest.names.map Str.ofString) (defScope s_d_lowest) d_lowest.body (defBody s_d_lowest) = true := by decide +kernel
abbrev s_d_common : Stmt := topS 3
theorem sc_d_common : FnScope (d_common.names.map Str.ofString) ((d_common.names.take d_common.np).map Str.ofString) (defScope s_d_common) := ⟨rfl, rfl, rfl, by decide +kernel, by decide +kernel, by decide +kernel, by decide +kernel⟩
theorem same_d_common : sameB fns (d_common.names.map Str.ofString) (defScope s_d_common) d_common.body (defBody s_d_common) = true := by decide +kernel
abbrev s_l_pool : Stmt := topS 5
theorem sc_l_pool : FnScope (l_pool.names.map Str.ofString) ((l_pool.names.take l_pool.np).map Str.ofString) (defScope s_l_pool) := ⟨rfl, rfl, rfl, by decide +kernel, by decide +kernel, by decide +kernel, by decide +kernel⟩
theorem same_l_pool : sameB fns (l_pool.names.map Str.ofString) (defScope s_l_pool) l_pool.body (defBody s_l_pool) = true := by decide +kernel
abbrev s_l_take : Stmt := topS 6
theorem sc_l_take : FnScope (l_take.names.map Str.ofString) ((l_take.names.take l_take.np).map Str.ofString) (defScope s_l_take) := ⟨rfl, rfl, rfl, by decide +kernel, by decide +kernel, by decide +kernel, by decide +kernel⟩
theorem same_l_take : sameB fns (l_take.names.map Str.ofString) (defScope s_l_take) l_take.body (defBody s_l_take) = true := by decide +kernel
abbrev s_l_is_number : Stmt := topS 7
theorem sc_l_is_number : FnScope (l_is_number.names.map Str.ofString) ((l_is_number.names.take l_is_number.np).map Str.ofString) (defScope s_l_is_number) := ⟨rfl, rfl, rfl, by decide +kernel, by decide +kernel, by decide +kernel, by decide +kernel⟩
theorem same_l_is_number : sameB fns (l_is_number.names.map Str.ofString) (defScope s_l_is_number) l_is_number.body (defBody s_l_is_number) = true := by decide +kernel
abbrev s_l_divisor : Stmt := topS 8
theorem sc_l_divisor : FnScope (l_divisor.names.map Str.ofString) ((l_divisor.names.take l_divisor.np).map Str.ofString) (defScope s_l_divisor) := ⟨rfl, rfl, rfl, by decide +kernel, by decide +kernel, by decide +kernel, by decide +kernel⟩
theorem same_l_divisor : sameB fns (l_divisor.names.map Str.ofString) (defScope s_l_divisor) l_divisor.body (defBody s_l_divisor) = true := by decide +kernel
abbrev s_l_ratio : Stmt := topS 9
theorem sc_l_ratio : FnScope (l_ratio.names.map Str.ofString) ((l_ratio.names.take l_ratio.np).map Str.ofString) (defScope s_l_ratio) := ⟨rfl, rfl, rfl, by decide +kernel, by decide +kernel, by decide +kernel, by decide +kernel⟩
theorem same_l_ratio : sameB fns (l_ratio.names.map Str.ofString) (defScope s_l_ratio) l_ratio.body (defBody s_l_ratio) = true := by decide +kernel
abbrev s_l_common : Stmt := topS 10
theorem sc_l_common : FnScope (l_common.names.map Str.ofString) ((l_common.names.take l_common.np).map Str.ofString) (defScope s_l_common) := ⟨rfl, rfl, rfl, by decide +kernel, by decide +kernel, by decide +kernel, by decide +kernel⟩
theorem same_l_common : sameB fns (l_common.names.map Str.ofString) (defScope s_l_common) l_common.body (defBody s_l_common) = true := by decide +kernel
abbrev s_l_lowest_list : Stmt := topS 11
theorem sc_l_lowest_list : FnScope (l_lowest_list.names.map Str.ofString) ((l_lowest_list.names.take l_lowest_list.np).map Str.ofString) (defScope s_l_lowest_list) := ⟨rfl, rfl, rfl, by decide +kernel, by decide +kernel, by decide +kernel, by decide +kernel⟩
theorem same_l_lowest_list : sameB fns (l_lowest_list.names.map Str.ofString) (defScope s_l_lowest_list) l_lowest_list.body (defBody s_l_lowest_list) = true := by decide +kernel
abbrev s_d_law : Stmt := topS 12
theorem sc_d_law : FnScope (d_law.names.map Str.ofString) ((d_law.names.take d_law.np).map Str.ofString) (defScope s_d_law) := ⟨rfl, rfl, rfl, by decide +kernel, by decide +kernel, by decide +kernel, by decide +kernel⟩
theorem same_d_law : sameB fns (d_law.names.map Str.ofString) (defScope s_d_law) d_law.body (defBody s_d_law) = true := by decide +kernel
theorem all_mk {w : World} {K : PySem.W.Frag} {h : Heap} {mg : Str → Option Value} {fa : Addr} (lv : Nat) (X : K.In h) (G : h.Ns mainGlobals mg) (hfa : mg "law" = some (.ref fa))
    {f1 : Addr} {od1 an1 : Option Addr} {sl1 : Array (Option Value)} {oc1 kV1 dc1 pm1 cd1 ct1 : Value}
    (a1 : PySem.W.nsIn K mainGlobals "divisor" = some (some (.ref f1))) (l1 : K.lookup f1 = some ⟨oc1, od1, .func (PySem.W.fnOf "divisor" "divisor" (defArgs s_d_divisor) (defBody s_d_divisor) (defScope s_d_divisor) .none kV1 dc1 pm1 an1 cd1 ct1), sl1⟩) (c1 : PySem.W.codeIn K cd1 "divisor" = true) (k1 : PySem.W.keepIn K (.ref f1) = true)
    {f2 : Addr} {od2 an2 : Option Addr} {sl2 : Array (Option Value)} {oc2 kV2 dc2 pm2 cd2 ct2 : Value}
    (a2 : PySem.W.nsIn K mainGlobals "lowest" = some (some (.ref f2))) (l2 : K.lookup f2 = some ⟨oc2, od2, .func (PySem.W.fnOf "lowest" "lowest" (defArgs s_d_lowest) (defBody s_d_lowest) (defScope s_d_lowest) .none kV2 dc2 pm2 an2 cd2 ct2), sl2⟩) (c2 : PySem.W.codeIn K cd2 "lowest" = true) (k2 : PySem.W.keepIn K (.ref f2) = true)
    {f3 : Addr} {od3 an3 : Option Addr} {sl3 : Array (Option Value)} {oc3 kV3 dc3 pm3 cd3 ct3 : Value}
    (a3 : PySem.W.nsIn K mainGlobals "common" = some (some (.ref f3))) (l3 : K.lookup f3 = some ⟨oc3, od3, .func (PySem.W.fnOf "common" "common" (defArgs s_d_common) (defBody s_d_common) (defScope s_d_common) .none kV3 dc3 pm3 an3 cd3 ct3), sl3⟩) (c3 : PySem.W.codeIn K cd3 "common" = true) (k3 : PySem.W.keepIn K (.ref f3) = true)
    {f4 : Addr} {od4 an4 : Option Addr} {sl4 : Array (Option Value)} {oc4 kV4 dc4 pm4 cd4 ct4 : Value}
    (a4 : PySem.W.nsIn K mainGlobals "_law_pool" = some (some (.ref f4))) (l4 : K.lookup f4 = some ⟨oc4, od4, .func (PySem.W.fnOf "_law_pool" "_law_pool" (defArgs s_l_pool) (defBody s_l_pool) (defScope s_l_pool) .none kV4 dc4 pm4 an4 cd4 ct4), sl4⟩) (c4 : PySem.W.codeIn K cd4 "_law_pool" = true) (k4 : PySem.W.keepIn K (.ref f4) = true)
    {f5 : Addr} {od5 an5 : Option Addr} {sl5 : Array (Option Value)} {oc5 kV5 dc5 pm5 cd5 ct5 : Value}
    (a5 : PySem.W.nsIn K mainGlobals "_law_take" = some (some (.ref f5))) (l5 : K.lookup f5 = some ⟨oc5, od5, .func (PySem.W.fnOf "_law_take" "_law_take" (defArgs s_l_take) (defBody s_l_take) (defScope s_l_take) .none kV5 dc5 pm5 an5 cd5 ct5), sl5⟩) (c5 : PySem.W.codeIn K cd5 "_law_take" = true) (k5 : PySem.W.keepIn K (.ref f5) = true)
    {f6 : Addr} {od6 an6 : Option Addr} {sl6 : Array (Option Value)} {oc6 kV6 dc6 pm6 cd6 ct6 : Value}
    (a6 : PySem.W.nsIn K mainGlobals "_law_is_number" = some (some (.ref f6))) (l6 : K.lookup f6 = some ⟨oc6, od6, .func (PySem.W.fnOf "_law_is_number" "_law_is_number" (defArgs s_l_is_number) (defBody s_l_is_number) (defScope s_l_is_number) .none kV6 dc6 pm6 an6 cd6 ct6), sl6⟩) (c6 : PySem.W.codeIn K cd6 "_law_is_number" = true) (k6 : PySem.W.keepIn K (.ref f6) = true)
    {f7 : Addr} {od7 an7 : Option Addr} {sl7 : Array (Option Value)} {oc7 kV7 dc7 pm7 cd7 ct7 : Value}
    (a7 : PySem.W.nsIn K mainGlobals "_law_divisor" = some (some (.ref f7))) (l7 : K.lookup f7 = some ⟨oc7, od7, .func (PySem.W.fnOf "_law_divisor" "_law_divisor" (defArgs s_l_divisor) (defBody s_l_divisor) (defScope s_l_divisor) .none kV7 dc7 pm7 an7 cd7 ct7), sl7⟩) (c7 : PySem.W.codeIn K cd7 "_law_divisor" = true) (k7 : PySem.W.keepIn K (.ref f7) = true)
    {f8 : Addr} {od8 an8 : Option Addr} {sl8 : Array (Option Value)} {oc8 kV8 dc8 pm8 cd8 ct8 : Value}
    (a8 : PySem.W.nsIn K mainGlobals "_law_ratio" = some (some (.ref f8))) (l8 : K.lookup f8 = some ⟨oc8, od8, .func (PySem.W.fnOf "_law_ratio" "_law_ratio" (defArgs s_l_ratio) (defBody s_l_ratio) (defScope s_l_ratio) .none kV8 dc8 pm8 an8 cd8 ct8), sl8⟩) (c8 : PySem.W.codeIn K cd8 "_law_ratio" = true) (k8 : PySem.W.keepIn K (.ref f8) = true)
    {f9 : Addr} {od9 an9 : Option Addr} {sl9 : Array (Option Value)} {oc9 kV9 dc9 pm9 cd9 ct9 : Value}
    (a9 : PySem.W.nsIn K mainGlobals "_law_common" = some (some (.ref f9))) (l9 : K.lookup f9 = some ⟨oc9, od9, .func (PySem.W.fnOf "_law_common" "_law_common" (defArgs s_l_common) (defBody s_l_common) (defScope s_l_common) .none kV9 dc9 pm9 an9 cd9 ct9), sl9⟩) (c9 : PySem.W.codeIn K cd9 "_law_common" = true) (k9 : PySem.W.keepIn K (.ref f9) = true)
    {f10 : Addr} {od10 an10 : Option Addr} {sl10 : Array (Option Value)} {oc10 kV10 dc10 pm10 cd10 ct10 : Value}
    (a10 : PySem.W.nsIn K mainGlobals "_law_lowest_list" = some (some (.ref f10))) (l10 : K.lookup f10 = some ⟨oc10, od10, .func (PySem.W.fnOf "_law_lowest_list" "_law_lowest_list" (defArgs s_l_lowest_list) (defBody s_l_lowest_list) (defScope s_l_lowest_list) .none kV10 dc10 pm10 an10 cd10 ct10), sl10⟩) (c10 : PySem.W.codeIn K cd10 "_law_lowest_list" = true) (k10 : PySem.W.keepIn K (.ref f10) = true)
    {f11 : Addr} {od11 an11 : Option Addr} {sl11 : Array (Option Value)} {oc11 kV11 dc11 pm11 cd11 ct11 : Value}
    (a11 : PySem.W.nsIn K mainGlobals "law" = some (some (.ref f11))) (l11 : K.lookup f11 = some ⟨oc11, od11, .func (PySem.W.fnOf "law" "law" (defArgs s_d_law) (defBody s_d_law) (defScope s_d_law) .none kV11 dc11 pm11 an11 cd11 ct11), sl11⟩) (c11 : PySem.W.codeIn K cd11 "law" = true) (k11 : PySem.W.keepIn K (.ref f11) = true)
    (z0 : PySem.W.nsIn K mainGlobals "abs" = some none) (z1 : PySem.W.nsIn K mainGlobals "int" = some none) (z2 : PySem.W.nsIn K mainGlobals "max" = some none) (z3 : PySem.W.nsIn K mainGlobals "len" = some none) (z4 : PySem.W.nsIn K mainGlobals "list" = some none) (z5 : PySem.W.nsIn K mainGlobals "tuple" = some none) (z6 : PySem.W.nsIn K mainGlobals "isinstance" = some none) (z7 : PySem.W.nsIn K mainGlobals "range" = some none) (z8 : PySem.W.nsIn K mainGlobals "bool" = some none) (z9 : PySem.W.nsIn K mainGlobals "str" = some none) :
    ∃ fd : FuncData, (∀ (s : Shared) (u : Value), BindsTo s fd ⟨[u], []⟩ [("_law_script", u)]) ∧ ∀ base : Heap, K.In base → base.Ns mainGlobals mg → FnOk PySem.Challenge.rw_everydecider_k12_common_units.prog w K mg base (L2.CX PySem.Challenge.rw_everydecider_k12_common_units.prog w) (lv + 1) fa fd ["_law_script"] (fun vs H Q E => rN ⟨K, fun _ => none⟩ E (callN prog Fu (lv + 1) true "law") vs H Q) := by
  have D1 : DfOk fns K mg "divisor" d_divisor := by
    have F := fun_mk (st := s_d_divisor) l1 c1 k1
    exact ⟨_, s_d_divisor, f1, _, F, PySem.W.mg_of X G a1, sc_d_divisor, F.binds fun _ _ _ _ _ _ us hl => match us, hl with | [_, _], _ => rfl, same_d_divisor, by decide⟩
  have D2 : DfOk fns K mg "lowest" d_lowest := by
    have F := fun_mk (st := s_d_lowest) l2 c2 k2
    exact ⟨_, s_d_lowest, f2, _, F, PySem.W.mg_of X G a2, sc_d_lowest, F.binds fun _ _ _ _ _ _ us hl => match us, hl with | [_], _ => rfl, same_d_lowest, by decide⟩
  have D3 : DfOk fns K mg "common" d_common := by
    have F := fun_mk (st := s_d_common) l3 c3 k3
    exact ⟨_, s_d_common, f3, _, F, PySem.W.mg_of X G a3, sc_d_common, F.binds fun _ _ _ _ _ _ us hl => match us, hl with | [_], _ => rfl, same_d_common, by decide⟩
  have D4 : DfOk fns K mg "_law_pool" l_pool := by
    have F := fun_mk (st := s_l_pool) l4 c4 k4
    exact ⟨_, s_l_pool, f4, _, F, PySem.W.mg_of X G a4, sc_l_pool, F.binds fun _ _ _ _ _ _ us hl => match us, hl with | [_], _ => rfl, same_l_pool, by decide⟩
  have D5 : DfOk fns K mg "_law_take" l_take := by
    have F := fun_mk (st := s_l_take) l5 c5 k5
    exact ⟨_, s_l_take, f5, _, F, PySem.W.mg_of X G a5, sc_l_take, F.binds fun _ _ _ _ _ _ us hl => match us, hl with | [_, _], _ => rfl, same_l_take, by decide⟩
  have D6 : DfOk fns K mg "_law_is_number" l_is_number := by
    have F := fun_mk (st := s_l_is_number) l6 c6 k6
    exact ⟨_, s_l_is_number, f6, _, F, PySem.W.mg_of X G a6, sc_l_is_number, F.binds fun _ _ _ _ _ _ us hl => match us, hl with | [_], _ => rfl, same_l_is_number, by decide⟩
  have D7 : DfOk fns K mg "_law_divisor" l_divisor := by
    have F := fun_mk (st := s_l_divisor) l7 c7 k7
    exact ⟨_, s_l_divisor, f7, _, F, PySem.W.mg_of X G a7, sc_l_divisor, F.binds fun _ _ _ _ _ _ us hl => match us, hl with | [_], _ => rfl, same_l_divisor, by decide⟩
  have D8 : DfOk fns K mg "_law_ratio" l_ratio := by
    have F := fun_mk (st := s_l_ratio) l8 c8 k8
    exact ⟨_, s_l_ratio, f8, _, F, PySem.W.mg_of X G a8, sc_l_ratio, F.binds fun _ _ _ _ _ _ us hl => match us, hl with | [_, _], _ => rfl, same_l_ratio, by decide⟩
  have D9 : DfOk fns K mg "_law_common" l_common := by
    have F := fun_mk (st := s_l_common) l9 c9 k9
    exact ⟨_, s_l_common, f9, _, F, PySem.W.mg_of X G a9, sc_l_common, F.binds fun _ _ _ _ _ _ us hl => match us, hl with | [_], _ => rfl, same_l_common, by decide⟩
  have D10 : DfOk fns K mg "_law_lowest_list" l_lowest_list := by
    have F := fun_mk (st := s_l_lowest_list) l10 c10 k10
    exact ⟨_, s_l_lowest_list, f10, _, F, PySem.W.mg_of X G a10, sc_l_lowest_list, F.binds fun _ _ _ _ _ _ us hl => match us, hl with | [_], _ => rfl, same_l_lowest_list, by decide⟩
  have D11 : DfOk fns K mg "law" d_law := by
    have F := fun_mk (st := s_d_law) l11 c11 k11
    exact ⟨_, s_d_law, f11, _, F, PySem.W.mg_of X G a11, sc_d_law, F.binds fun _ _ _ _ _ _ us hl => match us, hl with | [_], _ => rfl, same_d_law, by decide⟩
  have hfs : ∀ f, fns.contains f = true → ∃ d, prog f = some d ∧ DfOk fns K mg f d := by
    intro f hf
    have hm : f ∈ fns := by simpa using hf
    simp only [fns, List.mem_cons, List.mem_nil_iff, or_false] at hm
    rcases hm with rfl | rfl | rfl | rfl | rfl | rfl | rfl | rfl | rfl | rfl | rfl
    · exact ⟨_, rfl, D1⟩
    · exact ⟨_, rfl, D2⟩
    · exact ⟨_, rfl, D3⟩
    · exact ⟨_, rfl, D4⟩
    · exact ⟨_, rfl, D5⟩
    · exact ⟨_, rfl, D6⟩
    · exact ⟨_, rfl, D7⟩
    · exact ⟨_, rfl, D8⟩
    · exact ⟨_, rfl, D9⟩
    · exact ⟨_, rfl, D10⟩
    · exact ⟨_, rfl, D11⟩
  have nob : ∀ x ∈ bnames, mg (Str.ofString x) = none := by
    intro x hx
    simp only [bnames, List.mem_cons, List.mem_nil_iff, or_false] at hx
    rcases hx with rfl | rfl | rfl | rfl | rfl | rfl | rfl | rfl | rfl | rfl
    · exact PySem.W.mg_none_of X G z0
    · exact PySem.W.mg_none_of X G z1
    · exact PySem.W.mg_none_of X G z2
    · exact PySem.W.mg_none_of X G z3
    · exact PySem.W.mg_none_of X G z4
    · exact PySem.W.mg_none_of X G z5
    · exact PySem.W.mg_none_of X G z6
    · exact PySem.W.mg_none_of X G z7
    · exact PySem.W.mg_none_of X G z8
    · exact PySem.W.mg_none_of X G z9
  have e := hfa.symm.trans (PySem.W.mg_of X G a11)
  cases e
  refine ⟨PySem.W.fnOf "law" "law" (defArgs s_d_law) (defBody s_d_law) (defScope s_d_law) .none kV11 dc11 pm11 an11 cd11 ct11, fun s u => .of_eq rfl, fun base _ _ => ?_⟩
  have pf := defs_ok (fs := fns) (cl := ⟨K, fun _ => none⟩) (prog := PySem.Challenge.rw_everydecider_k12_common_units.prog) (w := w) (base := base) (P := prog) (fu := Fu) rfl hfs nob lv
  exact def_step pf rfl (fun_mk (st := s_d_law) l11 c11 k11) sc_d_law same_d_law (by decide) true
end Mi
namespace Mi
open PySem L2
/-! ### the greatest common divisor -/
theorem gcd_step {a b : Int} (ha : 0 ≤ a) (hb : 0 ≤ b) : Int.gcd b (a % b) = Int.gcd a b := by
  obtain ⟨m, rfl⟩ := Int.eq_ofNat_of_zero_le ha
  obtain ⟨n, rfl⟩ := Int.eq_ofNat_of_zero_le hb
  rw [← Int.natCast_emod]
  show Nat.gcd n (m % n) = Nat.gcd m n
  rw [Nat.gcd_comm m n, Nat.gcd_rec n m, Nat.gcd_comm]
theorem gcd_loop {C : Calls} {fu : Nat} : ∀ (n : Nat) (a b : Int) (S : Sto), 0 ≤ a → 0 ≤ b → b.toNat < n →
    whGo (evT C (.cmp .ne (.var 1) (.int 0))) (exs C fu (.cons (.par 0 1 (.var 1) (.bin .mod (.var 0) (.var 1))) .nil)) n [some (.d (.int a)), some (.d (.int b))] S = .next [some (.d (.int (Int.gcd a b))), some (.d (.int 0))] S
  | 0, a, b, S, _, _, h => by omega
  | n + 1, a, b, S, ha, hb, h => by
    by_cases h0 : b = 0
    · subst h0
      simp [whGo_succ]
      omega
    · have hm := Int.emod_lt_of_pos a (show 0 < b by omega)
      have hm0 := Int.emod_nonneg a h0
      have e : a.fmod b = a % b := Int.fmod_eq_emod_of_nonneg a hb
      have ih := gcd_loop (C := C) (fu := fu) n b (a % b) S hb hm0 (by omega)
      rw [gcd_step ha hb] at ih
      simp [whGo_succ, h0, e, ih]
theorem abs_nat (a : Int) : (if a < 0 then -a else a) = (a.natAbs : Int) := by split <;> omega
theorem run_divisor {C : Calls} {a b : Int} {S : Sto} {fu : Nat} (hb : b.natAbs < fu) : run C fu d_divisor [.d (.int a), .d (.int b)] S = .ok (.d (.int (Int.gcd a b))) S := by
  refine run_ret rfl ?_
  have h := gcd_loop (C := C) (fu := fu) fu (a.natAbs : Int) (b.natAbs : Int) S (by omega) (by omega) (by omega)
  have e : Int.gcd (a.natAbs : Int) (b.natAbs : Int) = Int.gcd a b := by simp [Int.gcd]
  rw [e] at h
  simp [d_divisor, abs_nat, h]
theorem c_divisor {n : Nat} {a b : Int} {S : Sto} (hb : b.natAbs < Fu) : callN prog Fu (n + 1) false "divisor" [.d (.int a), .d (.int b)] S = .ok (.d (.int (Int.gcd a b))) S :=
  call_d (ds := [.int a, .int b]) rfl (run_divisor hb) (freeze_d _ _ _)
end Mi
namespace Mi
open PySem L2
/-! ### draws -/
theorem atI_nat {α : Type} (xs : List α) (k : Nat) (h : k < xs.length) : L2.atI xs (k : Int) = xs[k]? := by
  unfold L2.atI L2.ixN
  rw [if_pos (by omega), if_pos (by omega)]
  simp
theorem atI_int {α : Type} (xs : List α) (k : Int) (h0 : 0 ≤ k) (h : k < xs.length) : L2.atI xs k = xs[k.toNat]? := by
  obtain ⟨n, rfl⟩ := Int.eq_ofNat_of_zero_le h0
  rw [atI_nat xs n (by omega)]
  simp
@[simp] theorem atI_0 {α : Type} (x : α) (xs : List α) : L2.atI (x :: xs) 0 = some x := by
  rw [show (0 : Int) = ((0 : Nat) : Int) from rfl, atI_nat _ _ (by simp)]; rfl
@[simp] theorem atI_1 {α : Type} (x y : α) (xs : List α) : L2.atI (x :: y :: xs) 1 = some y := by
  rw [show (1 : Int) = ((1 : Nat) : Int) from rfl, atI_nat _ _ (by simp)]; rfl
@[simp] theorem atI_2 {α : Type} (x y z : α) (xs : List α) : L2.atI (x :: y :: z :: xs) 2 = some z := by
  rw [show (2 : Int) = ((2 : Nat) : Int) from rfl, atI_nat _ _ (by simp)]; rfl
@[simp] theorem ixN_0 (n : Nat) : L2.ixN (n + 1) 0 = some 0 := by
  unfold L2.ixN; rw [if_pos (by omega), if_pos (by omega)]; rfl
@[simp] theorem ixN_1 (n : Nat) : L2.ixN (n + 2) 1 = some 1 := by
  unfold L2.ixN; rw [if_pos (by omega), if_pos (by omega)]; rfl
@[simp] theorem setF_c (id : Nat) (k : Int) (v : MV) (S : Sto) : setF (.c id) (.d (.int k)) v S = match S[id]? with
    | some (.lst ms) => match L2.ixN ms.length k with
      | some j => .ok () (S.set id (.lst (ms.set j v)))
      | none => .stuck
    | _ => .stuck := rfl

/-- the cell that is looked at -/
theorem cell_ok (ns : List Int) (a : Int) (ha : 0 ≤ a) : ∃ z : Int, L2.atI ((iD ns ++ [D.int 0]).map MV.d) (a.fmod (if ((ns.length : Int) > 1) then (ns.length : Int) else 1)) = some (.d (.int z)) := by
  unfold iD
  have hm : (0 : Int) < (if ((ns.length : Int) > 1) then (ns.length : Int) else 1) := by split <;> omega
  rw [Int.fmod_eq_emod_of_nonneg a (by omega)]
  have h0 := Int.emod_nonneg a (show (if ((ns.length : Int) > 1) then (ns.length : Int) else 1) ≠ 0 by omega)
  have h1 := Int.emod_lt_of_pos a hm
  have hl : a % (if ((ns.length : Int) > 1) then (ns.length : Int) else 1) < ((ns.map D.int ++ [D.int 0]).map MV.d).length := by
    simp only [List.length_map, List.length_append, List.length_cons, List.length_nil]
    split at h1 <;> split <;> omega
  rw [atI_int _ _ h0 hl]
  have : (a % (if ((ns.length : Int) > 1) then (ns.length : Int) else 1)).toNat < ns.length + 1 := by simp at hl; omega
  generalize (a % (if ((ns.length : Int) > 1) then (ns.length : Int) else 1)).toNat = k at this
  by_cases hk : k < ns.length
  · exact ⟨ns[k], by simp [List.getElem?_append, hk]⟩
  · have : k = ns.length := by omega
    subst this
    exact ⟨0, by simp⟩
/-- a draw: a number below many; the pool goes on -/
theorem run_take {C : Calls} {fu : Nat} (a h : Int) (ns : List Int) (T : Sto) (many : Int) (ha : 0 ≤ a) (hA : a ≤ 1000000) (hns : ns.length ≤ 1000) (hm : 0 < many) (hb : many.natAbs < 2 ^ 8000) :
    ∃ (r a' h' : Int), 0 ≤ r ∧ r < many ∧ 0 ≤ a' ∧ a' ≤ a + 1 ∧ run C fu l_take [.c 0, .d (.int many)] (pl a h ns :: T) = .ok (.d (.int r)) (pl a' h' ns :: T) := by
  have hd : divOk many = true := divOk_of (by omega) hb (by decide)
  have hn0 : many ≠ 0 := by omega
  have rng : ∀ x : Int, 0 ≤ x.fmod many ∧ x.fmod many < many := fun x => by
    rw [Int.fmod_eq_emod_of_nonneg x (by omega)]
    exact ⟨Int.emod_nonneg x hn0, Int.emod_lt_of_pos x hm⟩
  have later : ∀ x a' : Int, 0 ≤ a' → a' ≤ a + 1 → ∃ (r a'' h' : Int), 0 ≤ r ∧ r < many ∧ 0 ≤ a'' ∧ a'' ≤ a + 1 ∧ (R.ok (MV.d (D.int (x.fmod many))) (pl a' (x.fdiv many) ns :: T) : R MV) = .ok (.d (.int r)) (pl a'' h' ns :: T) :=
    fun x a' h0 h1 => ⟨_, a', _, (rng x).1, (rng x).2, h0, h1, rfl⟩
  obtain ⟨z, hz⟩ := cell_ok ns a ha
  have hsz : szOk (ns.length + 1) = true := szOk_of (by omega)
  by_cases hh : h = 0
  · subst hh
    have pw1 : powOk (z.fmod 2147483647 + 7919 * a + 13) 5 = true := by
      have h1 : z.fmod 2147483647 = z % 2147483647 := Int.fmod_eq_emod_of_nonneg z (by omega)
      have h2 := Int.emod_nonneg z (show (2147483647 : Int) ≠ 0 by omega)
      have h3 := Int.emod_lt_of_pos z (show (0 : Int) < 2147483647 by omega)
      rw [h1]
      exact powOk_of (by omega) (by omega) (by omega)
    have ml : ∀ c : Int, 0 ≤ c → c < 1000000 → mulOk c a = true := fun c h0 h1 => mulOk_of (a := 64) (b := 64) (by omega) (by omega)
    have m1 := ml 7919 (by omega) (by omega)
    have m2 := ml 104729 (by omega) (by omega)
    generalize hx : ((z.fmod 2147483647 + 7919 * a + 13) ^ 5).fmod 2147483647 = x
    have hx0 : 0 ≤ x ∧ x < 2147483647 := by
      rw [← hx, Int.fmod_eq_emod_of_nonneg _ (by omega)]
      exact ⟨Int.emod_nonneg _ (by omega), Int.emod_lt_of_pos _ (by omega)⟩
    have pw2 : powOk (x + 104729 * a + 29) 3 = true := powOk_of (by omega) (by omega) (by omega)
    have pw3 : powOk 10 18 = true := by decide
    have d11 : divOk 11 = true := by decide
    have hz' := hz
    simp at hz'
    have hsz' : ns.length + 1 ≤ 1000000 := by omega
    have hnz : ¬ (if 1 < (ns.length : Int) then (ns.length : Int) else 1) = 0 := by split <;> omega
    by_cases hc : z < 10 ^ 18
    · have hc' : z < 1000000000000000000 := hc
      refine ⟨((((x + 104729 * a + 29) ^ 3).fmod 2147483629).fdiv 11).fmod many, a + 1, 0, (rng _).1, (rng _).2, by omega, by omega, ?_⟩
      refine run_ret rfl ?_
      simp [l_take, pl, newL, szOk, hn0, hd, hz', hnz, hsz', pw1, pw2, pw3, m1, m2, hx, d11, hc']
    · have hc' : ¬ z < 1000000000000000000 := hc
      obtain ⟨r, a', h', q1, q2, q3, q4, e⟩ := later z (a + 1) (by omega) (by omega)
      refine ⟨r, a', h', q1, q2, q3, q4, ?_⟩
      rw [← e]
      refine run_ret rfl ?_
      simp [l_take, pl, newL, szOk, hn0, hd, hz', hnz, hsz', pw1, pw2, pw3, m1, m2, hx, d11, hc']
  · obtain ⟨r, a', h', q1, q2, q3, q4, e⟩ := later h a ha (by omega)
    refine ⟨r, a', h', q1, q2, q3, q4, ?_⟩
    rw [← e]
    refine run_ret rfl ?_
    simp [l_take, pl, hh, hn0, hd]
end Mi
namespace Mi
open PySem L2
theorem lcGo_map {el : Slots → Sto → R MV} {tg : Tg} {σ : Slots} {S : Sto} (f : MV → MV) : ∀ (xs acc : List MV), (∀ x ∈ xs, ∃ σ1, bindTg tg σ x = some σ1 ∧ el σ1 S = .ok (f x) S) → lcGo el tg σ xs acc S = .ok (acc.reverse ++ xs.map f) S
  | [], acc, _ => by simp [lcGo]
  | x :: xs, acc, h => by
    obtain ⟨σ1, h1, h2⟩ := h x (by simp)
    have ih := lcGo_map (el := el) (tg := tg) (σ := σ) (S := S) f xs (f x :: acc) (fun y hy => h y (by simp [hy]))
    simp only [lcGo, h1, h2, ih]
    simp

/-- equality -/
theorem eqDs_refl {n : Nat} (f : ∀ d, dep n d = true → eqD d d = true) : ∀ xs : List D, xs.all (dep n) = true → eqDs xs xs = true
  | [], _ => by simp [eqDs]
  | x :: xs, h => by
    simp only [List.all_cons, Bool.and_eq_true] at h
    simp only [eqDs, f x h.1, eqDs_refl f xs h.2, Bool.and_self]
theorem eqD_refl : ∀ (n : Nat) (d : D), dep n d = true → eqD d d = true
  | n, .non, _ => by simp [eqD]
  | n, .bl _, _ => by simp [eqD]
  | n, .int _, _ => by simp [eqD]
  | n, .str _, _ => by simp [eqD]
  | n, .ins _ _, h => by cases n <;> simp [dep] at h
  | n, .scr _, h => by cases n <;> simp [dep] at h
  | 0, .lst _, h => by simp [dep] at h
  | 0, .tup _, h => by simp [dep] at h
  | n + 1, .lst xs, h => by simp only [eqD]; exact eqDs_refl (fun d h => eqD_refl n d h) xs (by simpa only [dep] using h)
  | n + 1, .tup xs, h => by simp only [eqD]; exact eqDs_refl (fun d h => eqD_refl n d h) xs (by simpa only [dep] using h)
theorem cmpD_same (d : D) (h : dep 8 d = true) : cmpD .eq d d = some true := by rw [cmpD_eq, h, eqD_refl 8 d h]; rfl
theorem cmpD_nsame (d : D) (h : dep 8 d = true) : cmpD .ne d d = some false := by rw [cmpD_ne, h, eqD_refl 8 d h]; rfl
theorem dep_ints (n : Nat) (ns : List Int) : dep (n + 1) (.lst (iD ns)) = true := by simp [dep, iD]

/-! ### the law's own divisor -/
theorem gcd_loop2 {C : Calls} {fu : Nat} {x0 x1 x2 : Option MV} : ∀ (n : Nat) (a b : Int) (S : Sto), 0 ≤ a → 0 ≤ b → b.toNat < n →
    whGo (evT C (.cmp .ne (.var 4) (.int 0))) (exs C fu (.cons (.par 3 4 (.var 4) (.bin .mod (.blt false .int (.cons (.var 3) .nil)) (.var 4))) .nil)) n [x0, x1, x2, some (.d (.int a)), some (.d (.int b))] S = .next [x0, x1, x2, some (.d (.int (Int.gcd a b))), some (.d (.int 0))] S
  | 0, a, b, S, _, _, h => by omega
  | n + 1, a, b, S, ha, hb, h => by
    by_cases h0 : b = 0
    · subst h0
      simp [whGo_succ]
      omega
    · have hm := Int.emod_lt_of_pos a (show 0 < b by omega)
      have hm0 := Int.emod_nonneg a h0
      have e : a.fmod b = a % b := Int.fmod_eq_emod_of_nonneg a hb
      have ih := gcd_loop2 (C := C) (fu := fu) (x0 := x0) (x1 := x1) (x2 := x2) n b (a % b) S hb hm0 (by omega)
      rw [gcd_step ha hb] at ih
      simp [whGo_succ, h0, e, ih]
/-- the divisor of a list -/
def gcdL (ns : List Int) : Nat := ns.foldl (fun g n => Int.gcd n g) 0
theorem gcd_le {a b : Int} {m : Nat} (h : a.natAbs < m) (h' : b.natAbs < m) : Int.gcd a b < m := by
  by_cases h0 : a.natAbs = 0
  · have : a = 0 := by omega
    subst this; simpa [Int.gcd] using h'
  · exact Nat.lt_of_le_of_lt (Nat.le_of_dvd (by omega) (Nat.gcd_dvd_left _ _)) h
theorem div_for {C : Calls} {fu : Nat} {X : Option MV} {S : Sto} : ∀ (ns : List Int) (g : Nat) (x2 x3 x4 : Option MV), (∀ n ∈ ns, n.natAbs < fu) → g < fu → ∃ y2 y3 y4,
    forGo (.nm 2) (exs C fu (.cons (.asg (.nm 3) (.blt false .abs (.cons (.var 2) .nil))) (.cons (.asg (.nm 4) (.var 1)) (.cons (.while_ (.cmp .ne (.var 4) (.int 0)) (.cons (.par 3 4 (.var 4) (.bin .mod (.blt false .int (.cons (.var 3) .nil)) (.var 4))) .nil)) (.cons (.asg (.nm 1) (.var 3)) .nil)))))
      ((iD ns).map .d) [X, some (.d (.int (g : Int))), x2, x3, x4] S = .next [X, some (.d (.int ((ns.foldl (fun g n => Int.gcd n g) g : Nat) : Int))), y2, y3, y4] S
  | [], g, x2, x3, x4, _, _ => ⟨x2, x3, x4, rfl⟩
  | n :: ns, g, x2, x3, x4, h, hg => by
    have hl := gcd_loop2 (C := C) (fu := fu) (x0 := X) (x1 := some (.d (.int (g : Int)))) (x2 := some (.d (.int n))) fu (n.natAbs : Int) (g : Int) S (by omega) (by omega) (by omega)
    have e : Int.gcd (n.natAbs : Int) (g : Int) = Int.gcd n g := by simp [Int.gcd]
    rw [e] at hl
    obtain ⟨y2, y3, y4, ih⟩ := div_for (C := C) (fu := fu) (X := X) (S := S) ns (Int.gcd n g) (some (.d (.int n))) (some (.d (.int (Int.gcd n g)))) (some (.d (.int 0))) (fun m hm => h m (by simp [hm])) (gcd_le (h n (by simp)) (by simpa using hg))
    refine ⟨y2, y3, y4, ?_⟩
    rw [List.foldl_cons, ← ih]
    simp only [iD_cons, List.map_cons]
    rw [forGo_cons]
    simp [abs_nat, hl]
theorem run_ldivisor {C : Calls} {fu : Nat} {S : Sto} {ns : List Int} (h : ∀ n ∈ ns, n.natAbs < fu) (h0 : 0 < fu) : run C fu l_divisor [.d (.lst (iD ns))] S = .ok (.d (.int (gcdL ns))) S := by
  refine run_ret rfl ?_
  obtain ⟨y2, y3, y4, e⟩ := div_for (C := C) (fu := fu) (X := some (.d (.lst (iD ns)))) (S := S) ns 0 none none none h h0
  have e' : (((0 : Nat) : Int)) = 0 := rfl
  rw [e'] at e
  simp [l_divisor, e, gcdL]
theorem c_ldivisor {n : Nat} {S : Sto} {ns : List Int} (h : ∀ n ∈ ns, n.natAbs < Fu) : callN prog Fu (n + 1) false "_law_divisor" [.d (.lst (iD ns))] S = .ok (.d (.int (gcdL ns))) S :=
  call_d (ds := [.lst (iD ns)]) rfl (run_ldivisor h (by decide +kernel)) (freeze_d _ _ _)
end Mi
namespace Mi
open PySem L2
/-- a bound that is never written out -/
def Bg : Nat := 2 ^ 3000
theorem Bg_of {n k : Nat} (h : n < 2 ^ k) (hk : k ≤ 3000 := by decide) : n < Bg := Nat.lt_of_lt_of_le h (Nat.pow_le_pow_right (by decide) hk)
theorem Fu_big {n : Nat} (h : n < Bg) : n < Fu := Nat.lt_of_lt_of_le h (by decide +kernel)
/-! ### lowest -/
def gcdF (g : Nat) (ns : List Int) : Nat := ns.foldl (fun g n => Int.gcd n g) g
theorem low_for {m : Nat} {X : Option MV} {S : Sto} : ∀ (ns : List Int) (g : Nat) (x2 : Option MV), (∀ n ∈ ns, n.natAbs < Bg) → ∃ y2,
    forGo (.nm 2) (exs (callN prog Fu (m + 1)) Fu (.cons (.asg (.nm 1) (.call false "divisor" (.cons (.var 1) (.cons (.var 2) .nil)))) .nil)) ((iD ns).map .d) [X, some (.d (.int (g : Int))), x2] S = .next [X, some (.d (.int (gcdF g ns : Nat))), y2] S
  | [], g, x2, _ => ⟨x2, rfl⟩
  | n :: ns, g, x2, h => by
    obtain ⟨y2, ih⟩ := low_for (m := m) (X := X) (S := S) ns (Int.gcd n g) (some (.d (.int n))) (fun k hk => h k (by simp [hk]))
    refine ⟨y2, ?_⟩
    have hd := c_divisor (n := m) (a := (g : Int)) (b := n) (S := S) (Fu_big (h n (by simp)))
    rw [Int.gcd_comm] at hd
    simp only [iD_cons, List.map_cons]
    rw [forGo_cons]
    simp [hd, ih]
    rfl
/-- what lowest gives -/
def lowL (ns : List Int) : List Int := if gcdL ns = 0 then ns else ns.map fun n => n.fdiv (gcdL ns)
theorem divOk_nat {g : Nat} (h0 : g ≠ 0) (h : g < Bg) : divOk (g : Int) = true := divOk_of (b := 3000) (by omega) (by simpa [Bg] using h)
theorem gcdF_lt {m : Nat} : ∀ (ns : List Int) (g : Nat), (∀ n ∈ ns, n.natAbs < m) → g < m → gcdF g ns < m
  | [], g, _, h => h
  | n :: ns, g, h, hg => gcdF_lt ns _ (fun k hk => h k (by simp [hk])) (gcd_le (h n (by simp)) (by simpa using hg))
theorem fdiv_comp {C : Calls} {S : Sto} {X Y : Option MV} {g : Nat} (h0 : g ≠ 0) (hg : g < Bg) (ns : List Int) :
    lcGo (ev C (.bin .fdiv (.var 2) (.var 1))) (.nm 2) [X, some (.d (.int (g : Int))), Y] ((iD ns).map .d) [] S = .ok ((iD (ns.map fun n => n.fdiv g)).map .d) S := by
  have hd := divOk_nat h0 hg
  have := lcGo_map (el := ev C (.bin .fdiv (.var 2) (.var 1))) (tg := .nm 2) (σ := [X, some (.d (.int (g : Int))), Y]) (S := S) (fun x => match x with | .d (.int n) => .d (.int (n.fdiv g)) | x => x) ((iD ns).map .d) [] ?_
  · rw [this]
    simp [iD]
  · intro x hx
    simp only [iD, List.map_map, List.mem_map, Function.comp] at hx
    obtain ⟨n, _, rfl⟩ := hx
    exact ⟨_, rfl, by simp [hd]⟩
theorem run_lowest {m : Nat} {S : Sto} {ns : List Int} (tp : Bool) (h : ∀ n ∈ ns, n.natAbs < Bg) (hl : ns.length ≤ 1000) :
    run (callN prog Fu (m + 1)) Fu d_lowest [.d (if tp then .tup (iD ns) else .lst (iD ns))] S = .ok (.c S.length) (S ++ [.lst ((iD (lowL ns)).map .d)]) := by
  refine run_ret rfl ?_
  obtain ⟨y2, e⟩ := low_for (m := m) (X := some (.d (if tp then .tup (iD ns) else .lst (iD ns)))) (S := S) ns 0 none h
  have e' : (((0 : Nat) : Int)) = 0 := rfl
  rw [e'] at e
  have hg : gcdL ns = gcdF 0 ns := rfl
  have hlt : gcdF 0 ns < Bg := gcdF_lt ns 0 h (by decide +kernel)
  have hl' : ns.length ≤ 1000000 := by omega
  by_cases h0 : gcdF 0 ns = 0
  · have hL : lowL ns = ns := by simp [lowL, hg, h0]
    rw [hL]
    cases tp <;> simp [d_lowest] at e ⊢ <;> simp [e, h0, newL, szOk, hl']
  · have hL : lowL ns = ns.map fun n => n.fdiv (gcdF 0 ns) := by simp [lowL, hg, h0]
    rw [hL]
    have hc := fun Y => fdiv_comp (C := callN prog Fu (m + 1)) (S := S) (X := some (.d (if tp then .tup (iD ns) else .lst (iD ns)))) (Y := Y) h0 hlt ns
    cases tp <;> simp [d_lowest] at e hc ⊢ <;> simp [e, h0, wipeM, hc, newL, szOk, hl']
end Mi
namespace Mi
open PySem L2
/-! ### ratios as data -/
def rD (r : Int × Int) : D := .tup [.int r.1, .int r.2]
def rsD (rs : List (Int × Int)) : List D := rs.map rD
@[simp] theorem rsD_nil : rsD [] = [] := rfl
@[simp] theorem rsD_cons (r : Int × Int) (rs : List (Int × Int)) : rsD (r :: rs) = rD r :: rsD rs := rfl
@[simp] theorem rsD_length (rs : List (Int × Int)) : (rsD rs).length = rs.length := by simp [rsD]
theorem rsD_append (a b : List (Int × Int)) : rsD (a ++ b) = rsD a ++ rsD b := by simp [rsD]
/-- a ratio's sizes -/
structure Rok (r : Int × Int) : Prop where
  b1 : 1 ≤ r.2
  b2 : r.2 < 2 ^ 40
  t1 : r.1.natAbs < 2 ^ 40
theorem gcd_pos {u b : Int} (h : 1 ≤ u) : 0 < Int.gcd u b := Nat.pos_of_ne_zero fun z => by
  have := Int.gcd_eq_zero_iff.mp z
  omega
theorem pow_step (j : Nat) : (2 : Nat) ^ (40 * (j + 1)) = 2 ^ (40 * j) * 2 ^ 40 := by rw [← Nat.pow_add]; rfl
/-- one step of the unit -/
def cu (u : Int) (r : Int × Int) : Int := u.fdiv (Int.gcd u r.2) * r.2
theorem cu_eq {u b : Int} (h : 1 ≤ u) : u.fdiv (Int.gcd u b) = u / (Int.gcd u b : Int) := Int.fdiv_eq_ediv_of_nonneg u (by omega)
theorem quot_pos {u b : Int} (h : 1 ≤ u) : 1 ≤ u / (Int.gcd u b : Int) ∧ u / (Int.gcd u b : Int) ≤ u := by
  have g := gcd_pos (b := b) h
  have hd : (Int.gcd u b : Int) ∣ u := Int.gcd_dvd_left ..
  refine ⟨?_, Int.ediv_le_self _ (by omega)⟩
  have := Int.ediv_pos_of_pos_of_dvd (show 0 < u by omega) (show (0 : Int) ≤ (Int.gcd u b : Int) by omega) hd
  omega
theorem cu_pos {u : Int} {r : Int × Int} (h : 1 ≤ u) (hr : 1 ≤ r.2) : 1 ≤ cu u r ∧ cu u r ≤ u * r.2 := by
  obtain ⟨h1, h2⟩ := quot_pos (b := r.2) h
  unfold cu
  rw [cu_eq h]
  constructor
  · have := Int.mul_le_mul h1 hr (by omega) (by omega)
    omega
  · exact Int.mul_le_mul_of_nonneg_right h2 (by omega)
theorem cu_lt {u : Int} {r : Int × Int} {j : Nat} (h : 1 ≤ u) (hr : Rok r) (hu : u.natAbs < 2 ^ (40 * j)) : (cu u r).natAbs < 2 ^ (40 * (j + 1)) := by
  obtain ⟨h1, h2⟩ := cu_pos h hr.b1
  have hb := hr.b1
  have hb2 := hr.b2
  rw [pow_step]
  have e : (u * r.2).natAbs = u.natAbs * r.2.natAbs := Int.natAbs_mul ..
  have : (cu u r).natAbs ≤ (u * r.2).natAbs := by omega
  have h3 : r.2.natAbs < 2 ^ 40 := by omega
  have h4 : u.natAbs * r.2.natAbs < 2 ^ (40 * j) * 2 ^ 40 := Nat.mul_lt_mul'' hu h3
  omega
/-- the unit of all -/
def cuF (u : Int) (rs : List (Int × Int)) : Int := rs.foldl cu u
theorem cuF_ok : ∀ (rs : List (Int × Int)) (u : Int) (j : Nat), 1 ≤ u → u.natAbs < 2 ^ (40 * j) → (∀ r ∈ rs, Rok r) → 1 ≤ cuF u rs ∧ (cuF u rs).natAbs < 2 ^ (40 * (j + rs.length))
  | [], u, j, h, hu, _ => ⟨h, hu⟩
  | r :: rs, u, j, h, hu, hr => by
    have := cuF_ok rs (cu u r) (j + 1) (cu_pos h (hr r (by simp)).b1).1 (cu_lt h (hr r (by simp)) hu) (fun q hq => hr q (by simp [hq]))
    rw [List.length_cons, show j + (rs.length + 1) = j + 1 + rs.length by omega]
    exact this
theorem Fu40 {n : Int} (h0 : 1 ≤ n) (h : n < 2 ^ 40) : n.natAbs < Fu := Fu_big (Bg_of (k := 40) (by omega))
theorem com_for {m : Nat} {X : Option MV} {S : Sto} : ∀ (rs : List (Int × Int)) (u : Int) (j : Nat) (x2 x3 : Option MV), 1 ≤ u → u.natAbs < 2 ^ (40 * j) → j + rs.length ≤ 70 → (∀ r ∈ rs, Rok r) → ∃ y2 y3,
    forGo (.tp [2, 3]) (exs (callN prog Fu (m + 1)) Fu (.cons (.asg (.nm 1) (.bin .mul (.bin .fdiv (.var 1) (.call false "divisor" (.cons (.var 1) (.cons (.var 3) .nil)))) (.var 3))) .nil)) ((rsD rs).map .d) [X, some (.d (.int u)), x2, x3] S
      = .next [X, some (.d (.int (cuF u rs))), y2, y3] S
  | [], u, j, x2, x3, _, _, _, _ => ⟨x2, x3, rfl⟩
  | r :: rs, u, j, x2, x3, h, hu, hj, hr => by
    have hrr := hr r (by simp)
    have h1 := cu_pos h hrr.b1
    obtain ⟨y2, y3, ih⟩ := com_for (m := m) (X := X) (S := S) rs (cu u r) (j + 1) (some (.d (.int r.1))) (some (.d (.int r.2))) h1.1 (cu_lt h hrr hu) (by simp at hj; omega) (fun q hq => hr q (by simp [hq]))
    refine ⟨y2, y3, ?_⟩
    have hd := c_divisor (n := m) (a := u) (b := r.2) (S := S) (Fu40 hrr.b1 hrr.b2)
    have hg := gcd_pos (b := r.2) h
    have hb := hrr.b1
    have hb2 := hrr.b2
    have hglt : Int.gcd u r.2 < 2 ^ 40 := by
      rw [Int.gcd_comm]
      have := Nat.le_of_dvd (by omega) (Nat.gcd_dvd_left r.2.natAbs u.natAbs)
      unfold Int.gcd
      omega
    have hdiv : divOk (Int.gcd u r.2 : Int) = true := divOk_of (b := 40) (by omega) (by simpa using hglt)
    have hmul : mulOk (u.fdiv (Int.gcd u r.2)) r.2 = true := by
      rw [cu_eq h]
      have := quot_pos (b := r.2) h
      refine mulOk_of (a := 2800) (b := 40) (Nat.lt_of_lt_of_le (show _ < 2 ^ (40 * j) by omega) (Nat.pow_le_pow_right (by decide) (by simp at hj; omega))) (by omega)
    simp only [rsD_cons, List.map_cons]
    rw [forGo_cons]
    simp only [rD]
    simp [hd, hdiv, hmul]
    exact ih
end Mi
namespace Mi
open PySem L2
def comU (rs : List (Int × Int)) : Int := cuF 1 rs
def comT (rs : List (Int × Int)) : List Int := rs.map fun r => r.1 * (comU rs).fdiv r.2
@[simp] theorem comT_length (rs : List (Int × Int)) : (comT rs).length = rs.length := by simp [comT]
theorem comU_ok {rs : List (Int × Int)} (hl : rs.length ≤ 60) (h : ∀ r ∈ rs, Rok r) : 1 ≤ comU rs ∧ (comU rs).natAbs < 2 ^ 2800 := by
  obtain ⟨h1, h2⟩ := cuF_ok rs 1 1 (by omega) (by decide) h
  exact ⟨h1, Nat.lt_of_lt_of_le h2 (Nat.pow_le_pow_right (by decide) (by omega))⟩
theorem fdiv_lt {u b : Int} (hu : 1 ≤ u) (hb : 1 ≤ b) : 0 ≤ u.fdiv b ∧ (u.fdiv b).natAbs ≤ u.natAbs := by
  rw [Int.fdiv_eq_ediv_of_nonneg u (by omega)]
  have h1 := Int.ediv_nonneg (show 0 ≤ u by omega) (show 0 ≤ b by omega)
  have h2 := Int.ediv_le_self b (show 0 ≤ u by omega)
  omega
theorem tops_comp {C : Calls} {S : Sto} {X Y Z : Option MV} {u : Int} (hu : 1 ≤ u) (hu2 : u.natAbs < 2 ^ 2800) (rs : List (Int × Int)) (h : ∀ r ∈ rs, Rok r) :
    lcGo (ev C (.bin .mul (.var 2) (.bin .fdiv (.var 1) (.var 3)))) (.tp [2, 3]) [X, some (.d (.int u)), Y, Z] ((rsD rs).map .d) [] S = .ok ((iD (rs.map fun r => r.1 * u.fdiv r.2)).map .d) S := by
  have := lcGo_map (el := ev C (.bin .mul (.var 2) (.bin .fdiv (.var 1) (.var 3)))) (tg := .tp [2, 3]) (σ := [X, some (.d (.int u)), Y, Z]) (S := S) (fun x => match x with | .d (.tup [.int a, .int b]) => .d (.int (a * u.fdiv b)) | x => x) ((rsD rs).map .d) [] ?_
  · rw [this]
    simp [iD, rsD, rD]
  · intro x hx
    simp only [rsD, List.map_map, List.mem_map, Function.comp] at hx
    obtain ⟨r, hr, rfl⟩ := hx
    have hk := h r hr
    have hb := hk.b1
    have hb2 := hk.b2
    have hf := fdiv_lt hu hb
    have hd : divOk r.2 = true := divOk_of (b := 40) (by omega) (by omega)
    have hm : mulOk r.1 (u.fdiv r.2) = true := mulOk_of (a := 40) (b := 2800) hk.t1 (by omega)
    exact ⟨_, by simp [rD]; rfl, by simp [hd, hm, rD]⟩
def sq (tp : Bool) (xs : List D) : D := if tp then .tup xs else .lst xs
theorem run_common {m : Nat} {S : Sto} {rs : List (Int × Int)} (tp : Bool) (hl : rs.length ≤ 60) (h : ∀ r ∈ rs, Rok r) :
    run (callN prog Fu (m + 1)) Fu d_common [.d (sq tp (rsD rs))] S = .ok (.t [.d (.int (comU rs)), .c S.length]) (S ++ [.lst ((iD (comT rs)).map .d)]) := by
  refine run_ret rfl ?_
  obtain ⟨y2, y3, e⟩ := com_for (m := m) (X := some (.d (sq tp (rsD rs)))) (S := S) rs 1 1 none none (by omega) (by decide) (by omega) h
  obtain ⟨hu, hu2⟩ := comU_ok hl h
  have hc := fun Y Z => tops_comp (C := callN prog Fu (m + 1)) (S := S) (X := some (.d (sq tp (rsD rs)))) (Y := Y) (Z := Z) hu hu2 rs h
  have hl' : rs.length ≤ 1000000 := by omega
  have eT : (rs.map fun r => r.1 * (comU rs).fdiv r.2) = comT rs := rfl
  simp only [eT] at hc
  have eU : cuF 1 rs = comU rs := rfl
  rw [eU] at e
  cases tp <;> simp [d_common, sq] at e hc ⊢ <;> simp [e, wipeM, hc, newL, newT, szOk, hl', allD]
theorem c_common {m : Nat} {S : Sto} {rs : List (Int × Int)} (tp : Bool) (hl : rs.length ≤ 60) (h : ∀ r ∈ rs, Rok r) :
    callN prog Fu (m + 2) false "common" [.d (sq tp (rsD rs))] S = .ok (.d (.tup [.int (comU rs), .lst (iD (comT rs))])) S :=
  call_d (ds := [sq tp (rsD rs)]) (S3 := [.froz (.lst (iD (comT rs)))]) rfl (run_common tp hl h) (by simp [freeze, freezeL_d])
/-! ### the law's own -/
theorem gcdL2 (a b : Int) : gcdL [a, b] = Int.gcd a b := by
  simp [gcdL]
  rw [Int.gcd_comm]
  simp [Int.gcd]
theorem lcu {u b t : Int} (hu : 1 ≤ u) : (u * b).fdiv (Int.gcd u b : Int) = cu u (t, b) := by
  unfold cu
  rw [cu_eq hu, Int.fdiv_eq_ediv_of_nonneg _ (by omega), Int.mul_comm u b, Int.mul_ediv_assoc b (Int.gcd_dvd_left ..), Int.mul_comm]
theorem lcom_for {m : Nat} {X : Option MV} {S : Sto} : ∀ (rs : List (Int × Int)) (u : Int) (j : Nat) (x2 : Option MV), 1 ≤ u → u.natAbs < 2 ^ (40 * j) → j + rs.length ≤ 70 → (∀ r ∈ rs, Rok r) → ∃ y2,
    forGo (.nm 2) (exs (callN prog Fu (m + 1)) Fu (.cons (.asg (.nm 1) (.bin .fdiv (.bin .mul (.var 1) (.ix (.var 2) (.int 1))) (.call false "_law_divisor" (.cons (.lst false (.cons (.var 1) (.cons (.ix (.var 2) (.int 1)) .nil))) .nil)))) .nil)) ((rsD rs).map .d) [X, some (.d (.int u)), x2] S
      = .next [X, some (.d (.int (cuF u rs))), y2] S
  | [], u, j, x2, _, _, _, _ => ⟨x2, rfl⟩
  | r :: rs, u, j, x2, h, hu, hj, hr => by
    have hrr := hr r (by simp)
    have h1 := cu_pos h hrr.b1
    obtain ⟨y2, ih⟩ := lcom_for (m := m) (X := X) (S := S) rs (cu u r) (j + 1) (some (.d (rD r))) h1.1 (cu_lt h hrr hu) (by simp at hj; omega) (fun q hq => hr q (by simp [hq]))
    refine ⟨y2, ?_⟩
    have hb := hrr.b1
    have hb2 := hrr.b2
    have hub : u.natAbs < 2 ^ 2800 := Nat.lt_of_lt_of_le hu (Nat.pow_le_pow_right (by decide) (by simp at hj; omega))
    have hd := c_ldivisor (n := m) (S := S) (ns := [u, r.2]) (fun n hn => by
      simp at hn
      rcases hn with rfl | rfl
      · exact Fu_big (Bg_of hub)
      · exact Fu40 hb hb2)
    rw [gcdL2] at hd
    have hg := gcd_pos (b := r.2) h
    have hglt : Int.gcd u r.2 < 2 ^ 40 := by
      rw [Int.gcd_comm]
      have := Nat.le_of_dvd (by omega) (Nat.gcd_dvd_left r.2.natAbs u.natAbs)
      unfold Int.gcd
      omega
    have hdiv : divOk (Int.gcd u r.2 : Int) = true := divOk_of (b := 40) (by omega) (by simpa using hglt)
    have hmul : mulOk u r.2 = true := mulOk_of (a := 2800) (b := 40) hub (by omega)
    have e := lcu (u := u) (b := r.2) (t := r.1) h
    simp only [rsD_cons, List.map_cons]
    rw [forGo_cons]
    simp [rD, newL, szOk] at hd ⊢
    simp [hd, hdiv, hmul, e]
    exact ih
theorem ltops_comp {C : Calls} {S : Sto} {X Y : Option MV} {u : Int} (hu : 1 ≤ u) (hu2 : u.natAbs < 2 ^ 2800) (rs : List (Int × Int)) (h : ∀ r ∈ rs, Rok r) :
    lcGo (ev C (.bin .mul (.ix (.var 2) (.int 0)) (.bin .fdiv (.var 1) (.ix (.var 2) (.int 1))))) (.nm 2) [X, some (.d (.int u)), Y] ((rsD rs).map .d) [] S = .ok ((iD (rs.map fun r => r.1 * u.fdiv r.2)).map .d) S := by
  have := lcGo_map (el := ev C (.bin .mul (.ix (.var 2) (.int 0)) (.bin .fdiv (.var 1) (.ix (.var 2) (.int 1))))) (tg := .nm 2) (σ := [X, some (.d (.int u)), Y]) (S := S) (fun x => match x with | .d (.tup [.int a, .int b]) => .d (.int (a * u.fdiv b)) | x => x) ((rsD rs).map .d) [] ?_
  · rw [this]
    simp [iD, rsD, rD]
  · intro x hx
    simp only [rsD, List.map_map, List.mem_map, Function.comp] at hx
    obtain ⟨r, hr, rfl⟩ := hx
    have hk := h r hr
    have hb := hk.b1
    have hb2 := hk.b2
    have hf := fdiv_lt hu hb
    have hd : divOk r.2 = true := divOk_of (b := 40) (by omega) (by omega)
    have hm : mulOk r.1 (u.fdiv r.2) = true := mulOk_of (a := 40) (b := 2800) hk.t1 (by omega)
    exact ⟨_, rfl, by simp [hd, hm, rD]⟩
theorem c_lcommon {m : Nat} {S : Sto} {rs : List (Int × Int)} (hl : rs.length ≤ 60) (h : ∀ r ∈ rs, Rok r) :
    callN prog Fu (m + 2) false "_law_common" [.d (.lst (rsD rs))] S = .ok (.d (.lst [.int (comU rs), .lst (iD (comT rs))])) S := by
  refine call_d (ds := [.lst (rsD rs)]) rfl (run_ret rfl (v := .d (.lst [.int (comU rs), .lst (iD (comT rs))])) (S' := []) ?_) (freeze_d _ _ _)
  obtain ⟨y2, e⟩ := lcom_for (m := m) (X := some (.d (.lst (rsD rs)))) (S := []) rs 1 1 none (by omega) (by decide) (by omega) h
  obtain ⟨hu, hu2⟩ := comU_ok hl h
  have hc := fun Y => ltops_comp (C := callN prog Fu (m + 1)) (S := []) (X := some (.d (.lst (rsD rs)))) (Y := Y) hu hu2 rs h
  have hl' : rs.length ≤ 1000000 := by omega
  have eT : (rs.map fun r => r.1 * (comU rs).fdiv r.2) = comT rs := rfl
  simp only [eT] at hc
  have eU : cuF 1 rs = comU rs := rfl
  rw [eU] at e
  simp [l_common, e, wipeM, hc, newL, szOk, hl']
/-- the law's ratio -/
def lrat (t b : Int) : Int × Int := (t.fdiv (Int.gcd t b), b.fdiv (Int.gcd t b))
theorem c_lratio {m : Nat} {S : Sto} {t b : Int} (hb : 1 ≤ b) (hb2 : b < 2 ^ 40) (ht : t.natAbs < 2 ^ 40) : callN prog Fu (m + 2) false "_law_ratio" [.d (.int t), .d (.int b)] S = .ok (.d (rD (lrat t b))) S := by
  refine call_d (ds := [.int t, .int b]) rfl (run_ret rfl (v := .d (rD (lrat t b))) (S' := []) ?_) (freeze_d _ _ _)
  have hd := c_ldivisor (n := m) (S := []) (ns := [t, b]) (fun n hn => by
      simp at hn
      rcases hn with rfl | rfl
      · exact Fu_big (Bg_of ht)
      · exact Fu40 hb hb2)
  rw [gcdL2] at hd
  have hg : 0 < Int.gcd t b := by rw [Int.gcd_comm]; exact gcd_pos hb
  have hglt : Int.gcd t b < 2 ^ 40 := by
    rw [Int.gcd_comm]
    have := Nat.le_of_dvd (by omega) (Nat.gcd_dvd_left b.natAbs t.natAbs)
    unfold Int.gcd
    omega
  have hdiv : divOk (Int.gcd t b : Int) = true := divOk_of (b := 40) (by omega) (by simpa using hglt)
  have hn : ¬ b < 0 := by omega
  simp [l_ratio, newL, szOk] at hd ⊢
  simp [hd, hn, hdiv, newT, szOk, rD, lrat]
theorem lrat_ok {t b : Int} (hb : 1 ≤ b) (hb2 : b < 2 ^ 40) (ht : t.natAbs < 2 ^ 40) : Rok (lrat t b) := by
  have hg : 0 < Int.gcd t b := by rw [Int.gcd_comm]; exact gcd_pos hb
  have q := quot_pos (b := t) hb
  rw [Int.gcd_comm] at q
  have e : b.fdiv (Int.gcd t b) = b / (Int.gcd t b : Int) := Int.fdiv_eq_ediv_of_nonneg b (by omega)
  have e2 : t.fdiv (Int.gcd t b) = t / (Int.gcd t b : Int) := Int.fdiv_eq_ediv_of_nonneg t (by omega)
  refine ⟨by simp only [lrat, e]; omega, by simp only [lrat, e]; omega, ?_⟩
  simp only [lrat, e2]
  have := Int.natAbs_ediv_le_natAbs t (Int.gcd t b : Int)
  omega
theorem c_llowest {m : Nat} {S : Sto} {ns : List Int} (h : ∀ n ∈ ns, n.natAbs < Bg) (hl : ns.length ≤ 1000) : callN prog Fu (m + 2) false "_law_lowest_list" [.d (.lst (iD ns))] S = .ok (.d (.lst (iD (lowL ns)))) S := by
  refine call_d (ds := [.lst (iD ns)]) rfl (run_ret rfl (v := .d (.lst (iD (lowL ns)))) (S' := []) ?_) (freeze_d _ _ _)
  have hd := c_ldivisor (n := m) (S := []) (ns := ns) (fun n hn => Fu_big (h n hn))
  have hlt : gcdL ns < Bg := gcdF_lt ns 0 h (by decide +kernel)
  have hl' : ns.length ≤ 1000000 := by omega
  by_cases h0 : gcdL ns = 0
  · have hL : lowL ns = ns := by simp [lowL, h0]
    simp [l_lowest_list, hd, h0, newL, szOk, hl', hL]
  · have hL : lowL ns = ns.map fun n => n.fdiv (gcdL ns) := by simp [lowL, h0]
    have hc := fun Y => fdiv_comp (C := callN prog Fu (m + 1)) (S := []) (X := some (.d (.lst (iD ns)))) (Y := Y) h0 hlt ns
    simp [l_lowest_list, hd, h0, wipeM, hc, newL, szOk, hl', hL]
theorem c_isnum {m : Nat} {S : Sto} {i : Int} : callN prog Fu (m + 1) false "_law_is_number" [.d (.int i)] S = .ok (.d (.bl true)) S :=
  call_d (ds := [.int i]) rfl (run_ret rfl (v := .d (.bl true)) (S' := []) (by simp [l_is_number, isiF, tyD, isiT])) (freeze_d _ _ _)
end Mi
namespace Mi
open PySem L2
@[simp] theorem szOk_0 : szOk 0 = true := rfl
@[simp] theorem szOk_1 : szOk 1 = true := rfl
@[simp] theorem szOk_2 : szOk 2 = true := rfl
@[simp] theorem szOk_3 : szOk 3 = true := rfl
@[simp] theorem szOk_4 : szOk 4 = true := rfl
@[simp] theorem szOk_5 : szOk 5 = true := rfl
@[simp] theorem szOk_6 : szOk 6 = true := rfl
@[simp] theorem szOk_7 : szOk 7 = true := rfl
@[simp] theorem szOk_8 : szOk 8 = true := rfl
@[simp] theorem szOk_9 : szOk 9 = true := rfl
@[simp] theorem szOk_10 : szOk 10 = true := rfl
@[simp] theorem szOk_11 : szOk 11 = true := rfl
@[simp] theorem szOk_12 : szOk 12 = true := rfl
/-- a pure call sees cells as data -/
theorem call_fz {P : String → Option Df} {fu n : Nat} {f : String} {vs : List MV} {ds : List D} {S S1 : Sto} (h : freezeL (freeze 4) vs S = .ok ds S1) : callN P fu (n + 1) false f vs S = callN P fu (n + 1) false f (ds.map .d) S1 := by
  simp only [callN]
  split
  · rfl
  · simp only [Bool.false_eq_true, if_false, pureCall, h, freezeL_d]
theorem c_take {L : Nat} (hL : 1 ≤ L) (a h : Int) (ns : List Int) (T : Sto) (many : Int) (ha : 0 ≤ a) (hA : a ≤ 1000000) (hns : ns.length ≤ 1000) (hm : 0 < many) (hb : many.natAbs < 2 ^ 8000) :
    ∃ (r a' h' : Int), 0 ≤ r ∧ r < many ∧ 0 ≤ a' ∧ a' ≤ a + 1 ∧ callN prog Fu L true "_law_take" [.c 0, .d (.int many)] (pl a h ns :: T) = .ok (.d (.int r)) (pl a' h' ns :: T) := by
  obtain ⟨m, rfl⟩ : ∃ m, L = m + 1 := ⟨L - 1, by omega⟩
  obtain ⟨r, a', h', q1, q2, q3, q4, e⟩ := run_take (C := callN prog Fu m) (fu := Fu) a h ns T many ha hA hns hm hb
  exact ⟨r, a', h', q1, q2, q3, q4, by rw [callN_raw rfl]; exact e⟩
theorem allD_ints (ns : List Int) : allD (ns.map fun n => MV.d (D.int n)) = some (iD ns) := by
  have := allD_map (iD ns)
  unfold iD at this
  rw [List.map_map] at this
  exact this
theorem c_pool {m : Nat} {ns : List Int} (hns : ns.length ≤ 1000) : callN prog Fu (m + 1) true "_law_pool" [.d (.scr ns)] [] = .ok (.c 0) [pl 0 0 ns] := by
  rw [callN_raw rfl]
  refine run_ret rfl ?_
  have hl : ns.length ≤ 1000000 := by omega
  simp [l_pool, newL, szOk, hl, allD_ints, pl]
theorem small_pow {k : Nat} (h : k < 2 ^ 60) : k < 2 ^ 8000 := Nat.lt_of_lt_of_le h (Nat.pow_le_pow_right (by decide) (by decide))
abbrev bodyR : Sms := (.cons (.asg (.nm 5) (.bin .sub (.call true "_law_take" (.cons (.var 1) (.cons (.bin .add (.bin .mul (.int 2) (.var 2)) (.int 1)) .nil))) (.var 2)))
    (.cons (.expr (.app (.var 3) (.call false "_law_ratio" (.cons (.var 5) (.cons (.bin .add (.int 1) (.call true "_law_take" (.cons (.var 1) (.cons (.var 2) .nil)))) .nil)))))
    .nil))
theorem ratio_for {m : Nat} {ns : List Int} (hns : ns.length ≤ 1000) {size : Int} (hs : 1 ≤ size) (hs2 : size ≤ 10000000000) {x0 x6 x7 x8 x9 x10 x11 x12 x13 : Option MV} :
    ∀ (ks : List MV) (a h : Int) (rs : List (Int × Int)) (x4 x5 : Option MV), 0 ≤ a → a + 2 * (ks.length : Int) ≤ 1000000 → rs.length + ks.length ≤ 60 → (∀ r ∈ rs, Rok r) → ∃ a' h' rs' y4 y5, 0 ≤ a' ∧ a' ≤ a + 2 * (ks.length : Int) ∧ rs'.length ≤ 60 ∧ (∀ r ∈ rs', Rok r) ∧
      forGo (.nm 4) (exs (callN prog Fu (m + 2)) Fu bodyR) ks [x0, some (.c 0), some (.d (.int size)), some (.c 1), x4, x5, x6, x7, x8, x9, x10, x11, x12, x13] [pl a h ns, .lst ((rsD rs).map .d)]
        = .next [x0, some (.c 0), some (.d (.int size)), some (.c 1), y4, y5, x6, x7, x8, x9, x10, x11, x12, x13] [pl a' h' ns, .lst ((rsD rs').map .d)]
  | [], a, h, rs, x4, x5, ha, _, hl, hr => ⟨a, h, rs, x4, x5, ha, by simp, by simpa using hl, hr, rfl⟩
  | k :: ks, a, h, rs, x4, x5, ha, hA, hl, hr => by
    simp only [List.length_cons] at hA hl ⊢
    obtain ⟨r1, a1, h1, p1, p2, p3, p4, e1⟩ := c_take (L := m + 2) (by omega) a h ns [.lst ((rsD rs).map .d)] (2 * size + 1) ha (by omega) hns (by omega) (small_pow (by omega))
    obtain ⟨r2, a2, h2, q1, q2, q3, q4, e2⟩ := c_take (L := m + 2) (by omega) a1 h1 ns [.lst ((rsD rs).map .d)] size p3 (by omega) hns (by omega) (small_pow (by omega))
    have e3 := c_lratio (m := m) (S := [pl a2 h2 ns, .lst ((rsD rs).map .d)]) (t := r1 - size) (b := 1 + r2) (by omega) (by omega) (by omega)
    have hk := lrat_ok (t := r1 - size) (b := 1 + r2) (by omega) (by omega) (by omega)
    obtain ⟨a', h', rs', y4, y5, s1, s2, s3, s4, e4⟩ := ratio_for (m := m) hns hs hs2 (x0 := x0) (x6 := x6) (x7 := x7) (x8 := x8) (x9 := x9) (x10 := x10) (x11 := x11) (x12 := x12) (x13 := x13) ks a2 h2 (rs ++ [lrat (r1 - size) (1 + r2)]) (some k) (some (.d (.int (r1 - size)))) q3 (by omega) (by simp; omega) (by
      intro r hrr
      rcases List.mem_append.mp hrr with z | z
      · exact hr r z
      · rw [List.mem_singleton.mp z]; exact hk)
    refine ⟨a', h', rs', y4, y5, s1, by omega, s3, s4, ?_⟩
    rw [← e4, forGo_cons]
    have mu : mulOk 2 size = true := mulOk_of (a := 64) (b := 64) (by decide) (by omega)
    have hz : szOk (rs.length + 1) = true := szOk_of (by omega)
    simp [mu, e1, e2, e3, lstC, appF, hz, rsD_append, bodyR]
end Mi
namespace Mi
open PySem L2
/-- the drawn numbers -/
theorem nums_comp {m : Nat} {ns : List Int} (hns : ns.length ≤ 1000) {T : Sto} {f : Int} (hf : 0 ≤ f) (hf2 : f < 1000) {σ : Slots} (h1 : σ[1]? = some (some (.c 0))) (h10 : σ[10]? = some (some (.d (.int f)))) :
    ∀ (ks : List MV) (a h : Int) (acc : List Int), 0 ≤ a → a + (ks.length : Int) ≤ 1000000 → (∀ n ∈ acc, n.natAbs < Bg) → ∃ a' h' out, 0 ≤ a' ∧ a' ≤ a + (ks.length : Int) ∧ out.length = acc.length + ks.length ∧ (∀ n ∈ out, n.natAbs < Bg) ∧
      lcGo (ev (callN prog Fu (m + 1)) (.bin .mul (.var 10) (.bin .sub (.call true "_law_take" (.cons (.var 1) (.cons (.int 41) .nil))) (.int 20)))) (.nm 4) σ ks ((iD acc).map .d) (pl a h ns :: T) = .ok ((iD out).map .d) (pl a' h' ns :: T)
  | [], a, h, acc, ha, _, hb => ⟨a, h, acc.reverse, ha, by simp, by simp, fun n hn => hb n (by simpa using hn), by simp [lcGo, iD]⟩
  | k :: ks, a, h, acc, ha, hA, hb => by
    simp only [List.length_cons] at hA ⊢
    obtain ⟨r, a1, h1', p1, p2, p3, p4, e⟩ := c_take (L := m + 1) (by omega) a h ns T 41 ha (by omega) hns (by omega) (small_pow (by decide))
    have hp : (f * (r - 20)).natAbs < 2 ^ 40 := by
      rw [Int.natAbs_mul]
      have := Nat.mul_lt_mul'' (show f.natAbs < 2 ^ 20 by omega) (show (r - 20).natAbs < 2 ^ 20 by omega)
      exact Nat.lt_of_lt_of_le this (by decide)
    obtain ⟨a', h', out, q1, q2, q3, q4, e2⟩ := nums_comp (m := m) hns (T := T) hf hf2 h1 h10 ks a1 h1' (f * (r - 20) :: acc) p3 (by omega) (fun n hn => by
      rcases List.mem_cons.mp hn with z | z
      · rw [z]; exact Bg_of hp
      · exact hb n z)
    refine ⟨a', h', out, q1, by omega, by simp at q3; omega, q4, ?_⟩
    have mu : mulOk f (r - 20) = true := mulOk_of (a := 64) (b := 64) (by omega) (by omega)
    have g1 : (σ.set 4 (some k))[1]? = some (some (.c 0)) := by rw [List.getElem?_set_ne (by decide)]; exact h1
    have g10 : (σ.set 4 (some k))[10]? = some (some (.d (.int f))) := by rw [List.getElem?_set_ne (by decide)]; exact h10
    simp only [lcGo, bindTg_nm]
    simp [g1, g10, e, mu]
    simpa using e2
theorem c_lowest {m : Nat} {S : Sto} {ns : List Int} (tp : Bool) (h : ∀ n ∈ ns, n.natAbs < Bg) (hl : ns.length ≤ 1000) :
    callN prog Fu (m + 2) false "lowest" [.d (sq tp (iD ns))] S = .ok (.d (.lst (iD (lowL ns)))) S :=
  call_d (ds := [sq tp (iD ns)]) (S3 := [.froz (.lst (iD (lowL ns)))]) rfl (run_lowest tp h hl) (by simp [freeze, freezeL_d])
theorem dep_rs (n : Nat) (rs : List (Int × Int)) : dep (n + 2) (.lst (rsD rs)) = true := by simp [dep, rsD, rD]
theorem exs_step {C : Calls} {fu : Nat} {s : Sm} {r : Sms} {σ σ1 : Slots} {S S1 : Sto} {f : F} (h : ex C fu s σ S = .next σ1 S1) (k : exs C fu r σ1 S1 = f) : exs C fu (.cons s r) σ S = f := by
  rw [exs_cons, h]; exact k
theorem exs_last {C : Calls} {fu : Nat} {s : Sm} {r : Sms} {σ : Slots} {S S1 : Sto} {v : MV} (h : ex C fu s σ S = .ret v S1) : exs C fu (.cons s r) σ S = .ret v S1 := by
  rw [exs_cons, h]; rfl
theorem mapM_deep (n : Nat) (S : Sto) (ds : List D) : List.mapM (deep n S) (ds.map .d) = some ds := by
  induction ds with
  | nil => rfl
  | cons d ds ih => simp [ih]
theorem mapM_deep' (n : Nat) (S : Sto) (ds : List D) : List.mapM (deep n S ∘ MV.d) ds = some ds := by
  induction ds with
  | nil => rfl
  | cons d ds ih => simp [ih]
theorem lowL_len (xs : List Int) : (lowL xs).length = xs.length := by
  unfold lowL
  split <;> simp
theorem law_true : ∀ ns : List Int, ns.length ≤ 63 → (∀ z ∈ ns, Builtin.Int.intBits z ≤ 1048576) → ∃ S', callN prog Fu (LV + 1) true "law" [.d (.scr ns)] [] = .ok (.d (.bl true)) S' := by
  intro ns hn _
  have hns : ns.length ≤ 1000 := by omega
  have e0 : callN prog Fu 10 true "_law_pool" [.d (.scr ns)] [] = .ok (.c 0) [pl 0 0 ns] := c_pool (m := 9) (ns := ns) hns
  obtain ⟨r1, a1, h1, p1, p2, p3, p4, e1⟩ := c_take (L := 10) (by omega) 0 0 ns [] 2 (by omega) (by omega) hns (by omega) (small_pow (by decide))
  obtain ⟨r2, a2, h2, q1, q2, q3, q4, e2⟩ := c_take (L := 10) (by omega) a1 h1 ns [.lst []] 7 p3 (by omega) hns (by omega) (small_pow (by decide))
  -- the size
  obtain ⟨size, hsz, hs1, hs2⟩ : ∃ size : Int, L2.atI [MV.d (D.int 60), MV.d (D.int 10000000000)] r1 = some (.d (.int size)) ∧ 1 ≤ size ∧ size ≤ 10000000000 := by
    have : r1 = 0 ∨ r1 = 1 := by omega
    rcases this with z | z
    · subst z; exact ⟨60, rfl, by omega, by omega⟩
    · subst z; exact ⟨10000000000, rfl, by omega, by omega⟩
  have hlen : (rangeL 0 r2).length = r2.toNat := by simp [rangeL]
  obtain ⟨a3, h3, rs, y4, y5, s1, s2, s3, s4, e3⟩ := ratio_for (m := 8) hns hs1 hs2 (x0 := some (.d (.scr ns))) (x6 := none) (x7 := none) (x8 := none) (x9 := none) (x10 := none) (x11 := none) (x12 := none) (x13 := none) (rangeL 0 r2) a2 h2 [] none none q3 (by omega) (by simp; omega) (by simp)
  have e4 : ∀ S, callN prog Fu 10 true "common" [.d (.lst (rsD rs))] S = .ok (.t [.d (.int (comU rs)), .c S.length]) (S ++ [.lst ((iD (comT rs)).map .d)]) := fun S => by
    rw [callN_raw rfl]; exact run_common false s3 s4
  have e5 : ∀ S, callN prog Fu 10 false "_law_common" [.d (.lst (rsD rs))] S = .ok (.d (.lst [.int (comU rs), .lst (iD (comT rs))])) S := fun S => c_lcommon s3 s4
  have e5' : callN prog Fu 10 false "_law_common" [.c 1] [pl a3 h3 ns, .lst ((rsD rs).map .d), .lst ((iD (comT rs)).map .d)] = .ok (.d (.lst [.int (comU rs), .lst (iD (comT rs))])) [pl a3 h3 ns, .froz (.lst (rsD rs)), .lst ((iD (comT rs)).map .d)] := by
    rw [call_fz (ds := [.lst (rsD rs)]) (S1 := [pl a3 h3 ns, .froz (.lst (rsD rs)), .lst ((iD (comT rs)).map .d)]) (by simp [freeze, freezeL_d])]
    exact e5 _
  have e6 : ∀ S, callN prog Fu 10 false "common" [.d (.tup (rsD rs))] S = .ok (.d (.tup [.int (comU rs), .lst (iD (comT rs))])) S := fun S => c_common true s3 s4
  -- behind the first part
  obtain ⟨r4, a4, h4, t1, t2, t3, t4, e7⟩ := c_take (L := 10) (by omega) a3 h3 ns [.froz (.lst (rsD rs)), .lst ((iD (comT rs)).map .d ++ [.d (.int 7)]), .lst [.d (.int (comU rs)), .c 2]] 1000 s1 (by omega) hns (by omega) (small_pow (by decide))
  obtain ⟨r5, a5, h5, u1, u2, u3, u4, e8⟩ := c_take (L := 10) (by omega) a4 h4 ns [.froz (.lst (rsD rs)), .lst ((iD (comT rs)).map .d ++ [.d (.int 7)]), .lst [.d (.int (comU rs)), .c 2]] 7 t3 (by omega) hns (by omega) (small_pow (by decide))
  have hlen5 : (rangeL 0 r5).length = r5.toNat := by simp [rangeL]
  have e9 := fun σ h1 h10 => nums_comp (m := 9) hns (T := [.froz (.lst (rsD rs)), .lst ((iD (comT rs)).map .d ++ [.d (.int 7)]), .lst [.d (.int (comU rs)), .c 2]]) t1 t2 (σ := σ) h1 h10 (rangeL 0 r5) a5 h5 [] u3 (by omega) (by simp)
  obtain ⟨a6, h6, xs, v1, v2, v3, v4, e9⟩ := e9 [some (.d (.scr ns)), some (.c 0), some (.d (.int size)), some (.c 1), none, y5, some (.d (.lst (rsD rs))), some (.t [.d (.int (comU rs)), .c 2]), some (.d (.lst [.int (comU rs), .lst (iD (comT rs))])), some (.c 2), some (.d (.int r4)), none, none, none] rfl rfl
  have hx : xs.length ≤ 1000 := by simp at v3; omega
  have f1 : ∀ S, callN prog Fu 10 true "lowest" [.d (.lst (iD xs))] S = .ok (.c S.length) (S ++ [.lst ((iD (lowL xs)).map .d)]) := fun S => by
    rw [callN_raw rfl]; exact run_lowest false v4 hx
  have f2 : ∀ S, callN prog Fu 10 false "_law_lowest_list" [.d (.lst (iD xs))] S = .ok (.d (.lst (iD (lowL xs)))) S := fun S => c_llowest v4 hx
  have f3 : ∀ S, callN prog Fu 10 false "lowest" [.d (.tup (iD xs))] S = .ok (.d (.lst (iD (lowL xs)))) S := fun S => c_lowest true v4 hx
  have g1 : ∀ S, callN prog Fu 10 false "_law_is_number" [.d (.int (comU rs))] S = .ok (.d (.bl true)) S := fun S => c_isnum
  have z1 : szOk rs.length = true := szOk_of (by omega)
  have z2 : szOk xs.length = true := szOk_of (by omega)
  have z3 : szOk (rs.length + 1) = true := szOk_of (by omega)
  have z4 : szOk ((lowL xs).length + 1) = true := szOk_of (by rw [lowL_len]; omega)
  have k1 : rgOk r2 = true := decide_eq_true (by omega)
  have k2 : rgOk r5 = true := decide_eq_true (by omega)
  have c1 := cmpD_nsame (.lst [.int (comU rs), .lst (iD (comT rs))]) (by simp [dep, iD])
  have c2 := cmpD_nsame (.lst (rsD rs)) (dep_rs 6 rs)
  have c3 := cmpD_nsame (.lst (iD (lowL xs))) (dep_ints 7 _)
  have c4 := cmpD_nsame (.lst (iD xs)) (dep_ints 7 _)
  have c5 := cmpD_same (.lst (iD xs)) (dep_ints 7 _)
  have c6 := cmpD_same (.lst (iD (lowL xs))) (dep_ints 7 _)
  have pw : powOk 10 10 = true := by decide
  have e3' : forGo (.nm 4) (exs (callN prog Fu 10) Fu bodyR) (rangeL 0 r2) [some (.d (.scr ns)), some (.c 0), some (.d (.int size)), some (.c 1), none, none, none, none, none, none, none, none, none, none] [pl a2 h2 ns, .lst []]
    = .next [some (.d (.scr ns)), some (.c 0), some (.d (.int size)), some (.c 1), y4, y5, none, none, none, none, none, none, none, none] [pl a3 h3 ns, .lst ((rsD rs).map .d)] := e3
  refine ⟨[pl a6 h6 ns, .froz (.lst (rsD rs)), .lst ((iD (comT rs)).map .d ++ [.d (.int 7)]), .lst [.d (.int (comU rs)), .c 2], .lst ((iD (lowL xs)).map .d ++ [.d (.int 7)])], ?_⟩
  rw [callN_raw rfl]
  refine run_ret rfl ?_
  simp only [d_law, LV, List.map_cons, List.map_nil, List.length_cons, List.length_nil, List.replicate, List.cons_append, List.nil_append]
  refine exs_step (by simp [e0]; exact ⟨rfl, rfl⟩) ?_
  refine exs_step (by simp [newL, pw, e1, hsz]; exact ⟨rfl, rfl⟩) ?_
  refine exs_step (by simp [newL]; exact ⟨rfl, rfl⟩) ?_
  refine exs_step (by simp [-exs_cons, e2, k1]; exact e3') ?_
  refine exs_step (by simp [newL, z1]; exact ⟨rfl, rfl⟩) ?_
  refine exs_step (by simp [e4]; exact ⟨rfl, rfl⟩) ?_
  refine exs_step (by simp [e5']; exact ⟨rfl, rfl⟩) ?_
  refine exs_step (by simp [isiF, tyD, isiT, g1]; exact ⟨rfl, rfl⟩) ?_
  refine exs_step (by simp [newL, allD, dqu, deep, mapM_deep, mapM_deep', c1, c2]; exact ⟨rfl, rfl⟩) ?_
  refine exs_step (by simp; exact ⟨rfl, rfl⟩) ?_
  refine exs_step (by simp [lstC, appF, z3]; exact ⟨rfl, rfl⟩) ?_
  refine exs_step (by simp [newL, newT, z1, e6, c1]; exact ⟨rfl, rfl⟩) ?_
  refine exs_step (by simp [e7]; exact ⟨rfl, rfl⟩) ?_
  refine exs_step (by
    simp [-ev_bin, e8, k2, wipeM]
    rw [show lcGo _ _ _ (rangeL 0 r5) [] _ = _ from e9]
    simp [newL, z2]; exact ⟨rfl, rfl⟩) ?_
  refine exs_step (by simp [newL, z2]; exact ⟨rfl, rfl⟩) ?_
  refine exs_step (by simp [f1]; exact ⟨rfl, rfl⟩) ?_
  refine exs_step (by simp [f2, dqu, deep, mapM_deep, mapM_deep', c3, c4]; exact ⟨rfl, rfl⟩) ?_
  refine exs_step (by simp [lstC, appF, z4]; exact ⟨rfl, rfl⟩) ?_
  refine exs_last ?_
  simp [newT, z2, f2, f3, c5, c6]
end Mi
open PySem PySem.W PyProof.Rows in
set_option maxRecDepth 100000 in
set_option maxHeartbeats 0 in
theorem PySem.Challenge.cw_everydecider_k12_common_units_holds : PySem.Challenge.rw_everydecider_k12_common_units.Holds := by
  w_on; o_law; k_head; (case hw => w_witness2)
  k_fill
  refine Mi.walk (l := PySem.Challenge.rw_everydecider_k12_common_units) (C := Mi.callN Mi.prog Mi.Fu (Mi.LV + 1)) (k := Mi.LV + 1) (x := "_law_script") (by decide) rfl rfl (fun w h Y => PySem.W.kIn_of Y) Mi.law_true (fun _ _ => none) ?F
  case F =>
    intro w mg fa h KX G hmg
    refine' Mi.all_mk Mi.LV KX G hmg ?a1 ?l1 ?c1 ?k1 ?a2 ?l2 ?c2 ?k2 ?a3 ?l3 ?c3 ?k3 ?a4 ?l4 ?c4 ?k4 ?a5 ?l5 ?c5 ?k5 ?a6 ?l6 ?c6 ?k6 ?a7 ?l7 ?c7 ?k7 ?a8 ?l8 ?c8 ?k8 ?a9 ?l9 ?c9 ?k9 ?a10 ?l10 ?c10 ?k10 ?a11 ?l11 ?c11 ?k11 ?z0 ?z1 ?z2 ?z3 ?z4 ?z5 ?z6 ?z7 ?z8 ?z9
    (case a1 => k_is)
    (case l1 => k_is)
    (case c1 => k_is)
    (case k1 => k_is)
    (case a2 => k_is)
    (case l2 => k_is)
    (case c2 => k_is)
    (case k2 => k_is)
    (case a3 => k_is)
    (case l3 => k_is)
    (case c3 => k_is)
    (case k3 => k_is)
    (case a4 => k_is)
    (case l4 => k_is)
    (case c4 => k_is)
    (case k4 => k_is)
    (case a5 => k_is)
    (case l5 => k_is)
    (case c5 => k_is)
    (case k5 => k_is)
    (case a6 => k_is)
    (case l6 => k_is)
    (case c6 => k_is)
    (case k6 => k_is)
    (case a7 => k_is)
    (case l7 => k_is)
    (case c7 => k_is)
    (case k7 => k_is)
    (case a8 => k_is)
    (case l8 => k_is)
    (case c8 => k_is)
    (case k8 => k_is)
    (case a9 => k_is)
    (case l9 => k_is)
    (case c9 => k_is)
    (case k9 => k_is)
    (case a10 => k_is)
    (case l10 => k_is)
    (case c10 => k_is)
    (case k10 => k_is)
    (case a11 => k_is)
    (case l11 => k_is)
    (case c11 => k_is)
    (case k11 => k_is)
    (case z0 => k_is)
    (case z1 => k_is)
    (case z2 => k_is)
    (case z3 => k_is)
    (case z4 => k_is)
    (case z5 => k_is)
    (case z6 => k_is)
    (case z7 => k_is)
    (case z8 => k_is)
    (case z9 => k_is)
