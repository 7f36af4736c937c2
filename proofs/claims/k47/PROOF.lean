import PyProof.Rows.All
import Wide.All
import OpenK.AllK
import Wide.FinOn
import PySem.Challenge.RW_syncedwords_k47_whole_more_words_and_ext
import HandS.ForMost
import HandS.Exc
import HandS.ExcOwn
import HandS.WordsExc
import HandS.Walk
import HandS.Flow
import HandS.TupAny
import HandS.IsInst
import HandS.Deep
import HandS.Zip
import HandS.Style
import HandS.TupMul
import HandS.Sort
import HandS.SortInts
import HandS.SortOrd
import KE.DataCmp
import KE.DataMinMax
import KE.SortData
import KE.DataFind
import KE.KRevSl
import KE.GoesEnum
import HandS.NoneIn
section
set_option linter.all false
namespace D

/-- a value: None, a bool, an int, a text (its codes), a tuple, a list that nobody changes any more, a cell (an object that is changed), the script -/
inductive PV where
  | non | bl (b : Bool) | int (i : Int) | str (s : List Nat)
  | tup (xs : List PV) | lst (xs : List PV) | cell (c : Nat) | scr (ns : List Int)
  deriving Inhabited

/-- what a cell holds -/
inductive Ob where
  | lst (xs : List PV) | dct (kvs : List (PV × PV))

abbrev Hp := List Ob
abbrev Env := List (Option PV)

inductive Res (α : Type) where
  | ok (a : α) (h : Hp) | exc (c : Nat) (fs : List PV) (h : Hp) | err

def Res.bind {α β : Type} (r : Res α) (f : α → Hp → Res β) : Res β :=
  match r with
  | .ok a h => f a h
  | .exc c fs h => .exc c fs h
  | .err => .err
@[simp] theorem bind_ok {α β : Type} (a : α) (h : Hp) (f : α → Hp → Res β) : (Res.ok a h).bind f = f a h := rfl
@[simp] theorem bind_exc {α β : Type} (c : Nat) (fs : List PV) (h : Hp) (f : α → Hp → Res β) : (Res.exc c fs h : Res α).bind f = .exc c fs h := rfl
@[simp] theorem bind_err {α β : Type} (f : α → Hp → Res β) : (Res.err : Res α).bind f = .err := rfl
/-- .. where nothing may be raised -/
def Res.calm {α : Type} (r : Res α) : Res α :=
  match r with
  | .exc .. => .err
  | r => r
@[simp] theorem calm_ok {α : Type} (a : α) (h : Hp) : (Res.ok a h).calm = .ok a h := rfl
@[simp] theorem calm_exc {α : Type} (c : Nat) (fs : List PV) (h : Hp) : (Res.exc c fs h : Res α).calm = .err := rfl
@[simp] theorem calm_err {α : Type} : (Res.err : Res α).calm = .err := rfl
def Res.opt {α : Type} (o : Option α) (h : Hp) : Res α :=
  match o with
  | some a => .ok a h
  | none => .err
@[simp] theorem opt_some {α : Type} (a : α) (h : Hp) : Res.opt (some a) h = .ok a h := rfl
@[simp] theorem opt_none {α : Type} (h : Hp) : Res.opt (none : Option α) h = .err := rfl

/-- the longest list, text -/
def line : Nat := 16777216

mutual
def noCell : PV → Bool
  | .tup xs => noCells xs
  | .lst xs => noCells xs
  | .cell _ => false
  | .scr _ => false
  | .non => true
  | .bl _ => true
  | .int _ => true
  | .str _ => true
def noCells : List PV → Bool
  | [] => true
  | x :: xs => noCell x && noCells xs
end
mutual
/-- all its cells are below n -/
def closed (n : Nat) : PV → Bool
  | .tup xs => closeds n xs
  | .lst xs => closeds n xs
  | .cell c => decide (c < n)
  | .scr _ => true
  | .non => true
  | .bl _ => true
  | .int _ => true
  | .str _ => true
def closeds (n : Nat) : List PV → Bool
  | [] => true
  | x :: xs => closed n x && closeds n xs
end
mutual
/-- == of data -/
def eqv : PV → PV → Bool
  | .non, .non => true
  | .bl a, .bl b => a == b
  | .bl a, .int j => (if a then 1 else 0) == j
  | .int i, .bl b => i == (if b then 1 else 0)
  | .int i, .int j => i == j
  | .str x, .str y => x == y
  | .lst xs, .lst ys => eqvs xs ys
  | .tup xs, .tup ys => eqvs xs ys
  | _, _ => false
def eqvs : List PV → List PV → Bool
  | [], [] => true
  | x :: xs, y :: ys => eqv x y && eqvs xs ys
  | _, _ => false
end
/-- at most n deep, without cells -/
def flat : Nat → PV → Bool
  | _, .non => true
  | _, .bl _ => true
  | _, .int _ => true
  | _, .str _ => true
  | 0, _ => false
  | n + 1, .tup xs => xs.all (flat n)
  | n + 1, .lst xs => xs.all (flat n)
  | _ + 1, .cell _ => false
  | _ + 1, .scr _ => false
/-- < of two texts' codes -/
def ltS : List Nat → List Nat → Bool
  | [], [] => false
  | [], _ :: _ => true
  | _ :: _, [] => false
  | a :: s, b :: t => if a = b then ltS s t else decide (a < b)
mutual
/-- the two can be compared, place by place -/
def alk : PV → PV → Bool
  | .non, .non => true
  | .bl _, .bl _ => true
  | .int _, .int _ => true
  | .str _, .str _ => true
  | .lst xs, .lst ys => alks xs ys
  | .tup xs, .tup ys => alks xs ys
  | _, _ => false
def alks : List PV → List PV → Bool
  | x :: xs, y :: ys => alk x y && alks xs ys
  | [], _ => true
  | _ :: _, [] => true
end
mutual
/-- < of such -/
def ltb : PV → PV → Bool
  | .bl a, .bl b => !a && b
  | .int i, .int j => decide (i < j)
  | .str x, .str y => ltS x y
  | .lst xs, .lst ys => ltbs xs ys
  | .tup xs, .tup ys => ltbs xs ys
  | _, _ => false
def ltbs : List PV → List PV → Bool
  | [], [] => false
  | [], _ :: _ => true
  | _ :: _, [] => false
  | x :: xs, y :: ys => if eqv x y = true then ltbs xs ys else ltb x y
end
/-- all of them can be compared -/
def alkAll (xs : List PV) : Bool := xs.all fun x => xs.all fun y => alk x y
def isNone : PV → Bool
  | .non => true
  | .bl _ => false
  | .int _ => false
  | .str _ => false
  | .tup _ => false
  | .lst _ => false
  | .cell _ => false
  | .scr _ => false
def isTup1 : PV → Bool
  | .tup (_ :: _) => true
  | _ => false
def isTup : PV → Bool
  | .tup _ => true
  | .non => false
  | .bl _ => false
  | .int _ => false
  | .str _ => false
  | .lst _ => false
  | .cell _ => false
  | .scr _ => false

/-- a choice -/
def Res.br {α : Type} (o : Option Bool) (a b : Res α) : Res α :=
  match o with
  | some t => if t = true then a else b
  | none => .err
@[simp] theorem br_some {α : Type} (t : Bool) (a b : Res α) : Res.br (some t) a b = if t = true then a else b := rfl
@[simp] theorem br_none {α : Type} (a b : Res α) : Res.br none a b = .err := rfl
@[simp] theorem ite_ok {α : Type} (c : Prop) [Decidable c] (a b : α) (η : Hp) : (if c then Res.ok a η else Res.ok b η) = Res.ok (if c then a else b) η := by split <;> rfl

def vwO (c : Nat) : Option Ob → PV
  | some (.lst xs) => .lst xs
  | _ => .cell c
/-- what a cell that is a list holds, as a list -/
def vw (η : Hp) : PV → PV
  | .cell c => vwO c η[c]?
  | .non => .non
  | .bl b => .bl b
  | .int i => .int i
  | .str s => .str s
  | .tup xs => .tup xs
  | .lst xs => .lst xs
  | .scr ns => .scr ns
def truthO : Option Ob → Option Bool
  | some (.lst xs) => some (!xs.isEmpty)
  | some (.dct kvs) => some (!kvs.isEmpty)
  | none => none
def truth (η : Hp) : PV → Option Bool
  | .non => some false
  | .bl b => some b
  | .int i => some (i != 0)
  | .str s => some (!s.isEmpty)
  | .tup xs => some (!xs.isEmpty)
  | .lst xs => some (!xs.isEmpty)
  | .cell c => truthO η[c]?
  | .scr _ => none

inductive Op where
  | add | sub | mul | fdiv | mod | pow
inductive Cm where
  | eq | ne | lt | le | gt | ge | isin | notin
def cap (i : Int) : Bool := decide (i.natAbs < 18446744073709551616)
def opV : Op → PV → PV → Option PV
  | .add, .int i, .int j => some (.int (i + j))
  | .add, .str s, .str t => if s.length + t.length ≤ line then some (.str (s ++ t)) else none
  | .add, .tup s, .tup t => if s.length + t.length ≤ line then some (.tup (s ++ t)) else none
  | .add, .lst s, .lst t => if s.length + t.length ≤ line then some (.lst (s ++ t)) else none
  | .sub, .int i, .int j => some (.int (i - j))
  | .mul, .int i, .int j => if cap i || cap j then some (.int (i * j)) else none
  | .mul, .lst s, .int j => if j.natAbs < 1048576 ∧ s.length * j.toNat ≤ line then some (.lst (List.replicate j.toNat s).flatten) else none
  | .mul, .tup s, .int j => if -1000 ≤ j ∧ j ≤ 1000 ∧ s.length ≤ 1000 then some (.tup (List.replicate j.toNat s).flatten) else none
  | .mul, .str s, .int j => if j.natAbs < 1048576 ∧ s.length * j.toNat ≤ line then some (.str (List.replicate j.toNat s).flatten) else none
  | .fdiv, .int i, .int j => if j ≠ 0 ∧ j.natAbs < 1073741824 then some (.int (i.fdiv j)) else none
  | .mod, .int i, .int j => if j ≠ 0 then some (.int (i.fmod j)) else none
  | .pow, .int i, .int j => if 0 ≤ j ∧ j ≤ 1000 ∧ cap i then some (.int (i ^ j.toNat)) else none
  | _, _, _ => none
def isIn (x : PV) : PV → Option Bool
  | .lst ys => if (flat 50 x && ys.all (flat 50)) = true then some (ys.any fun z => eqv z x) else none
  | .tup ys => if (flat 50 x && ys.all (flat 50)) = true then some (ys.any fun z => eqv z x) else none
  | .str s => match x with
    | .str [c] => some (s.contains c)
    | _ => none
  | _ => none
/-- x, y of one kind, so that they may be ordered -/
def ordOk (x y : PV) : Bool := flat 50 x && flat 50 y && alk x y && !isNone x
def cmV : Cm → PV → PV → Option Bool
  | .eq, x, y => if (flat 50 x && flat 50 y) = true then some (eqv x y) else none
  | .ne, x, y => if (flat 50 x && flat 50 y) = true then some (!eqv x y) else none
  | .lt, x, y => if ordOk x y = true then some (ltb x y) else none
  | .gt, x, y => if ordOk x y = true then some (ltb y x) else none
  | .le, x, y => if ordOk x y = true then some (!ltb y x) else none
  | .ge, x, y => if ordOk x y = true then some (!ltb x y) else none
  | .isin, x, y => isIn x y
  | .notin, x, y => (isIn x y).map (!·)
/-- the place that an index names -/
def ixN (n : Nat) (i : Int) : Option Nat := if 0 ≤ i then (if i < n then some i.toNat else none) else if -(n : Int) ≤ i then some (i + n).toNat else none
def atI {α : Type} (xs : List α) (i : Int) : Option α := (ixN xs.length i).bind fun j => xs[j]?
/-- an end of a slice -/
def sIx (n d : Nat) : Option Int → Nat
  | none => d
  | some v => if v < 0 then (v + n).toNat else min v.toNat n
def cut {α : Type} (xs : List α) (lo hi : Option Int) : List α := (xs.drop (sIx xs.length 0 lo)).take (sIx xs.length xs.length hi - sIx xs.length 0 lo)
def lookD (kvs : List (PV × PV)) (k : PV) : Option PV := (kvs.find? fun kv => eqv kv.1 k).map (·.2)
def idxO : Option Ob → PV → Option PV
  | some (.lst xs), .int i => atI xs i
  | some (.dct kvs), k => lookD kvs k
  | _, _ => none
def idxV (η : Hp) : PV → PV → Option PV
  | .lst xs, .int i => atI xs i
  | .tup xs, .int i => atI xs i
  | .str s, .int i => (atI s i).map fun c => .str [c]
  | .cell c, i => idxO η[c]? i
  | _, _ => none
def slcV (lo hi : Option Int) : PV → Option PV
  | .lst xs => some (.lst (cut xs lo hi))
  | .tup xs => some (.tup (cut xs lo hi))
  | .str s => some (.str (cut s lo hi))
  | _ => none
def bwdV : PV → Option PV
  | .str s => some (.str s.reverse)
  | .lst xs => some (.lst xs.reverse)
  | .tup xs => some (.tup xs.reverse)
  | _ => none

inductive BI where
  | len | abs | int | tuple | list | sorted | all | any | sum | max | min | str
def bools : List PV → Option (List Bool)
  | [] => some []
  | .bl b :: r => (bools r).map (b :: ·)
  | _ :: _ => none
def intsV : List PV → Option (List Int)
  | [] => some []
  | .int i :: r => (intsV r).map (i :: ·)
  | _ :: _ => none
def strsV : List PV → Option (List (List Nat))
  | [] => some []
  | .str i :: r => (strsV r).map (i :: ·)
  | _ :: _ => none
def sortV (xs : List PV) : List PV := xs.mergeSort fun a b => !ltb b a
def minV (x : PV) (xs : List PV) : PV := xs.foldl (fun a y => if ltb y a = true then y else a) x
def maxV1 (x : PV) (xs : List PV) : PV := xs.foldl (fun a y => if ltb a y = true then y else a) x
/-- an int's digits -/
def digs (i : Int) : List Nat := (toString i).toList.map Char.toNat
def keysOf (kvs : List (PV × PV)) : List PV := kvs.map (·.1)
def seqO : Option Ob → Option (List PV)
  | some (.lst xs) => some xs
  | _ => none
def seqOf (η : Hp) : PV → Option (List PV)
  | .lst xs => some xs
  | .tup xs => some xs
  | .cell c => seqO η[c]?
  | _ => none
/-- a list -/
def lstO (η : Hp) : PV → Option (List PV)
  | .lst xs => some xs
  | .cell c => seqO η[c]?
  | _ => none
/-- .. a dict's keys, too -/
def keyO : Option Ob → Option (List PV)
  | some (.lst xs) => some xs
  | some (.dct kvs) => some (keysOf kvs)
  | none => none
def keySeq (η : Hp) : PV → Option (List PV)
  | .lst xs => some xs
  | .tup xs => some xs
  | .cell c => keyO η[c]?
  | .scr ns => some (ns.map .int)
  | .str s => some (s.map fun c => .str [c])
  | _ => none
def lenO : Option Ob → Option PV
  | some (.lst xs) => some (.int xs.length)
  | some (.dct kvs) => some (.int kvs.length)
  | none => none
def lenV (η : Hp) : List PV → Option PV
  | [.str s] => some (.int s.length)
  | [.lst xs] => some (.int xs.length)
  | [.tup xs] => some (.int xs.length)
  | [.cell c] => lenO η[c]?
  | _ => none
def absV : List PV → Option PV
  | [.int i] => some (.int (if i < 0 then -i else i))
  | _ => none
def intV : List PV → Option PV
  | [.int i] => some (.int i)
  | [.bl b] => some (.int (if b = true then 1 else 0))
  | _ => none
def strV : List PV → Option PV
  | [.int i] => if i.natAbs < 1000000000000 then some (.str (digs i)) else none
  | _ => none
def tupleV (η : Hp) : List PV → Option PV
  | [x] => (seqOf η x).map .tup
  | _ => none
def listV (η : Hp) : List PV → Option PV
  | [x] => (keySeq η x).map .lst
  | _ => none
def sortOk (xs : List PV) : Bool := xs.all (flat 20) && alkAll xs && (xs.all isTup1 || xs.all fun x => !isNone x && !isTup x)
def sortL (xs : List PV) : Option PV := if sortOk xs = true then some (.lst (sortV xs)) else none
def sortedV (η : Hp) : List PV → Option PV
  | [x] => (lstO η x).bind sortL
  | _ => none
def allL (xs : List PV) : Option PV := (bools xs).map fun bs => .bl (bs.all id)
def anyL (xs : List PV) : Option PV := (bools xs).map fun bs => .bl (bs.any id)
def sumL (xs : List PV) : Option PV := (intsV xs).map fun ns => .int ns.sum
def minOk (xs : List PV) : Bool := xs.all (flat 20) && alkAll xs && xs.all fun x => !isNone x
def maxL : List PV → Option PV
  | [] => none
  | x :: r => if minOk (x :: r) = true then some (maxV1 x r) else none
def minL : List PV → Option PV
  | [] => none
  | x :: r => if minOk (x :: r) = true then some (minV x r) else none
def maxV (η : Hp) : List PV → Option PV
  | [x] => (seqOf η x).bind maxL
  | [.int i, .int j] => some (.int (if j > i then j else i))
  | _ => none
def minVV (η : Hp) : List PV → Option PV
  | [x] => (seqOf η x).bind minL
  | [.int i, .int j] => some (.int (if j < i then j else i))
  | _ => none
def one (η : Hp) (f : List PV → Option PV) : List PV → Option PV
  | [x] => (lstO η x).bind f
  | _ => none
def biV (η : Hp) : BI → List PV → Option PV
  | .len, xs => lenV η xs
  | .abs, xs => absV xs
  | .int, xs => intV xs
  | .tuple, xs => tupleV η xs
  | .list, xs => listV η xs
  | .sorted, xs => sortedV η xs
  | .all, xs => one η allL xs
  | .any, xs => one η anyL xs
  | .sum, xs => one η sumL xs
  | .max, xs => maxV η xs
  | .min, xs => minVV η xs
  | .str, xs => strV xs

inductive Mt where
  | append | extend | pop | popAt | index | count | starts | join | get | replace
/-- the object at c is changed: by the def that runs (n: the cells at its entry), or to data without cells -/
def put (n c : Nat) (v : PV) (ob : Ob) (η : Hp) : Option Hp := if (decide (n ≤ c) || noCell v) = true then some (η.set c ob) else none
def indexOf (x : PV) : List PV → Option Nat
  | [] => none
  | y :: r => if eqv y x then some 0 else (indexOf x r).map (· + 1)
def joinS (sep : List Nat) : List (List Nat) → List Nat
  | [] => []
  | [x] => x
  | x :: r => x ++ sep ++ joinS sep r
def appO (n c : Nat) (v : PV) (η : Hp) : Option Ob → Option Hp
  | some (.lst xs) => if xs.length < line then put n c v (.lst (xs ++ [v])) η else none
  | _ => none
def extO (n c : Nat) (zs : List PV) (η : Hp) : Option Ob → Option Hp
  | some (.lst xs) => if xs.length + zs.length ≤ line then put n c (.lst zs) (.lst (xs ++ zs)) η else none
  | _ => none
def popO (c : Nat) (η : Hp) : Option Ob → Res PV
  | some (.lst xs) => (Res.opt xs.getLast? η).bind fun y η => .ok y (η.set c (.lst xs.dropLast))
  | _ => .err
def popAtO (c : Nat) (i : Int) (η : Hp) : Option Ob → Res PV
  | some (.lst xs) => (Res.opt (ixN xs.length i) η).bind fun k η => (Res.opt xs[k]? η).bind fun y η => .ok y (η.set c (.lst (xs.eraseIdx k)))
  | _ => .err
def getO (k d : PV) : Option Ob → Option PV
  | some (.dct kvs) => some ((lookD kvs k).getD d)
  | _ => none
def indexL (y : PV) (xs : List PV) : Option PV := if (flat 20 y && xs.all (flat 20)) = true then (indexOf y xs).map fun (j : Nat) => PV.int j else none
def indexV (y : PV) : PV → Option PV
  | .lst xs => indexL y xs
  | _ => none
def countL (y : PV) (xs : List PV) : Option PV := if (flat 20 y && xs.all (flat 20)) = true then some (.int ((xs.countP fun x => eqv x y : Nat) : Int)) else none
def countV (y : PV) : PV → Option PV
  | .lst xs => countL y xs
  | _ => none
def joinL (s : List Nat) (zs : List (List Nat)) : Option PV := if (zs.map List.length).sum + zs.length * s.length ≤ line then some (.str (joinS s zs)) else none
/-- a write's end -/
def wrote (η : Hp) (o : Option Hp) : Res PV :=
  match o with
  | some h => .ok .non h
  | none => .err
@[simp] theorem wrote_some (η h : Hp) : wrote η (some h) = .ok .non h := rfl
@[simp] theorem wrote_none (η : Hp) : wrote η none = .err := rfl
def mtV (n : Nat) (η : Hp) : Mt → PV → List PV → Res PV
  | .append, .cell c, [v] => wrote η (appO n c v η η[c]?)
  | .extend, .cell c, [v] => wrote η ((lstO η v).bind fun zs => extO n c zs η η[c]?)
  | .pop, .cell c, [] => popO c η η[c]?
  | .popAt, .cell c, [.int i] => popAtO c i η η[c]?
  | .index, x, [y] => Res.opt (indexV y (vw η x)) η
  | .count, x, [y] => Res.opt (countV y (vw η x)) η
  | .starts, .str s, [.str t] => .ok (.bl (t.isPrefixOf s)) η
  | .join, .str s, [x] => Res.opt (((seqOf η x).bind strsV).bind (joinL s)) η
  | .get, .cell c, [k, d] => Res.opt (getO k d η[c]?) η
  | _, _, _ => .err

/-- the object's type is one with the method -/
def rcvO : Mt → Option Ob → Bool
  | .get, some (.dct _) => true
  | .get, _ => false
  | _, some (.lst _) => true
  | _, _ => false
def rcv (η : Hp) : Mt → PV → Bool
  | .starts, .str _ => true
  | .join, .str _ => true
  | .index, .lst _ => true
  | .count, .lst _ => true
  | .starts, _ => false
  | .join, _ => false
  | .replace, _ => false
  | m, .cell c => rcvO m η[c]?
  | _, _ => false
/-- the types that isinstance asks for -/
inductive Ty where
  | int | bool | str | tuple | list | dict
def isTyO (t : Ty) : Option Ob → Option Bool
  | some (.lst _) => some (match t with | .list => true | _ => false)
  | some (.dct _) => some (match t with | .dict => true | _ => false)
  | none => none
def isTy (η : Hp) : Ty → PV → Option Bool
  | _, .non => some false
  | t, .bl _ => some (match t with | .int => true | .bool => true | _ => false)
  | t, .int _ => some (match t with | .int => true | _ => false)
  | t, .str _ => some (match t with | .str => true | _ => false)
  | t, .tup _ => some (match t with | .tuple => true | _ => false)
  | t, .lst _ => some (match t with | .list => true | _ => false)
  | t, .cell c => isTyO t η[c]?
  | _, .scr _ => none

/-- a target: a name's slot, or a tuple of slots -/
inductive Tg where
  | nm (i : Nat) | tup (is : List Nat)
mutual
inductive E where
  | var (i : Nat) | con (v : PV) | glb (g : Nat)
  | tup (es : Es) | fz (f : F)
  | bop (c : Bool) (es : Es) | not (a : E) | ite (c a b : E)
  | bin (o : Op) (a b : E) | neg (a : E) | cmp (o : Cm) (a b : E) | chn (o o' : Cm) (a b c : E) | isN (k : Bool) (a : E)
  | call (f : Nat) (es : Es) | bi (b : BI) (es : Es) | isi (a : E) (t : Ty) | mth (m : Mt) (o : E) (es : Es)
  | idx (a i : E) | slc (a : E) (lo hi : Es) | bwd (a : E)
inductive Es where
  | nil | cons (e : E) (es : Es)
/-- a new list -/
inductive F where
  | lst (es : Es) | lc (el : E) (tg : Tg) (it : It) (cs : Es) (own : List Nat) | lc2 (el : E) (tg : Tg) (it : It) (cs : Es) (tg1 : Tg) (it1 : It) (cs1 : Es) (own own1 : List Nat) | bi (b : BI) (es : Es) | bin (o : Op) (a b : E) | slc (a : E) (lo hi : Es)
/-- what is walked -/
inductive It where
  | seq (e : E) | rng (es : Es) | enm (e : E) | zip (a b : E)
end
mutual
inductive S where
  | asg (i : Nat) (e : E) | own (i : Nat) (f : F) | unp (is : List Nat) (e : E) | par (i j : Nat) (a b : E) | set (o i v : E) | ex (e : E)
  | ite (c : E) (a b : Ss) | loop (tg : Tg) (it : It) (b : Ss) | whl (k : Nat) (c : E) (b : Ss)
  | ret (e : E) | retF (f : F) | retN | brk | cnt | rse (c : Nat) (es : Es) | pass | nev
inductive Ss where
  | nil | cons (s : S) (ss : Ss)
end

structure Cfg where
  /-- the module's constants -/
  gv : Nat → Option PV
  /-- calls -/
  cf : Nat → List PV → Hp → Res PV
  /-- the cells at the def's entry -/
  n : Nat
def setMany : List Nat → List PV → Env → Option Env
  | [], [], ρ => some ρ
  | i :: is, v :: vs, ρ => setMany is vs (ρ.set i (some v))
  | _, _, _ => none
def bindT (η : Hp) : Tg → PV → Env → Option Env
  | .nm i, v, ρ => some (ρ.set i (some v))
  | .tup is, .tup xs, ρ => setMany is xs ρ
  | .tup is, .lst xs, ρ => setMany is xs ρ
  | _, _, _ => none
def wipe (ρ : Env) : List Nat → Env
  | [] => ρ
  | v :: vs => (wipe ρ vs).set v none
/-- what is watched: a cell that is walked must stay -/
abbrev Wt := Option (Nat × List PV)
mutual
/-- the very same -/
def same : PV → PV → Bool
  | .non, .non => true
  | .bl a, .bl b => a == b
  | .int a, .int b => a == b
  | .str a, .str b => a == b
  | .tup a, .tup b => sames a b
  | .lst a, .lst b => sames a b
  | .cell a, .cell b => a == b
  | .scr a, .scr b => a == b
  | _, _ => false
def sames : List PV → List PV → Bool
  | [], [] => true
  | x :: xs, y :: ys => same x y && sames xs ys
  | _, _ => false
end
mutual
theorem same_eq : ∀ (x y : PV), same x y = true → x = y
  | x, y, h => by
    cases x <;> cases y <;> simp only [same, Bool.false_eq_true, beq_iff_eq] at h <;> first | rfl | (rw [h]; done) | (rw [sames_eq _ _ h])
theorem sames_eq : ∀ (x y : List PV), sames x y = true → x = y
  | [], [], _ => rfl
  | [], _ :: _, h => by simp [sames] at h
  | _ :: _, [], h => by simp [sames] at h
  | x :: xs, y :: ys, h => by
    simp only [sames, Bool.and_eq_true] at h
    rw [same_eq x y h.1, sames_eq xs ys h.2]
end
mutual
theorem same_refl : ∀ (x : PV), same x x = true
  | .non => rfl
  | .bl b => by simp only [same, beq_self_eq_true]
  | .int b => by simp only [same, beq_self_eq_true]
  | .str b => by simp only [same, beq_self_eq_true]
  | .tup b => by rw [same]; exact sames_refl b
  | .lst b => by rw [same]; exact sames_refl b
  | .cell b => by simp only [same, beq_self_eq_true]
  | .scr b => by simp only [same, beq_self_eq_true]
theorem sames_refl : ∀ (x : List PV), sames x x = true
  | [] => by simp [sames]
  | x :: xs => by simp only [sames, same_refl x, sames_refl xs, Bool.and_self]
end
def staysO (xs : List PV) : Option Ob → Bool
  | some (.lst ys) => sames ys xs
  | _ => false
def stays (w : Wt) (η : Hp) : Bool :=
  match w with
  | none => true
  | some (c, xs) => staysO xs η[c]?
theorem stays_iff {c : Nat} {xs : List PV} {η : Hp} : stays (some (c, xs)) η = true ↔ η[c]? = some (.lst xs) := by
  show staysO xs η[c]? = true ↔ _
  cases η[c]? with
  | none => simp [staysO]
  | some o =>
    cases o with
    | lst ys =>
      simp only [staysO, Option.some.injEq, Ob.lst.injEq]
      exact ⟨sames_eq ys xs, fun h => by rw [h]; exact sames_refl xs⟩
    | dct => simp [staysO]
/-- a comprehension's turns: what each gives, if something -/
def lcG {α : Type} (w : Wt) (f : α → Hp → Res (Option PV)) : List α → Hp → Res (List PV)
  | [], η => if stays w η = true then .ok [] η else .err
  | x :: xs, η => if stays w η = true then (f x η).bind fun o η1 => (lcG w f xs η1).bind fun ys η2 => .ok (o.elim ys (· :: ys)) η2 else .err
/-- the turns of the outer of two clauses: each gives some items -/
def lcH {α : Type} (w : Wt) (f : α → Hp → Res (List PV)) : List α → Hp → Res (List PV)
  | [], η => if stays w η = true then .ok [] η else .err
  | x :: xs, η => if stays w η = true then (f x η).bind fun zs η1 => (lcH w f xs η1).bind fun ys η2 => .ok (zs ++ ys) η2 else .err
def rangeL (i j : Int) : List PV := (List.range (j - i).toNat).map fun (k : Nat) => .int (i + (k : Int))
def rangeC (i j c : Int) : List PV :=
  (List.range (if 0 < c then ((j - i + c - 1) / c).toNat else if c < 0 then ((i - j - c - 1) / (-c)).toNat else 0)).map fun (k : Nat) => .int (i + (k : Int) * c)
def small (i : Int) : Bool := decide (i.natAbs < 1073741824)
def optI : List PV → Option (Option Int)
  | [] => some none
  | [.int i] => some (some i)
  | _ => none
def enumL (xs : List PV) : List PV := xs.zipIdx.map fun p => PV.tup [.int (p.2 : Nat), p.1]
def zipL (xs ys : List PV) : List PV := (xs.zip ys).map fun p => PV.tup [p.1, p.2]
def isNon (k : Bool) : PV → PV
  | .non => .bl k
  | _ => .bl (!k)
def negV : PV → Option PV
  | .int i => some (.int (-i))
  | _ => none
def lstV : PV → Option (List PV)
  | .lst xs => some xs
  | _ => none
def walkO (c : Nat) : Option Ob → Option (List PV × Wt)
  | some (.lst xs) => some (xs, some (c, xs))
  | _ => none
def walkV (η : Hp) : PV → Option (List PV × Wt)
  | .lst xs => some (xs, none)
  | .tup xs => some (xs, none)
  | .str s => some (s.map fun c => .str [c], none)
  | .cell c => walkO c η[c]?
  | _ => none
def rngV : List PV → Option (List PV × Wt)
  | [.int j] => if small j = true then some (rangeL 0 j, none) else none
  | [.int i, .int j] => if (small i && small j) = true then some (rangeL i j, none) else none
  | [.int i, .int j, .int c] => if (small i && small j && small c && decide (c ≠ 0)) = true then some (rangeC i j c, none) else none
  | _ => none
def enmV : PV → Option (List PV × Wt)
  | .lst xs => some (enumL xs, none)
  | .tup xs => some (enumL xs, none)
  | _ => none
def zipV : PV → PV → Option (List PV × Wt)
  | .lst xs, .lst ys => some (zipL xs ys, none)
  | .tup xs, .tup ys => some (zipL xs ys, none)
  | _, _ => none
mutual
@[simp] def evE (C : Cfg) : E → Env → Hp → Res PV
  | .var i, ρ, η => Res.opt (ρ[i]?.join) η
  | .con v, _, η => .ok v η
  | .glb g, _, η => Res.opt (C.gv g) η
  | .tup es, ρ, η => (evEs C es ρ η).bind fun xs η1 => if xs.length ≤ line then .ok (.tup xs) η1 else .err
  | .fz f, ρ, η => (evF C f ρ η).bind fun xs η1 => .ok (.lst xs) η1
  | .bop c es, ρ, η => evB C c es ρ η
  | .not a, ρ, η => (evE C a ρ η).bind fun x η1 => Res.opt ((truth η1 x).map fun b => .bl (!b)) η1
  | .ite c a b, ρ, η => (evE C c ρ η).bind fun x η1 => Res.br (truth η1 x) (evE C a ρ η1) (evE C b ρ η1)
  | .bin o a b, ρ, η => (evE C a ρ η).bind fun x η1 => (evE C b ρ η1).bind fun y η2 => Res.opt (opV o (vw η2 x) (vw η2 y)) η2
  | .neg a, ρ, η => (evE C a ρ η).bind fun x η1 => Res.opt (negV x) η1
  | .cmp o a b, ρ, η => (evE C a ρ η).bind fun x η1 => (evE C b ρ η1).bind fun y η2 => Res.opt ((cmV o (vw η2 x) (vw η2 y)).map .bl) η2
  | .chn o o' a b c, ρ, η => (evE C a ρ η).bind fun x η1 => (evE C b ρ η1).bind fun y η2 => Res.br (cmV o (vw η2 x) (vw η2 y))
      ((evE C c ρ η2).bind fun z η3 => Res.opt ((cmV o' (vw η3 y) (vw η3 z)).map .bl) η3) (.ok (.bl false) η2)
  | .isN k a, ρ, η => (evE C a ρ η).bind fun x η1 => .ok (isNon k x) η1
  | .call f es, ρ, η => (evEs C es ρ η).bind fun xs η1 => C.cf f xs η1
  | .bi b es, ρ, η => (evEs C es ρ η).bind fun xs η1 => Res.opt (biV η1 b xs) η1
  | .isi a t, ρ, η => (evE C a ρ η).bind fun x η1 => Res.opt ((isTy η1 t x).map .bl) η1
  | .mth m o es, ρ, η => (evE C o ρ η).bind fun x η1 => if rcv η1 m x = true then (evEs C es ρ η1).bind fun xs η2 => mtV C.n η2 m x xs else .err
  | .idx a i, ρ, η => (evE C a ρ η).bind fun x η1 => (evE C i ρ η1).bind fun y η2 => Res.opt (idxV η2 x y) η2
  | .slc a lo hi, ρ, η => (evE C a ρ η).bind fun x η1 => (evEs C lo ρ η1).bind fun l η2 => (Res.opt (optI l) η2).bind fun lo η2 => (evEs C hi ρ η2).bind fun u η3 => (Res.opt (optI u) η3).bind fun hi η3 => Res.opt (slcV lo hi (vw η3 x)) η3
  | .bwd a, ρ, η => (evE C a ρ η).bind fun x η1 => Res.opt (bwdV (vw η1 x)) η1
@[simp] def evEs (C : Cfg) : Es → Env → Hp → Res (List PV)
  | .nil, _, η => .ok [] η
  | .cons e es, ρ, η => (evE C e ρ η).bind fun x η1 => (evEs C es ρ η1).bind fun xs η2 => .ok (x :: xs) η2
/-- and (c = true), or -/
@[simp] def evB (C : Cfg) (c : Bool) : Es → Env → Hp → Res PV
  | .nil, _, _ => .err
  | .cons e .nil, ρ, η => evE C e ρ η
  | .cons e (.cons e' es), ρ, η => (evE C e ρ η).bind fun x η1 => Res.br ((truth η1 x).map (· == c)) (evB C c (.cons e' es) ρ η1) (.ok x η1)
@[simp] def evF (C : Cfg) : F → Env → Hp → Res (List PV)
  | .lst es, ρ, η => (evEs C es ρ η).bind fun xs η1 => if xs.length ≤ line then .ok xs η1 else .err
  | .lc el tg it cs own, ρ, η => (evI C it ρ η).bind fun p η1 => if p.1.length < line then
      (lcG p.2 (fun x η => (Res.opt (bindT η tg x (wipe ρ own)) η).bind fun ρ' η => (evC C cs ρ' η).bind fun b η1 => if b = true then (evE C el ρ' η1).bind fun y η2 => .ok (some y) η2 else .ok none η1) p.1 η1).calm else .err
  | .lc2 el tg it cs tg1 it1 cs1 own own1, ρ, η => (evI C it ρ η).bind fun p η1 =>
      ((lcH p.2 (fun x η => (Res.opt (bindT η tg x (wipe ρ own)) η).bind fun ρ' η => (evC C cs ρ' η).bind fun b η1 => if b = true then (evI C it1 ρ' η1).bind fun q η2 => lcG q.2 (fun x η => (Res.opt (bindT η tg1 x (wipe ρ' own1)) η).bind fun ρ2 η => (evC C cs1 ρ2 η).bind fun b η1 => if b = true then (evE C el ρ2 η1).bind fun y η2 => .ok (some y) η2 else .ok none η1) q.1 η2 else .ok [] η1) p.1 η1).bind fun zs η2 => if zs.length ≤ line then .ok zs η2 else .err).calm
  | .bi b es, ρ, η => (evEs C es ρ η).bind fun xs η1 => Res.opt ((biV η1 b xs).bind lstV) η1
  | .bin o a b, ρ, η => (evE C a ρ η).bind fun x η1 => (evE C b ρ η1).bind fun y η2 => Res.opt ((opV o (vw η2 x) (vw η2 y)).bind lstV) η2
  | .slc a lo hi, ρ, η => (evE C a ρ η).bind fun x η1 => (evEs C lo ρ η1).bind fun l η2 => (Res.opt (optI l) η2).bind fun lo η2 => (evEs C hi ρ η2).bind fun u η3 => (Res.opt (optI u) η3).bind fun hi η3 => Res.opt ((slcV lo hi (vw η3 x)).bind lstV) η3
/-- a clause's tests -/
@[simp] def evC (C : Cfg) : Es → Env → Hp → Res Bool
  | .nil, _, η => .ok true η
  | .cons e es, ρ, η => (evE C e ρ η).bind fun x η1 => Res.br (truth η1 x) (evC C es ρ η1) (.ok false η1)
@[simp] def evI (C : Cfg) : It → Env → Hp → Res (List PV × Wt)
  | .seq e, ρ, η => (evE C e ρ η).bind fun x η1 => Res.opt (walkV η1 x) η1
  | .rng es, ρ, η => (evEs C es ρ η).bind fun xs η1 => Res.opt (rngV xs) η1
  | .enm e, ρ, η => (evE C e ρ η).bind fun x η1 => Res.opt (enmV x) η1
  | .zip a b, ρ, η => (evE C a ρ η).bind fun x η1 => (evE C b ρ η1).bind fun y η2 => Res.opt (zipV x y) η2
end

inductive Out where
  | next (ρ : Env) (η : Hp) | brk (ρ : Env) (η : Hp) | cnt (ρ : Env) (η : Hp) | ret (v : PV) (η : Hp) | exc (c : Nat) (fs : List PV) (ρ : Env) (η : Hp) | err
def Res.out {α : Type} (r : Res α) (ρ : Env) (f : α → Hp → Out) : Out :=
  match r with
  | .ok a h => f a h
  | .exc c fs h => .exc c fs ρ h
  | .err => .err
@[simp] theorem out_ok {α : Type} (a : α) (h : Hp) (ρ : Env) (f : α → Hp → Out) : (Res.ok a h).out ρ f = f a h := rfl
@[simp] theorem out_exc {α : Type} (c : Nat) (fs : List PV) (h : Hp) (ρ : Env) (f : α → Hp → Out) : (Res.exc c fs h : Res α).out ρ f = .exc c fs ρ h := rfl
@[simp] theorem out_err {α : Type} (ρ : Env) (f : α → Hp → Out) : (Res.err : Res α).out ρ f = .err := rfl
def Out.andThen (o : Out) (f : Env → Hp → Out) : Out :=
  match o with
  | .next ρ η => f ρ η
  | o => o
@[simp] theorem then_next (ρ : Env) (η : Hp) (f : Env → Hp → Out) : (Out.next ρ η).andThen f = f ρ η := rfl
@[simp] theorem then_brk (ρ : Env) (η : Hp) (f : Env → Hp → Out) : (Out.brk ρ η).andThen f = .brk ρ η := rfl
@[simp] theorem then_cnt (ρ : Env) (η : Hp) (f : Env → Hp → Out) : (Out.cnt ρ η).andThen f = .cnt ρ η := rfl
@[simp] theorem then_ret (v : PV) (η : Hp) (f : Env → Hp → Out) : (Out.ret v η).andThen f = .ret v η := rfl
@[simp] theorem then_exc (c : Nat) (fs : List PV) (ρ : Env) (η : Hp) (f : Env → Hp → Out) : (Out.exc c fs ρ η).andThen f = .exc c fs ρ η := rfl
@[simp] theorem then_err (f : Env → Hp → Out) : Out.err.andThen f = .err := rfl
/-- behind a turn of a loop -/
def Out.turn (o : Out) (f : Env → Hp → Out) : Out :=
  match o with
  | .next ρ η => f ρ η
  | .cnt ρ η => f ρ η
  | .brk ρ η => .next ρ η
  | o => o
@[simp] theorem turn_next (ρ : Env) (η : Hp) (f : Env → Hp → Out) : (Out.next ρ η).turn f = f ρ η := rfl
@[simp] theorem turn_brk (ρ : Env) (η : Hp) (f : Env → Hp → Out) : (Out.brk ρ η).turn f = .next ρ η := rfl
@[simp] theorem turn_cnt (ρ : Env) (η : Hp) (f : Env → Hp → Out) : (Out.cnt ρ η).turn f = f ρ η := rfl
@[simp] theorem turn_ret (v : PV) (η : Hp) (f : Env → Hp → Out) : (Out.ret v η).turn f = .ret v η := rfl
@[simp] theorem turn_exc (c : Nat) (fs : List PV) (ρ : Env) (η : Hp) (f : Env → Hp → Out) : (Out.exc c fs ρ η).turn f = .exc c fs ρ η := rfl
@[simp] theorem turn_err (f : Env → Hp → Out) : Out.err.turn f = .err := rfl
/-- a choice -/
def Out.br (o : Option Bool) (a b : Out) : Out :=
  match o with
  | some t => if t = true then a else b
  | none => .err
@[simp] theorem obr_some (t : Bool) (a b : Out) : Out.br (some t) a b = if t = true then a else b := rfl
@[simp] theorem obr_none (a b : Out) : Out.br none a b = .err := rfl
def Out.opt {α : Type} (o : Option α) (f : α → Out) : Out :=
  match o with
  | some a => f a
  | none => .err
@[simp] theorem oopt_some {α : Type} (a : α) (f : α → Out) : Out.opt (some a) f = f a := rfl
@[simp] theorem oopt_none {α : Type} (f : α → Out) : Out.opt none f = .err := rfl
def forL {α : Type} (w : Wt) (f : α → Env → Hp → Out) : List α → Env → Hp → Out
  | [], ρ, η => if stays w η = true then .next ρ η else .err
  | x :: xs, ρ, η => if stays w η = true then (f x ρ η).turn fun ρ1 η1 => forL w f xs ρ1 η1 else .err
def whlL (c : Env → Hp → Res PV) (body : Env → Hp → Out) : Nat → Env → Hp → Out
  | 0, _, _ => .err
  | k + 1, ρ, η => (c ρ η).out ρ fun x η1 => Out.br (truth η1 x) ((body ρ η1).turn fun ρ1 η2 => whlL c body k ρ1 η2) (.next ρ η1)
def keyOk (v : PV) : Bool := match v with
  | .int _ => true
  | .str _ => true
  | .tup xs => xs.all fun x => match x with
    | .int _ => true
    | .str _ => true
    | _ => false
  | _ => false
def putD (kvs : List (PV × PV)) (k v : PV) : List (PV × PV) :=
  if kvs.any fun kv => eqv kv.1 k then kvs.map fun kv => if eqv kv.1 k then (kv.1, v) else kv else kvs ++ [(k, v)]
def setO (n c : Nat) (v : PV) (η : Hp) : Option Ob → PV → Option Hp
  | some (.lst xs), .int k => (ixN xs.length k).bind fun j => put n c v (.lst (xs.set j v)) η
  | some (.dct kvs), i => if (keyOk i && decide (kvs.length < line)) = true then put n c v (.dct (putD kvs i v)) η else none
  | _, _ => none
def setV (n : Nat) (v : PV) (η : Hp) : PV → PV → Option Hp
  | .cell c, i => setO n c v η η[c]? i
  | _, _ => none
mutual
@[simp] def evS (C : Cfg) : S → Env → Hp → Out
  | .asg i e, ρ, η => (evE C e ρ η).out ρ fun v η1 => .next (ρ.set i (some v)) η1
  | .own i f, ρ, η => (evF C f ρ η).out ρ fun xs η1 => .next (ρ.set i (some (.cell η1.length))) (η1 ++ [.lst xs])
  | .unp is e, ρ, η => (evE C e ρ η).out ρ fun v η1 => Out.opt (bindT η1 (.tup is) v ρ) fun ρ1 => .next ρ1 η1
  | .par i j a b, ρ, η => (evE C a ρ η).out ρ fun x η1 => (evE C b ρ η1).out ρ fun y η2 => .next ((ρ.set i (some x)).set j (some y)) η2
  | .set o i v, ρ, η => (evE C v ρ η).out ρ fun v η1 => (evE C o ρ η1).out ρ fun o η2 => (evE C i ρ η2).out ρ fun i η3 => Out.opt (setV C.n v η3 o i) fun η4 => .next ρ η4
  | .ex e, ρ, η => (evE C e ρ η).out ρ fun _ η1 => .next ρ η1
  | .ite c a b, ρ, η => (evE C c ρ η).out ρ fun x η1 => Out.br (truth η1 x) (evSs C a ρ η1) (evSs C b ρ η1)
  | .loop tg it b, ρ, η => (evI C it ρ η).out ρ fun p η1 => forL p.2 (fun x ρ η => Out.opt (bindT η tg x ρ) fun ρ' => evSs C b ρ' η) p.1 ρ η1
  | .whl k c b, ρ, η => whlL (fun ρ η => evE C c ρ η) (fun ρ η => evSs C b ρ η) k ρ η
  | .ret e, ρ, η => (evE C e ρ η).out ρ fun v η1 => .ret v η1
  | .retF f, ρ, η => (evF C f ρ η).out ρ fun xs η1 => .ret (.cell η1.length) (η1 ++ [.lst xs])
  | .retN, _, η => .ret .non η
  | .brk, ρ, η => .brk ρ η
  | .cnt, ρ, η => .cnt ρ η
  | .rse c es, ρ, η => (evEs C es ρ η).out ρ fun xs η1 => .exc c xs ρ η1
  | .pass, ρ, η => .next ρ η
  | .nev, _, _ => .err
@[simp] def evSs (C : Cfg) : Ss → Env → Hp → Out
  | .nil, ρ, η => .next ρ η
  | .cons s ss, ρ, η => (evS C s ρ η).andThen fun ρ1 η1 => evSs C ss ρ1 η1
end

structure FD where
  np : Nat
  ns : Nat
  keep : Bool
  body : Ss
def finO (n : Nat) (keep : Bool) (η : Hp) : Option Ob → Res PV
  | some (.lst xs) => if closeds n xs = true then (if keep = true then .ok (.cell n) (η.take n ++ [.lst xs]) else .ok (.lst xs) (η.take n)) else .err
  | some (.dct kvs) => if (closeds n (kvs.map (·.1)) && closeds n (kvs.map (·.2))) = true then .ok (.cell n) (η.take n ++ [.dct kvs]) else .err
  | none => .err
/-- what is handed back: the def's own cells go; a list that is handed back is frozen, or is the caller's new cell -/
def finV (n : Nat) (keep : Bool) (η : Hp) : PV → Res PV
  | .cell c => if c < n then .ok (.cell c) (η.take n) else finO n keep η η[c]?
  | .non => .ok .non (η.take n)
  | .bl b => .ok (.bl b) (η.take n)
  | .int i => .ok (.int i) (η.take n)
  | .str s => .ok (.str s) (η.take n)
  | .scr s => .ok (.scr s) (η.take n)
  | .tup xs => if closeds n xs = true then .ok (.tup xs) (η.take n) else .err
  | .lst xs => if closeds n xs = true then .ok (.lst xs) (η.take n) else .err
/-- back at the caller -/
def fin (n : Nat) (keep : Bool) : Out → Res PV
  | .next _ η => .ok .non (η.take n)
  | .ret v η => finV n keep η v
  | .exc c fs _ η => if closeds n fs = true then .exc c fs (η.take n) else .err
  | _ => .err
structure Tb where
  gv : Nat → Option PV
  fd : Nat → Option FD
def evD (T : Tb) : Nat → Nat → List PV → Hp → Res PV
  | 0, _, _, _ => .err
  | k + 1, f, args, η => match T.fd f with
    | none => .err
    | some d => if args.length = d.np then fin η.length d.keep (evSs ⟨T.gv, evD T k, η.length⟩ d.body (args.map some ++ List.replicate (d.ns - d.np) none) η) else .err
end D
end

section
set_option linter.all false
set_option autoImplicit true
set_option relaxedAutoImplicit true
namespace D
@[simp] theorem vwO_s1 : vwO c (some (.lst xs)) = (.lst xs) := rfl
@[simp] theorem vw_s1 : vw η (.cell c) = (vwO c η[c]?) := rfl
@[simp] theorem vw_s2 : vw η (.non) = (.non) := rfl
@[simp] theorem vw_s3 : vw η (.bl b) = (.bl b) := rfl
@[simp] theorem vw_s4 : vw η (.int i) = (.int i) := rfl
@[simp] theorem vw_s5 : vw η (.str s) = (.str s) := rfl
@[simp] theorem vw_s6 : vw η (.tup xs) = (.tup xs) := rfl
@[simp] theorem vw_s7 : vw η (.lst xs) = (.lst xs) := rfl
@[simp] theorem vw_s8 : vw η (.scr ns) = (.scr ns) := rfl
@[simp] theorem truthO_s1 : truthO (some (.lst xs)) = (some (!xs.isEmpty)) := rfl
@[simp] theorem truthO_s2 : truthO (some (.dct kvs)) = (some (!kvs.isEmpty)) := rfl
@[simp] theorem truthO_s3 : truthO none = (none) := rfl
@[simp] theorem truth_s1 : truth η (.non) = (some false) := rfl
@[simp] theorem truth_s2 : truth η (.bl b) = (some b) := rfl
@[simp] theorem truth_s3 : truth η (.int i) = (some (i != 0)) := rfl
@[simp] theorem truth_s4 : truth η (.str s) = (some (!s.isEmpty)) := rfl
@[simp] theorem truth_s5 : truth η (.tup xs) = (some (!xs.isEmpty)) := rfl
@[simp] theorem truth_s6 : truth η (.lst xs) = (some (!xs.isEmpty)) := rfl
@[simp] theorem truth_s7 : truth η (.cell c) = (truthO η[c]?) := rfl
@[simp] theorem truth_s8 : truth η (.scr u1) = (none) := rfl
@[simp] theorem opV_s1 : opV (.add) (.int i) (.int j) = (some (.int (i + j))) := rfl
@[simp] theorem opV_s2 : opV (.add) (.str s) (.str t) = (if s.length + t.length ≤ line then some (.str (s ++ t)) else none) := rfl
@[simp] theorem opV_s3 : opV (.add) (.tup s) (.tup t) = (if s.length + t.length ≤ line then some (.tup (s ++ t)) else none) := rfl
@[simp] theorem opV_s4 : opV (.add) (.lst s) (.lst t) = (if s.length + t.length ≤ line then some (.lst (s ++ t)) else none) := rfl
@[simp] theorem opV_s5 : opV (.sub) (.int i) (.int j) = (some (.int (i - j))) := rfl
@[simp] theorem opV_s6 : opV (.mul) (.int i) (.int j) = (if cap i || cap j then some (.int (i * j)) else none) := rfl
@[simp] theorem opV_s7 : opV (.mul) (.lst s) (.int j) = (if j.natAbs < 1048576 ∧ s.length * j.toNat ≤ line then some (.lst (List.replicate j.toNat s).flatten) else none) := rfl
@[simp] theorem opV_s8 : opV (.mul) (.tup s) (.int j) = (if -1000 ≤ j ∧ j ≤ 1000 ∧ s.length ≤ 1000 then some (.tup (List.replicate j.toNat s).flatten) else none) := rfl
@[simp] theorem opV_s9 : opV (.mul) (.str s) (.int j) = (if j.natAbs < 1048576 ∧ s.length * j.toNat ≤ line then some (.str (List.replicate j.toNat s).flatten) else none) := rfl
@[simp] theorem opV_s10 : opV (.fdiv) (.int i) (.int j) = (if j ≠ 0 ∧ j.natAbs < 1073741824 then some (.int (i.fdiv j)) else none) := rfl
@[simp] theorem opV_s11 : opV (.mod) (.int i) (.int j) = (if j ≠ 0 then some (.int (i.fmod j)) else none) := rfl
@[simp] theorem opV_s12 : opV (.pow) (.int i) (.int j) = (if 0 ≤ j ∧ j ≤ 1000 ∧ cap i then some (.int (i ^ j.toNat)) else none) := rfl
@[simp] theorem isIn_s1 : isIn x (.lst ys) = (if (flat 50 x && ys.all (flat 50)) = true then some (ys.any fun z => eqv z x) else none) := rfl
@[simp] theorem isIn_s2 : isIn x (.tup ys) = (if (flat 50 x && ys.all (flat 50)) = true then some (ys.any fun z => eqv z x) else none) := rfl
@[simp] theorem isIn_s3 : isIn x (.str s) = (match x with
    | .str [c] => some (s.contains c)
    | _ => none) := rfl
@[simp] theorem cmV_s1 : cmV (.eq) x y = (if (flat 50 x && flat 50 y) = true then some (eqv x y) else none) := rfl
@[simp] theorem cmV_s2 : cmV (.ne) x y = (if (flat 50 x && flat 50 y) = true then some (!eqv x y) else none) := rfl
@[simp] theorem cmV_s3 : cmV (.lt) x y = (if ordOk x y = true then some (ltb x y) else none) := rfl
@[simp] theorem cmV_s4 : cmV (.gt) x y = (if ordOk x y = true then some (ltb y x) else none) := rfl
@[simp] theorem cmV_s5 : cmV (.le) x y = (if ordOk x y = true then some (!ltb y x) else none) := rfl
@[simp] theorem cmV_s6 : cmV (.ge) x y = (if ordOk x y = true then some (!ltb x y) else none) := rfl
@[simp] theorem cmV_s7 : cmV (.isin) x y = (isIn x y) := rfl
@[simp] theorem cmV_s8 : cmV (.notin) x y = ((isIn x y).map (!·)) := rfl
@[simp] theorem idxO_s1 : idxO (some (.lst xs)) (.int i) = (atI xs i) := rfl
@[simp] theorem idxO_s2 : idxO (some (.dct kvs)) k = (lookD kvs k) := rfl
@[simp] theorem idxV_s1 : idxV η (.lst xs) (.int i) = (atI xs i) := rfl
@[simp] theorem idxV_s2 : idxV η (.tup xs) (.int i) = (atI xs i) := rfl
@[simp] theorem idxV_s3 : idxV η (.str s) (.int i) = ((atI s i).map fun c => .str [c]) := rfl
@[simp] theorem idxV_s4 : idxV η (.cell c) i = (idxO η[c]? i) := rfl
@[simp] theorem slcV_s1 : slcV lo hi (.lst xs) = (some (.lst (cut xs lo hi))) := rfl
@[simp] theorem slcV_s2 : slcV lo hi (.tup xs) = (some (.tup (cut xs lo hi))) := rfl
@[simp] theorem slcV_s3 : slcV lo hi (.str s) = (some (.str (cut s lo hi))) := rfl
@[simp] theorem bwdV_s1 : bwdV (.str s) = (some (.str s.reverse)) := rfl
@[simp] theorem bwdV_s2 : bwdV (.lst xs) = (some (.lst xs.reverse)) := rfl
@[simp] theorem bwdV_s3 : bwdV (.tup xs) = (some (.tup xs.reverse)) := rfl
@[simp] theorem seqO_s1 : seqO (some (.lst xs)) = (some xs) := rfl
@[simp] theorem seqOf_s1 : seqOf η (.lst xs) = (some xs) := rfl
@[simp] theorem seqOf_s2 : seqOf η (.tup xs) = (some xs) := rfl
@[simp] theorem seqOf_s3 : seqOf η (.cell c) = (seqO η[c]?) := rfl
@[simp] theorem keyO_s1 : keyO (some (.lst xs)) = (some xs) := rfl
@[simp] theorem keyO_s2 : keyO (some (.dct kvs)) = (some (keysOf kvs)) := rfl
@[simp] theorem keyO_s3 : keyO none = (none) := rfl
@[simp] theorem keySeq_s1 : keySeq η (.lst xs) = (some xs) := rfl
@[simp] theorem keySeq_s2 : keySeq η (.tup xs) = (some xs) := rfl
@[simp] theorem keySeq_s3 : keySeq η (.cell c) = (keyO η[c]?) := rfl
@[simp] theorem keySeq_s4 : keySeq η (.scr ns) = (some (ns.map .int)) := rfl
@[simp] theorem keySeq_s5 : keySeq η (.str s) = (some (s.map fun c => .str [c])) := rfl
@[simp] theorem lenO_s1 : lenO (some (.lst xs)) = (some (.int xs.length)) := rfl
@[simp] theorem lenO_s2 : lenO (some (.dct kvs)) = (some (.int kvs.length)) := rfl
@[simp] theorem lenO_s3 : lenO none = (none) := rfl
@[simp] theorem lenV_s1 : lenV η [.str s] = (some (.int s.length)) := rfl
@[simp] theorem lenV_s2 : lenV η [.lst xs] = (some (.int xs.length)) := rfl
@[simp] theorem lenV_s3 : lenV η [.tup xs] = (some (.int xs.length)) := rfl
@[simp] theorem lenV_s4 : lenV η [.cell c] = (lenO η[c]?) := rfl
@[simp] theorem absV_s1 : absV [.int i] = (some (.int (if i < 0 then -i else i))) := rfl
@[simp] theorem intV_s1 : intV [.int i] = (some (.int i)) := rfl
@[simp] theorem intV_s2 : intV [.bl b] = (some (.int (if b = true then 1 else 0))) := rfl
@[simp] theorem strV_s1 : strV [.int i] = (if i.natAbs < 1000000000000 then some (.str (digs i)) else none) := rfl
@[simp] theorem tupleV_s1 : tupleV η [x] = ((seqOf η x).map .tup) := rfl
@[simp] theorem listV_s1 : listV η [x] = ((keySeq η x).map .lst) := rfl
@[simp] theorem maxL_s1 : maxL [] = (none) := rfl
@[simp] theorem maxL_s2 : maxL (x :: r) = (if minOk (x :: r) = true then some (maxV1 x r) else none) := rfl
@[simp] theorem minL_s1 : minL [] = (none) := rfl
@[simp] theorem minL_s2 : minL (x :: r) = (if minOk (x :: r) = true then some (minV x r) else none) := rfl
@[simp] theorem isNone_s1 : isNone (.non) = (true) := rfl
@[simp] theorem isNone_s2 : isNone (.bl u1) = (false) := rfl
@[simp] theorem isNone_s3 : isNone (.int u1) = (false) := rfl
@[simp] theorem isNone_s4 : isNone (.str u1) = (false) := rfl
@[simp] theorem isNone_s5 : isNone (.tup u1) = (false) := rfl
@[simp] theorem isNone_s6 : isNone (.lst u1) = (false) := rfl
@[simp] theorem isNone_s7 : isNone (.cell u1) = (false) := rfl
@[simp] theorem isNone_s8 : isNone (.scr u1) = (false) := rfl
@[simp] theorem isTup_s1 : isTup (.tup u1) = (true) := rfl
@[simp] theorem isTup_s2 : isTup (.non) = (false) := rfl
@[simp] theorem isTup_s3 : isTup (.bl u1) = (false) := rfl
@[simp] theorem isTup_s4 : isTup (.int u1) = (false) := rfl
@[simp] theorem isTup_s5 : isTup (.str u1) = (false) := rfl
@[simp] theorem isTup_s6 : isTup (.lst u1) = (false) := rfl
@[simp] theorem isTup_s7 : isTup (.cell u1) = (false) := rfl
@[simp] theorem isTup_s8 : isTup (.scr u1) = (false) := rfl
@[simp] theorem maxV_s1 : maxV η [x] = ((seqOf η x).bind maxL) := rfl
@[simp] theorem maxV_s2 : maxV η [.int i, .int j] = (some (.int (if j > i then j else i))) := rfl
@[simp] theorem minVV_s1 : minVV η [x] = ((seqOf η x).bind minL) := rfl
@[simp] theorem minVV_s2 : minVV η [.int i, .int j] = (some (.int (if j < i then j else i))) := rfl
@[simp] theorem one_s1 : one η f [x] = ((lstO η x).bind f) := rfl
@[simp] theorem biV_s1 : biV η (.len) xs = (lenV η xs) := rfl
@[simp] theorem biV_s2 : biV η (.abs) xs = (absV xs) := rfl
@[simp] theorem biV_s3 : biV η (.int) xs = (intV xs) := rfl
@[simp] theorem biV_s4 : biV η (.tuple) xs = (tupleV η xs) := rfl
@[simp] theorem biV_s5 : biV η (.list) xs = (listV η xs) := rfl
@[simp] theorem biV_s6 : biV η (.sorted) xs = (sortedV η xs) := rfl
@[simp] theorem biV_s7 : biV η (.all) xs = (one η allL xs) := rfl
@[simp] theorem biV_s8 : biV η (.any) xs = (one η anyL xs) := rfl
@[simp] theorem biV_s9 : biV η (.sum) xs = (one η sumL xs) := rfl
@[simp] theorem biV_s10 : biV η (.max) xs = (maxV η xs) := rfl
@[simp] theorem biV_s11 : biV η (.min) xs = (minVV η xs) := rfl
@[simp] theorem biV_s12 : biV η (.str) xs = (strV xs) := rfl
@[simp] theorem appO_s1 : appO n c v η (some (.lst xs)) = (if xs.length < line then put n c v (.lst (xs ++ [v])) η else none) := rfl
@[simp] theorem extO_s1 : extO n c zs η (some (.lst xs)) = (if xs.length + zs.length ≤ line then put n c (.lst zs) (.lst (xs ++ zs)) η else none) := rfl
@[simp] theorem popO_s1 : popO c η (some (.lst xs)) = ((Res.opt xs.getLast? η).bind fun y η => .ok y (η.set c (.lst xs.dropLast))) := rfl
@[simp] theorem popAtO_s1 : popAtO c i η (some (.lst xs)) = ((Res.opt (ixN xs.length i) η).bind fun k η => (Res.opt xs[k]? η).bind fun y η => .ok y (η.set c (.lst (xs.eraseIdx k)))) := rfl
@[simp] theorem getO_s1 : getO k d (some (.dct kvs)) = (some ((lookD kvs k).getD d)) := rfl
@[simp] theorem indexV_s1 : indexV y (.lst xs) = (indexL y xs) := rfl
@[simp] theorem lstO_s1 : lstO η (.lst xs) = (some xs) := rfl
@[simp] theorem lstO_s2 : lstO η (.cell c) = (seqO η[c]?) := rfl
@[simp] theorem mtV_s1 : mtV n η (.append) (.cell c) [v] = (wrote η (appO n c v η η[c]?)) := rfl
@[simp] theorem mtV_s2 : mtV n η (.extend) (.cell c) [v] = (wrote η ((lstO η v).bind fun zs => extO n c zs η η[c]?)) := rfl
@[simp] theorem mtV_s3 : mtV n η (.pop) (.cell c) [] = (popO c η η[c]?) := rfl
@[simp] theorem mtV_s4 : mtV n η (.popAt) (.cell c) [.int i] = (popAtO c i η η[c]?) := rfl
@[simp] theorem mtV_s5 : mtV n η (.index) x [y] = (Res.opt (indexV y (vw η x)) η) := rfl
@[simp] theorem mtV_s6 : mtV n η (.count) x [y] = (Res.opt (countV y (vw η x)) η) := rfl
@[simp] theorem mtV_s7 : mtV n η (.starts) (.str s) [.str t] = (.ok (.bl (t.isPrefixOf s)) η) := rfl
@[simp] theorem mtV_s8 : mtV n η (.join) (.str s) [x] = (Res.opt (((seqOf η x).bind strsV).bind (joinL s)) η) := rfl
@[simp] theorem mtV_s9 : mtV n η (.get) (.cell c) [k, d] = (Res.opt (getO k d η[c]?) η) := rfl
@[simp] theorem isTyO_s1 : isTyO t (some (.lst u1)) = (some (match t with | .list => true | _ => false)) := rfl
@[simp] theorem isTyO_s2 : isTyO t (some (.dct u1)) = (some (match t with | .dict => true | _ => false)) := rfl
@[simp] theorem isTyO_s3 : isTyO t none = (none) := rfl
@[simp] theorem isTy_s1 : isTy η t_ (.non) = (some false) := rfl
@[simp] theorem isTy_s2 : isTy η t (.bl u1) = (some (match t with | .int => true | .bool => true | _ => false)) := rfl
@[simp] theorem isTy_s3 : isTy η t (.int u1) = (some (match t with | .int => true | _ => false)) := rfl
@[simp] theorem isTy_s4 : isTy η t (.str u1) = (some (match t with | .str => true | _ => false)) := rfl
@[simp] theorem isTy_s5 : isTy η t (.tup u1) = (some (match t with | .tuple => true | _ => false)) := rfl
@[simp] theorem isTy_s6 : isTy η t (.lst u1) = (some (match t with | .list => true | _ => false)) := rfl
@[simp] theorem isTy_s7 : isTy η t (.cell c) = (isTyO t η[c]?) := rfl
@[simp] theorem optI_s1 : optI [] = (some none) := rfl
@[simp] theorem optI_s2 : optI [.int i] = (some (some i)) := rfl
@[simp] theorem isNon_s1 : isNon k (.non) = (.bl k) := rfl
@[simp] theorem negV_s1 : negV (.int i) = (some (.int (-i))) := rfl
@[simp] theorem lstV_s1 : lstV (.lst xs) = (some xs) := rfl
@[simp] theorem walkO_s1 : walkO c (some (.lst xs)) = (some (xs, some (c, xs))) := rfl
@[simp] theorem walkV_s1 : walkV η (.lst xs) = (some (xs, none)) := rfl
@[simp] theorem walkV_s2 : walkV η (.tup xs) = (some (xs, none)) := rfl
@[simp] theorem walkV_s3 : walkV η (.str s) = (some (s.map fun c => .str [c], none)) := rfl
@[simp] theorem walkV_s4 : walkV η (.cell c) = (walkO c η[c]?) := rfl
@[simp] theorem rngV_s1 : rngV [.int j] = (if small j = true then some (rangeL 0 j, none) else none) := rfl
@[simp] theorem rngV_s2 : rngV [.int i, .int j] = (if (small i && small j) = true then some (rangeL i j, none) else none) := rfl
@[simp] theorem rngV_s3 : rngV [.int i, .int j, .int c] = (if (small i && small j && small c && decide (c ≠ 0)) = true then some (rangeC i j c, none) else none) := rfl
@[simp] theorem enmV_s1 : enmV (.lst xs) = (some (enumL xs, none)) := rfl
@[simp] theorem enmV_s2 : enmV (.tup xs) = (some (enumL xs, none)) := rfl
@[simp] theorem zipV_s1 : zipV (.lst xs) (.lst ys) = (some (zipL xs ys, none)) := rfl
@[simp] theorem zipV_s2 : zipV (.tup xs) (.tup ys) = (some (zipL xs ys, none)) := rfl
@[simp] theorem bindT_s1 : bindT η (.nm i) v ρ = (some (ρ.set i (some v))) := rfl
@[simp] theorem bindT_s2 : bindT η (.tup is) (.tup xs) ρ = (setMany is xs ρ) := rfl
@[simp] theorem bindT_s3 : bindT η (.tup is) (.lst xs) ρ = (setMany is xs ρ) := rfl
@[simp] theorem setMany_s1 : setMany [] [] ρ = (some ρ) := rfl
@[simp] theorem setMany_s2 : setMany (i :: is) (v :: vs) ρ = (setMany is vs (ρ.set i (some v))) := rfl
@[simp] theorem wipe_s1 : wipe ρ [] = (ρ) := rfl
@[simp] theorem wipe_s2 : wipe ρ (v :: vs) = ((wipe ρ vs).set v none) := rfl
@[simp] theorem setO_s1 : setO n c v η (some (.lst xs)) (.int k) = ((ixN xs.length k).bind fun j => put n c v (.lst (xs.set j v)) η) := rfl
@[simp] theorem setO_s2 : setO n c v η (some (.dct kvs)) i = (if (keyOk i && decide (kvs.length < line)) = true then put n c v (.dct (putD kvs i v)) η else none) := rfl
@[simp] theorem setV_s1 : setV n v η (.cell c) i = (setO n c v η η[c]? i) := rfl
@[simp] theorem finO_s1 : finO n keep η (some (.lst xs)) = (if closeds n xs = true then (if keep = true then .ok (.cell n) (η.take n ++ [.lst xs]) else .ok (.lst xs) (η.take n)) else .err) := rfl
@[simp] theorem finO_s2 : finO n keep η (some (.dct kvs)) = (if (closeds n (kvs.map (·.1)) && closeds n (kvs.map (·.2))) = true then .ok (.cell n) (η.take n ++ [.dct kvs]) else .err) := rfl
@[simp] theorem finO_s3 : finO n keep η none = (.err) := rfl
@[simp] theorem finV_s1 : finV n keep η (.cell c) = (if c < n then .ok (.cell c) (η.take n) else finO n keep η η[c]?) := rfl
@[simp] theorem finV_s2 : finV n keep η (.non) = (.ok .non (η.take n)) := rfl
@[simp] theorem finV_s3 : finV n keep η (.bl b) = (.ok (.bl b) (η.take n)) := rfl
@[simp] theorem finV_s4 : finV n keep η (.int i) = (.ok (.int i) (η.take n)) := rfl
@[simp] theorem finV_s5 : finV n keep η (.str s) = (.ok (.str s) (η.take n)) := rfl
@[simp] theorem finV_s6 : finV n keep η (.scr s) = (.ok (.scr s) (η.take n)) := rfl
@[simp] theorem finV_s7 : finV n keep η (.tup xs) = (if closeds n xs = true then .ok (.tup xs) (η.take n) else .err) := rfl
@[simp] theorem finV_s8 : finV n keep η (.lst xs) = (if closeds n xs = true then .ok (.lst xs) (η.take n) else .err) := rfl
@[simp] theorem fin_s1 : fin n keep (.next u1 η) = (.ok .non (η.take n)) := rfl
@[simp] theorem fin_s2 : fin n keep (.ret v η) = (finV n keep η v) := rfl
@[simp] theorem fin_s3 : fin n keep (.exc c fs u1 η) = (if closeds n fs = true then .exc c fs (η.take n) else .err) := rfl
end D
end

section
set_option linter.all false
namespace D

@[simp] theorem stays_none (η : Hp) : stays none η = true := rfl
theorem lcG_pure {α : Type} (h : α → Option PV) (η : Hp) : ∀ xs : List α, lcG none (fun x η => Res.ok (h x) η) xs η = .ok (xs.filterMap h) η
  | [] => by simp [lcG]
  | x :: xs => by
    simp only [lcG, stays_none, if_true, bind_ok, lcG_pure h η xs, List.filterMap_cons]
    cases h x <;> rfl
theorem lcG_map {α β : Type} (w : Wt) (g : α → β) (f : β → Hp → Res (Option PV)) : ∀ (xs : List α) (η : Hp), lcG w f (xs.map g) η = lcG w (fun a η => f (g a) η) xs η
  | [], η => rfl
  | x :: xs, η => by simp only [List.map_cons, lcG, lcG_map w g f xs]
/-- where each turn gives something on the items that there are, and the heap stays -/
theorem lcG_mem {α : Type} {f : α → Hp → Res (Option PV)} {η : Hp} (h : α → Option PV) : ∀ xs : List α, (∀ x ∈ xs, f x η = .ok (h x) η) → lcG none f xs η = .ok (xs.filterMap h) η
  | [], _ => by simp [lcG]
  | x :: xs, hf => by
    have h1 := hf x List.mem_cons_self
    have h2 := lcG_mem h xs fun y hy => hf y (List.mem_cons_of_mem _ hy)
    simp only [lcG, stays_none, if_true, h1, bind_ok, h2, List.filterMap_cons]
    cases h x <;> rfl
@[simp] theorem bools_nil : bools [] = some [] := rfl
theorem bools_map {α : Type} (p : α → Bool) : ∀ xs : List α, bools (xs.map fun x => .bl (p x)) = some (xs.map p)
  | [] => rfl
  | x :: xs => by simp [bools, bools_map p xs]
theorem ints_map {α : Type} (p : α → Int) : ∀ xs : List α, intsV (xs.map fun x => .int (p x)) = some (xs.map p)
  | [] => rfl
  | x :: xs => by simp [intsV, ints_map p xs]
theorem strs_map {α : Type} (p : α → List Nat) : ∀ xs : List α, strsV (xs.map fun x => .str (p x)) = some (xs.map p)
  | [] => rfl
  | x :: xs => by simp [strsV, strs_map p xs]
theorem filterMap_some {α β : Type} (g : α → β) (xs : List α) : xs.filterMap (fun x => some (g x)) = xs.map g := by
  induction xs with
  | nil => rfl
  | cons x xs ih => simp [ih]
theorem enumL_map {α : Type} (f : α → PV) (xs : List α) : enumL (xs.map f) = xs.zipIdx.map fun p => PV.tup [.int (p.2 : Nat), f p.1] := by
  simp [enumL, List.zipIdx_map, Function.comp_def]
theorem zipL_map {α β : Type} (f : α → PV) (g : β → PV) (xs : List α) (ys : List β) : zipL (xs.map f) (ys.map g) = (xs.zip ys).map fun p => PV.tup [f p.1, g p.2] := by
  simp [zipL, List.zip_map, Function.comp_def]
theorem rangeL_map (i j : Int) : rangeL i j = (List.range (j - i).toNat).map fun (k : Nat) => .int (i + (k : Int)) := rfl
theorem evD_succ {T : Tb} {k f : Nat} {args : List PV} {η : Hp} (d : FD) (h : T.fd f = some d) (hl : args.length = d.np) :
    evD T (k + 1) f args η = fin η.length d.keep (evSs ⟨T.gv, evD T k, η.length⟩ d.body (args.map some ++ List.replicate (d.ns - d.np) none) η) := by
  rw [evD, h]; simp [hl]
@[simp] theorem eqv_str (s t : List Nat) : eqv (.str s) (.str t) = (s == t) := rfl
@[simp] theorem eqv_int (s t : Int) : eqv (.int s) (.int t) = (s == t) := rfl
theorem flat_str (n : Nat) (s : List Nat) : flat n (.str s) = true := by cases n <;> rfl
theorem flat_int (n : Nat) (s : Int) : flat n (.int s) = true := by cases n <;> rfl
theorem flat_bl (n : Nat) (s : Bool) : flat n (.bl s) = true := by cases n <;> rfl
theorem flat_non (n : Nat) : flat n .non = true := by cases n <;> rfl
theorem eqv_refl_of : ∀ (n : Nat) (v : PV), flat n v = true → eqv v v = true := by
  intro n
  induction n with
  | zero => intro v h; cases v <;> simp_all [flat, eqv]
  | succ n ih =>
    have go : ∀ xs : List PV, (∀ x ∈ xs, flat n x = true) → eqvs xs xs = true := by
      intro xs
      induction xs with
      | nil => intro _; rfl
      | cons x xs ihx =>
        intro h
        simp only [eqvs, Bool.and_eq_true]
        exact ⟨ih x (h x List.mem_cons_self), ihx fun y hy => h y (List.mem_cons_of_mem _ hy)⟩
    intro v h
    cases v <;> simp_all [flat, eqv]
theorem ite_bl (c : Prop) [Decidable c] (a b : Bool) : (if c then PV.bl a else PV.bl b) = .bl (if c then a else b) := by split <;> rfl
theorem ite_int (c : Prop) [Decidable c] (a b : Int) : (if c then PV.int a else PV.int b) = .int (if c then a else b) := by split <;> rfl
theorem ite_str (c : Prop) [Decidable c] (a b : List Nat) : (if c then PV.str a else PV.str b) = .str (if c then a else b) := by split <;> rfl
theorem ite_tup (c : Prop) [Decidable c] (a b : List PV) : (if c then PV.tup a else PV.tup b) = .tup (if c then a else b) := by split <;> rfl
theorem ite_lst (c : Prop) [Decidable c] (a b : List PV) : (if c then PV.lst a else PV.lst b) = .lst (if c then a else b) := by split <;> rfl
end D
end

section
set_option linter.all false
set_option Elab.async false
set_option maxRecDepth 100000
namespace D
def clO (n : Nat) : Ob → Bool
  | .lst xs => closeds n xs
  | .dct kvs => closeds n (kvs.map (·.1)) && closeds n (kvs.map (·.2))
/-- at least m cells; those below n know only cells below n -/
structure P (m n : Nat) (η : Hp) : Prop where
  len : m ≤ η.length
  cl : ∀ c o, c < n → η[c]? = some o → clO n o = true
def okR {α : Type} (m n : Nat) : Res α → Prop
  | .ok _ h => P m n h
  | .exc _ _ h => P m n h
  | .err => True
def okO (m n : Nat) : Out → Prop
  | .next _ η => P m n η
  | .brk _ η => P m n η
  | .cnt _ η => P m n η
  | .ret _ η => P m n η
  | .exc _ _ _ η => P m n η
  | .err => True
section
variable {m n : Nat} {α β : Type}
theorem okR.bind {r : Res α} {f : α → Hp → Res β} (h : okR m n r) (k : ∀ a η, P m n η → okR m n (f a η)) : okR m n (r.bind f) := by
  cases r with
  | ok a η => exact k a η h
  | exc => exact h
  | err => trivial
theorem okR.opt {o : Option α} {η : Hp} (h : P m n η) : okR m n (Res.opt o η) := by
  cases o with
  | none => trivial
  | some a => exact h
theorem okR.br {o : Option Bool} {a b : Res α} (h1 : okR m n a) (h2 : okR m n b) : okR m n (Res.br o a b) := by
  cases o with
  | none => trivial
  | some t => cases t <;> assumption
theorem okR.calm {r : Res α} (h : okR m n r) : okR m n r.calm := by
  cases r with
  | ok => exact h
  | exc => trivial
  | err => trivial
theorem okR.out {r : Res α} {ρ : Env} {f : α → Hp → Out} (h : okR m n r) (k : ∀ a η, P m n η → okO m n (f a η)) : okO m n (r.out ρ f) := by
  cases r with
  | ok a η => exact k a η h
  | exc => exact h
  | err => trivial
theorem okO.opt {o : Option α} {f : α → Out} (h : ∀ a, okO m n (f a)) : okO m n (Out.opt o f) := by
  cases o with
  | none => trivial
  | some a => exact h a
theorem okO.br {o : Option Bool} {a b : Out} (h1 : okO m n a) (h2 : okO m n b) : okO m n (Out.br o a b) := by
  cases o with
  | none => trivial
  | some t => cases t <;> assumption
theorem okO.turn {o : Out} {f : Env → Hp → Out} (h : okO m n o) (k : ∀ ρ η, P m n η → okO m n (f ρ η)) : okO m n (o.turn f) := by
  cases o with
  | next ρ η => exact k ρ η h
  | cnt ρ η => exact k ρ η h
  | brk ρ η => exact h
  | ret => exact h
  | exc => exact h
  | err => trivial
theorem okO.andThen {o : Out} {f : Env → Hp → Out} (h : okO m n o) (k : ∀ ρ η, P m n η → okO m n (f ρ η)) : okO m n (o.andThen f) := by
  cases o with
  | next ρ η => exact k ρ η h
  | cnt ρ η => exact h
  | brk ρ η => exact h
  | ret => exact h
  | exc => exact h
  | err => trivial
end
mutual
theorem closed_of : ∀ (n : Nat) (x : PV), noCell x = true → closed n x = true
  | n, x, h => by
    cases x with
    | tup xs => simp only [noCell] at h; simp only [closed]; exact closeds_of n xs h
    | lst xs => simp only [noCell] at h; simp only [closed]; exact closeds_of n xs h
    | cell c => simp [noCell] at h
    | scr => simp [noCell] at h
    | _ => simp [closed]
theorem closeds_of : ∀ (n : Nat) (xs : List PV), noCells xs = true → closeds n xs = true
  | n, [], h => by simp [closeds]
  | n, x :: xs, h => by
    simp only [noCells, Bool.and_eq_true] at h
    simp only [closeds, Bool.and_eq_true]
    exact ⟨closed_of n x h.1, closeds_of n xs h.2⟩
end
theorem closeds_all (n : Nat) : ∀ xs : List PV, closeds n xs = xs.all (closed n)
  | [] => by simp [closeds]
  | x :: xs => by rw [closeds, closeds_all n xs]; rfl
theorem P.set {m n c : Nat} {η : Hp} {ob : Ob} (p : P m n η) (h : c < n → clO n ob = true) : P m n (η.set c ob) := by
  refine ⟨by rw [List.length_set]; exact p.len, fun d o hd e => ?_⟩
  by_cases hc : c = d
  · subst hc
    rw [List.getElem?_set] at e
    rw [if_pos rfl] at e
    split at e
    · cases e; exact h hd
    · cases e
  · rw [List.getElem?_set_ne hc] at e
    exact p.cl d o hd e
theorem put_ok {m n n' c : Nat} {v : PV} {ob : Ob} {η η' : Hp} (hn : n ≤ n') (p : P m n η) (e : put n' c v ob η = some η') (h : noCell v = true → c < n → clO n ob = true) : P m n η' := by
  unfold put at e
  split at e
  · rename_i hc
    cases e
    refine p.set fun hcn => ?_
    simp only [Bool.or_eq_true, decide_eq_true_eq] at hc
    rcases hc with hc | hc
    · omega
    · exact h hc hcn
  · cases e
theorem okR.wrote {m n : Nat} {η : Hp} {o : Option Hp} (h : ∀ η', o = some η' → P m n η') : okR m n (wrote η o) := by
  cases o with
  | none => trivial
  | some a => exact h a rfl
theorem mtV_ok {m n n' : Nat} {η : Hp} (hn : n ≤ n') (p : P m n η) (mt : Mt) (x : PV) (xs : List PV) : okR m n (mtV n' η mt x xs) := by
  unfold mtV
  split
  · rename_i c v
    refine okR.wrote fun η' e => ?_
    cases q : η[c]? with
    | none => rw [q] at e; simp [appO] at e
    | some o =>
      rw [q] at e
      cases o with
      | dct => simp [appO] at e
      | lst ys =>
        simp only [appO] at e
        split at e
        · refine put_ok hn p e fun hv hc => ?_
          have := p.cl c _ hc q
          simp only [clO] at this ⊢
          rw [closeds_all] at this ⊢
          rw [List.all_append, this]
          simp [closed_of n v hv]
        · cases e
  · rename_i c v
    refine okR.wrote fun η' e => ?_
    obtain ⟨zs, e1, e2⟩ := Option.bind_eq_some_iff.mp e
    cases q : η[c]? with
    | none => rw [q] at e2; simp [extO] at e2
    | some o =>
      rw [q] at e2
      cases o with
      | dct => simp [extO] at e2
      | lst ys =>
        simp only [extO] at e2
        split at e2
        · refine put_ok hn p e2 fun hv hc => ?_
          have := p.cl c _ hc q
          simp only [clO] at this ⊢
          rw [closeds_all] at this ⊢
          rw [List.all_append, this, ← closeds_all]
          simp only [noCell] at hv
          rw [closeds_of n zs hv]
          rfl
        · cases e2
  · rename_i c
    cases q : η[c]? with
    | none => simp only [popO]; trivial
    | some o =>
      cases o with
      | dct => simp only [popO]; trivial
      | lst ys =>
        simp only [popO]
        refine okR.bind (okR.opt p) fun y η1 p1 => ?_
        refine p1.set fun hc => ?_
        have := p.cl c _ hc q
        simp only [clO] at this ⊢
        rw [closeds_all, List.all_eq_true] at this ⊢
        exact fun z hz => this z (List.dropLast_subset ys hz)
  · rename_i c i
    cases q : η[c]? with
    | none => simp only [popAtO]; trivial
    | some o =>
      cases o with
      | dct => simp only [popAtO]; trivial
      | lst ys =>
        simp only [popAtO]
        refine okR.bind (okR.opt p) fun k η1 p1 => okR.bind (okR.opt p1) fun y η2 p2 => ?_
        refine p2.set fun hc => ?_
        have := p.cl c _ hc q
        simp only [clO] at this ⊢
        rw [closeds_all, List.all_eq_true] at this ⊢
        exact fun z hz => this z (List.mem_of_mem_eraseIdx hz)
  · exact okR.opt p
  · exact okR.opt p
  · exact p
  · exact okR.opt p
  · exact okR.opt p
  · trivial
structure PC (n : Nat) (C : Cfg) : Prop where
  le : n ≤ C.n
  cf : ∀ m f xs η, n ≤ m → P m n η → okR m n (C.cf f xs η)
theorem lcG_okR {m n : Nat} {α : Type} {w : Wt} {f : α → Hp → Res (Option PV)} (hf : ∀ x η, P m n η → okR m n (f x η)) : ∀ (xs : List α) (η : Hp), P m n η → okR m n (lcG w f xs η)
  | [], η, p => by
    rw [lcG]
    split
    · exact p
    · trivial
  | x :: xs, η, p => by
    rw [lcG]
    split
    · exact okR.bind (hf x η p) fun o η1 p1 => okR.bind (lcG_okR hf xs η1 p1) fun ys η2 p2 => p2
    · trivial
theorem lcH_okR {m n : Nat} {α : Type} {w : Wt} {f : α → Hp → Res (List PV)} (hf : ∀ x η, P m n η → okR m n (f x η)) : ∀ (xs : List α) (η : Hp), P m n η → okR m n (lcH w f xs η)
  | [], η, p => by
    rw [lcH]
    split
    · exact p
    · trivial
  | x :: xs, η, p => by
    rw [lcH]
    split
    · exact okR.bind (hf x η p) fun o η1 p1 => okR.bind (lcH_okR hf xs η1 p1) fun ys η2 p2 => p2
    · trivial
theorem forL_okO {m n : Nat} {α : Type} {w : Wt} {f : α → Env → Hp → Out} (hf : ∀ x ρ η, P m n η → okO m n (f x ρ η)) : ∀ (xs : List α) (ρ : Env) (η : Hp), P m n η → okO m n (forL w f xs ρ η)
  | [], ρ, η, p => by
    rw [forL]
    split
    · exact p
    · trivial
  | x :: xs, ρ, η, p => by
    rw [forL]
    split
    · exact okO.turn (hf x ρ η p) fun ρ1 η1 p1 => forL_okO hf xs ρ1 η1 p1
    · trivial
theorem whlL_okO {m n : Nat} {c : Env → Hp → Res PV} {body : Env → Hp → Out} (hc : ∀ ρ η, P m n η → okR m n (c ρ η)) (hb : ∀ ρ η, P m n η → okO m n (body ρ η)) : ∀ (k : Nat) (ρ : Env) (η : Hp), P m n η → okO m n (whlL c body k ρ η)
  | 0, ρ, η, p => by rw [whlL]; trivial
  | k + 1, ρ, η, p => by
    rw [whlL]
    exact okR.out (hc ρ η p) fun x η1 p1 => okO.br (okO.turn (hb ρ η1 p1) fun ρ1 η2 p2 => whlL_okO hc hb k ρ1 η2 p2) p1
section
variable {m n : Nat} {C : Cfg} (hC : PC n C) (hm : n ≤ m)
include hC hm
mutual
theorem prE : ∀ (e : E) (ρ : Env) (η : Hp), P m n η → okR m n (evE C e ρ η)
  | .var i, ρ, η, p => by simp only [evE]; exact okR.opt p
  | .con v, ρ, η, p => by simp only [evE]; exact p
  | .glb g, ρ, η, p => by simp only [evE]; exact okR.opt p
  | .tup es, ρ, η, p => by
    simp only [evE]
    refine okR.bind (prEs es ρ η p) fun xs η1 p1 => ?_
    split
    · exact p1
    · trivial
  | .fz f, ρ, η, p => by simp only [evE]; exact okR.bind (prF f ρ η p) fun xs η1 p1 => p1
  | .bop c es, ρ, η, p => by simp only [evE]; exact prB c es ρ η p
  | .not a, ρ, η, p => by simp only [evE]; exact okR.bind (prE a ρ η p) fun xs η1 p1 => okR.opt p1
  | .ite c a b, ρ, η, p => by simp only [evE]; exact okR.bind (prE c ρ η p) fun xs η1 p1 => okR.br (prE a ρ η1 p1) (prE b ρ η1 p1)
  | .bin o a b, ρ, η, p => by simp only [evE]; exact okR.bind (prE a ρ η p) fun x η1 p1 => okR.bind (prE b ρ η1 p1) fun y η2 p2 => okR.opt p2
  | .neg a, ρ, η, p => by simp only [evE]; exact okR.bind (prE a ρ η p) fun xs η1 p1 => okR.opt p1
  | .cmp o a b, ρ, η, p => by simp only [evE]; exact okR.bind (prE a ρ η p) fun x η1 p1 => okR.bind (prE b ρ η1 p1) fun y η2 p2 => okR.opt p2
  | .chn o o' a b c, ρ, η, p => by
    simp only [evE]
    exact okR.bind (prE a ρ η p) fun x η1 p1 => okR.bind (prE b ρ η1 p1) fun y η2 p2 => okR.br (okR.bind (prE c ρ η2 p2) fun z η3 p3 => okR.opt p3) p2
  | .isN k a, ρ, η, p => by simp only [evE]; exact okR.bind (prE a ρ η p) fun xs η1 p1 => p1
  | .call f es, ρ, η, p => by simp only [evE]; exact okR.bind (prEs es ρ η p) fun xs η1 p1 => hC.cf m f xs η1 hm p1
  | .bi b es, ρ, η, p => by simp only [evE]; exact okR.bind (prEs es ρ η p) fun xs η1 p1 => okR.opt p1
  | .isi a t, ρ, η, p => by simp only [evE]; exact okR.bind (prE a ρ η p) fun xs η1 p1 => okR.opt p1
  | .mth mt o es, ρ, η, p => by
    simp only [evE]
    refine okR.bind (prE o ρ η p) fun x η1 p1 => ?_
    split
    · exact okR.bind (prEs es ρ η1 p1) fun xs η2 p2 => mtV_ok hC.le p2 mt x xs
    · trivial
  | .idx a i, ρ, η, p => by simp only [evE]; exact okR.bind (prE a ρ η p) fun x η1 p1 => okR.bind (prE i ρ η1 p1) fun y η2 p2 => okR.opt p2
  | .slc a lo hi, ρ, η, p => by
    simp only [evE]
    exact okR.bind (prE a ρ η p) fun x η1 p1 => okR.bind (prEs lo ρ η1 p1) fun l η2 p2 => okR.bind (okR.opt p2) fun l η3 p3 => okR.bind (prEs hi ρ η3 p3) fun u η4 p4 => okR.bind (okR.opt p4) fun u η5 p5 => okR.opt p5
  | .bwd a, ρ, η, p => by simp only [evE]; exact okR.bind (prE a ρ η p) fun xs η1 p1 => okR.opt p1
theorem prEs : ∀ (e : Es) (ρ : Env) (η : Hp), P m n η → okR m n (evEs C e ρ η)
  | .nil, ρ, η, p => by simp only [evEs]; exact p
  | .cons e es, ρ, η, p => by simp only [evEs]; exact okR.bind (prE e ρ η p) fun x η1 p1 => okR.bind (prEs es ρ η1 p1) fun y η2 p2 => p2
theorem prB : ∀ (c : Bool) (e : Es) (ρ : Env) (η : Hp), P m n η → okR m n (evB C c e ρ η)
  | c, .nil, ρ, η, p => by simp only [evB]; trivial
  | c, .cons e .nil, ρ, η, p => by simp only [evB]; exact prE e ρ η p
  | c, .cons e (.cons e' es), ρ, η, p => by
    rw [evB]
    exact okR.bind (prE e ρ η p) fun x η1 p1 => okR.br (prB c (.cons e' es) ρ η1 p1) p1
theorem prF : ∀ (e : F) (ρ : Env) (η : Hp), P m n η → okR m n (evF C e ρ η)
  | .lst es, ρ, η, p => by
    simp only [evF]
    refine okR.bind (prEs es ρ η p) fun xs η1 p1 => ?_
    split
    · exact p1
    · trivial
  | .lc el tg it cs own, ρ, η, p => by
    simp only [evF]
    refine okR.bind (prI it ρ η p) fun q η1 p1 => ?_
    split
    · refine okR.calm (lcG_okR (fun x η p => okR.bind (okR.opt p) fun ρ' η1 p1 => okR.bind (prC cs ρ' η1 p1) fun b η2 p2 => ?_) _ _ p1)
      split
      · exact okR.bind (prE el ρ' η2 p2) fun y η3 p3 => p3
      · exact p2
    · trivial
  | .lc2 el tg it cs tg1 it1 cs1 own own1, ρ, η, p => by
    simp only [evF]
    refine okR.bind (prI it ρ η p) fun q η1 p1 => okR.calm (okR.bind (lcH_okR (fun x η p => okR.bind (okR.opt p) fun ρ' η1 p1 => okR.bind (prC cs ρ' η1 p1) fun b η2 p2 => ?_) _ _ p1) fun zs η2 p2 => ?_)
    · split
      · refine okR.bind (prI it1 ρ' η2 p2) fun q1 η3 p3 => lcG_okR (fun x η p => okR.bind (okR.opt p) fun ρ2 η1 p1 => okR.bind (prC cs1 ρ2 η1 p1) fun b η2 p2 => ?_) _ _ p3
        split
        · exact okR.bind (prE el ρ2 η2 p2) fun y η3 p3 => p3
        · exact p2
      · exact p2
    · split
      · exact p2
      · trivial
  | .bi b es, ρ, η, p => by simp only [evF]; exact okR.bind (prEs es ρ η p) fun xs η1 p1 => okR.opt p1
  | .bin o a b, ρ, η, p => by simp only [evF]; exact okR.bind (prE a ρ η p) fun x η1 p1 => okR.bind (prE b ρ η1 p1) fun y η2 p2 => okR.opt p2
  | .slc a lo hi, ρ, η, p => by
    simp only [evF]
    exact okR.bind (prE a ρ η p) fun x η1 p1 => okR.bind (prEs lo ρ η1 p1) fun l η2 p2 => okR.bind (okR.opt p2) fun l η3 p3 => okR.bind (prEs hi ρ η3 p3) fun u η4 p4 => okR.bind (okR.opt p4) fun u η5 p5 => okR.opt p5
theorem prC : ∀ (e : Es) (ρ : Env) (η : Hp), P m n η → okR m n (evC C e ρ η)
  | .nil, ρ, η, p => by simp only [evC]; exact p
  | .cons e es, ρ, η, p => by simp only [evC]; exact okR.bind (prE e ρ η p) fun x η1 p1 => okR.br (prC es ρ η1 p1) p1
theorem prI : ∀ (e : It) (ρ : Env) (η : Hp), P m n η → okR m n (evI C e ρ η)
  | .seq e, ρ, η, p => by simp only [evI]; exact okR.bind (prE e ρ η p) fun x η1 p1 => okR.opt p1
  | .rng es, ρ, η, p => by simp only [evI]; exact okR.bind (prEs es ρ η p) fun x η1 p1 => okR.opt p1
  | .enm e, ρ, η, p => by simp only [evI]; exact okR.bind (prE e ρ η p) fun x η1 p1 => okR.opt p1
  | .zip a b, ρ, η, p => by simp only [evI]; exact okR.bind (prE a ρ η p) fun x η1 p1 => okR.bind (prE b ρ η1 p1) fun y η2 p2 => okR.opt p2
end
omit hC hm in
theorem P.app {η : Hp} {o : Ob} (p : P m n η) (hm : n ≤ m) : P m n (η ++ [o]) := by
  refine ⟨by rw [List.length_append]; have := p.len; omega, fun c ob hc e => ?_⟩
  have := p.len
  rw [List.getElem?_append_left (by omega)] at e
  exact p.cl c ob hc e
omit hC hm in
theorem putD_all {n : Nat} {kvs : List (PV × PV)} {k v : PV} (h : clO n (.dct kvs) = true) (hk : noCell k = true) (hv : noCell v = true) : clO n (.dct (putD kvs k v)) = true := by
  simp only [clO, Bool.and_eq_true, closeds_all, List.all_map, List.all_eq_true, Function.comp] at h ⊢
  unfold putD
  split
  · constructor
    · intro x hx
      obtain ⟨y, hy, rfl⟩ := List.mem_map.mp hx
      split
      · exact h.1 y hy
      · exact h.1 y hy
    · intro x hx
      obtain ⟨y, hy, rfl⟩ := List.mem_map.mp hx
      split
      · exact closed_of n v hv
      · exact h.2 y hy
  · constructor
    · intro x hx
      rcases List.mem_append.mp hx with hx | hx
      · exact h.1 x hx
      · rw [List.mem_singleton.mp hx]; exact closed_of n k hk
    · intro x hx
      rcases List.mem_append.mp hx with hx | hx
      · exact h.2 x hx
      · rw [List.mem_singleton.mp hx]; exact closed_of n v hv
omit hC hm in
theorem keyOk_noCell {k : PV} (h : keyOk k = true) : noCell k = true := by
  cases k with
  | int => simp [noCell]
  | str => simp [noCell]
  | tup xs =>
    simp only [keyOk, List.all_eq_true] at h
    have all : ∀ ys : List PV, (∀ y ∈ ys, (match y with | .int _ => true | .str _ => true | _ => false) = true) → noCells ys = true := by
      intro ys
      induction ys with
      | nil => intro _; simp [noCells]
      | cons y ys ih =>
        intro h
        have h1 := h y List.mem_cons_self
        simp only [noCells, Bool.and_eq_true]
        refine ⟨?_, ih fun z hz => h z (List.mem_cons_of_mem _ hz)⟩
        cases y <;> simp_all [noCell]
    simp only [noCell]
    exact all xs h
  | _ => simp [keyOk] at h
omit hC hm in
theorem setV_ok {n' : Nat} {η η' : Hp} {v o i : PV} (hn : n ≤ n') (p : P m n η) (e : setV n' v η o i = some η') : P m n η' := by
  unfold setV at e
  split at e
  · rename_i c
    cases q : η[c]? with
    | none => rw [q] at e; simp [setO] at e
    | some ob =>
      rw [q] at e
      cases ob with
      | lst xs =>
        cases i with
        | int k =>
          simp only [setO] at e
          obtain ⟨j, e1, e2⟩ := Option.bind_eq_some_iff.mp e
          refine put_ok hn p e2 fun hv hc => ?_
          have := p.cl c _ hc q
          simp only [clO] at this ⊢
          rw [closeds_all, List.all_eq_true] at this ⊢
          intro z hz
          rcases List.mem_or_eq_of_mem_set hz with hz | rfl
          · exact this z hz
          · exact closed_of n _ hv
        | _ => simp [setO] at e
      | dct kvs =>
        simp only [setO] at e
        split at e
        · rename_i hk
          simp only [Bool.and_eq_true] at hk
          refine put_ok hn p e fun hv hc => ?_
          exact putD_all (p.cl c _ hc q) (keyOk_noCell hk.1) hv
        · cases e
  · cases e
mutual
theorem prS : ∀ (s : S) (ρ : Env) (η : Hp), P m n η → okO m n (evS C s ρ η)
  | .asg i e, ρ, η, p => by simp only [evS]; exact okR.out (prE hC hm e ρ η p) fun v η1 p1 => p1
  | .own i f, ρ, η, p => by simp only [evS]; exact okR.out (prF hC hm f ρ η p) fun v η1 p1 => p1.app hm
  | .unp is e, ρ, η, p => by simp only [evS]; exact okR.out (prE hC hm e ρ η p) fun v η1 p1 => okO.opt fun ρ1 => p1
  | .par i j a b, ρ, η, p => by simp only [evS]; exact okR.out (prE hC hm a ρ η p) fun v η1 p1 => okR.out (prE hC hm b ρ η1 p1) fun v η2 p2 => p2
  | .set o i e, ρ, η, p => by
    simp only [evS]
    refine okR.out (prE hC hm e ρ η p) fun v η1 p1 => okR.out (prE hC hm o ρ η1 p1) fun o' η2 p2 => okR.out (prE hC hm i ρ η2 p2) fun i' η3 p3 => ?_
    cases q : setV C.n v η3 o' i' with
    | none => trivial
    | some η4 => exact setV_ok hC.le p3 q
  | .ex e, ρ, η, p => by simp only [evS]; exact okR.out (prE hC hm e ρ η p) fun v η1 p1 => p1
  | .ite c a b, ρ, η, p => by simp only [evS]; exact okR.out (prE hC hm c ρ η p) fun v η1 p1 => okO.br (prSs a ρ η1 p1) (prSs b ρ η1 p1)
  | .loop tg it b, ρ, η, p => by
    simp only [evS]
    exact okR.out (prI hC hm it ρ η p) fun q η1 p1 => forL_okO (fun x ρ η p => okO.opt fun ρ' => prSs b ρ' η p) _ _ _ p1
  | .whl k c b, ρ, η, p => by simp only [evS]; exact whlL_okO (fun ρ η p => prE hC hm c ρ η p) (fun ρ η p => prSs b ρ η p) _ _ _ p
  | .ret e, ρ, η, p => by simp only [evS]; exact okR.out (prE hC hm e ρ η p) fun v η1 p1 => p1
  | .retF f, ρ, η, p => by simp only [evS]; exact okR.out (prF hC hm f ρ η p) fun v η1 p1 => p1.app hm
  | .retN, ρ, η, p => by simp only [evS]; exact p
  | .brk, ρ, η, p => by simp only [evS]; exact p
  | .cnt, ρ, η, p => by simp only [evS]; exact p
  | .rse c es, ρ, η, p => by simp only [evS]; exact okR.out (prEs hC hm es ρ η p) fun v η1 p1 => p1
  | .pass, ρ, η, p => by simp only [evS]; exact p
  | .nev, ρ, η, p => by simp only [evS]; trivial
theorem prSs : ∀ (s : Ss) (ρ : Env) (η : Hp), P m n η → okO m n (evSs C s ρ η)
  | .nil, ρ, η, p => by simp only [evSs]; exact p
  | .cons s ss, ρ, η, p => by simp only [evSs]; exact okO.andThen (prS s ρ η p) fun ρ1 η1 p1 => prSs ss ρ1 η1 p1
end
end
theorem P.take {m n k : Nat} {η : Hp} (p : P k n η) (hmk : m ≤ k) : P m n (η.take k) := by
  refine ⟨by rw [List.length_take]; have := p.len; omega, fun c o hc e => ?_⟩
  rw [List.getElem?_take] at e
  split at e
  · exact p.cl c o hc e
  · cases e
theorem fin_ok {m n k : Nat} {keep : Bool} {o : Out} (hmk : m ≤ k) (hn : n ≤ m) (h : okO k n o) : okR m n (fin k keep o) := by
  have fv : ∀ v η, P k n η → okR m n (finV k keep η v) := by
    intro v η p
    have pt : P m n (η.take k) := p.take hmk
    cases v with
    | cell c =>
      simp only [finV]
      split
      · exact pt
      · cases η[c]? with
        | none => trivial
        | some ob =>
          cases ob with
          | lst xs =>
            simp only [finO]
            split
            · split
              · exact pt.app hn
              · exact pt
            · trivial
          | dct kvs =>
            simp only [finO]
            split
            · exact pt.app hn
            · trivial
    | tup xs => simp only [finV]; split; exact pt; trivial
    | lst xs => simp only [finV]; split; exact pt; trivial
    | _ => exact pt
  cases o with
  | next ρ η => exact P.take h hmk
  | brk => trivial
  | cnt => trivial
  | ret v η => exact fv v η h
  | exc c fs ρ η =>
    simp only [fin]
    split
    · exact P.take h hmk
    · trivial
  | err => trivial
theorem evD_okR (T : Tb) : ∀ (k : Nat) (f : Nat) (args : List PV) (m n : Nat) (η : Hp), n ≤ m → P m n η → okR m n (evD T k f args η)
  | 0, f, args, m, n, η, hn, p => by rw [evD]; trivial
  | k + 1, f, args, m, n, η, hn, p => by
    rw [evD]
    split
    · trivial
    · split
      · rename_i d _ _
        have hl := p.len
        refine fin_ok hl hn (prSs (m := η.length) ⟨by show n ≤ η.length; omega, fun m f xs η hm p => evD_okR T k f xs m n η hm p⟩ (by omega) _ _ _ ⟨Nat.le_refl _, p.cl⟩)
      · trivial
end D
end

section
set_option Elab.async false
set_option linter.all false
set_option maxRecDepth 100000
set_option maxHeartbeats 1000000
namespace DS
open PySem PySem.Spec PyProof.Rows L2
abbrev PV := D.PV
abbrev Fg := PySem.W.Frag

def okS (s : List Nat) : Prop := s.length ≤ 16777216 ∧ ∀ c ∈ s, c < 0x110000
def stOf (s : List Nat) : Str := ⟨s.toArray⟩
/-- the script: locked, or an object of the module -/
def SqF (K : Fg) (H : Hp) (a : Addr) (xs : List V) : Prop :=
  (∃ o, H a = some (.frz o (.lst xs))) ∨
    ∃ (o : Obj) (its : Array Value) (n : Nat), K.lookup a = some o ∧ o.cls = .type "list" ∧ o.dict = none ∧ o.data = .seq its n ∧ its.size ≤ sizeLine ∧ Vals xs its.toList
theorem SqF.seq {K : Fg} {H : Hp} {a : Addr} {xs : List V} (h : SqF K H a xs) : SqL K H a xs := by
  rcases h with ⟨o, h⟩ | h
  · exact .inl (.inr ⟨o, h⟩)
  · exact .inr h
mutual
inductive RV (K : Fg) (φ Z : List Addr) (H : Hp) : PV → V → Prop
  | non : RV K φ Z H .non .non
  | bl (b : Bool) : RV K φ Z H (.bl b) (.bl b)
  | int (i : Int) : RV K φ Z H (.int i) (.int i)
  | str {s : List Nat} (h : okS s) : RV K φ Z H (.str s) (.str (stOf s))
  | tup {xs : List PV} {vs : List V} {a : Addr} (h : SqT K H a vs) (hs : RVs K φ Z H xs vs) : RV K φ Z H (.tup xs) (.ref a)
  | lst {xs : List PV} {vs : List V} {a : Addr} (h : H a = some (.lst vs)) (h1 : a ∉ φ) (h2 : a ∉ Z) (hs : RVs K φ Z H xs vs) : RV K φ Z H (.lst xs) (.ref a)
  | cell {c : Nat} {a : Addr} (h : φ[c]? = some a) : RV K φ Z H (.cell c) (.ref a)
  | scr {ns : List Int} {a : Addr} (h : SqF K H a (ns.map V.int)) : RV K φ Z H (.scr ns) (.ref a)
inductive RVs (K : Fg) (φ Z : List Addr) (H : Hp) : List PV → List V → Prop
  | nil : RVs K φ Z H [] []
  | cons {x : PV} {v : V} {xs : List PV} {vs : List V} (h : RV K φ Z H x v) (hs : RVs K φ Z H xs vs) : RVs K φ Z H (x :: xs) (v :: vs)
end
/-- what a cell holds -/
def ObR (K : Fg) (φ Z : List Addr) (H : Hp) (a : Addr) : D.Ob → Prop
  | .lst xs => ∃ vs, H a = some (.lst vs) ∧ RVs K φ Z H xs vs
  | .dct _ => False
structure HR (K : Fg) (φ Z : List Addr) (η : D.Hp) (H : Hp) : Prop where
  len : φ.length = η.length
  nd : φ.Nodup
  dis : ∀ a ∈ φ, a ∉ Z
  zin : ∀ a ∈ Z, ∃ vs, H a = some (.lst vs)
  ob : ∀ (c : Nat) (a : Addr) (o : D.Ob), φ[c]? = some a → η[c]? = some o → ObR K φ Z H a o
/-- from one state to a later one -/
structure Ext (φ : List Addr) (H : Hp) (φ' : List Addr) (H' : Hp) : Prop where
  pre : φ <+: φ'
  keep : ∀ a o, H a = some o → a ∉ φ → H' a = some o
  out : ∀ a o, H a = some o → a ∉ φ → a ∉ φ'
structure StR (K : Fg) (φ Z : List Addr) (ρ : D.Env) (η : D.Hp) (σ : L2.St) (H : Hp) : Prop where
  hr : HR K φ Z η H
  len : ρ.length = σ.length
  val : ∀ (i : Nat) (x : PV), ρ[i]? = some (some x) → ∃ v, σ[i]? = some (some v) ∧ RV K φ Z H x v

variable {K : Fg} {φ φ' φ'' Z : List Addr} {H H' H'' : Hp} {η η' : D.Hp} {ρ : D.Env} {σ : L2.St}

theorem RVs.length : ∀ {xs : List PV} {vs : List V}, RVs K φ Z H xs vs → xs.length = vs.length
  | _, _, .nil => rfl
  | _, _, .cons _ t => congrArg Nat.succ (RVs.length t)
theorem RVs.get : ∀ {xs : List PV} {vs : List V} {i : Nat} {x : PV}, RVs K φ Z H xs vs → xs[i]? = some x → ∃ v, vs[i]? = some v ∧ RV K φ Z H x v
  | _, _, _, _, .nil, e => by simp at e
  | _, _, 0, _, .cons r _, e => by simp at e; subst e; exact ⟨_, rfl, r⟩
  | _, _, i + 1, x, .cons _ t, e => by
    obtain ⟨u, h1, h2⟩ := RVs.get (i := i) (x := x) t (by simpa using e)
    exact ⟨u, by simpa using h1, h2⟩
theorem RVs.get' : ∀ {xs : List PV} {vs : List V} {i : Nat} {v : V}, RVs K φ Z H xs vs → vs[i]? = some v → ∃ x, xs[i]? = some x ∧ RV K φ Z H x v
  | _, _, _, _, .nil, e => by simp at e
  | _, _, 0, _, .cons r _, e => by simp at e; subst e; exact ⟨_, rfl, r⟩
  | _, _, i + 1, x, .cons _ t, e => by
    obtain ⟨u, h1, h2⟩ := RVs.get' (i := i) t (by simpa using e)
    exact ⟨u, by simpa using h1, h2⟩
theorem RVs.append : ∀ {xs ys : List PV} {us ws : List V}, RVs K φ Z H xs us → RVs K φ Z H ys ws → RVs K φ Z H (xs ++ ys) (us ++ ws)
  | _, _, _, _, .nil, s => s
  | _, _, _, _, .cons r t, s => .cons r (RVs.append t s)
theorem RVs.take : ∀ {xs : List PV} {us : List V} (n : Nat), RVs K φ Z H xs us → RVs K φ Z H (xs.take n) (us.take n)
  | _, _, 0, _ => .nil
  | _, _, _ + 1, .nil => .nil
  | _, _, n + 1, .cons r t => .cons r (RVs.take n t)
theorem RVs.drop : ∀ {xs : List PV} {us : List V} (n : Nat), RVs K φ Z H xs us → RVs K φ Z H (xs.drop n) (us.drop n)
  | _, _, 0, r => r
  | _, _, _ + 1, .nil => .nil
  | _, _, n + 1, .cons _ t => RVs.drop n t
theorem RVs.set {x : PV} {u : V} (r : RV K φ Z H x u) : ∀ {xs : List PV} {us : List V} (i : Nat), RVs K φ Z H xs us → RVs K φ Z H (xs.set i x) (us.set i u)
  | _, _, _, .nil => .nil
  | _, _, 0, .cons _ t => .cons r t
  | _, _, i + 1, .cons q t => .cons q (RVs.set r i t)
theorem RVs.eraseIdx : ∀ {xs : List PV} {us : List V} (i : Nat), RVs K φ Z H xs us → RVs K φ Z H (xs.eraseIdx i) (us.eraseIdx i)
  | _, _, _, .nil => .nil
  | _, _, 0, .cons _ t => t
  | _, _, i + 1, .cons q t => .cons q (RVs.eraseIdx i t)
theorem RVs.dropLast {xs : List PV} {us : List V} (r : RVs K φ Z H xs us) : RVs K φ Z H xs.dropLast us.dropLast := by
  rw [List.dropLast_eq_take, List.dropLast_eq_take, r.length]
  exact r.take _
theorem RVs.replicate {xs : List PV} {us : List V} (r : RVs K φ Z H xs us) : ∀ n, RVs K φ Z H (List.replicate n xs).flatten (List.replicate n us).flatten
  | 0 => .nil
  | n + 1 => by
    rw [List.replicate_succ, List.replicate_succ, List.flatten_cons, List.flatten_cons]
    exact r.append (RVs.replicate r n)
theorem RVs.ints : ∀ {xs : List PV} {vs : List V} {ns : List Int}, RVs K φ Z H xs vs → D.intsV xs = some ns → vs = ns.map V.int
  | _, _, ns, .nil, h => by
    simp only [D.intsV, Option.some.injEq] at h
    subst h; rfl
  | _, _, ns, .cons (x := x) r t, h => by
    cases x <;> simp only [D.intsV, Option.map_eq_some_iff, reduceCtorEq] at h
    obtain ⟨ms, h1, rfl⟩ := h
    cases r
    rw [RVs.ints t h1]; rfl
theorem RVs.bools : ∀ {xs : List PV} {vs : List V} {ns : List Bool}, RVs K φ Z H xs vs → D.bools xs = some ns → vs = ns.map V.bl
  | _, _, ns, .nil, h => by
    simp only [D.bools, Option.some.injEq] at h
    subst h; rfl
  | _, _, ns, .cons (x := x) r t, h => by
    cases x <;> simp only [D.bools, Option.map_eq_some_iff, reduceCtorEq] at h
    obtain ⟨ms, h1, rfl⟩ := h
    cases r
    rw [RVs.bools t h1]; rfl
theorem RVs.strs : ∀ {xs : List PV} {vs : List V} {ns : List (List Nat)}, RVs K φ Z H xs vs → D.strsV xs = some ns → vs = (ns.map stOf).map V.str ∧ ∀ s ∈ ns, okS s
  | _, _, ns, .nil, h => by
    simp only [D.strsV, Option.some.injEq] at h
    subst h; exact ⟨rfl, fun s hs => absurd hs (by simp)⟩
  | _, _, ns, .cons (x := x) r t, h => by
    cases x <;> simp only [D.strsV, Option.map_eq_some_iff, reduceCtorEq] at h
    obtain ⟨ms, h1, rfl⟩ := h
    cases r with
    | str hk =>
      obtain ⟨e, hks⟩ := RVs.strs t h1
      refine ⟨by rw [e]; rfl, fun s hs => ?_⟩
      rcases List.mem_cons.mp hs with rfl | hs
      · exact hk
      · exact hks s hs
theorem RVs.of_ints : ∀ (ns : List Int), RVs K φ Z H (ns.map .int) (ns.map V.int)
  | [] => .nil
  | n :: ns => .cons (.int n) (RVs.of_ints ns)

theorem Ext.refl : Ext φ H φ H := ⟨List.prefix_refl _, fun _ _ h _ => h, fun _ _ _ h => h⟩
theorem Ext.trans (a : Ext φ H φ' H') (b : Ext φ' H' φ'' H'') : Ext φ H φ'' H'' :=
  ⟨a.pre.trans b.pre, fun x o h n => b.keep x o (a.keep x o h n) (a.out x o h n), fun x o h n => b.out x o (a.keep x o h n) (a.out x o h n)⟩
theorem pre_get {c : Nat} {a : Addr} (h : φ <+: φ') (e : φ[c]? = some a) : φ'[c]? = some a := by
  obtain ⟨t, rfl⟩ := h
  rw [List.getElem?_append_left (List.getElem?_eq_some_iff.mp e).1]
  exact e
/-- a cell's address holds a list -/
theorem HR.cells (h : HR K φ Z η H) {a : Addr} (ha : a ∈ φ) : ∃ vs, H a = some (.lst vs) := by
  obtain ⟨c, hc, e⟩ := List.mem_iff_getElem.mp ha
  have e1 : φ[c]? = some a := by rw [List.getElem?_eq_getElem hc, e]
  have hl : c < η.length := by rw [← h.len]; exact hc
  have o := h.ob c a (η[c]) e1 (by rw [List.getElem?_eq_getElem hl])
  cases q : η[c] with
  | lst xs => rw [q] at o; obtain ⟨vs, e, _⟩ := o; exact ⟨vs, e⟩
  | dct kvs => rw [q] at o; exact o.elim
theorem HR.tupOut (h : HR K φ Z η H) {a : Addr} {vs : List V} (e : H a = some (.tup vs)) : a ∉ φ := fun z => by
  obtain ⟨us, q⟩ := h.cells z
  rw [q] at e; cases e
theorem HR.frzOut (h : HR K φ Z η H) {a : Addr} {o : Obj} {u : HO} (e : H a = some (.frz o u)) : a ∉ φ := fun z => by
  obtain ⟨us, q⟩ := h.cells z
  rw [q] at e; cases e
theorem HR.ktup (h : HR K φ Z η H) (x : Ext φ H φ' H') {a : Addr} {vs : List V} (e : SqT K H a vs) : SqT K H' a vs := by
  rcases e with (e | ⟨o, e⟩) | e
  · exact .inl (.inl (x.keep a _ e (h.tupOut e)))
  · exact .inl (.inr ⟨o, x.keep a _ e (h.frzOut e)⟩)
  · exact .inr e
theorem HR.kscr (h : HR K φ Z η H) (x : Ext φ H φ' H') {a : Addr} {vs : List V} (e : SqF K H a vs) : SqF K H' a vs := by
  rcases e with ⟨o, e⟩ | e
  · exact .inl ⟨o, x.keep a _ e (h.frzOut e)⟩
  · exact .inr e
mutual
theorem RV.ext (h : HR K φ Z η H) (x : Ext φ H φ' H') : ∀ {p : PV} {v : V}, RV K φ Z H p v → RV K φ' Z H' p v
  | _, _, .non => .non
  | _, _, .bl b => .bl b
  | _, _, .int i => .int i
  | _, _, .str hk => .str hk
  | _, _, .tup e hs => .tup (h.ktup x e) (RVs.ext h x hs)
  | _, _, .lst e h1 h2 hs => .lst (x.keep _ _ e h1) (x.out _ _ e h1) h2 (RVs.ext h x hs)
  | _, _, .cell e => .cell (pre_get x.pre e)
  | _, _, .scr e => .scr (h.kscr x e)
theorem RVs.ext (h : HR K φ Z η H) (x : Ext φ H φ' H') : ∀ {p : List PV} {v : List V}, RVs K φ Z H p v → RVs K φ' Z H' p v
  | _, _, .nil => .nil
  | _, _, .cons r t => .cons (RV.ext h x r) (RVs.ext h x t)
end
theorem StR.ext (h : StR K φ Z ρ η σ H) (x : Ext φ H φ' H') (h' : HR K φ' Z η' H') : StR K φ' Z ρ η' σ H' :=
  ⟨h', h.len, fun i p e => let ⟨v, e1, r⟩ := h.val i p e; ⟨v, e1, r.ext h.hr x⟩⟩
theorem StR.set (h : StR K φ Z ρ η σ H) (i : Nat) {p : PV} {v : V} (r : RV K φ Z H p v) : StR K φ Z (ρ.set i (some p)) η (σ.set i (some v)) H := by
  refine ⟨h.hr, by rw [List.length_set, List.length_set, h.len], fun j q e => ?_⟩
  by_cases hj : i = j
  · subst hj
    by_cases hl : i < ρ.length
    · rw [List.getElem?_set_self hl] at e
      cases e
      exact ⟨v, List.getElem?_set_self (by rw [← h.len]; exact hl), r⟩
    · rw [List.getElem?_eq_none (by simpa using hl)] at e; cases e
  · rw [List.getElem?_set_ne hj] at e ⊢
    exact h.val j q e
theorem StR.unset (h : StR K φ Z ρ η σ H) (i : Nat) : StR K φ Z (ρ.set i none) η (σ.set i none) H := by
  refine ⟨h.hr, by rw [List.length_set, List.length_set, h.len], fun j q e => ?_⟩
  by_cases hj : i = j
  · subst hj
    by_cases hl : i < ρ.length
    · rw [List.getElem?_set_self hl] at e
      cases e
    · rw [List.getElem?_eq_none (by simpa using hl)] at e; cases e
  · rw [List.getElem?_set_ne hj] at e ⊢
    exact h.val j q e
theorem StR.wipe (h : StR K φ Z ρ η σ H) : ∀ vs : List Nat, StR K φ Z (D.wipe ρ vs) η (L2.wipe σ vs) H
  | [] => h
  | v :: vs => (StR.wipe h vs).unset v

theorem nl_of {φ : List Addr} {a : Addr} (h : ∀ b ∈ φ, ∃ vs, H b = some (.lst vs)) (n : H a = none) : a ∉ φ := fun z => by
  obtain ⟨vs, e⟩ := h a z
  rw [n] at e; cases e
theorem HR.nin (h : HR K φ Z η H) {a : Addr} (n : H a = none) : a ∉ φ := nl_of (fun _ hb => h.cells hb) n
theorem HR.ninZ (h : HR K φ Z η H) {a : Addr} (n : H a = none) : a ∉ Z := nl_of (fun _ hb => h.zin _ hb) n
theorem ext_new (h : HR K φ Z η H) {p : Addr} {o : HO} (n : H p = none) : Ext φ H φ (upd H p o) :=
  ⟨List.prefix_refl _, fun a u e _ => by rw [upd_ne (ne_of_none e n)]; exact e, fun _ _ _ q => q⟩
theorem ObR.ext (h : HR K φ Z η H) (x : Ext φ H φ' H') {a : Addr} {o : D.Ob} (e : H' a = H a) (r : ObR K φ Z H a o) : ObR K φ' Z H' a o := by
  cases o with
  | lst xs => obtain ⟨vs, e1, r⟩ := r; exact ⟨vs, e.trans e1, r.ext h x⟩
  | dct kvs => exact r.elim
/-- a new tracked object, no cell -/
theorem HR.new (h : HR K φ Z η H) {p : Addr} {o : HO} (n : H p = none) : HR K φ Z η (upd H p o) := by
  refine ⟨h.len, h.nd, h.dis, fun a ha => ?_, fun c a ob e1 e2 => ?_⟩
  · obtain ⟨vs, e⟩ := h.zin a ha
    exact ⟨vs, by rw [upd_ne (ne_of_none e n)]; exact e⟩
  · refine ObR.ext h (ext_new h n) ?_ (h.ob c a ob e1 e2)
    obtain ⟨vs, e⟩ := h.cells (List.mem_of_getElem? e1)
    rw [upd_ne (ne_of_none e n)]
/-- a reserved list becomes a list that stays -/
theorem HR.frees {p : Addr} (h : HR K φ (p :: Z) η H) : HR K φ Z η H ∧ (∀ {x : PV} {v : V}, RV K φ (p :: Z) H x v → RV K φ Z H x v) ∧ ∀ {x : List PV} {v : List V}, RVs K φ (p :: Z) H x v → RVs K φ Z H x v := by
  have one : ∀ {x : PV} {v : V}, RV K φ (p :: Z) H x v → RV K φ Z H x v := by
    intro x v r
    refine RV.rec (motive_1 := fun x v _ => RV K φ Z H x v) (motive_2 := fun x v _ => RVs K φ Z H x v) .non .bl .int .str (fun h _ r => .tup h r) (fun e h1 h2 _ r => .lst e h1 (fun z => h2 (List.mem_cons_of_mem _ z)) r) .cell .scr .nil (fun _ _ r t => .cons r t) r
  have all : ∀ {x : List PV} {v : List V}, RVs K φ (p :: Z) H x v → RVs K φ Z H x v := by
    intro x v r
    induction x generalizing v with
    | nil => cases r; exact .nil
    | cons y ys ih => cases r with | cons r t => exact .cons (one r) (ih t)
  refine ⟨⟨h.len, h.nd, fun a ha z => h.dis a ha (List.mem_cons_of_mem _ z), fun a ha => h.zin a (List.mem_cons_of_mem _ ha), fun c a o e1 e2 => ?_⟩, one, all⟩
  have r := h.ob c a o e1 e2
  cases o with
  | lst xs => obtain ⟨vs, e, r⟩ := r; exact ⟨vs, e, all r⟩
  | dct kvs => exact r.elim
/-- a new list is reserved -/
theorem HR.reserve (h : HR K φ Z η H) {p : Addr} {vs : List V} (n : H p = none) :
    HR K φ (p :: Z) η (upd H p (.lst vs)) ∧ (∀ {x : PV} {v : V}, RV K φ Z H x v → RV K φ (p :: Z) (upd H p (.lst vs)) x v) ∧ ∀ {x : List PV} {v : List V}, RVs K φ Z H x v → RVs K φ (p :: Z) (upd H p (.lst vs)) x v := by
  have x := ext_new h (p := p) (o := .lst vs) n
  have one : ∀ {y : PV} {v : V}, RV K φ Z H y v → RV K φ (p :: Z) (upd H p (.lst vs)) y v := by
    intro y v r
    refine RV.rec (motive_1 := fun x v _ => RV K φ (p :: Z) (upd H p (.lst vs)) x v) (motive_2 := fun x v _ => RVs K φ (p :: Z) (upd H p (.lst vs)) x v) .non .bl .int .str (fun e _ r => .tup (h.ktup x e) r)
      (fun e h1 h2 _ r => .lst (x.keep _ _ e h1) h1 (fun z => (List.mem_cons.mp z).elim (ne_of_none e n) h2) r) .cell (fun e => .scr (h.kscr x e)) .nil (fun _ _ r t => .cons r t) r
  have all : ∀ {y : List PV} {v : List V}, RVs K φ Z H y v → RVs K φ (p :: Z) (upd H p (.lst vs)) y v := by
    intro y v r
    induction y generalizing v with
    | nil => cases r; exact .nil
    | cons y ys ih => cases r with | cons r t => exact .cons (one r) (ih t)
  refine ⟨⟨h.len, h.nd, fun a ha z => (List.mem_cons.mp z).elim (fun e => h.nin n (e ▸ ha)) (h.dis a ha), fun a ha => ?_, fun c a o e1 e2 => ?_⟩, one, all⟩
  · rcases List.mem_cons.mp ha with rfl | ha
    · exact ⟨vs, upd_same⟩
    · obtain ⟨us, e⟩ := h.zin a ha
      exact ⟨us, by rw [upd_ne (ne_of_none e n)]; exact e⟩
  · have r := h.ob c a o e1 e2
    obtain ⟨us, e⟩ := h.cells (List.mem_of_getElem? e1)
    cases o with
    | lst xs => obtain ⟨us, e, r⟩ := r; exact ⟨us, by rw [upd_ne (ne_of_none e n)]; exact e, all r⟩
    | dct kvs => exact r.elim
/-- a reserved list becomes a cell -/
theorem HR.owns {p : Addr} {xs : List PV} {vs : List V} (h : HR K φ (p :: Z) η H) (e : H p = some (.lst vs)) (r : RVs K φ (p :: Z) H xs vs) (nz : p ∉ Z) :
    HR K (φ ++ [p]) Z (η ++ [.lst xs]) H ∧ ∀ {x : PV} {v : V}, RV K φ (p :: Z) H x v → RV K (φ ++ [p]) Z H x v := by
  have np : p ∉ φ := fun z => h.dis p z List.mem_cons_self
  have one : ∀ {x : PV} {v : V}, RV K φ (p :: Z) H x v → RV K (φ ++ [p]) Z H x v := by
    intro x v r
    refine RV.rec (motive_1 := fun x v _ => RV K (φ ++ [p]) Z H x v) (motive_2 := fun x v _ => RVs K (φ ++ [p]) Z H x v) .non .bl .int .str (fun h _ r => .tup h r)
      (fun e h1 h2 _ r => .lst e (fun z => (List.mem_append.mp z).elim h1 fun z => h2 (by rw [List.mem_singleton.mp z]; exact List.mem_cons_self)) (fun z => h2 (List.mem_cons_of_mem _ z)) r)
      (fun e => .cell (pre_get (List.prefix_append _ _) e)) .scr .nil (fun _ _ r t => .cons r t) r
  have all : ∀ {y : List PV} {v : List V}, RVs K φ (p :: Z) H y v → RVs K (φ ++ [p]) Z H y v := by
    intro y v r
    induction y generalizing v with
    | nil => cases r; exact .nil
    | cons y ys ih => cases r with | cons r t => exact .cons (one r) (ih t)
  refine ⟨⟨by simp [h.len], ?_, fun a ha z => ?_, fun a ha => h.zin a (List.mem_cons_of_mem _ ha), fun c a o e1 e2 => ?_⟩, one⟩
  · rw [List.nodup_append]
    exact ⟨h.nd, by simp, fun a ha b hb e => np (by rw [List.mem_singleton] at hb; rw [← hb, ← e]; exact ha)⟩
  · rcases List.mem_append.mp ha with ha | ha
    · exact h.dis a ha (List.mem_cons_of_mem _ z)
    · rw [List.mem_singleton.mp ha] at z; exact nz z
  · by_cases hc : c < φ.length
    · rw [List.getElem?_append_left hc] at e1
      rw [List.getElem?_append_left (by rw [← h.len]; exact hc)] at e2
      have r := h.ob c a o e1 e2
      cases o with
      | lst ys => obtain ⟨us, e, r⟩ := r; exact ⟨us, e, all r⟩
      | dct kvs => exact r.elim
    · rw [List.getElem?_append_right (by omega)] at e1
      rw [List.getElem?_append_right (by rw [← h.len]; omega), ← h.len] at e2
      cases k : c - φ.length with
      | zero =>
        rw [k] at e1 e2
        cases e1; cases e2
        exact ⟨vs, e, all r⟩
      | succ m => rw [k] at e1; cases e1
/-- a cell's object is changed -/
theorem HR.write (h : HR K φ Z η H) {c : Nat} {a : Addr} {xs : List PV} {vs : List V} (ec : φ[c]? = some a) (r : RVs K φ Z H xs vs) :
    HR K φ Z (η.set c (.lst xs)) (upd H a (.lst vs)) ∧ Ext φ H φ (upd H a (.lst vs)) := by
  have hm : a ∈ φ := List.mem_of_getElem? ec
  have x : Ext φ H φ (upd H a (.lst vs)) := ⟨List.prefix_refl _, fun b o e nb => by rw [upd_ne (by rintro rfl; exact nb hm)]; exact e, fun _ _ _ q => q⟩
  refine ⟨⟨by rw [List.length_set]; exact h.len, h.nd, h.dis, fun b hb => ?_, fun d b o e1 e2 => ?_⟩, x⟩
  · obtain ⟨us, e⟩ := h.zin b hb
    exact ⟨us, by rw [upd_ne (by rintro rfl; exact h.dis _ hm hb)]; exact e⟩
  · by_cases hd : c = d
    · subst hd
      rw [ec] at e1; cases e1
      have hl : c < η.length := by rw [← h.len]; exact (List.getElem?_eq_some_iff.mp ec).1
      rw [List.getElem?_set_self hl] at e2
      cases e2
      exact ⟨vs, upd_same, r.ext h x⟩
    · rw [List.getElem?_set_ne hd] at e2
      refine ObR.ext h x ?_ (h.ob d b o e1 e2)
      rw [upd_ne]
      intro z
      subst z
      exact hd (nodup_ix' h.nd ec e1)
where
  nodup_ix' {l : List Addr} (hN : l.Nodup) {i j : Nat} {x : Addr} (a : l[i]? = some x) (b : l[j]? = some x) : i = j := by
    obtain ⟨h1, e1⟩ := List.getElem?_eq_some_iff.mp a
    obtain ⟨h2, e2⟩ := List.getElem?_eq_some_iff.mp b
    exact (List.getElem_inj hN).mp (e1.trans e2.symm)
end DS
end

section
set_option Elab.async false
set_option linter.all false
set_option maxRecDepth 100000
set_option maxHeartbeats 4000000
namespace DS
open PySem PySem.Spec PyProof.Rows L2
theorem tuple_mul1 (l : Addr) (items : Array Value) (n : Nat) (dd : Option Addr) (sl : Array (Option Value)) (x : Int) (u : Tok) (c0 : (decide (x < -(2 ^ 63)) || decide (x ≥ 2 ^ 63)) = false) (c1 : (items.isEmpty || x == 1) = true) :
    Meets (Builtin.«tuple.__mul__» ⟨[.ref l, .int x u], []⟩) (fun _ R s => s.heap.get? l = some { cls := .type "tuple", dict := dd, data := .seq items n, slots := sl } ∧
      R (.ok (.ret (Value.ref l))) s) :=
  .of_wp fun prog w A R s h => by
    obtain ⟨hp, g, d, tk, os⟩ := s
    obtain ⟨hl, h⟩ := h
    have f1 := AutoSeq1.idx_int
    wp_walk using wpAny_loadPart' hl
    repeat (first
      | (refine wpAny_ite_false (decide_eq_false (by rw [c0]; exact Bool.false_ne_true)) ?_; wp_walk using wpAny_loadPart' hl)
      | (refine wpAny_ite_true (decide_eq_true (by rw [c1])) ?_; wp_walk using wpAny_loadPart' hl)
      )
    exact ⟨_, rfl, h⟩
theorem tuple_mul0 (l : Addr) (items : Array Value) (n : Nat) (dd : Option Addr) (sl : Array (Option Value)) (x : Int) (u : Tok) (c0 : (decide (x < -(2 ^ 63)) || decide (x ≥ 2 ^ 63)) = false) (c1 : (items.isEmpty || x == 1) = false) (c2 : (decide (x ≤ 0) || items.isEmpty) = true) :
    Meets (Builtin.«tuple.__mul__» ⟨[.ref l, .int x u], []⟩) (fun _ R s => s.heap.get? l = some { cls := .type "tuple", dict := dd, data := .seq items n, slots := sl } ∧
      R (.ok (.ret (Value.ref s.heap.objs.size))) { s with heap := s.heap.push { cls := Value.type "tuple", data := Data.seq #[] }, toks := s.toks }) :=
  .of_wp fun prog w A R s h => by
    obtain ⟨hp, g, d, tk, os⟩ := s
    obtain ⟨hl, h⟩ := h
    have f1 := AutoSeq1.idx_int
    wp_walk using wpAny_loadPart' hl
    repeat (first
      | (refine wpAny_ite_false (decide_eq_false (by rw [c0]; exact Bool.false_ne_true)) ?_; wp_walk using wpAny_loadPart' hl)
      | (refine wpAny_ite_false (decide_eq_false (by rw [c1]; exact Bool.false_ne_true)) ?_; wp_walk using wpAny_loadPart' hl)
      | (refine wpAny_ite_true (decide_eq_true (by rw [c2])) ?_; wp_walk using wpAny_loadPart' hl)
      )
    exact ⟨_, rfl, h⟩
def rRepS (K : PySem.W.Frag) : R2 := fun x y H Q => ∃ l k xs, x = .ref l ∧ y = .int k ∧ SqT K H l xs ∧ (xs = [] ∨ k = 1) ∧ -1000 ≤ k ∧ k ≤ 1000 ∧ Q (.ref l) H
def rRepZ (K : PySem.W.Frag) : R2 := fun x y H Q => ∃ l k xs, x = .ref l ∧ y = .int k ∧ SqT K H l xs ∧ xs ≠ [] ∧ k ≤ 0 ∧ -1000 ≤ k ∧ ∀ p, H p = none → Q (.ref p) (upd H p (.tup []))
theorem op_repS {X : Cx} : OpR X (binaryOp .Mult) (rRepS X.K) := by
  intro pins s σ H x y v u Q I rx ry h
  obtain ⟨l, k, xs, rfl, rfl, hT, hne, h1, h2, q⟩ := h
  cases rx
  obtain ⟨t, rfl⟩ := ry
  obtain ⟨its, r, ⟨⟨cls, dd, data, sl⟩, ho, hc, n, hd⟩, hs⟩ := I.tuple hT
  simp only at hc hd
  subst hc hd
  have c0 : (decide (k < -(2 ^ 63)) || decide (k ≥ 2 ^ 63)) = false := by
    rw [decide_eq_false (by omega), decide_eq_false (by omega)] <;> rfl
  have c1 : (its.toArray.isEmpty || k == 1) = true := by
    rcases hne with e | e
    · subst e
      have : its = [] := List.eq_nil_of_length_eq_zero r.length.symm
      subst this; rfl
    · subst e; simp
  refine wpAny_binaryOp_repeat_ref (T := "tuple") (U := "int") (by decide) ⟨_, ho, rfl⟩ (fun s' => typeIs_int s' k t) noFill_tuple_mul F.fills_int_mul F.slot_int_rmul repeat_tuple F.slot_int_index.lookup
    (call_meets F.slot_int_rmul (typeIs_int s k t) F.entry_int_rmul (F.args_int_rmul_2 _ _) (int_rmul_tuple k t l its.toArray n dd sl)
      ⟨ho, rfl, ⟨_, ho, rfl⟩, call_meets F.slot_tuple_mul ⟨_, ho, rfl⟩ F.entry_tuple_mul (F.args_tuple_mul_2 _ _) (tuple_mul1 l its.toArray n dd sl k t c0 c1) ⟨ho, ?_⟩⟩)
  exact ⟨.ref l, H, I, rfl, q⟩
theorem op_repZ {X : Cx} : OpR X (binaryOp .Mult) (rRepZ X.K) := by
  intro pins s σ H x y v u Q I rx ry h
  obtain ⟨l, k, xs, rfl, rfl, hT, hne, h1, h2, q⟩ := h
  cases rx
  obtain ⟨t, rfl⟩ := ry
  obtain ⟨its, r, ⟨⟨cls, dd, data, sl⟩, ho, hc, n, hd⟩, hs⟩ := I.tuple hT
  simp only at hc hd
  subst hc hd
  have hi : its.toArray.isEmpty = false := by
    cases its with
    | nil => exact absurd (List.eq_nil_of_length_eq_zero r.length) hne
    | cons a b => rfl
  have c0 : (decide (k < -(2 ^ 63)) || decide (k ≥ 2 ^ 63)) = false := by
    rw [decide_eq_false (by omega), decide_eq_false (by omega)] <;> rfl
  have c1 : (its.toArray.isEmpty || k == 1) = false := by
    rw [hi, Bool.false_or]
    exact beq_eq_false_iff_ne.mpr (by omega)
  have c2 : (decide (k ≤ 0) || its.toArray.isEmpty) = true := by
    rw [decide_eq_true h1]; rfl
  refine wpAny_binaryOp_repeat_ref (T := "tuple") (U := "int") (by decide) ⟨_, ho, rfl⟩ (fun s' => typeIs_int s' k t) noFill_tuple_mul F.fills_int_mul F.slot_int_rmul repeat_tuple F.slot_int_index.lookup
    (call_meets F.slot_int_rmul (typeIs_int s k t) F.entry_int_rmul (F.args_int_rmul_2 _ _) (int_rmul_tuple k t l its.toArray n dd sl)
      ⟨ho, rfl, ⟨_, ho, rfl⟩, call_meets F.slot_tuple_mul ⟨_, ho, rfl⟩ F.entry_tuple_mul (F.args_tuple_mul_2 _ _) (tuple_mul0 l its.toArray n dd sl k t c0 c1 c2) ⟨ho, ?_⟩⟩)
  refine ⟨.ref s.heap.objs.size, _, I.laid (t' := s.toks) (o := .tup []) (fun b ob q => Heap.get?_push_of_some _ q) (Nat.le_refl _) ?_, rfl, q _ (I.hok.fresh (Nat.le_refl _))⟩
  exact ⟨Nat.zero_le _, _, .nil, IsTup.new _ _⟩
end DS
end

section
set_option Elab.async false
set_option linter.all false
set_option maxRecDepth 100000
set_option maxHeartbeats 1000000
namespace DS
open PySem PySem.Spec PyProof.Rows L2

/-- the classes of exceptions: where each stands, its fields -/
abbrev Ct := Nat → Option (Addr × List Str)
def Exc (ct : Ct) (K : Fg) (Z φ : List Addr) (H : Hp) (c : Nat) (fs : List PV) (η' : D.Hp) (E : XK) : Prop :=
  ∃ C ns, ct c = some (C, ns) ∧ ∀ φ' H' d vs, Ext φ H φ' H' → HR K φ' Z η' H' → RVs K φ' Z H' fs vs → H' d = some (.xd (ns.zip vs)) → E (.ref C) (some d) H'
def Fin {α β : Type} (R : List Addr → Hp → α → β → Prop) (K : Fg) (Z φ : List Addr) (H : Hp) (a : α) (η' : D.Hp) (Q : β → Hp → Prop) : Prop :=
  ∀ φ' v H', Ext φ H φ' H' → HR K φ' Z η' H' → R φ' H' a v → Q v H'
def WP {α β : Type} (R : List Addr → Hp → α → β → Prop) (ct : Ct) (K : Fg) (Z φ : List Addr) (H : Hp) (r : D.Res α) (Q : β → Hp → Prop) (E : XK) : Prop :=
  match r with
  | .ok a η' => Fin R K Z φ H a η' Q
  | .exc c fs η' => Exc ct K Z φ H c fs η' E
  | .err => False
/-- a value; a list of values; a plain datum -/
abbrev rV (K : Fg) (Z : List Addr) : List Addr → Hp → PV → V → Prop := fun φ H => RV K φ Z H
abbrev rVs (K : Fg) (Z : List Addr) : List Addr → Hp → List PV → List V → Prop := fun φ H => RVs K φ Z H
abbrev rEq {α : Type} : List Addr → Hp → α → α → Prop := fun _ _ a b => a = b
def tG {α β : Type} (R : List Addr → Hp → α → β → Prop) (ct : Ct) (K : Fg) (Z : List Addr) (W : WX) (ev : D.Env → D.Hp → D.Res α) : L2.St → Hp → (β → Hp → Prop) → Prop :=
  fun σ H Q => ∃ φ ρ η, StR K φ Z ρ η σ H ∧ WP R ct K Z φ H (ev ρ η) Q (WE W σ)
abbrev tE (ct : Ct) (K : Fg) (Z : List Addr) (W : WX) (ev : D.Env → D.Hp → D.Res PV) : TE := tG (rV K Z) ct K Z W ev
abbrev tA (ct : Ct) (K : Fg) (Z : List Addr) (W : WX) (ev : D.Env → D.Hp → D.Res (List PV)) : TA := tG (rVs K Z) ct K Z W ev
abbrev tT (ct : Ct) (K : Fg) (Z : List Addr) (W : WX) (ev : D.Env → D.Hp → D.Res Bool) : TT := tG rEq ct K Z W ev

variable {ct : Ct} {K : Fg} {φ φ' φ'' Z : List Addr} {H H' H'' : Hp} {η η' : D.Hp} {ρ : D.Env} {σ : L2.St} {W : WX} {E : XK}
section
variable {α β γ δ : Type} {R : List Addr → Hp → α → β → Prop} {R' : List Addr → Hp → γ → δ → Prop}
theorem Fin.ext {a : α} {Q : β → Hp → Prop} (f : Fin R K Z φ H a η' Q) (x : Ext φ H φ' H') : Fin R K Z φ' H' a η' Q := fun φ'' v H'' x' h r => f φ'' v H'' (x.trans x') h r
theorem Exc.ext {c : Nat} {fs : List PV} (f : Exc ct K Z φ H c fs η' E) (x : Ext φ H φ' H') : Exc ct K Z φ' H' c fs η' E := by
  obtain ⟨C, ns, e, f⟩ := f
  exact ⟨C, ns, e, fun φ'' H'' d vs x' => f φ'' H'' d vs (x.trans x')⟩
theorem WP.ext {r : D.Res α} {Q : β → Hp → Prop} (f : WP R ct K Z φ H r Q E) (x : Ext φ H φ' H') : WP R ct K Z φ' H' r Q E := by
  cases r with
  | ok a η' => exact Fin.ext f x
  | exc c fs η' => exact Exc.ext f x
  | err => exact f
/-- THE STEP: a part's reading from the whole's -/
theorem tG.use {ev : D.Env → D.Hp → D.Res α} {f : α → D.Hp → D.Res γ} {Q : δ → Hp → Prop} (h : StR K φ Z ρ η σ H) (w : WP R' ct K Z φ H ((ev ρ η).bind f) Q (WE W σ)) :
    tG R ct K Z W ev σ H (fun v1 H1 => ∃ φ1 a η1, StR K φ1 Z ρ η1 σ H1 ∧ R φ1 H1 a v1 ∧ WP R' ct K Z φ1 H1 (f a η1) Q (WE W σ)) := by
  refine ⟨φ, ρ, η, h, ?_⟩
  cases e : ev ρ η with
  | ok a η1 =>
    rw [e] at w
    exact fun φ1 v H1 x h1 r => ⟨φ1, a, η1, h.ext x h1, r, WP.ext w x⟩
  | exc c fs η1 => rw [e] at w; exact w
  | err => rw [e] at w; exact w
theorem WP.now {a : α} {v : β} {Q : β → Hp → Prop} (w : WP R ct K Z φ H (.ok a η) Q E) (h : HR K φ Z η H) (r : R φ H a v) : Q v H := w φ v H .refl h r
theorem WP.of_opt {o : Option α} {Q : β → Hp → Prop} (w : WP R ct K Z φ H (D.Res.opt o η) Q E) : ∃ a, o = some a ∧ Fin R K Z φ H a η Q := by
  cases o with
  | none => exact w.elim
  | some a => exact ⟨a, rfl, w⟩
end
theorem _root_.L2.PE.mono {X : Cx} {e : Expr} {t t' : TE} (h : PE X e t) (hm : ∀ σ H Q, t' σ H Q → t σ H Q) : PE X e t' := ⟨fun pins s σ H Q I ht => h.run pins s σ H Q I (hm _ _ _ ht)⟩
theorem _root_.L2.PT.mono {X : Cx} {e : Expr} {t t' : TT} (h : PT X e t) (hm : ∀ σ H Q, t' σ H Q → t σ H Q) : PT X e t' := ⟨fun pins s σ H Q I ht => h.run pins s σ H Q I (hm _ _ _ ht)⟩
theorem _root_.L2.PA.mono {X : Cx} {e : List Expr} {t t' : TA} (h : PA X e t) (hm : ∀ σ H Q, t' σ H Q → t σ H Q) : PA X e t' := ⟨fun pos pins s σ H Q I ht => h.run pos pins s σ H Q I (hm _ _ _ ht)⟩
theorem _root_.L2.PS.mono {X : Cx} {e : Stmt} {t t' : TS} (h : PS X e t) (hm : ∀ D σ H, t' D σ H → t D σ H) : PS X e t' := ⟨fun pins s σ H D I ht => h.run pins s σ H D I (hm _ _ _ ht)⟩
theorem _root_.L2.PSs.mono {X : Cx} {e : List Stmt} {t t' : TS} (h : PSs X e t) (hm : ∀ D σ H, t' D σ H → t D σ H) : PSs X e t' := ⟨fun pins s σ H D I ht => h.run pins s σ H D I (hm _ _ _ ht)⟩

theorem fin_val {p : PV} {v : V} {Q : VK} (f : Fin (rV K Z) K Z φ H p η Q) (h : HR K φ Z η H) (r : RV K φ Z H p v) : Q v H := f φ v H .refl h r
theorem fin_lst {xs : List PV} {vs : List V} {Q : VK} (f : Fin (rV K Z) K Z φ H (.lst xs) η Q) (h : HR K φ Z η H) (r : RVs K φ Z H xs vs) : ∀ p, H p = none → Q (.ref p) (upd H p (.lst vs)) := fun p n =>
  f φ (.ref p) _ (ext_new h n) (h.new n) (.lst upd_same (h.nin n) (h.ninZ n) (r.ext h (ext_new h n)))
theorem fin_tup {xs : List PV} {vs : List V} {Q : VK} (f : Fin (rV K Z) K Z φ H (.tup xs) η Q) (h : HR K φ Z η H) (r : RVs K φ Z H xs vs) : ∀ p, H p = none → Q (.ref p) (upd H p (.tup vs)) := fun p n =>
  f φ (.ref p) _ (ext_new h n) (h.new n) (.tup (SqT.of upd_same) (r.ext h (ext_new h n)))

theorem vw_lst {x : PV} {v : V} {xs : List PV} (h : HR K φ Z η H) (r : RV K φ Z H x v) (e : D.vw η x = .lst xs) : ∃ a vs, v = .ref a ∧ H a = some (.lst vs) ∧ RVs K φ Z H xs vs := by
  cases r with
  | lst e1 h1 h2 hs =>
    simp only [D.vw, D.PV.lst.injEq] at e
    subst e
    exact ⟨_, _, rfl, e1, hs⟩
  | @cell c a ec =>
    simp only [D.vw] at e
    cases q : η[c]? with
    | none => rw [q] at e; simp [D.vwO] at e
    | some o =>
      rw [q] at e
      have ob := h.ob c a o ec q
      cases o with
      | lst ys =>
        simp only [D.vwO, D.PV.lst.injEq] at e
        subst e
        obtain ⟨vs, e1, r⟩ := ob
        exact ⟨_, _, rfl, e1, r⟩
      | dct kvs => exact ob.elim
  | _ => simp [D.vw] at e
theorem vw_tup {x : PV} {v : V} {xs : List PV} (h : HR K φ Z η H) (r : RV K φ Z H x v) (e : D.vw η x = .tup xs) : ∃ a vs, v = .ref a ∧ SqT K H a vs ∧ RVs K φ Z H xs vs := by
  cases r with
  | tup e1 hs =>
    simp only [D.vw, D.PV.tup.injEq] at e
    subst e
    exact ⟨_, _, rfl, e1, hs⟩
  | @cell c a ec =>
    simp only [D.vw] at e
    cases q : η[c]? with
    | none => rw [q] at e; simp [D.vwO] at e
    | some o => rw [q] at e; cases o <;> simp [D.vwO] at e
  | _ => simp [D.vw] at e
theorem vw_int {x : PV} {v : V} {i : Int} (r : RV K φ Z H x v) (e : D.vw η x = .int i) : v = .int i := by
  cases r with
  | int j => simp only [D.vw, D.PV.int.injEq] at e; rw [e]
  | @cell c a ec =>
    simp only [D.vw] at e
    cases q : η[c]? with
    | none => rw [q] at e; simp [D.vwO] at e
    | some o => rw [q] at e; cases o <;> simp [D.vwO] at e
  | _ => simp [D.vw] at e
theorem vw_str {x : PV} {v : V} {s : List Nat} (r : RV K φ Z H x v) (e : D.vw η x = .str s) : v = .str (stOf s) ∧ okS s := by
  cases r with
  | str hk => simp only [D.vw, D.PV.str.injEq] at e; subst e; exact ⟨rfl, hk⟩
  | @cell c a ec =>
    simp only [D.vw] at e
    cases q : η[c]? with
    | none => rw [q] at e; simp [D.vwO] at e
    | some o => rw [q] at e; cases o <;> simp [D.vwO] at e
  | _ => simp [D.vw] at e
/-- what is seen stands for the same -/
theorem RV.vw {x : PV} {v : V} (h : HR K φ Z η H) (r : RV K φ Z H x v) : (D.vw η x = x ∧ RV K φ Z H x v) ∨ ∃ xs a vs, D.vw η x = .lst xs ∧ v = .ref a ∧ H a = some (.lst vs) ∧ RVs K φ Z H xs vs := by
  cases r with
  | @cell c a ec =>
    cases q : η[c]? with
    | none => exact .inl ⟨by simp [D.vw, q, D.vwO], .cell ec⟩
    | some o =>
      have ob := h.ob c a o ec q
      cases o with
      | lst ys =>
        obtain ⟨vs, e1, r⟩ := ob
        exact .inr ⟨ys, a, vs, by simp [D.vw, q, D.vwO], rfl, e1, r⟩
      | dct kvs => exact ob.elim
  | non => exact .inl ⟨rfl, .non⟩
  | bl b => exact .inl ⟨rfl, .bl b⟩
  | int b => exact .inl ⟨rfl, .int b⟩
  | str b => exact .inl ⟨rfl, .str b⟩
  | tup a b => exact .inl ⟨rfl, .tup a b⟩
  | lst a b c d => exact .inl ⟨rfl, .lst a b c d⟩
  | scr a => exact .inl ⟨rfl, .scr a⟩

def opOf : D.Op → Operator
  | .add => .Add | .sub => .Sub | .mul => .Mult | .fdiv => .FloorDiv | .mod => .Mod | .pow => .Pow
/-- .. where a list is a new one -/
def FinN (K : Fg) (Z φ : List Addr) (H : Hp) (η : D.Hp) (Q : VK) : PV → Prop
  | .lst xs => ∀ p ws, H p = none → RVs K φ Z H xs ws → Q (.ref p) (upd H p (.lst ws))
  | z => Fin (rV K Z) K Z φ H z η Q
theorem Fin.new {z : PV} {Q : VK} (f : Fin (rV K Z) K Z φ H z η Q) (h : HR K φ Z η H) : FinN K Z φ H η Q z := by
  cases z with
  | lst xs => exact fun p ws n r => fin_lst f h r p n
  | _ => exact f
def rOp (K : Fg) (o : D.Op) : R2 := fun vx vy H Q => ∃ φ Z η x y z, HR K φ Z η H ∧ RV K φ Z H x vx ∧ RV K φ Z H y vy ∧ D.opV o (D.vw η x) (D.vw η y) = some z ∧ FinN K Z φ H η Q z
theorem stOf_app (s t : List Nat) : stOf s ++ stOf t = stOf (s ++ t) := by
  show (⟨s.toArray ++ t.toArray⟩ : Str) = ⟨(s ++ t).toArray⟩
  rw [List.append_toArray]
theorem stOf_len (s : List Nat) : (stOf s).length = s.length := by
  show s.toArray.size = s.length
  simp
theorem cap_lt {i : Int} (h : D.cap i = true) : -(2 ^ 64) < i ∧ i < 2 ^ 64 := by
  have := of_decide_eq_true h
  omega
theorem cap_nat {i : Int} (h : D.cap i = true) : i.natAbs < 2 ^ 64 := of_decide_eq_true h
section
variable {X : Cx}
theorem foldl_arr (l : List Nat) : ∀ (n : Nat) (acc : List Nat), (List.replicate n l.toArray).foldl (fun x1 x2 => x1 ++ x2) acc.toArray = (acc ++ (List.replicate n l).flatten).toArray
  | 0, acc => by simp
  | n + 1, acc => by
    rw [List.replicate_succ, List.foldl_cons, List.append_toArray, foldl_arr l n, List.replicate_succ, List.flatten_cons, List.append_assoc]
theorem mul_str' {pins : List (Addr × Obj)} {s : Shared} {σ : L2.St} {H : Hp} {Q : VK} {φ Z : List Addr} {η : D.Hp} {l : List Nat} {j : Int} {t u : Tok}
    (hc : j.natAbs < 1048576 ∧ l.length * j.toNat ≤ D.line) (hr : HR X.K φ Z η H) (k : okS l) (f : FinN X.K Z φ H η Q (.str (List.replicate j.toNat l).flatten)) (I : Inv X pins σ H s) :
    wpAny (model X.prog X.w) X.A (binaryOp .Mult (.str (stOf l) t) (.int j u)) (EP X pins σ Q) X.xe s := by
  obtain ⟨h1, h2⟩ := hc
  have h2' : l.length * j.toNat ≤ 16777216 := h2
  have hk : okS (List.replicate j.toNat l).flatten := by
    refine ⟨?_, fun c hc => ?_⟩
    · rw [PyProof.Rows.lm_len_rep_flat, Nat.mul_comm]; exact h2'
    · obtain ⟨m, hm, hc⟩ := List.mem_flatten.mp hc
      rw [List.eq_of_mem_replicate hm] at hc
      exact k.2 c hc
  have q := fin_val f hr (.str hk)
  refine PySem.P.mul_str ?_ (fun p1 p2 => ?_) (fun p1 p2 => ?_) ?_
  · rw [decide_eq_false (by omega), decide_eq_false (by omega)]; rfl
  · have hl := stOf_len l
    have hj : (0 : Int) < j := by omega
    intro z
    have z1 : ((2 : Int) ^ 63 - 1) / j < (stOf l).length := z
    rw [hl] at z1
    have z2 := (Int.ediv_lt_iff_lt_mul hj).mp z1
    have z3 : ((l.length : Nat) : Int) * j = ((l.length * j.toNat : Nat) : Int) := by
      rw [Int.natCast_mul, Int.toNat_of_nonneg (by omega)]
    omega
  · unfold Builtin.Str.tooLong
    rw [stOf_len, sizeLine_eq]
    exact decide_eq_false (by omega)
  · split
    · rename_i hn
      have e : j.toNat = 0 := by omega
      rw [e] at q
      exact ⟨by decide, ⟨.str _, H, I.tok _, ⟨_, rfl⟩, q⟩⟩
    · rename_i hn
      split
      · rename_i h3
        have e : (List.replicate j.toNat l).flatten = l := by
          rcases Bool.or_eq_true_iff.mp h3 with z | z
          · have : j = 1 := by simpa using z
            subst this
            simp
          · have : l.length = 0 := by rw [← stOf_len]; simpa using z
            have : l = [] := List.eq_nil_of_length_eq_zero this
            subst this
            simp
        rw [e] at q
        exact ⟨.str _, H, I, ⟨_, rfl⟩, q⟩
      · have e : (⟨(List.replicate j.toNat (stOf l).cps).foldl (· ++ ·) #[]⟩ : Str) = stOf (List.replicate j.toNat l).flatten := by
          have := foldl_arr l j.toNat []
          rw [List.nil_append] at this
          show (⟨(List.replicate j.toNat l.toArray).foldl (fun x1 x2 => x1 ++ x2) ([] : List Nat).toArray⟩ : Str) = _
          rw [this]; rfl
        rw [e]
        refine ⟨?_, ⟨.str _, H, I.tok _, ⟨_, rfl⟩, q⟩⟩
        first
          | trivial
          | (show (stOf _).length ≤ sizeLine; rw [stOf_len, sizeLine_eq]; exact hk.1)
          | skip
theorem bin_ok (o : D.Op) : OpR X (binaryOp (opOf o)) (rOp X.K o) := by
  intro pins s σ H x y v u Q I rx ry h
  obtain ⟨φ, Z, η, p, q, z, hr, rp, rq, e, f⟩ := h
  have hline : sizeLine = 16777216 := sizeLine_eq
  generalize ep : D.vw η p = p' at e
  generalize eq : D.vw η q = q' at e
  cases o with
  | add =>
    cases p' <;> cases q' <;> simp only [D.opV, reduceCtorEq, Option.some.injEq] at e
    · subst e
      have e1 := vw_int rp ep; have e2 := vw_int rq eq
      subst e1; subst e2
      exact op_add pins s σ H _ _ v u Q I rx ry ⟨_, _, rfl, rfl, fin_val f hr (.int _)⟩
    · split at e
      · cases e
        rename_i hl
        obtain ⟨e1, k1⟩ := vw_str rp ep; obtain ⟨e2, k2⟩ := vw_str rq eq
        subst e1; subst e2
        have hl' : _ := hl
        refine op_add_str pins s σ H _ _ v u Q I rx ry ⟨_, _, rfl, rfl, ?_, ?_⟩
        · rw [stOf_len, stOf_len, hline]; exact hl
        · rw [stOf_app]
          refine fin_val f hr (.str ⟨?_, fun c hc => ?_⟩)
          · rw [List.length_append]; exact hl
          · exact (List.mem_append.mp hc).elim (k1.2 c) (k2.2 c)
      · cases e
    · split at e
      · cases e
        rename_i hl
        obtain ⟨a, vs, rfl, t1, r1⟩ := vw_tup hr rp ep; obtain ⟨b, us, rfl, t2, r2⟩ := vw_tup hr rq eq
        have h0 : vs.length + us.length ≤ sizeLine := by rw [← r1.length, ← r2.length, hline]; exact hl
        have q1 := fin_tup f hr (r1.append r2)
        refine op_catA pins s σ H _ _ v u Q I rx ry ⟨a, b, vs, us, rfl, rfl, t1, t2, h0, ?_⟩
        refine ⟨fun e => ?_, fun e1 e2 => ?_, fun e1 e2 => q1⟩
        · subst e
          cases r1
          exact fin_val f hr (.tup t2 r2)
        · subst e2
          cases r2
          rw [List.append_nil] at f
          exact fin_val f hr (.tup t1 r1)
      · cases e
    · split at e
      · cases e
        rename_i hl
        obtain ⟨a, vs, rfl, t1, r1⟩ := vw_lst hr rp ep; obtain ⟨b, us, rfl, t2, r2⟩ := vw_lst hr rq eq
        have h0 : vs.length + us.length ≤ sizeLine := by rw [← r1.length, ← r2.length, hline]; exact hl
        exact op_cat pins s σ H _ _ v u Q I rx ry ⟨a, b, vs, us, rfl, rfl, t1, t2, h0, fun p n => f p _ n (r1.append r2)⟩
      · cases e
  | sub =>
    cases p' <;> cases q' <;> simp only [D.opV, reduceCtorEq, Option.some.injEq] at e
    subst e
    have e1 := vw_int rp ep; have e2 := vw_int rq eq
    subst e1; subst e2
    exact op_sub pins s σ H _ _ v u Q I rx ry ⟨_, _, rfl, rfl, fin_val f hr (.int _)⟩
  | mul =>
    cases p' <;> cases q' <;> simp only [D.opV, reduceCtorEq] at e
    · split at e
      · cases e
        rename_i hc
        have e1 := vw_int rp ep; have e2 := vw_int rq eq
        subst e1; subst e2
        refine op_mul pins s σ H _ _ v u Q I rx ry ⟨_, _, rfl, rfl, ?_, fin_val f hr (.int _)⟩
        rcases Bool.or_eq_true_iff.mp hc with h | h
        · exact .inl (cap_lt h)
        · exact .inr (cap_lt h)
      · cases e
    · split at e
      · cases e
        rename_i hc
        obtain ⟨e1, k1⟩ := vw_str rp ep
        have e2 := vw_int rq eq
        subst e1; subst e2
        obtain ⟨t, rfl⟩ := rx
        obtain ⟨t', rfl⟩ := ry
        exact mul_str' hc hr k1 f I
      · cases e
    · split at e
      · cases e
        rename_i hc
        obtain ⟨a, vs, rfl, t1, r1⟩ := vw_tup hr rp ep
        have e2 := vw_int rq eq
        subst e2
        obtain ⟨k1, k2, k3⟩ := hc
        rename_i xs j
        by_cases z1 : xs = [] ∨ j = 1
        · have e : (List.replicate j.toNat xs).flatten = xs := by
            rcases z1 with z | z
            · subst z; simp
            · subst z; simp
          rw [e] at f
          refine op_repS pins s σ H _ _ v u Q I rx ry ⟨a, _, vs, rfl, rfl, t1, z1.imp (fun z => ?_) id, k1, k2, fin_val f hr (.tup t1 r1)⟩
          subst z; cases r1; rfl
        · have z2 : vs ≠ [] := fun z => z1 (.inl (by subst z; cases r1; rfl))
          by_cases z3 : j ≤ 0
          · have e : (List.replicate j.toNat xs).flatten = [] := by
              have : j.toNat = 0 := by omega
              rw [this]; rfl
            rw [e] at f
            exact op_repZ pins s σ H _ _ v u Q I rx ry ⟨a, _, vs, rfl, rfl, t1, z2, z3, k1, fin_tup f hr .nil⟩
          · refine op_repT pins s σ H _ _ v u Q I rx ry ⟨a, _, vs, rfl, rfl, t1, z2, by omega, k2, ?_, fin_tup f hr (r1.replicate _)⟩
            rw [← r1.length]; exact k3
      · cases e
    · split at e
      · cases e
        rename_i hc
        obtain ⟨a, vs, rfl, t1, r1⟩ := vw_lst hr rp ep
        have e2 := vw_int rq eq
        subst e2
        have := hc.1
        exact op_rep pins s σ H _ _ v u Q I rx ry ⟨a, _, vs, rfl, rfl, t1, by omega, by omega, by rw [← r1.length, hline]; exact hc.2, fun p n => f p _ n (r1.replicate _)⟩
      · cases e
  | fdiv =>
    cases p' <;> cases q' <;> simp only [D.opV, reduceCtorEq] at e
    split at e
    · cases e
      rename_i hc
      have e1 := vw_int rp ep; have e2 := vw_int rq eq
      subst e1; subst e2
      exact op_fdivN pins s σ H _ _ v u Q I rx ry ⟨_, _, rfl, rfl, hc, fin_val f hr (.int _)⟩
    · cases e
  | mod =>
    cases p' <;> cases q' <;> simp only [D.opV, reduceCtorEq] at e
    split at e
    · cases e
      rename_i hc
      have e1 := vw_int rp ep; have e2 := vw_int rq eq
      subst e1; subst e2
      exact op_modN pins s σ H _ _ v u Q I rx ry ⟨_, _, rfl, rfl, hc, fin_val f hr (.int _)⟩
    · cases e
  | pow =>
    cases p' <;> cases q' <;> simp only [D.opV, reduceCtorEq] at e
    split at e
    · cases e
      rename_i hc
      have e1 := vw_int rp ep; have e2 := vw_int rq eq
      subst e1; subst e2
      exact op_pow pins s σ H _ _ v u Q I rx ry ⟨_, _, rfl, rfl, ⟨hc.1, by have := hc.2.1; omega, cap_nat hc.2.2⟩, fin_val f hr (.int _)⟩
    · cases e
end
end DS
end

section
set_option Elab.async false
set_option linter.all false
set_option maxRecDepth 100000
set_option maxHeartbeats 1000000
namespace DS
open PySem PySem.Spec PyProof.Rows L2

mutual
def toD : PV → PyData
  | .non => .none
  | .bl b => .bool b
  | .int i => .int i
  | .str s => .str (stOf s)
  | .tup xs => .tuple (toDs xs)
  | .lst xs => .list (toDs xs)
  | .cell _ => .none
  | .scr _ => .none
def toDs : List PV → List PyData
  | [] => []
  | x :: xs => toD x :: toDs xs
end
theorem toDs_map : ∀ xs : List PV, toDs xs = xs.map toD
  | [] => by simp [toDs]
  | x :: xs => by rw [toDs, toDs_map xs]; rfl
theorem stOf_inj {s t : List Nat} (h : stOf s = stOf t) : s = t := by
  have h1 : (stOf s).cps = (stOf t).cps := by rw [h]
  have h2 : s.toArray = t.toArray := h1
  simpa using congrArg Array.toList h2
theorem stOf_beq (s t : List Nat) : (stOf s == stOf t) = (s == t) := by
  rw [Bool.eq_iff_iff, beq_iff_eq, beq_iff_eq]
  exact ⟨stOf_inj, fun e => by rw [e]⟩
theorem noCells_all : ∀ xs : List PV, D.noCells xs = xs.all D.noCell
  | [] => by simp [D.noCells]
  | x :: xs => by rw [D.noCells, noCells_all xs]; rfl
theorem flat_noCell : ∀ (n : Nat) (x : PV), D.flat n x = true → D.noCell x = true := by
  intro n
  induction n with
  | zero => intro x h; cases x <;> simp_all [D.flat, D.noCell]
  | succ n ih =>
    intro x h
    cases x with
    | tup xs =>
      have h' : ∀ y ∈ xs, D.flat n y = true := by simpa [D.flat] using h
      rw [D.noCell, noCells_all, List.all_eq_true]
      exact fun y hy => ih y (h' y hy)
    | lst xs =>
      have h' : ∀ y ∈ xs, D.flat n y = true := by simpa [D.flat] using h
      rw [D.noCell, noCells_all, List.all_eq_true]
      exact fun y hy => ih y (h' y hy)
    | cell c => simp [D.flat] at h
    | scr c => simp [D.flat] at h
    | _ => simp [D.noCell]
theorem flat_depth : ∀ (n : Nat) (x : PV), D.flat n x = true → (toD x).depth ≤ n := by
  intro n
  have all : ∀ (m : Nat) (xs : List PV), (∀ y ∈ xs, (toD y).depth ≤ m) → PyData.depthAll (toDs xs) ≤ m := by
    intro m xs
    induction xs with
    | nil => intro _; simp [toDs, PyData.depthAll]
    | cons x xs ih =>
      intro h
      rw [toDs, PyData.depthAll]
      exact Nat.max_le.mpr ⟨h x List.mem_cons_self, ih fun y hy => h y (List.mem_cons_of_mem _ hy)⟩
  induction n with
  | zero => intro x h; cases x <;> simp_all [D.flat, toD, PyData.depth]
  | succ n ih =>
    intro x h
    cases x with
    | tup xs =>
      have h' : ∀ y ∈ xs, D.flat n y = true := by simpa [D.flat] using h
      rw [toD, PyData.depth]
      exact Nat.succ_le_succ (all n xs fun y hy => ih y (h' y hy))
    | lst xs =>
      have h' : ∀ y ∈ xs, D.flat n y = true := by simpa [D.flat] using h
      rw [toD, PyData.depth]
      exact Nat.succ_le_succ (all n xs fun y hy => ih y (h' y hy))
    | _ => simp [toD, PyData.depth]
mutual
theorem eqv_toD : ∀ (x y : PV), D.noCell x = true → D.noCell y = true → D.eqv x y = PyData.eqv (toD x) (toD y)
  | x, y, hx, hy => by
    cases x with
    | cell c => simp [D.noCell] at hx
    | scr c => simp [D.noCell] at hx
    | tup xs =>
      cases y with
      | cell c => simp [D.noCell] at hy
      | scr c => simp [D.noCell] at hy
      | tup ys =>
        simp only [D.noCell] at hx hy
        simp only [D.eqv, toD, PyData.eqv]
        exact eqvs_toD xs ys hx hy
      | _ => simp [D.eqv, toD, PyData.eqv]
    | lst xs =>
      cases y with
      | cell c => simp [D.noCell] at hy
      | scr c => simp [D.noCell] at hy
      | lst ys =>
        simp only [D.noCell] at hx hy
        simp only [D.eqv, toD, PyData.eqv]
        exact eqvs_toD xs ys hx hy
      | _ => simp [D.eqv, toD, PyData.eqv]
    | str s =>
      cases y with
      | cell c => simp [D.noCell] at hy
      | scr c => simp [D.noCell] at hy
      | str t => simp only [D.eqv, toD, PyData.eqv, stOf_beq]
      | _ => simp [D.eqv, toD, PyData.eqv]
    | _ =>
      cases y with
      | cell c => simp [D.noCell] at hy
      | scr c => simp [D.noCell] at hy
      | _ => simp [D.eqv, toD, PyData.eqv]
theorem eqvs_toD : ∀ (xs ys : List PV), D.noCells xs = true → D.noCells ys = true → D.eqvs xs ys = PyData.eqvAll (toDs xs) (toDs ys)
  | [], [], _, _ => by simp [D.eqvs, toDs, PyData.eqvAll]
  | [], _ :: _, _, _ => by simp [D.eqvs, toDs, PyData.eqvAll]
  | _ :: _, [], _, _ => by simp [D.eqvs, toDs, PyData.eqvAll]
  | x :: xs, y :: ys, hx, hy => by
    simp only [D.noCells, Bool.and_eq_true] at hx hy
    simp only [D.eqvs, toDs, PyData.eqvAll]
    rw [eqv_toD x y hx.1 hy.1, eqvs_toD xs ys hx.2 hy.2]
end
mutual
theorem alk_toD : ∀ (x y : PV), D.noCell x = true → D.noCell y = true → D.alk x y = PySem.W.alike (toD x) (toD y)
  | x, y, hx, hy => by
    cases x with
    | cell c => simp [D.noCell] at hx
    | scr c => simp [D.noCell] at hx
    | tup xs =>
      cases y with
      | cell c => simp [D.noCell] at hy
      | scr c => simp [D.noCell] at hy
      | tup ys =>
        simp only [D.noCell] at hx hy
        simp only [D.alk, toD, PySem.W.alike]
        exact alks_toD xs ys hx hy
      | _ => simp [D.alk, toD, PySem.W.alike]
    | lst xs =>
      cases y with
      | cell c => simp [D.noCell] at hy
      | scr c => simp [D.noCell] at hy
      | lst ys =>
        simp only [D.noCell] at hx hy
        simp only [D.alk, toD, PySem.W.alike]
        exact alks_toD xs ys hx hy
      | _ => simp [D.alk, toD, PySem.W.alike]
    | _ =>
      cases y with
      | cell c => simp [D.noCell] at hy
      | scr c => simp [D.noCell] at hy
      | _ => simp [D.alk, toD, PySem.W.alike]
theorem alks_toD : ∀ (xs ys : List PV), D.noCells xs = true → D.noCells ys = true → D.alks xs ys = PySem.W.alikeAll (toDs xs) (toDs ys)
  | [], [], _, _ => by simp [D.alks, toDs, PySem.W.alikeAll]
  | [], _ :: _, _, _ => by simp [D.alks, toDs, PySem.W.alikeAll]
  | _ :: _, [], _, _ => by simp [D.alks, toDs, PySem.W.alikeAll]
  | x :: xs, y :: ys, hx, hy => by
    simp only [D.noCells, Bool.and_eq_true] at hx hy
    simp only [D.alks, toDs, PySem.W.alikeAll]
    rw [alk_toD x y hx.1 hy.1, alks_toD xs ys hx.2 hy.2]
end
theorem ltS_lt : ∀ s t : List Nat, D.ltS s t = decide (s < t)
  | [], [] => by simp [D.ltS]
  | [], _ :: _ => by simp [D.ltS]
  | _ :: _, [] => by simp [D.ltS]
  | a :: s, b :: t => by
    rw [D.ltS, ltS_lt s t]
    by_cases h : a = b
    · subst h
      simp [List.cons_lt_cons_iff]
    · rw [if_neg h]
      simp [List.cons_lt_cons_iff, h]
theorem stOf_cps (s : List Nat) : (stOf s).cps.toList = s := by
  show s.toArray.toList = s
  simp
mutual
theorem ltb_toD : ∀ (x y : PV), D.noCell x = true → D.noCell y = true → D.alk x y = true → D.ltb x y = PySem.W.dataLt (toD x) (toD y)
  | x, y, hx, hy, ha => by
    cases x with
    | cell c => simp [D.noCell] at hx
    | scr c => simp [D.noCell] at hx
    | non =>
      cases y <;> simp [D.alk] at ha
      simp only [D.ltb, toD]
      exact (PyProof.Rows.lex_irrefl (O := PyProof.Rows.itemOrd) _).symm
    | bl b =>
      cases y with
      | bl c =>
        simp only [D.ltb, toD, PySem.W.dataLt_bool]
        cases b <;> cases c <;> decide
      | _ => simp [D.alk] at ha
    | int b =>
      cases y with
      | int c => simp only [D.ltb, toD, PySem.W.dataLt_int]
      | _ => simp [D.alk] at ha
    | str b =>
      cases y with
      | str c => simp only [D.ltb, toD, PySem.W.dataLt_str, stOf_cps, ltS_lt]
      | _ => simp [D.alk] at ha
    | tup xs =>
      cases y with
      | tup ys =>
        simp only [D.noCell, D.alk] at hx hy ha
        simp only [D.ltb, toD, PySem.W.dataLt_tuple]
        exact ltbs_toD xs ys hx hy ha
      | _ => simp [D.alk] at ha
    | lst xs =>
      cases y with
      | lst ys =>
        simp only [D.noCell, D.alk] at hx hy ha
        simp only [D.ltb, toD, PySem.W.dataLt_list]
        exact ltbs_toD xs ys hx hy ha
      | _ => simp [D.alk] at ha
theorem ltbs_toD : ∀ (xs ys : List PV), D.noCells xs = true → D.noCells ys = true → D.alks xs ys = true →
    D.ltbs xs ys = PyProof.Rows.lexLt PyProof.Rows.itemOrd (PySem.W.keyToksAll (toDs xs)) (PySem.W.keyToksAll (toDs ys))
  | [], [], _, _, _ => by simp [D.ltbs, toDs, PySem.W.keyToksAll, PyProof.Rows.lexLt, PyProof.Rows.itemLt]
  | [], y :: ys, _, _, _ => by simp [D.ltbs, toDs, PySem.W.keyToksAll, PyProof.Rows.lexLt, PyProof.Rows.itemLt]
  | x :: xs, [], _, _, _ => by simp [D.ltbs, toDs, PySem.W.keyToksAll, PyProof.Rows.lexLt, PyProof.Rows.itemLt]
  | x :: xs, y :: ys, hx, hy, ha => by
    simp only [D.noCells, D.alks, Bool.and_eq_true] at hx hy ha
    have ea : PySem.W.alike (toD x) (toD y) = true := by rw [← alk_toD x y hx.1 hy.1]; exact ha.1
    have ee := eqv_toD x y hx.1 hy.1
    rw [D.ltbs]
    simp only [toDs]
    by_cases e : D.eqv x y = true
    · rw [if_pos e, PySem.W.dataLt_all_yes ea (by rw [← ee]; exact e)]
      exact ltbs_toD xs ys hx.2 hy.2 ha.2
    · rw [if_neg e, PySem.W.dataLt_all_no ea (by rw [← ee]; simpa using e)]
      exact ltb_toD x y hx.1 hy.1 ha.1
end
mutual
theorem toD_inj : ∀ (x y : PV), D.noCell x = true → D.noCell y = true → toD x = toD y → x = y
  | x, y, hx, hy, h => by
    cases x with
    | cell c => simp [D.noCell] at hx
    | scr c => simp [D.noCell] at hx
    | tup xs =>
      cases y with
      | tup ys =>
        simp only [D.noCell] at hx hy
        simp only [toD, PyData.tuple.injEq] at h
        rw [toDs_inj xs ys hx hy h]
      | cell c => simp [D.noCell] at hy
      | scr c => simp [D.noCell] at hy
      | _ => simp [toD] at h
    | lst xs =>
      cases y with
      | lst ys =>
        simp only [D.noCell] at hx hy
        simp only [toD, PyData.list.injEq] at h
        rw [toDs_inj xs ys hx hy h]
      | cell c => simp [D.noCell] at hy
      | scr c => simp [D.noCell] at hy
      | _ => simp [toD] at h
    | str s =>
      cases y with
      | str t =>
        simp only [toD, PyData.str.injEq] at h
        rw [stOf_inj h]
      | cell c => simp [D.noCell] at hy
      | scr c => simp [D.noCell] at hy
      | _ => simp [toD] at h
    | _ =>
      cases y with
      | cell c => simp [D.noCell] at hy
      | scr c => simp [D.noCell] at hy
      | _ => first | rfl | (simp [toD] at h; done) | (simp [toD] at h; rw [h])
theorem toDs_inj : ∀ (xs ys : List PV), D.noCells xs = true → D.noCells ys = true → toDs xs = toDs ys → xs = ys
  | [], [], _, _, _ => rfl
  | [], _ :: _, _, _, h => by simp [toDs] at h
  | _ :: _, [], _, _, h => by simp [toDs] at h
  | x :: xs, y :: ys, hx, hy, h => by
    simp only [D.noCells, Bool.and_eq_true] at hx hy
    simp only [toDs, List.cons.injEq] at h
    rw [toD_inj x y hx.1 hy.1 h.1, toDs_inj xs ys hx.2 hy.2 h.2]
end

variable {ct : Ct} {K : Fg} {φ φ' φ'' Z : List Addr} {H H' H'' : Hp} {η η' : D.Hp} {ρ : D.Env} {σ : L2.St} {W : WX} {E : XK}
mutual
theorem RV.lay : ∀ {x : PV} {v : V}, RV K φ Z H x v → (toD x).canLay0 = true
  | _, _, .non => by simp [toD, PyData.canLay0]
  | _, _, .bl b => by simp [toD, PyData.canLay0]
  | _, _, .int i => by simp [toD, PyData.canLay0]
  | _, _, .str (s := t) hk => by
    rw [toD, PyData.canLay0]
    unfold PyData.strOk
    rw [Array.all_eq_true]
    intro i hi
    have hm : (stOf t).cps[i] ∈ (stOf t).cps.toList := by simp
    rw [stOf_cps] at hm
    exact decide_eq_true (hk.2 _ hm)
  | _, _, .tup _ hs => by rw [toD, PyData.canLay0]; exact RVs.lay hs
  | _, _, .lst _ _ _ hs => by rw [toD, PyData.canLay0]; exact RVs.lay hs
  | _, _, .cell _ => by simp [toD, PyData.canLay0]
  | _, _, .scr _ => by simp [toD, PyData.canLay0]
theorem RVs.lay : ∀ {x : List PV} {v : List V}, RVs K φ Z H x v → PyData.canLayAll0 (toDs x) = true
  | _, _, .nil => by simp [toDs, PyData.canLayAll0]
  | _, _, .cons r t => by
    rw [toDs, PyData.canLayAll0, Bool.and_eq_true]
    exact ⟨RV.lay r, RVs.lay t⟩
end
mutual
theorem RV.dp : ∀ {x : PV} {v : V}, RV K φ Z H x v → D.noCell x = true → Dp K H v (toD x)
  | _, _, .non, _ => .non
  | _, _, .bl b, _ => .bl b
  | _, _, .int i, _ => .int i
  | _, _, .str hk, _ => .str _
  | _, _, .tup e hs, h => .tup e (RVs.dp hs (by simpa [D.noCell] using h))
  | _, _, .lst e _ _ hs, h => .lst (SqL.of e) (RVs.dp hs (by simpa [D.noCell] using h))
  | _, _, .cell _, h => by simp [D.noCell] at h
  | _, _, .scr _, h => by simp [D.noCell] at h
theorem RVs.dp : ∀ {x : List PV} {v : List V}, RVs K φ Z H x v → D.noCells x = true → DpAll K H v (toDs x)
  | _, _, .nil, _ => .nil
  | _, _, .cons r t, h => by
    simp only [D.noCells, Bool.and_eq_true] at h
    exact .cons (RV.dp r h.1) (RVs.dp t h.2)
end
/-- a seen value as data -/
theorem vw_dp {x : PV} {v : V} {n : Nat} (h : HR K φ Z η H) (r : RV K φ Z H x v) (f : D.flat n (D.vw η x) = true) : Dp K H v (toD (D.vw η x)) ∧ (toD (D.vw η x)).canLay0 = true ∧ (toD (D.vw η x)).depth ≤ n := by
  have nc := flat_noCell n _ f
  have dp := flat_depth n _ f
  rcases RV.vw h r with ⟨e, r'⟩ | ⟨xs, a, vs, e, rfl, e1, rs⟩
  · rw [e] at nc dp ⊢
    exact ⟨r.dp nc, r.lay, dp⟩
  · rw [e] at nc dp ⊢
    have nc' : D.noCells xs = true := by simpa [D.noCell] using nc
    exact ⟨.lst (SqL.of e1) (rs.dp nc'), by rw [toD, PyData.canLay0]; exact rs.lay, dp⟩
theorem shaped_of {d : PyData} {n : Nat} (h : d.canLay0 = true) (hd : d.depth ≤ n) (hn : n ≤ 64) : SeqAt.shaped d = true := by
  unfold SeqAt.shaped
  rw [h, decide_eq_true (Nat.le_trans hd hn)]
  rfl

def cmOf : D.Cm → CmpOp
  | .eq => .Eq | .ne => .NotEq | .lt => .Lt | .le => .LtE | .gt => .Gt | .ge => .GtE | .isin => .In | .notin => .NotIn
def rCm (K : Fg) (o : D.Cm) : R2 := fun vx vy H Q => ∃ φ Z η x y b, HR K φ Z η H ∧ RV K φ Z H x vx ∧ RV K φ Z H y vy ∧ D.cmV o (D.vw η x) (D.vw η y) = some b ∧ Q (.bl b) H
section
variable {X : Cx}
theorem in_ok {n : Bool} (hu : X.A.units + 64 < cLine) {pins : List (Addr × Obj)} {s : Shared} {H : Hp} {v u : Value} {φ Z : List Addr} {η : D.Hp} {x y : PV} {vx vy : V} {b : Bool} {Qf : Value → Shared → Prop} {σ : L2.St}
    (I : Inv X pins σ H s) (rv : RelV vx v) (ru : RelV vy u) (hr : HR X.K φ Z η H) (rx : RV X.K φ Z H x vx) (ry : RV X.K φ Z H y vy) (e : D.isIn (D.vw η x) (D.vw η y) = some b) (q : Qf (.bool (if n then !b else b)) s) :
    wpAny (model X.prog X.w) X.A (compareOp (if n then .NotIn else .In) v u) Qf X.xe s := by
  generalize ey : D.vw η y = y' at e
  have two : ∀ {ys : List PV}, (if (D.flat 50 (D.vw η x) && ys.all (D.flat 50)) = true then some (ys.any fun z => D.eqv z (D.vw η x)) else none) = some b →
      D.flat 50 (D.vw η x) = true ∧ (∀ z ∈ ys, D.flat 50 z = true) ∧ b = ys.any fun z => D.eqv z (D.vw η x) := by
    intro ys h
    split at h
    · rename_i hc
      simp only [Bool.and_eq_true, List.all_eq_true] at hc
      exact ⟨hc.1, hc.2, (Option.some.inj h).symm⟩
    · cases h
  have anyD : ∀ {ys : List PV}, D.flat 50 (D.vw η x) = true → (∀ z ∈ ys, D.flat 50 z = true) → ((toDs ys).any fun z => PyData.eqv z (toD (D.vw η x))) = ys.any fun z => D.eqv z (D.vw η x) := by
    intro ys hx hy
    rw [toDs_map, List.any_map]
    rw [Bool.eq_iff_iff, List.any_eq_true, List.any_eq_true]
    constructor
    · rintro ⟨z, hz, h⟩
      exact ⟨z, hz, by rw [eqv_toD z _ (flat_noCell _ _ (hy z hz)) (flat_noCell _ _ hx)]; exact h⟩
    · rintro ⟨z, hz, h⟩
      exact ⟨z, hz, by rw [eqv_toD z _ (flat_noCell _ _ (hy z hz)) (flat_noCell _ _ hx)] at h; exact h⟩
  have room : ∀ {m : Nat}, X.A.units + 1 + min m (toD (D.vw η x)).depth < cLine → True := fun _ => trivial
  cases y' with
  | lst ys =>
    obtain ⟨hx, hy, rfl⟩ := two (by simpa [D.isIn] using e)
    obtain ⟨a, vs, rfl, e1, rs⟩ := vw_lst hr ry ey
    obtain ⟨dx, lx, px⟩ := vw_dp hr rx hx
    have nc : D.noCells ys = true := by rw [noCells_all, List.all_eq_true]; exact fun z hz => flat_noCell _ _ (hy z hz)
    obtain ⟨as, r1⟩ := Dp.reads I _ vx v dx rv
    obtain ⟨bs, r2⟩ := Dp.reads I (.list (toDs ys)) (.ref a) u (.lst (SqL.of e1) (rs.dp nc)) ru
    have hroom : X.A.units + 1 + min (PyData.depthAll (toDs ys)) (toD (D.vw η x)).depth < cLine := by
      have := Nat.min_le_right (PyData.depthAll (toDs ys)) (toD (D.vw η x)).depth
      omega
    cases n with
    | true => exact SeqAt.notIn_list_reads r2 r1 rs.lay lx hroom (by rw [anyD hx hy]; exact q)
    | false => exact SeqAt.in_list_reads r2 r1 rs.lay lx hroom (by rw [anyD hx hy]; exact q)
  | tup ys =>
    obtain ⟨hx, hy, rfl⟩ := two (by simpa [D.isIn] using e)
    obtain ⟨a, vs, rfl, e1, rs⟩ := vw_tup hr ry ey
    obtain ⟨dx, lx, px⟩ := vw_dp hr rx hx
    have nc : D.noCells ys = true := by rw [noCells_all, List.all_eq_true]; exact fun z hz => flat_noCell _ _ (hy z hz)
    obtain ⟨as, r1⟩ := Dp.reads I _ vx v dx rv
    obtain ⟨bs, r2⟩ := Dp.reads I (.tuple (toDs ys)) (.ref a) u (.tup e1 (rs.dp nc)) ru
    have hroom : X.A.units + 1 + min (PyData.depthAll (toDs ys)) (toD (D.vw η x)).depth < cLine := by
      have := Nat.min_le_right (PyData.depthAll (toDs ys)) (toD (D.vw η x)).depth
      omega
    cases n with
    | true => exact SeqAt.notIn_tuple_reads r2 r1 rs.lay lx hroom (by rw [anyD hx hy]; exact q)
    | false => exact SeqAt.in_tuple_reads r2 r1 rs.lay lx hroom (by rw [anyD hx hy]; exact q)
  | str t =>
    obtain ⟨rfl, kt⟩ := vw_str ry ey
    simp only [D.isIn] at e
    split at e
    · rename_i c ex
      obtain ⟨rfl, kx⟩ := vw_str rx ex
      cases e
      have ec : decide (c ∈ (stOf t).cps.toList) = t.contains c := by rw [stOf_cps]; simp [List.contains_eq_mem]
      obtain ⟨tk, rfl⟩ := rv
      obtain ⟨tk', rfl⟩ := ru
      have e2 := (PySem.StrLaws.found_one (stOf t) c).symm
      rw [ec] at e2
      cases n with
      | true =>
        refine PyProof.Rows.notIn_str ?_
        have e3 : (!(!(Builtin.Str.occurrences (stOf t) (stOf [c]) 0 (stOf t).length 1).isEmpty)) = !(t.contains c) := congrArg Bool.not e2.symm
        rw [e3]
        exact q
      | false =>
        refine PyProof.Rows.in_str ?_
        have e3 : (!(Builtin.Str.occurrences (stOf t) (stOf [c]) 0 (stOf t).length 1).isEmpty) = t.contains c := e2.symm
        rw [e3]
        exact q
    · cases e
  | _ => simp [D.isIn] at e
theorem cm_ok (hu : X.A.units + 64 < cLine) (o : D.Cm) : OpR X (compareOp (cmOf o)) (rCm X.K o) := by
  intro pins s σ H x y v u Q I rx ry h
  obtain ⟨φ, Z, η, p, q, b, hr, rp, rq, e, f⟩ := h
  have two : ∀ {k : Bool}, (if (D.flat 50 (D.vw η p) && D.flat 50 (D.vw η q)) = true then some k else none) = some b → D.flat 50 (D.vw η p) = true ∧ D.flat 50 (D.vw η q) = true ∧ b = k := by
    intro k h
    split at h
    · rename_i hc
      simp only [Bool.and_eq_true] at hc
      exact ⟨hc.1, hc.2, (Option.some.inj h).symm⟩
    · cases h
  have ord : ∀ {k : Bool}, (if D.ordOk (D.vw η p) (D.vw η q) = true then some k else none) = some b →
      b = k ∧ D.noCell (D.vw η p) = true ∧ D.noCell (D.vw η q) = true ∧ D.alk (D.vw η p) (D.vw η q) = true ∧
      ∃ as bs, Reads s.heap v (toD (D.vw η p)) as ∧ Reads s.heap u (toD (D.vw η q)) bs ∧ PySem.W.alike (toD (D.vw η p)) (toD (D.vw η q)) = true ∧ toD (D.vw η p) ≠ .none ∧ X.A.units + min (toD (D.vw η p)).depth (toD (D.vw η q)).depth < cLine := by
    intro k h
    split at h
    · rename_i hc
      simp only [D.ordOk, Bool.and_eq_true, Bool.not_eq_true'] at hc
      obtain ⟨⟨⟨h1, h2⟩, h3⟩, h4⟩ := hc
      obtain ⟨d1, l1, p1⟩ := vw_dp hr rp h1
      obtain ⟨d2, l2, p2⟩ := vw_dp hr rq h2
      obtain ⟨as, r1⟩ := Dp.reads I _ x v d1 rx
      obtain ⟨bs, r2⟩ := Dp.reads I _ y u d2 ry
      have n1 := flat_noCell _ _ h1
      have n2 := flat_noCell _ _ h2
      refine ⟨(Option.some.inj h).symm, n1, n2, h3, as, bs, r1, r2, by rw [← alk_toD _ _ n1 n2]; exact h3, ?_, ?_⟩
      · intro z
        cases ev : D.vw η p <;> rw [ev] at z n1 h4 <;> simp_all [toD, D.isNone, D.noCell]
      · have := Nat.min_le_left (toD (D.vw η p)).depth (toD (D.vw η q)).depth
        omega
    · cases h
  have alk_comm : D.noCell (D.vw η p) = true → D.noCell (D.vw η q) = true → D.alk (D.vw η p) (D.vw η q) = true → D.alk (D.vw η q) (D.vw η p) = true := fun n1 n2 h => by
    rw [alk_toD _ _ n2 n1, PySem.W.alike_comm, ← alk_toD _ _ n1 n2]; exact h
  cases o with
  | eq =>
    obtain ⟨h1, h2, rfl⟩ := two e
    obtain ⟨d1, l1, p1⟩ := vw_dp hr rp h1
    obtain ⟨d2, l2, p2⟩ := vw_dp hr rq h2
    refine op_eqD hu pins s σ H x y v u Q I rx ry ⟨_, _, d1, d2, shaped_of l1 p1 (by decide), shaped_of l2 p2 (by decide), ?_⟩
    rw [← eqv_toD _ _ (flat_noCell _ _ h1) (flat_noCell _ _ h2)]; exact f
  | ne =>
    obtain ⟨h1, h2, rfl⟩ := two e
    obtain ⟨d1, l1, p1⟩ := vw_dp hr rp h1
    obtain ⟨d2, l2, p2⟩ := vw_dp hr rq h2
    refine op_neD hu pins s σ H x y v u Q I rx ry ⟨_, _, d1, d2, shaped_of l1 p1 (by decide), shaped_of l2 p2 (by decide), ?_⟩
    rw [← eqv_toD _ _ (flat_noCell _ _ h1) (flat_noCell _ _ h2)]; exact f
  | lt =>
    obtain ⟨rfl, n1, n2, ha, as, bs, r1, r2, al, nn, hq⟩ := ord e
    exact PySem.W.lt_data r1 r2 al nn hq (fin_bl I f (ltb_toD _ _ n1 n2 ha))
  | gt =>
    obtain ⟨rfl, n1, n2, ha, as, bs, r1, r2, al, nn, hq⟩ := ord e
    exact PySem.W.gt_data r1 r2 al nn hq (fin_bl I f (ltb_toD _ _ n2 n1 (alk_comm n1 n2 ha)))
  | le =>
    obtain ⟨rfl, n1, n2, ha, as, bs, r1, r2, al, nn, hq⟩ := ord e
    exact PySem.W.le_data r1 r2 al nn hq (fin_bl I f (by rw [ltb_toD _ _ n2 n1 (alk_comm n1 n2 ha)]))
  | ge =>
    obtain ⟨rfl, n1, n2, ha, as, bs, r1, r2, al, nn, hq⟩ := ord e
    exact PySem.W.ge_data r1 r2 al nn hq (fin_bl I f (by rw [ltb_toD _ _ n1 n2 ha]))
  | isin => exact in_ok (n := false) hu I rx ry hr rp rq e (fin_bl I f rfl)
  | notin =>
    simp only [D.cmV, Option.map_eq_some_iff] at e
    obtain ⟨k, e, rfl⟩ := e
    exact in_ok (n := true) hu I rx ry hr rp rq e (fin_bl I f rfl)
end
end DS
end

section
set_option Elab.async false
set_option linter.all false
set_option maxRecDepth 100000
set_option maxHeartbeats 1000000
namespace DS
open PySem PySem.Spec PyProof.Rows L2
variable {ct : Ct} {K : Fg} {φ φ' φ'' Z : List Addr} {H H' H'' : Hp} {η η' : D.Hp} {ρ : D.Env} {σ : L2.St} {W : WX} {E : XK}

theorem RVs.isEmpty {xs : List PV} {vs : List V} (r : RVs K φ Z H xs vs) : xs.isEmpty = vs.isEmpty := by
  cases r <;> rfl
theorem ob_lst {c : Nat} {a : Addr} {o : D.Ob} (h : HR K φ Z η H) (ec : φ[c]? = some a) (q : η[c]? = some o) : ∃ xs vs, o = .lst xs ∧ H a = some (.lst vs) ∧ RVs K φ Z H xs vs := by
  have ob := h.ob c a o ec q
  cases o with
  | lst ys => obtain ⟨vs, e1, r⟩ := ob; exact ⟨ys, vs, rfl, e1, r⟩
  | dct kvs => exact ob.elim
theorem truV_of {x : PV} {v : V} {b : Bool} (h : HR K φ Z η H) (r : RV K φ Z H x v) (e : D.truth η x = some b) : TruV K v H b := by
  cases r with
  | non => simp only [D.truth, Option.some.injEq] at e; exact e.symm
  | bl b => simp only [D.truth, Option.some.injEq] at e; exact e.symm
  | int i => simp only [D.truth, Option.some.injEq] at e; exact e.symm
  | @str s hk =>
    simp only [D.truth, Option.some.injEq] at e
    refine ⟨by rw [stOf_len, sizeLine_eq]; exact hk.1, ?_⟩
    rw [stOf_len, ← e]
    cases s with
    | nil => rfl
    | cons a l =>
      show true = _
      symm
      rw [bne_iff_ne, List.length_cons]
      omega
  | tup ht hs =>
    simp only [D.truth, Option.some.injEq] at e
    exact .inr (.inl ⟨_, ht, by rw [← e, hs.isEmpty]⟩)
  | lst hl h1 h2 hs =>
    simp only [D.truth, Option.some.injEq] at e
    exact .inl ⟨_, SqL.of hl, by rw [← e, hs.isEmpty]⟩
  | @cell c a ec =>
    simp only [D.truth] at e
    cases q : η[c]? with
    | none => rw [q] at e; simp [D.truthO] at e
    | some o =>
      rw [q] at e
      obtain ⟨xs, vs, rfl, e1, rs⟩ := ob_lst h ec q
      simp only [D.truthO, Option.some.injEq] at e
      exact .inl ⟨_, SqL.of e1, by rw [← e, rs.isEmpty]⟩
  | scr => simp [D.truth] at e

theorem ixN_eq (n : Nat) (i : Int) : D.ixN n i = L2.ixN n i := rfl
def rIdx (K : Fg) : R2 := fun vx vy H Q => ∃ φ Z η x y z, HR K φ Z η H ∧ RV K φ Z H x vx ∧ RV K φ Z H y vy ∧ D.idxV η x y = some z ∧ Fin (rV K Z) K Z φ H z η Q
theorem atI_vs {xs : List PV} {vs : List V} {i : Int} {z : PV} (r : RVs K φ Z H xs vs) (e : D.atI xs i = some z) : ∃ v, L2.atI vs i = some v ∧ RV K φ Z H z v := by
  unfold D.atI at e
  cases q : D.ixN xs.length i with
  | none => rw [q] at e; cases e
  | some j =>
    rw [q] at e
    obtain ⟨v, e1, r1⟩ := r.get (show xs[j]? = some z from e)
    refine ⟨v, ?_, r1⟩
    unfold L2.atI
    rw [← ixN_eq, ← r.length, q]
    exact e1
theorem idx_ok {X : Cx} : IxR X (rIdx X.K) := by
  intro value slice pins s σ H x y v u Q I rx ry h hs
  obtain ⟨φ, Z, η, p, q, z, hr, rp, rq, e, f⟩ := h
  cases rp with
  | tup ht ts =>
    cases rq <;> simp only [D.idxV, reduceCtorEq] at e
    obtain ⟨w, e1, r1⟩ := atI_vs ts e
    exact ix_tup value slice pins s σ H _ _ v u Q I rx ry ⟨_, _, _, _, rfl, rfl, ht, e1, fin_val f hr r1⟩ hs
  | lst hl h1 h2 ts =>
    cases rq <;> simp only [D.idxV, reduceCtorEq] at e
    obtain ⟨w, e1, r1⟩ := atI_vs ts e
    exact ix_list value slice pins s σ H _ _ v u Q I rx ry ⟨_, _, _, _, rfl, rfl, SqL.of hl, e1, fin_val f hr r1⟩ hs
  | @cell c a ec =>
    simp only [D.idxV] at e
    cases qc : η[c]? with
    | none => rw [qc] at e; simp [D.idxO] at e
    | some o =>
      rw [qc] at e
      obtain ⟨xs, vs, rfl, e2, rs⟩ := ob_lst hr ec qc
      cases rq <;> simp only [D.idxO, reduceCtorEq] at e
      obtain ⟨w, e1, r1⟩ := atI_vs rs e
      exact ix_list value slice pins s σ H _ _ v u Q I rx ry ⟨_, _, _, _, rfl, rfl, SqL.of e2, e1, fin_val f hr r1⟩ hs
  | @str s hk =>
    cases rq <;> simp only [D.idxV, reduceCtorEq, Option.map_eq_some_iff] at e
    obtain ⟨c, e1, rfl⟩ := e
    have e2 := e1
    rw [← stOf_cps s] at e2
    have hm : c ∈ s := by
      obtain ⟨j, _, e3⟩ := Option.bind_eq_some_iff.mp (show (D.ixN s.length _).bind (fun j => s[j]?) = some c from e1)
      exact List.mem_of_getElem? e3
    refine ix_str value slice pins _ σ H _ _ v u Q I rx ry ⟨_, _, c, rfl, rfl, by rw [stOf_len, sizeLine_eq]; exact hk.1, e2, ?_⟩ hs
    exact fin_val f hr (.str (s := [c]) ⟨by show 1 ≤ 16777216; decide, fun d hd => by rw [List.mem_singleton.mp hd]; exact hk.2 c hm⟩)
  | _ => cases rq <;> simp [D.idxV] at e

theorem sIx_eq (n d : Nat) (o : Option Int) : D.sIx n d o = HT.sIx n d o := by cases o <;> rfl
theorem cut_vs {xs : List PV} {vs : List V} (r : RVs K φ Z H xs vs) (lo hi : Option Int) : RVs K φ Z H (D.cut xs lo hi) (cutV vs lo hi) := by
  unfold D.cut cutV
  rw [sIx_eq, sIx_eq, r.length]
  exact (r.drop _).take _
def rSlc (K : Fg) : V → Option Int → Option Int → Hp → VK → Prop := fun vx lo hi H Q => ∃ φ Z η x z, HR K φ Z η H ∧ RV K φ Z H x vx ∧ D.slcV lo hi (D.vw η x) = some z ∧ FinN K Z φ H η Q z
theorem cutS_stOf (s : List Nat) (lo hi : Option Int) : cutS (stOf s) lo hi = stOf (D.cut s lo hi) := by
  unfold cutS D.cut
  rw [stOf_cps, stOf_len, sIx_eq, sIx_eq]
  rfl
theorem cut_sub {α : Type} (s : List α) (lo hi : Option Int) : (D.cut s lo hi).length ≤ s.length ∧ ∀ c ∈ D.cut s lo hi, c ∈ s := by
  unfold D.cut
  refine ⟨by rw [List.length_take, List.length_drop]; omega, fun c hc => List.mem_of_mem_drop (List.mem_of_mem_take hc)⟩
theorem slc_ok {X : Cx} : SlR X (rSlc X.K) := by
  intro pins s σ H x v vl vu lo hi sl Q I rx hs pl pu h
  obtain ⟨φ, Z, η, p, z, hr, rp, e, f⟩ := h
  generalize ep : D.vw η p = p' at e
  cases p' <;> simp only [D.slcV, reduceCtorEq, Option.some.injEq] at e
  · subst e
    obtain ⟨rfl, k⟩ := vw_str rp ep
    refine sl_str pins s σ H _ v vl vu lo hi sl Q I rx hs pl pu ⟨_, rfl, by rw [stOf_len, sizeLine_eq]; exact k.1, ?_⟩
    rw [cutS_stOf]
    obtain ⟨h1, h2⟩ := cut_sub ‹List Nat› lo hi
    exact fin_val f hr (.str ⟨Nat.le_trans h1 k.1, fun c hc => k.2 c (h2 c hc)⟩)
  · subst e
    obtain ⟨a, vs, rfl, t1, r1⟩ := vw_tup hr rp ep
    refine sl_tupA pins s σ H _ v vl vu lo hi sl Q I rx hs pl pu ⟨a, vs, rfl, t1, fun hw => ?_, fun _ => fin_tup f hr (cut_vs r1 lo hi)⟩
    refine fin_val f hr (.tup t1 ?_)
    have q := cut_vs r1 lo hi
    have e : cutV vs lo hi = vs := by
      unfold cutV
      rw [hw.1, hw.2]
      simp
    rw [e] at q
    exact q
  · subst e
    obtain ⟨a, vs, rfl, t1, r1⟩ := vw_lst hr rp ep
    exact sl_list pins s σ H _ v vl vu lo hi sl Q I rx hs pl pu ⟨a, vs, rfl, SqL.of t1, fun p n => f p _ n (cut_vs r1 lo hi)⟩
end DS
end

section
set_option Elab.async false
set_option linter.all false
set_option maxRecDepth 100000
set_option maxHeartbeats 1000000
namespace HT
open PySem PySem.Spec PyProof.Rows
section
variable {prog : Program} {w : World} {A : Around} {E : Value → Shared → Prop} {s : Shared}
theorem filterMap_congr' {α β : Type} {f g : α → Option β} : ∀ {xs : List α}, (∀ x ∈ xs, f x = g x) → xs.filterMap f = xs.filterMap g
  | [], _ => rfl
  | x :: xs, h => by
    rw [List.filterMap_cons, List.filterMap_cons, h x List.mem_cons_self, filterMap_congr' fun y hy => h y (List.mem_cons_of_mem _ hy)]
theorem rev_items (its : Array Value) : (List.range its.size).filterMap (fun (k : Nat) => its[(((its.size : Int) - 1) + (k : Int) * (-1)).toNat]?) = its.toList.reverse := by
  have h : ∀ n, n = its.size → (List.range n).filterMap (fun (k : Nat) => its[(((its.size : Int) - 1) + (k : Int) * (-1)).toNat]?) = (List.range n).reverse.filterMap (its[·]?) := fun n hn => by
    rw [← PySem.W.krv_range, List.filterMap_map]
    refine filterMap_congr' fun k hk => ?_
    have := List.mem_range.mp hk
    show its[((its.size : Int) - 1 + (k : Int) * (-1)).toNat]? = its[n - 1 - k]?
    congr 1
    omega
  rw [h _ rfl, List.filterMap_reverse, PySem.W.krv_all]
theorem places_rev (n : Nat) : Builtin.Slice.slicePlaces ((n : Int) - 1) (-1) (-1) = n := by
  unfold Builtin.Slice.slicePlaces
  split <;> simp_all <;> omega
theorem sliceApplied_rev {sl : Addr} {u : Tok} {n : Nat} {Q : Int × Int × Nat → Shared → Prop} (hs : s.heap.IsSliceOf sl .none .none (.int (-1) u))
    (h : Q ((n : Int) - 1, -1, n) s) : wpAny (model prog w) A (Builtin.Slice.sliceApplied (.ref sl) (pure (n : Int))) Q E s := by
  obtain ⟨os, hos, hcs, hds⟩ := id hs
  unfold Builtin.Slice.sliceApplied Builtin.Slice.sliceFields
  refine wpAny_bind (wpAny_bind (wpAny_field hos hds (x := .none) rfl (wpAny_bind (wpAny_field hos hds (x := .none) rfl (wpAny_bind (wpAny_field hos hds (x := .int (-1) u) rfl (wpAny_pure ?_)))))))
  refine wpAny_bind (slicePart_int ?_)
  show wpAny _ _ (if ((-1 : Int) == 0) = true then _ else _) _ _ s
  rw [if_neg (by decide)]
  refine wpAny_bind (slicePart_none (wpAny_bind (slicePart_none (wpAny_bind (wpAny_pure ?_)))))
  show wpAny _ _ (match Builtin.Slice.sliceAdjust none none (-1) (n : Int) with | (lo, hi) => pure (lo, (-1 : Int), Builtin.Slice.slicePlaces lo hi (-1))) _ _ s
  have e : Builtin.Slice.sliceAdjust none none (-1) (n : Int) = ((n : Int) - 1, -1) := rfl
  rw [e]
  show wpAny _ _ (pure ((n : Int) - 1, (-1 : Int), Builtin.Slice.slicePlaces ((n : Int) - 1) (-1) (-1))) _ _ s
  rw [places_rev]
  exact wpAny_pure h
theorem getItem_tuple_rev {t sl : Addr} {items : Array Value} {u : Tok} {Q : Value → Shared → Prop} (ht : IsTup s.heap t items) (hs : s.heap.IsSliceOf sl .none .none (.int (-1) u))
    (h : Q (.ref s.heap.objs.size) { s with heap := s.heap.push { cls := .type "tuple", data := .seq items.toList.reverse.toArray } })
    (hsz : items.size ≤ sizeLine) : wpAny (model prog w) A (getItem (.ref t) (.ref sl)) Q E s := by
  have htake : sizeOk (.seq items.toList.reverse.toArray) := by
    show items.toList.reverse.toArray.size ≤ sizeLine
    rw [List.size_toArray, List.length_reverse, Array.length_toList]; exact hsz
  obtain ⟨os, hos, hcs, hds⟩ := id hs
  have hTs : s.TypeIs (.ref sl) "slice" := ⟨os, hos, hcs⟩
  unfold getItem
  try with_reducible refine wpAny_holding ?_
  first | refine wpAny_bind (wpAny_pure ?_) | skip
  refine wpAny_bind (wpAny_sequenceKey ht.typeIs (by decide) ?_)
  refine wpAny_bind (wpAny_callSpecial?_slot (name := Str.ofString "__getitem__") ht.typeIs PyProof.Rows.slot_tuple_getitem
    (wpAny_call_entry PyProof.Rows.slot_tuple_getitem ht.typeIs entry_tuple_getitem ?_ (args_tuple_getitem _ _)))
  show wpAny _ _ (Builtin.Tuple.tupleItemsOf (.ref t) >>= _) _ _ s
  refine wpAny_bind (tupleItemsOf_ ht ?_)
  refine wpAny_bind (wpAny_typeOf hTs ?_)
  rw [if_pos (by decide)]
  refine wpAny_bind (sliceApplied_rev hs ?_)
  have hno : ¬ ((((items.size : Int) - 1) == 0 && (-1 : Int) == 1 && items.size == items.size) = true) := by
    intro q
    rw [Bool.and_eq_true, Bool.and_eq_true] at q
    exact absurd q.1.2 (by decide)
  show wpAny _ _ (if (((items.size : Int) - 1) == 0 && (-1 : Int) == 1 && items.size == items.size) = true then _ else _) _ _ s
  rw [if_neg hno, rev_items]
  first
    | exact wpAny_bind (m := Builtin.Tuple.tupleExact _) (wpAny_newObj_type (wpAny_pure ⟨_, rfl, wpAny_pure h⟩) htake)
    | exact wpAny_bind (m := Builtin.Tuple.tupleExact _) (wpAny_newObj_type (wpAny_bind (wpAny_pure (wpAny_pure ⟨_, rfl, wpAny_pure h⟩))) htake)
    | exact wpAny_bind (wpAny_bind (m := Builtin.Tuple.tupleExact _) (wpAny_newObj_type (wpAny_pure (wpAny_pure ⟨_, rfl, wpAny_pure h⟩)) htake))
    | exact wpAny_bind (wpAny_bind (m := Builtin.Tuple.tupleExact _) (wpAny_newObj_type (wpAny_pure ⟨_, rfl, wpAny_pure h⟩) htake))
end
end HT
namespace DS
open PySem PySem.Spec PyProof.Rows L2
variable {K : Fg} {φ φ' φ'' Z : List Addr} {H H' H'' : Hp} {η η' : D.Hp}
theorem RVs.reverse : ∀ {xs : List PV} {vs : List V}, RVs K φ Z H xs vs → RVs K φ Z H xs.reverse vs.reverse
  | _, _, .nil => .nil
  | _, _, .cons r t => by
    rw [List.reverse_cons, List.reverse_cons]
    exact (RVs.reverse t).append (.cons r .nil)
theorem rev_codes (l : List Nat) : (Builtin.Str.strSliceIndices none none (-1) (stOf l).length).filterMap ((stOf l).cps[·]?) = l.reverse := by
  have e : Builtin.Str.strSliceIndices none none (-1) (stOf l).length = sliceRange (((stOf l).length : Int) - 1) (-1) (-1) := rfl
  rw [e, PySem.W.krv_sliceRange, PySem.W.krv_range, List.filterMap_reverse]
  have := PySem.W.krv_all (stOf l).cps
  have h2 : (stOf l).length = (stOf l).cps.size := rfl
  rw [h2, this]
  show l.toArray.toList.reverse = _
  simp
def rBwd (K : Fg) : V → Hp → VK → Prop := fun vx H Q => ∃ φ Z η x z, HR K φ Z η H ∧ RV K φ Z H x vx ∧ D.bwdV (D.vw η x) = some z ∧ FinN K Z φ H η Q z
theorem _root_.L2.pe_bwd {X : Cx} {e : Expr} {te : TE} {k : Nat} {p1 p2 p3 pos : Pos} (he : PE X e te) : PE X (.Subscript e (.Slice none none (some (.UnaryOp .USub (.Constant (.int 1) k p1) p2)) p3) pos) (fun σ H Q => te σ H fun x H1 => rBwd X.K x H1 Q) := by
  refine ⟨fun pins s σ H Q I h => ?_⟩
  refine Subscript_ (thn (he.run pins s σ H _ I h) fun v s1 ⟨x, H1, I1, r1, q1⟩ => ?_)
  have hst : PO X (some (.UnaryOp .USub (.Constant (.int 1) k p1) p2)) (tPart (tUn (rU fun i => .int (-i)) (tC (.int 1)))) := po_some (pe_un un_neg pe_int)
  refine wpAny_Slice (thn (po_none.run pins s1 σ H1 (fun o H2 => o = none ∧ H2 = H1) I1 ⟨rfl, rfl⟩) fun vl s2 ⟨l, H2, I2, pl, el, e2⟩ => ?_)
  subst el e2
  refine thn (po_none.run pins s2 σ H2 (fun o H3 => o = none ∧ H3 = H2) I2 ⟨rfl, rfl⟩) fun vu s3 ⟨u, H3, I3, pu, eu, e3⟩ => ?_
  subst eu e3
  refine thn (hst.run pins s3 σ H3 (fun o H4 => o = some (-1) ∧ H4 = H3) I3 ⟨1, rfl, -1, rfl, rfl, rfl⟩) fun vs s4 ⟨o, H4, I4, ps, eo, e4⟩ => ?_
  subst eo e4
  have I5 : Inv X pins σ H4 { s4 with heap := s4.heap.push { cls := .type "slice", data := .fields #[vl, vu, vs] } } := I4.kept (t' := s4.toks) fun b ob q => Heap.get?_push_of_some _ q
  show wpAny (model X.prog X.w) X.A (subscriptTail e (.Slice none none (some (.UnaryOp .USub (.Constant (.int 1) k p1) p2)) p3) v (.ref s4.heap.objs.size)) (EP X pins σ Q) X.xe { s4 with heap := s4.heap.push { cls := .type "slice", data := .fields #[vl, vu, vs] } }
  obtain ⟨φ, Z, η, p, z, hr, rp, e, f⟩ := q1
  generalize ep : D.vw η p = p' at e
  cases p' <;> simp only [D.bwdV, reduceCtorEq, Option.some.injEq] at e
  · -- a text
    subst e
    obtain ⟨rfl, kk⟩ := vw_str rp ep
    obtain ⟨t, rfl⟩ := r1
    obtain ⟨l, rfl, el⟩ := IsPart.raw pl
    obtain ⟨u, rfl, eu⟩ := IsPart.raw pu
    obtain ⟨m, rfl, em⟩ := IsPart.raw ps
    have hl : l = none := by cases l with | none => rfl | some q => cases el
    have hu : u = none := by cases u with | none => rfl | some q => cases eu
    obtain ⟨mt, hm⟩ : ∃ t, m = some (-1, t) := by
      cases m with
      | none => cases em
      | some q => obtain ⟨q1, q2⟩ := q; cases em; exact ⟨q2, rfl⟩
    subst hl hu hm
    have q := fin_val f hr (.str (s := (‹List Nat›).reverse) ⟨by rw [List.length_reverse]; exact kk.1, fun c hc => kk.2 c (List.mem_reverse.mp hc)⟩)
    refine tail_any (ops := [.str (stOf ‹List Nat›) t, .ref s4.heap.objs.size]) (typeIs_str _ _ _) F.slot_str_getitem.lookup ?_ (by with_unfolding_all rfl)
    refine wpAny_getItem_str_slice (l := none) (u := none) (st := some (-1, mt)) ⟨_, Heap.get?_push_size _ rfl, rfl, rfl⟩ rfl ?_
    show Made.post (if ((-1 : Int) == 1 && (Builtin.Str.strSliceIndices none none (-1) (stOf ‹List Nat›).length).length == (stOf ‹List Nat›).length) = true then Made.val (.str (stOf ‹List Nat›) t)
      else Made.str ⟨((Builtin.Str.strSliceIndices none none (-1) (stOf ‹List Nat›).length).filterMap ((stOf ‹List Nat›).cps[·]?)).toArray⟩) (EP X pins σ Q) _
    rw [if_neg (by rw [show ((-1 : Int) == 1) = false from rfl, Bool.false_and]; exact Bool.false_ne_true), rev_codes]
    refine ⟨?_, .str _, H4, I5.tok _, ⟨_, rfl⟩, q⟩
    show (stOf (‹List Nat›).reverse).length ≤ sizeLine
    rw [stOf_len, List.length_reverse, sizeLine_eq]; exact kk.1
  · -- a tuple
    subst e
    obtain ⟨a, vs', rfl, t1, rr⟩ := vw_tup hr rp ep
    cases r1
    obtain ⟨its, r, ht, hz⟩ := I5.tuple t1
    obtain ⟨mt, rfl⟩ : ∃ t, vs = .int (-1) t := by cases ps; exact ⟨_, rfl⟩
    have hl : vl = .none := by cases pl; rfl
    have hu : vu = .none := by cases pu; rfl
    subst hl hu
    refine tail_any (ops := [.ref a, .ref s4.heap.objs.size]) ht.typeIs (PyProof.Rows.slot_tuple_getitem.lookup) ?_ (by with_unfolding_all rfl)
    refine HT.getItem_tuple_rev ht (Heap.IsSliceOf.new _ _ _ _) ?_ (by rw [List.size_toArray, ← r.length]; exact hz)
    refine ⟨.ref _, _, I5.laid (t' := s4.toks) (o := .tup vs'.reverse) (fun b ob q => Heap.get?_push_of_some _ q) (Nat.le_refl _) ?_, rfl, fin_tup f hr (RVs.reverse rr) _ (I5.hok.fresh (Nat.le_refl _))⟩
    refine ⟨by rw [List.length_reverse]; exact hz, _, r.reverse, ?_⟩
    have := IsTup.new { s4 with heap := s4.heap.push { cls := .type "slice", data := .fields #[.none, .none, .int (-1) mt] } }.heap its.reverse.toArray
    simpa using this
  · -- a list
    subst e
    obtain ⟨a, vs', rfl, t1, rr⟩ := vw_lst hr rp ep
    cases r1
    obtain ⟨its, r, ht, hz⟩ := I5.list (SqL.of t1)
    refine tail_any (ops := [.ref a, .ref s4.heap.objs.size]) ht.isList.typeIs (PySem.slot_list_getitem.lookup) ?_ (by with_unfolding_all rfl)
    refine wpAny_getItem_list_slice ht.isList (Heap.IsSliceOf.new _ vl vu vs) pl pu ps (by decide) ?_ (by rw [List.size_toArray, ← r.length]; exact hz)
    rw [PySem.W.krv_pick]
    refine ⟨.ref _, _, I5.laid (t' := s4.toks) (o := .lst vs'.reverse) (fun b ob q => Heap.get?_push_of_some _ q) (Nat.le_refl _) ?_, rfl, f _ _ (I5.hok.fresh (Nat.le_refl _)) (RVs.reverse rr)⟩
    exact ⟨by rw [List.length_reverse]; exact hz, _, 0, r.reverse, Heap.get?_push_size _ rfl⟩
end DS
namespace L2
open PySem PySem.Spec PyProof.Rows
section
variable {X : Cx}
/-- l.count(x): data of any depth -/
def rCountD (K : PySem.W.Frag) : V → List V → Hp → VK → Prop := fun x xs H Q => ∃ (a : Addr) (y : V) (d : PyData) (ds : List PyData), x = V.ref a ∧ xs = [y] ∧ Dp K H (V.ref a) (.list ds) ∧ Dp K H y d ∧
  SeqAt.shaped (.list ds) = true ∧ SeqAt.shaped d = true ∧ Q (.int ((ds.countP fun z => PyData.eqv z d : Nat) : Int)) H
theorem mt_countD (hu : X.A.units + 65 < cLine) : MtR X "list.count" (rCountD X.K) := by
  intro pins s σ H x xs v us Q I rx rxs h
  obtain ⟨a, y, d, ds, rfl, rfl, hl, hy, sl, sd, q⟩ := h
  cases rx
  cases rxs with
  | cons ry rt =>
    rename_i uy ut
    cases rt
    obtain ⟨bs, r1⟩ := Dp.reads I d y uy hy ry
    have hxs : PyData.canLayAll0 ds = true := SeqAt.canLay_of_shaped sl
    have hroom : X.A.units + 1 + min (PyData.depthAll ds) d.depth < cLine := room_in_shaped sd hu
    cases hl with
    | lst hs ha =>
      obtain ⟨its, rv, ⟨⟨cls, dd, data, sls⟩, n, ho, hc, hdn, hdt⟩, hlen⟩ := I.list hs
      simp only at hc hdt
      subst hc hdt
      obtain ⟨as, h4⟩ := Dp.readsAll I ds _ its ha rv
      have hmap : its.map (SeqAt.readOf s.heap) = ds := SeqAt.readsAll_map ds its as hxs h4
      refine call_meets PySem.F.slot_list_count ⟨_, ho, rfl⟩ PySem.F.entry_list_count (PySem.F.args_list_count_2 _ _)
        (SeqAt.list_countAt a its.toArray n dd sls uy (fun u => PyData.eqv (SeqAt.readOf s.heap u) d)) ⟨ho, SeqAt.items_eqAt (vs := its.toArray) (show ReadsAll s.heap its.toArray.toList ds as from h4) r1 hxs (SeqAt.canLay_of_shaped sd) hroom, ?_⟩
      have ec : its.toArray.toList.countP (fun u => PyData.eqv (SeqAt.readOf s.heap u) d) = ds.countP fun z => PyData.eqv z d := by
        rw [← hmap, List.countP_map]
        rfl
      refine ⟨.int ((ds.countP fun z => PyData.eqv z d : Nat) : Int), H, I.tok _, ⟨s.toks, ?_⟩, q⟩
      show Value.int ((its.toArray.toList.countP _ : Nat) : Int) s.toks = _
      rw [ec]
end
end L2
end

section
set_option Elab.async false
set_option linter.all false
set_option maxRecDepth 100000
set_option maxHeartbeats 1000000
namespace DS
open PySem PySem.Spec PyProof.Rows L2
variable {ct : Ct} {K : Fg} {φ φ' φ'' Z : List Addr} {H H' H'' : Hp} {η η' : D.Hp} {ρ : D.Env} {σ : L2.St} {W : WX} {E : XK}

def biVal : D.BI → Value
  | .len => .builtin "len" | .abs => .builtin "abs" | .int => .type "int" | .tuple => .type "tuple" | .list => .type "list" | .sorted => .builtin "sorted"
  | .all => .builtin "all" | .any => .builtin "any" | .sum => .builtin "sum" | .max => .builtin "max" | .min => .builtin "min" | .str => .type "str"
def rBi (K : Fg) (b : D.BI) : List V → Hp → VK → Prop := fun vs H Q => ∃ φ Z η xs z, HR K φ Z η H ∧ RVs K φ Z H xs vs ∧ D.biV η b xs = some z ∧ Fin (rV K Z) K Z φ H z η Q
/-- a list: frozen, or a cell's -/
theorem lstO_some {x : PV} {v : V} {xs : List PV} (h : HR K φ Z η H) (r : RV K φ Z H x v) (e : D.lstO η x = some xs) : ∃ a vs, v = .ref a ∧ H a = some (.lst vs) ∧ RVs K φ Z H xs vs := by
  cases r with
  | lst e1 h1 h2 hs =>
    simp only [D.lstO, Option.some.injEq] at e
    subst e
    exact ⟨_, _, rfl, e1, hs⟩
  | @cell c a ec =>
    simp only [D.lstO] at e
    cases q : η[c]? with
    | none => rw [q] at e; simp [D.seqO] at e
    | some o =>
      rw [q] at e
      obtain ⟨ys, vs, rfl, e1, rs⟩ := ob_lst h ec q
      simp only [D.seqO, Option.some.injEq] at e
      subst e
      exact ⟨_, _, rfl, e1, rs⟩
  | _ => simp [D.lstO] at e
theorem seqOf_some {x : PV} {v : V} {xs : List PV} (h : HR K φ Z η H) (r : RV K φ Z H x v) (e : D.seqOf η x = some xs) :
    ∃ a vs, v = .ref a ∧ ((SqL K H a vs ∧ (x = .lst xs ∨ D.lstO η x = some xs)) ∨ (SqT K H a vs ∧ x = .tup xs)) ∧ RVs K φ Z H xs vs := by
  cases r with
  | lst e1 h1 h2 hs =>
    simp only [D.seqOf, Option.some.injEq] at e
    subst e
    exact ⟨_, _, rfl, .inl ⟨SqL.of e1, .inl rfl⟩, hs⟩
  | tup e1 hs =>
    simp only [D.seqOf, Option.some.injEq] at e
    subst e
    exact ⟨_, _, rfl, .inr ⟨e1, rfl⟩, hs⟩
  | @cell c a ec =>
    have e' : D.lstO η (.cell c) = some xs := e
    obtain ⟨a', vs, h1, h2, h3⟩ := lstO_some h (.cell ec) e'
    exact ⟨a', vs, h1, .inl ⟨SqL.of h2, .inr e'⟩, h3⟩
  | _ => simp [D.seqOf] at e
theorem keySeq_some {x : PV} {v : V} {xs : List PV} (h : HR K φ Z η H) (r : RV K φ Z H x v) (e : D.keySeq η x = some xs) (ns : ∀ s, x ≠ .str s) :
    ∃ a vs, v = .ref a ∧ (SqL K H a vs ∨ SqT K H a vs) ∧ RVs K φ Z H xs vs := by
  cases r with
  | lst e1 h1 h2 hs =>
    simp only [D.keySeq, Option.some.injEq] at e
    subst e
    exact ⟨_, _, rfl, .inl (SqL.of e1), hs⟩
  | tup e1 hs =>
    simp only [D.keySeq, Option.some.injEq] at e
    subst e
    exact ⟨_, _, rfl, .inr e1, hs⟩
  | scr e1 =>
    simp only [D.keySeq, Option.some.injEq] at e
    subst e
    exact ⟨_, _, rfl, .inl e1.seq, RVs.of_ints _⟩
  | @cell c a ec =>
    simp only [D.keySeq] at e
    cases q : η[c]? with
    | none => rw [q] at e; simp [D.keyO] at e
    | some o =>
      rw [q] at e
      obtain ⟨ys, vs, rfl, e1, rs⟩ := ob_lst h ec q
      simp only [D.keyO, Option.some.injEq] at e
      subst e
      exact ⟨_, _, rfl, .inl (SqL.of e1), rs⟩
  | str hk => exact absurd rfl (ns _)
  | _ => simp [D.keySeq] at e
theorem RVs.one {x : PV} {vs : List V} (r : RVs K φ Z H [x] vs) : ∃ v, vs = [v] ∧ RV K φ Z H x v := by
  cases r with
  | cons r t => cases t; exact ⟨_, rfl, r⟩
theorem RVs.two {x y : PV} {vs : List V} (r : RVs K φ Z H [x, y] vs) : ∃ v w, vs = [v, w] ∧ RV K φ Z H x v ∧ RV K φ Z H y w := by
  cases r with
  | cons r t =>
    cases t with
    | cons r2 t => cases t; exact ⟨_, _, rfl, r, r2⟩
/-- the values that the items of a list of data stand for -/
theorem reads_all {X : Cx} {pins : List (Addr × Obj)} {s : Shared} (I : Inv X pins σ H s) : ∀ {xs : List PV} {vs : List V} {us : List Value}, RVs X.K φ Z H xs vs → D.noCells xs = true → Vals vs us → ∃ as, ReadsAll s.heap us (toDs xs) as
  | _, _, _, .nil, _, .nil => ⟨[], .nil⟩
  | _, _, _, .cons r t, h, .cons q u => by
    simp only [D.noCells, Bool.and_eq_true] at h
    obtain ⟨as, h1⟩ := Dp.reads I _ _ _ (r.dp h.1) q
    obtain ⟨bs, h2⟩ := reads_all I t h.2 u
    exact ⟨as ++ bs, .cons h1 h2⟩
theorem minOk_facts {x : PV} {xs : List PV} (h : D.minOk (x :: xs) = true) :
    D.noCells (x :: xs) = true ∧ (∀ a ∈ x :: xs, ∀ b ∈ x :: xs, D.alk a b = true) ∧ PySem.W.AlikeAll (toDs (x :: xs)) ∧ PyData.depthAll (toDs (x :: xs)) ≤ 20 := by
  simp only [D.minOk, D.alkAll, Bool.and_eq_true, List.all_eq_true, Bool.not_eq_true'] at h
  obtain ⟨⟨h1, h2⟩, h3⟩ := h
  have nc : D.noCells (x :: xs) = true := by rw [noCells_all, List.all_eq_true]; exact fun z hz => flat_noCell _ _ (h1 z hz)
  have hd := flat_depth 21 (.lst (x :: xs)) (by
    show (x :: xs).all (D.flat 20) = true
    rw [List.all_eq_true]
    exact h1)
  refine ⟨nc, h2, ⟨?_, ?_⟩, ?_⟩
  · intro a ha b hb
    rw [toDs_map] at ha hb
    obtain ⟨a', ha', rfl⟩ := List.mem_map.mp ha
    obtain ⟨b', hb', rfl⟩ := List.mem_map.mp hb
    rw [← alk_toD _ _ (flat_noCell _ _ (h1 _ ha')) (flat_noCell _ _ (h1 _ hb'))]
    exact h2 _ ha' _ hb'
  · intro a ha z
    rw [toDs_map] at ha
    obtain ⟨a', ha', rfl⟩ := List.mem_map.mp ha
    have n1 := h3 _ ha'
    have n2 := flat_noCell _ _ (h1 _ ha')
    cases a' <;> simp_all [toD, D.isNone, D.noCell]
  · rw [toD, PyData.depth] at hd
    omega
/-- the choice among data is the choice among values -/
theorem pick_toD (g : PV → PV → Bool) (gd : PyData → PyData → Bool) : ∀ (xs : List PV) (x : PV), (∀ a ∈ x :: xs, ∀ b ∈ x :: xs, g a b = gd (toD a) (toD b)) →
    (xs.foldl (fun a y => if g a y = true then y else a) x ∈ x :: xs) ∧ toD (xs.foldl (fun a y => if g a y = true then y else a) x) = (xs.map toD).foldl (fun a y => if gd a y = true then y else a) (toD x)
  | [], x, _ => ⟨List.mem_cons_self, rfl⟩
  | y :: xs, x, h => by
    have e := h x List.mem_cons_self y (List.mem_cons_of_mem _ List.mem_cons_self)
    rw [List.foldl_cons, List.map_cons, List.foldl_cons, ← e]
    by_cases c : g x y = true
    · rw [if_pos c, if_pos c]
      obtain ⟨h1, h2⟩ := pick_toD g gd xs y fun a ha b hb => h a (List.mem_cons_of_mem _ ha) b (List.mem_cons_of_mem _ hb)
      exact ⟨List.mem_cons_of_mem _ h1, h2⟩
    · rw [if_neg c, if_neg c]
      obtain ⟨h1, h2⟩ := pick_toD g gd xs x fun a ha b hb => h a (by rcases List.mem_cons.mp ha with rfl | ha; exact List.mem_cons_self; exact List.mem_cons_of_mem _ (List.mem_cons_of_mem _ ha)) b (by rcases List.mem_cons.mp hb with rfl | hb; exact List.mem_cons_self; exact List.mem_cons_of_mem _ (List.mem_cons_of_mem _ hb))
      refine ⟨?_, h2⟩
      rcases List.mem_cons.mp h1 with e1 | h1
      · rw [e1]; exact List.mem_cons_self
      · exact List.mem_cons_of_mem _ (List.mem_cons_of_mem _ h1)
theorem digs_ok (i : Int) (h : i.natAbs < 1000000000000) : okS (D.digs i) := by
  refine ⟨?_, fun c hc => ?_⟩
  · have := int_text_length_le10 (a := i) (k := 12) (by decide) (by omega)
    unfold D.digs
    rw [List.length_map]
    have e : (toString i).toList.length = (toString i).length := String.length_toList
    omega
  · obtain ⟨d, _, rfl⟩ := List.mem_map.mp hc
    have := d.valid
    rcases this with h | h
    · exact Nat.lt_trans h (by decide)
    · exact h.2
theorem noCell_mem {xs : List PV} (h : D.noCells xs = true) {x : PV} (hx : x ∈ xs) : D.noCell x = true := by
  rw [noCells_all, List.all_eq_true] at h
  exact h x hx
section
variable {X : Cx}
/-- the value that was picked -/
theorem picked {pins : List (Addr × Obj)} {s : Shared} {Q : VK} {xs : List PV} {vs : List V} {us : List Value} {m : PV} {i : Nat} {v : Value} {h' : Heap} {tk : Nat} {bs : List Addr}
    (I : Inv X pins σ H s) (hr : HR X.K φ Z η H) (rs : RVs X.K φ Z H xs vs) (nc : D.noCells xs = true) (rv : Vals vs us) (hm : m ∈ xs)
    (f : Fin (rV X.K Z) X.K Z φ H m η Q) (hi : us.toArray[i]? = some v) (rd : Reads h' v (toD m) bs) (hk : ∀ b o, s.heap.get? b = some o → h'.get? b = some o) : EP X pins σ Q v { s with heap := h', toks := tk } := by
  have hi' : us[i]? = some v := by simpa using hi
  have hl := rv.length
  have hlt : i < vs.length := by rw [hl]; exact (List.getElem?_eq_some_iff.mp hi').1
  obtain ⟨u, eu, ru⟩ := rv.get (List.getElem?_eq_getElem hlt)
  rw [hi'] at eu
  cases eu
  obtain ⟨y, ey, ry⟩ := rs.get' (List.getElem?_eq_getElem hlt)
  have hy := List.mem_of_getElem? ey
  have ny := noCell_mem nc hy
  have nm := noCell_mem nc hm
  obtain ⟨as, r1⟩ := Dp.reads (I.kept (t' := tk) hk) _ _ _ (ry.dp ny) ru
  have e1 := SeqAt.readOf_eq ry.lay r1
  obtain ⟨u', eu', rm⟩ := rs.get (List.getElem?_of_mem hm).choose_spec
  have e2 := SeqAt.readOf_eq rm.lay rd
  have e3 := toD_inj y m ny nm (e1.symm.trans e2)
  subst e3
  exact ⟨_, H, I.kept hk, ru, fin_val f hr ry⟩

theorem inj_dataLe {bs : List (PV × V)} (nc : ∀ b ∈ bs, D.noCell b.1 = true) (al : ∀ a ∈ bs, ∀ b ∈ bs, D.alk a.1 b.1 = true) :
    (bs.mergeSort (PySem.W.dataLe false fun b : PV × V => toD b.1)).map (·.1) = D.sortV (bs.map (·.1)) := by
  unfold D.sortV
  refine List.map_mergeSort fun a ha b hb => ?_
  rw [PySem.W.dataLe_eq]
  show (!PySem.W.dataLt (toD b.1) (toD a.1)) = !D.ltb b.1 a.1
  rw [ltb_toD _ _ (nc b hb) (nc a ha) (al b hb a ha)]
theorem each_of {pins : List (Addr × Obj)} {s : Shared} (I : Inv X pins σ H s) : ∀ {xs : List PV} {vs : List V} {us : List Value}, RVs X.K φ Z H xs vs → D.noCells xs = true → Vals vs us →
    PySem.W.EachIs (fun v (b : PV × V) => RelV b.2 v) us (xs.zip vs) ∧ PySem.W.EachIs (fun v (b : PV × V) => ∃ as, Reads s.heap v (toD b.1) as) us (xs.zip vs)
  | _, _, _, .nil, _, .nil => ⟨.nil, .nil⟩
  | _, _, _, .cons r t, h, .cons q u => by
    simp only [D.noCells, Bool.and_eq_true] at h
    obtain ⟨h1, h2⟩ := each_of I t h.2 u
    exact ⟨.cons q h1, .cons (Dp.reads I _ _ _ (r.dp h.1) q) h2⟩
theorem RVs.zip : ∀ {xs : List PV} {vs : List V}, RVs K φ Z H xs vs → ∀ b ∈ xs.zip vs, RV K φ Z H b.1 b.2 ∧ b.1 ∈ xs
  | _, _, .nil, b, hb => by simp at hb
  | _, _, .cons r t, b, hb => by
    rw [List.zip_cons_cons] at hb
    rcases List.mem_cons.mp hb with rfl | hb
    · exact ⟨r, List.mem_cons_self⟩
    · obtain ⟨h1, h2⟩ := RVs.zip t b hb
      exact ⟨h1, List.mem_cons_of_mem _ h2⟩
theorem RVs.zip_fst : ∀ {xs : List PV} {vs : List V}, RVs K φ Z H xs vs → (xs.zip vs).map (·.1) = xs
  | _, _, .nil => rfl
  | _, _, .cons r t => by rw [List.zip_cons_cons, List.map_cons, RVs.zip_fst t]
theorem RVs.of_pairs : ∀ {bs : List (PV × V)}, (∀ b ∈ bs, RV K φ Z H b.1 b.2) → RVs K φ Z H (bs.map (·.1)) (bs.map (·.2))
  | [], _ => .nil
  | b :: bs, h => .cons (h b List.mem_cons_self) (RVs.of_pairs fun c hc => h c (List.mem_cons_of_mem _ hc))
theorem vals_of_each : ∀ {us : List Value} {bs : List (PV × V)}, PySem.W.EachIs (fun v (b : PV × V) => RelV b.2 v) us bs → Vals (bs.map (·.2)) us
  | _, _, .nil => .nil
  | _, _, .cons r t => .cons r (vals_of_each t)
/-- .. a new list -/
def rBiF (K : Fg) (b : D.BI) : List V → Hp → VK → Prop := fun vs H Q => ∃ φ Z η xs ys, HR K φ Z η H ∧ RVs K φ Z H xs vs ∧ D.biV η b xs = some (.lst ys) ∧ ∀ p ws, H p = none → RVs K φ Z H ys ws → Q (.ref p) (upd H p (.lst ws))
theorem biF_bi {b : D.BI} {f : Value} (hb : ∀ η xs z, D.biV η b xs = some z → ∃ ys, z = .lst ys) (h : CallR X f (rBiF X.K b)) : CallR X f (rBi X.K b) := by
  intro pins s σ H vs us Q I r q
  obtain ⟨φ, Z, η, xs, z, hr, rs, e, f⟩ := q
  obtain ⟨ys, rfl⟩ := hb η xs z e
  exact h pins s σ H vs us Q I r ⟨φ, Z, η, xs, ys, hr, rs, e, fun p ws n rw' => fin_lst f hr rw' p n⟩
theorem sorted_okF (hu : X.A.units + 64 < cLine) : CallR X (.builtin "sorted") (rBiF X.K .sorted) := by
  intro pins s σ H vs us Q I r h
  obtain ⟨φ, Z, η, xs, z, hr, rs, e, f⟩ := h
  match xs, e with
  | [x], e =>
    simp only [D.biV, D.sortedV, Option.bind_eq_some_iff] at e
    obtain ⟨ys, e1, e2⟩ := e
    unfold D.sortL at e2
    split at e2
    · rename_i ok
      cases e2
      obtain ⟨v, rfl, rx⟩ := rs.one
      obtain ⟨a, ws, rfl, hl, ry⟩ := lstO_some hr rx e1
      rw [Vals.ref1 r]
      obtain ⟨its, rv, pl, hz⟩ := I.list (SqL.of hl)
      simp only [D.sortOk, D.alkAll, Bool.and_eq_true, Bool.or_eq_true, List.all_eq_true, Bool.not_eq_true'] at ok
      obtain ⟨⟨k1, k2⟩, k3⟩ := ok
      have nc : D.noCells ys = true := by rw [noCells_all, List.all_eq_true]; exact fun z hz => flat_noCell _ _ (k1 z hz)
      have ez := ry.zip
      have encmem : ∀ d ∈ (ys.zip ws).map (fun b : PV × V => toD b.1), ∃ y ∈ ys, d = toD y := by
        intro d hd
        obtain ⟨b, hb, rfl⟩ := List.mem_map.mp hd
        exact ⟨b.1, (ez b hb).2, rfl⟩
      obtain ⟨g1, g2⟩ := each_of I ry nc rv
      have hlen : (ys.zip ws).length = ws.length := by rw [List.length_zip, ry.length, Nat.min_self]
      refine PySem.W.sorted_data (enc := fun b : PV × V => toD b.1) (bs := ys.zip ws) pl.isList g1 g2 ?_ ?_ (by rw [hlen]; exact hz) ?_ ?_
      · intro d hd d' hd'
        obtain ⟨y, hy, rfl⟩ := encmem d hd
        obtain ⟨y', hy', rfl⟩ := encmem d' hd'
        rw [← alk_toD _ _ (noCell_mem nc hy) (noCell_mem nc hy')]
        exact k2 y hy y' hy'
      · rcases k3 with k3 | k3
        · refine .inl fun d hd => ?_
          obtain ⟨y, hy, rfl⟩ := encmem d hd
          have := k3 y hy
          match y, this with
          | .tup (q :: qs), _ => exact ⟨toD q, toDs qs, by rw [toD, toDs]⟩
        · refine .inr fun d hd => ?_
          obtain ⟨y, hy, rfl⟩ := encmem d hd
          have h1 := k3 y hy
          have h2 := noCell_mem nc hy
          cases y <;> simp_all [toD, D.isNone, D.isTup, D.noCell]
      · intro b hb
        have := flat_depth 20 b.1 (k1 _ (ez b hb).2)
        show X.A.units + 2 + (toD b.1).depth < cLine
        omega
      · intro out ho eo
        obtain ⟨ep, he'⟩ := PyProof.Rows.sortedAll_at s.heap its out.toArray
        have pm := List.mergeSort_perm (ys.zip ws) (PySem.W.dataLe false fun b : PV × V => toD b.1)
        have hrv : RVs X.K φ Z H (D.sortV ys) (((ys.zip ws).mergeSort (PySem.W.dataLe false fun b : PV × V => toD b.1)).map (·.2)) := by
          have q := RVs.of_pairs (K := X.K) (φ := φ) (Z := Z) (H := H) (bs := (ys.zip ws).mergeSort (PySem.W.dataLe false fun b : PV × V => toD b.1)) fun b hb => (ez b (pm.mem_iff.mp hb)).1
          rw [inj_dataLe (fun b hb => noCell_mem nc (ez b hb).2) (fun a ha b hb => k2 _ (ez a ha).2 _ (ez b hb).2), ry.zip_fst] at q
          exact q
        have hlen2 : (((ys.zip ws).mergeSort (PySem.W.dataLe false fun b : PV × V => toD b.1)).map (·.2)).length ≤ sizeLine := by
          rw [List.length_map, pm.length_eq, hlen]; exact hz
        refine ⟨.ref (s.heap.objs.size + 1), upd H (s.heap.objs.size + 1) (.lst (((ys.zip ws).mergeSort (PySem.W.dataLe false fun b : PV × V => toD b.1)).map (·.2))), ?_, rfl, ?_⟩
        · refine I.laid (t' := s.toks) (fun _ _ => PyProof.Rows.sortedAll_old) (Nat.le_succ _) ⟨hlen2, out, ep, vals_of_each eo, ?_⟩
          exact he'
        · exact f _ _ (I.hok.fresh (Nat.le_succ _)) hrv
    · cases e2
  | [], e => simp [D.biV, D.sortedV] at e
  | _ :: _ :: _, e => simp [D.biV, D.sortedV] at e

theorem maxL_ok {pins : List (Addr × Obj)} {s : Shared} {a : Addr} {Q : VK} {ys : List PV} {ws : List V} {z : PV} (hc : X.calm = true) (hu : X.A.units + 64 < cLine) (I : Inv X pins σ H s) (hr : HR X.K φ Z η H) (ry : RVs X.K φ Z H ys ws)
    (hq : SqL X.K H a ws ∨ SqT X.K H a ws) (e : D.maxL ys = some z) (f : Fin (rV X.K Z) X.K Z φ H z η Q) : wpAny (model X.prog X.w) X.A (call (.builtin "max") [.ref a]) (EP X pins σ Q) X.xe s := by
  cases ys with
  | nil => simp [D.maxL] at e
  | cons y ys =>
    simp only [D.maxL] at e
    split at e
    · rename_i ok
      cases e
      obtain ⟨nc, al, ala, dp⟩ := minOk_facts ok
      have pk := pick_toD (fun a y => D.ltb a y) (fun a y => PySem.W.dataLt a y) ys y (fun a ha b hb => ltb_toD _ _ (noCell_mem nc ha) (noCell_mem nc hb) (al a ha b hb))
      obtain ⟨hm, ev⟩ := pk
      have ev' : PySem.W.maxD (toD y) (toDs ys) = toD (D.maxV1 y ys) := by
        rw [toDs_map]
        exact ev.symm
      rcases hq with hq | hq
      · obtain ⟨its, rv, pl, hz⟩ := I.list hq
        obtain ⟨as, ra⟩ := reads_all I ry nc rv
        refine PySem.W.max_list_data (x := toD y) (xs := toDs ys) (I.ok.hd hc) pl.isList (by rw [List.toList_toArray]; exact ra) ala (by simp only [toDs] at dp; omega) fun i v h' tk bs hi rd hk => ?_
        rw [ev'] at rd
        exact picked I hr ry nc rv hm f hi rd hk
      · obtain ⟨its, rv, pl, hz⟩ := I.tuple hq
        obtain ⟨as, ra⟩ := reads_all I ry nc rv
        refine PySem.W.max_tuple_data (x := toD y) (xs := toDs ys) (I.ok.hd hc) pl (by rw [List.toList_toArray]; exact ra) ala (by simp only [toDs] at dp; omega) fun i v h' tk bs hi rd hk => ?_
        rw [ev'] at rd
        exact picked I hr ry nc rv hm f hi rd hk
    · cases e
theorem max_ok (hc : X.calm = true) (hu : X.A.units + 64 < cLine) : CallR X (.builtin "max") (rBi X.K .max) := by
  intro pins s σ H vs us Q I r h
  obtain ⟨φ, Z, η, xs, z, hr, rs, e, f⟩ := h
  simp only [D.biV] at e
  unfold D.maxV at e
  split at e
  · rename_i x
    obtain ⟨ys, e1, e2⟩ := Option.bind_eq_some_iff.mp e
    obtain ⟨v, rfl, rx⟩ := rs.one
    obtain ⟨a, ws, rfl, hq, ry⟩ := seqOf_some hr rx e1
    rw [Vals.ref1 r]
    exact maxL_ok hc hu I hr ry (hq.elim (fun h => .inl h.1) fun h => .inr h.1) e2 f
  · rename_i i j
    simp only [Option.some.injEq] at e
    subst e
    obtain ⟨v, w, rfl, r1, r2⟩ := rs.two
    cases r1
    cases r2
    exact call_max2 hc pins s σ H _ us Q I r ⟨_, _, rfl, fin_val f hr (.int _)⟩
  · cases e

theorem minL_ok {pins : List (Addr × Obj)} {s : Shared} {a : Addr} {Q : VK} {ys : List PV} {ws : List V} {z : PV} (hc : X.calm = true) (hu : X.A.units + 64 < cLine) (I : Inv X pins σ H s) (hr : HR X.K φ Z η H) (ry : RVs X.K φ Z H ys ws)
    (hq : SqL X.K H a ws ∨ SqT X.K H a ws) (e : D.minL ys = some z) (f : Fin (rV X.K Z) X.K Z φ H z η Q) : wpAny (model X.prog X.w) X.A (call (.builtin "min") [.ref a]) (EP X pins σ Q) X.xe s := by
  cases ys with
  | nil => simp [D.minL] at e
  | cons y ys =>
    simp only [D.minL] at e
    split at e
    · rename_i ok
      cases e
      obtain ⟨nc, al, ala, dp⟩ := minOk_facts ok
      have pk := pick_toD (fun a y => D.ltb y a) (fun a y => PySem.W.dataLt y a) ys y (fun a ha b hb => ltb_toD _ _ (noCell_mem nc hb) (noCell_mem nc ha) (al b hb a ha))
      obtain ⟨hm, ev⟩ := pk
      have ev' : PySem.W.minD (toD y) (toDs ys) = toD (D.minV y ys) := by
        rw [toDs_map]
        exact ev.symm
      rcases hq with hq | hq
      · obtain ⟨its, rv, pl, hz⟩ := I.list hq
        obtain ⟨as, ra⟩ := reads_all I ry nc rv
        refine PySem.W.min_list_data (x := toD y) (xs := toDs ys) (I.ok.hd hc) pl.isList (by rw [List.toList_toArray]; exact ra) ala (by simp only [toDs] at dp; omega) fun i v h' tk bs hi rd hk => ?_
        rw [ev'] at rd
        exact picked I hr ry nc rv hm f hi rd hk
      · obtain ⟨its, rv, pl, hz⟩ := I.tuple hq
        obtain ⟨as, ra⟩ := reads_all I ry nc rv
        refine PySem.W.min_tuple_data (x := toD y) (xs := toDs ys) (I.ok.hd hc) pl (by rw [List.toList_toArray]; exact ra) ala (by simp only [toDs] at dp; omega) fun i v h' tk bs hi rd hk => ?_
        rw [ev'] at rd
        exact picked I hr ry nc rv hm f hi rd hk
    · cases e
theorem min_ok (hc : X.calm = true) (hu : X.A.units + 64 < cLine) : CallR X (.builtin "min") (rBi X.K .min) := by
  intro pins s σ H vs us Q I r h
  obtain ⟨φ, Z, η, xs, z, hr, rs, e, f⟩ := h
  simp only [D.biV] at e
  unfold D.minVV at e
  split at e
  · rename_i x
    obtain ⟨ys, e1, e2⟩ := Option.bind_eq_some_iff.mp e
    obtain ⟨v, rfl, rx⟩ := rs.one
    obtain ⟨a, ws, rfl, hq, ry⟩ := seqOf_some hr rx e1
    rw [Vals.ref1 r]
    exact minL_ok hc hu I hr ry (hq.elim (fun h => .inl h.1) fun h => .inr h.1) e2 f
  · rename_i i j
    simp only [Option.some.injEq] at e
    subst e
    obtain ⟨v, w, rfl, r1, r2⟩ := rs.two
    cases r1
    cases r2
    exact call_min2 hc pins s σ H _ us Q I r ⟨_, _, rfl, fin_val f hr (.int _)⟩
  · cases e

theorem len_ok : CallR X (.builtin "len") (rBi X.K .len) := by
  intro pins s σ H vs us Q I r h
  obtain ⟨φ, Z, η, xs, z, hr, rs, e, f⟩ := h
  simp only [D.biV] at e
  have one : ∀ {x : PV} {n : Nat}, xs = [x] → z = .int n → (∀ v, RV X.K φ Z H x v → LenV X.K v H n) → wpAny (model X.prog X.w) X.A (call (.builtin "len") us) (EP X pins σ Q) X.xe s := by
    intro x n hx hz hl
    subst hx hz
    obtain ⟨v, rfl, rx⟩ := rs.one
    exact call_len pins s σ H _ us Q I r ⟨v, n, rfl, hl v rx, fin_val f hr (.int _)⟩
  unfold D.lenV at e
  split at e
  · cases e
    refine one rfl rfl fun v rv => ?_
    cases rv with
    | str hk => exact ⟨by rw [stOf_len, sizeLine_eq]; exact hk.1, by rw [stOf_len]⟩
  · cases e
    refine one rfl rfl fun v rv => ?_
    cases rv with
    | lst e1 _ _ hs => exact .inl ⟨_, SqL.of e1, hs.length⟩
  · cases e
    refine one rfl rfl fun v rv => ?_
    cases rv with
    | tup e1 hs => exact .inr ⟨_, e1, hs.length⟩
  · rename_i c
    cases q : η[c]? with
    | none => rw [q] at e; simp [D.lenO] at e
    | some o =>
      rw [q] at e
      cases o with
      | dct kvs =>
        obtain ⟨v, rfl, rx⟩ := rs.one
        cases rx with
        | cell ec => obtain ⟨xs, vs, z, _⟩ := ob_lst hr ec q; cases z
      | lst ys =>
        simp only [D.lenO, Option.some.injEq] at e
        refine one rfl e.symm fun v rv => ?_
        cases rv with
        | cell ec =>
          obtain ⟨xs, vs, z, e1, r1⟩ := ob_lst hr ec q
          cases z
          exact .inl ⟨_, SqL.of e1, r1.length⟩
  · cases e
theorem abs_ok : CallR X (.builtin "abs") (rBi X.K .abs) := by
  intro pins s σ H vs us Q I r h
  obtain ⟨φ, Z, η, xs, z, hr, rs, e, f⟩ := h
  simp only [D.biV] at e
  unfold D.absV at e
  split at e
  · cases e
    obtain ⟨v, rfl, rx⟩ := rs.one
    cases rx
    exact call_abs pins s σ H _ us Q I r ⟨_, rfl, fin_val f hr (.int _)⟩
  · cases e
theorem int_ok : CallR X (.type "int") (rBi X.K .int) := by
  intro pins s σ H vs us Q I r h
  obtain ⟨φ, Z, η, xs, z, hr, rs, e, f⟩ := h
  simp only [D.biV] at e
  unfold D.intV at e
  split at e
  · cases e
    obtain ⟨v, rfl, rx⟩ := rs.one
    cases rx
    exact call_int1 pins s σ H _ us Q I r (.inl ⟨_, rfl, fin_val f hr (.int _)⟩)
  · cases e
    obtain ⟨v, rfl, rx⟩ := rs.one
    cases rx
    exact call_int1 pins s σ H _ us Q I r (.inr ⟨_, rfl, fin_val f hr (.int _)⟩)
  · cases e
theorem str_ok : CallR X (.type "str") (rBi X.K .str) := by
  intro pins s σ H vs us Q I r h
  obtain ⟨φ, Z, η, xs, z, hr, rs, e, f⟩ := h
  simp only [D.biV] at e
  unfold D.strV at e
  split at e
  · split at e
    · rename_i i hl
      cases e
      obtain ⟨v, rfl, rx⟩ := rs.one
      cases rx
      have e1 : ((toString i : String) : Str) = stOf (D.digs i) := by
        show Str.ofString (toString i) = _
        rw [Str.ofString_eq_toList]
        rfl
      refine call_str_int pins s σ H _ us Q I r ⟨_, rfl, ?_, ?_⟩
      · by_cases h0 : i.natAbs = 0
        · rw [h0]; decide
        · exact Nat.lt_of_lt_of_le ((Nat.log2_lt h0).mpr (show i.natAbs < 2 ^ 40 by omega)) (by decide)
      · rw [e1]
        exact fin_val f hr (.str (digs_ok i hl))
    · cases e
  · cases e
theorem tuple_ok : CallR X (.type "tuple") (rBi X.K .tuple) := by
  intro pins s σ H vs us Q I r h
  obtain ⟨φ, Z, η, xs, z, hr, rs, e, f⟩ := h
  simp only [D.biV] at e
  unfold D.tupleV at e
  split at e
  · obtain ⟨ys, e1, rfl⟩ := Option.map_eq_some_iff.mp e
    obtain ⟨v, rfl, rx⟩ := rs.one
    obtain ⟨a, ws, rfl, hq, ry⟩ := seqOf_some hr rx e1
    refine call_tuple_of pins s σ H _ us Q I r ⟨a, ws, rfl, ?_⟩
    rcases hq with ⟨hq, _⟩ | ⟨hq, _⟩
    · exact .inl ⟨hq, fin_tup f hr ry⟩
    · exact .inr ⟨hq, fin_val f hr (.tup hq ry)⟩
  · cases e
theorem sorted_ok (hu : X.A.units + 64 < cLine) : CallR X (.builtin "sorted") (rBi X.K .sorted) := biF_bi (fun η xs z e => by
  simp only [D.biV] at e
  unfold D.sortedV at e
  split at e
  · obtain ⟨ys, e1, e2⟩ := Option.bind_eq_some_iff.mp e
    unfold D.sortL at e2
    split at e2
    · cases e2; exact ⟨_, rfl⟩
    · cases e2
  · cases e) (sorted_okF hu)
theorem signs_vals {s : List Nat} {acc : List Value} (h : acc.length = s.length) (ha : ∀ (j : Nat) (v : Value), acc[j]? = some v → ∃ (c : Nat) (u : Tok), s[j]? = some c ∧ v = Value.str ⟨#[c]⟩ u) : Vals (s.map fun c => V.str ⟨#[c]⟩) acc := by
  induction s generalizing acc with
  | nil =>
    cases acc with
    | nil => exact .nil
    | cons _ _ => simp at h
  | cons c s ih =>
    cases acc with
    | nil => simp at h
    | cons a acc =>
      obtain ⟨c', u, e1, e2⟩ := ha 0 a (by simp)
      cases e1
      exact .cons ⟨u, e2⟩ (ih (by simpa using h) fun j v e => ha (j + 1) v (by simpa using e))
theorem RVs.signs {K : Fg} {φ Z : List Addr} {H : Hp} : ∀ {s : List Nat}, (∀ c ∈ s, c < 0x110000) → RVs K φ Z H (s.map fun c => .str [c]) (s.map fun c => V.str ⟨#[c]⟩)
  | [], _ => .nil
  | c :: s, h => .cons (.str (s := [c]) ⟨by show 1 ≤ 16777216; decide, fun d hd => by rw [List.mem_singleton.mp hd]; exact h c List.mem_cons_self⟩) (RVs.signs fun d hd => h d (List.mem_cons_of_mem _ hd))
theorem list_okF (hc : X.calm = true) : CallR X (.type "list") (rBiF X.K .list) := by
  intro pins s σ H vs us Q I r h
  obtain ⟨φ, Z, η, xs, z, hr, rs, e, f⟩ := h
  simp only [D.biV] at e
  unfold D.listV at e
  split at e
  · rename_i x
    obtain ⟨ys, e1, e2⟩ := Option.map_eq_some_iff.mp e
    cases e2
    obtain ⟨v, rfl, rx⟩ := rs.one
    by_cases hx : ∃ t, x = .str t
    · obtain ⟨t, rfl⟩ := hx
      cases rx with
      | str hk =>
        simp only [D.keySeq, Option.some.injEq] at e1
        subst e1
        obtain ⟨u, rfl, tk, rfl⟩ := vals1 r
        have hsz : (stOf t).cps.size ≤ sizeLine := by
          show t.toArray.size ≤ sizeLine
          rw [List.size_toArray, sizeLine_eq]; exact hk.1
        refine call_list_str (I.ok.hd hc) (stOf t) tk (hn := hsz) fun h' tk' acc c' kp e3 ha => ?_
        have hv : Vals (t.map fun c => V.str ⟨#[c]⟩) acc.toList := by
          refine signs_vals ?_ fun j v hj => ?_
          · have := ha.1
            show acc.size = t.length
            rw [this]
            show t.toArray.size = t.length
            simp
          · obtain ⟨c, u, h1, h2⟩ := ha.2 j v (by simpa using hj)
            refine ⟨c, u, ?_, h2⟩
            have := stOf_cps t
            rw [← this]; simpa using h1
        refine ⟨.ref s.heap.objs.size, _, I.laid (t' := tk') (o := .lst (t.map fun c => V.str ⟨#[c]⟩)) kp (Nat.le_refl _) ⟨by rw [List.length_map, sizeLine_eq]; exact hk.1, acc.toList, c', hv, by simpa using e3⟩, rfl, f _ _ (I.hok.fresh (Nat.le_refl _)) (RVs.signs hk.2)⟩
    · obtain ⟨a, ws, rfl, hq, ry⟩ := keySeq_some hr rx e1 fun t ht => hx ⟨t, ht⟩
      exact call_list_of pins s σ H _ us Q I r ⟨a, ws, rfl, hq, fun p n => f p _ n ry⟩
  · cases e
theorem list_ok (hc : X.calm = true) : CallR X (.type "list") (rBi X.K .list) := biF_bi (fun η xs z e => by
  simp only [D.biV] at e
  unfold D.listV at e
  split at e
  · obtain ⟨ys, e1, rfl⟩ := Option.map_eq_some_iff.mp e
    exact ⟨_, rfl⟩
  · cases e) (list_okF hc)
theorem one_list {x : List PV} {vs : List V} {z : PV} {g : List PV → Option PV} (hr : HR K φ Z η H) (rs : RVs K φ Z H x vs) (e : D.one η g x = some z) :
    ∃ a ys ws, vs = [V.ref a] ∧ SqL K H a ws ∧ RVs K φ Z H ys ws ∧ g ys = some z := by
  unfold D.one at e
  split at e
  · obtain ⟨ys, e1, e2⟩ := Option.bind_eq_some_iff.mp e
    obtain ⟨v, rfl, rx⟩ := rs.one
    obtain ⟨a, ws, rfl, hl, ry⟩ := lstO_some hr rx e1
    exact ⟨a, ys, ws, rfl, SqL.of hl, ry, e2⟩
  · cases e
theorem all_ok (hc : X.calm = true) : CallR X (.builtin "all") (rBi X.K .all) := by
  intro pins s σ H vs us Q I r h
  obtain ⟨φ, Z, η, xs, z, hr, rs, e, f⟩ := h
  obtain ⟨a, ys, ws, rfl, hl, ry, e1⟩ := one_list hr rs e
  obtain ⟨ns, e2, rfl⟩ := Option.map_eq_some_iff.mp e1
  have := ry.bools e2
  subst this
  exact cr_all hc pins s σ H _ us Q I r ⟨a, ns, rfl, hl, fin_val f hr (.bl _)⟩
theorem any_ok (hc : X.calm = true) : CallR X (.builtin "any") (rBi X.K .any) := by
  intro pins s σ H vs us Q I r h
  obtain ⟨φ, Z, η, xs, z, hr, rs, e, f⟩ := h
  obtain ⟨a, ys, ws, rfl, hl, ry, e1⟩ := one_list hr rs e
  obtain ⟨ns, e2, rfl⟩ := Option.map_eq_some_iff.mp e1
  have := ry.bools e2
  subst this
  exact cr_any hc pins s σ H _ us Q I r ⟨a, ns, rfl, hl, fin_val f hr (.bl _)⟩
theorem sum_ok (hc : X.calm = true) : CallR X (.builtin "sum") (rBi X.K .sum) := by
  intro pins s σ H vs us Q I r h
  obtain ⟨φ, Z, η, xs, z, hr, rs, e, f⟩ := h
  obtain ⟨a, ys, ws, rfl, hl, ry, e1⟩ := one_list hr rs e
  obtain ⟨ns, e2, rfl⟩ := Option.map_eq_some_iff.mp e1
  have := ry.ints e2
  subst this
  exact cr_sum hc pins s σ H _ us Q I r ⟨a, ns, rfl, hl, fin_val f hr (.int _)⟩
theorem bi_ok (hc : X.calm = true) (hu : X.A.units + 64 < cLine) : ∀ b, CallR X (biVal b) (rBi X.K b)
  | .len => len_ok | .abs => abs_ok | .int => int_ok | .tuple => tuple_ok | .list => list_ok hc | .sorted => sorted_ok hu
  | .all => all_ok hc | .any => any_ok hc | .sum => sum_ok hc | .max => max_ok hc hu | .min => min_ok hc hu | .str => str_ok
end
end DS
end

section
set_option Elab.async false
set_option linter.all false
set_option maxRecDepth 100000
set_option maxHeartbeats 1000000
namespace DS
open PySem PySem.Spec PyProof.Rows L2
variable {ct : Ct} {K : Fg} {φ φ' φ'' Z : List Addr} {H H' H'' : Hp} {η η' : D.Hp} {ρ : D.Env} {σ : L2.St} {W : WX} {E : XK}

def mtTy : D.Mt → String
  | .starts => "str" | .join => "str" | .replace => "str" | .get => "dict" | _ => "list"
def mtName : D.Mt → String
  | .append => "append" | .extend => "extend" | .pop => "pop" | .popAt => "pop" | .index => "index" | .count => "count" | .starts => "startswith" | .join => "join" | .get => "get" | .replace => "replace"
def mtId : D.Mt → String
  | .append => "list.append" | .extend => "list.extend" | .pop => "list.pop" | .popAt => "list.pop" | .index => "list.index" | .count => "list.count" | .starts => "str.startswith" | .join => "str.join" | .get => "dict.get" | .replace => "str.replace"
def rMt (K : Fg) (n : Nat) (m : D.Mt) : V → List V → Hp → VK → Prop := fun vx vs H Q =>
  ∃ φ Z η px pxs z η', HR K φ Z η H ∧ RV K φ Z H px vx ∧ RVs K φ Z H pxs vs ∧ D.mtV n η m px pxs = .ok z η' ∧ Fin (rV K Z) K Z φ H z η' Q
theorem opt_ok {α : Type} {o : Option α} {η η' : D.Hp} {z : α} (e : D.Res.opt o η = .ok z η') : o = some z ∧ η' = η := by
  cases o with
  | none => cases e
  | some a => cases e; exact ⟨rfl, rfl⟩
theorem wrote_ok {o : Option D.Hp} {η η' : D.Hp} {z : PV} (e : D.wrote η o = .ok z η') : o = some η' ∧ z = .non := by
  cases o with
  | none => cases e
  | some a => cases e; exact ⟨rfl, rfl⟩
theorem put_some {n c : Nat} {v : PV} {ob : D.Ob} {η η' : D.Hp} (e : D.put n c v ob η = some η') : η' = η.set c ob := by
  unfold D.put at e
  split at e
  · cases e; rfl
  · cases e
/-- a write -/
theorem fin_write {c : Nat} {a : Addr} {xs : List PV} {vs : List V} {z : PV} {v : V} {Q : VK} (f : Fin (rV K Z) K Z φ H z (η.set c (.lst xs)) Q) (h : HR K φ Z η H) (ec : φ[c]? = some a) (r : RVs K φ Z H xs vs) (rz : RV K φ Z H z v) :
    Q v (upd H a (.lst vs)) := by
  obtain ⟨h1, x⟩ := h.write ec r
  exact f φ v _ x h1 (rz.ext h x)
theorem RVs.last {xs : List PV} {vs : List V} {y : PV} (r : RVs K φ Z H xs vs) (e : xs.getLast? = some y) : ∃ v, vs[vs.length - 1]? = some v ∧ RV K φ Z H y v := by
  rw [List.getLast?_eq_getElem?] at e
  obtain ⟨v, e1, r1⟩ := r.get e
  exact ⟨v, by rw [← r.length]; exact e1, r1⟩
theorem indexOf_facts {x : PV} : ∀ {ys : List PV} {j : Nat}, D.indexOf x ys = some j → ∃ y, ys[j]? = some y ∧ D.eqv y x = true ∧ ∀ (m : Nat) (z : PV), m < j → ys[m]? = some z → D.eqv z x = false
  | [], j, e => by cases e
  | y :: ys, j, e => by
    unfold D.indexOf at e
    split at e
    · rename_i h
      cases e
      exact ⟨y, rfl, h, fun m z hm => absurd hm (Nat.not_lt_zero _)⟩
    · rename_i h
      obtain ⟨i, e1, rfl⟩ := Option.map_eq_some_iff.mp e
      obtain ⟨z, h1, h2, h3⟩ := indexOf_facts e1
      refine ⟨z, by simpa using h1, h2, fun m w hm hw => ?_⟩
      cases m with
      | zero =>
        simp only [List.getElem?_cons_zero, Option.some.injEq] at hw
        subst hw
        simpa using h
      | succ m => exact h3 m w (by omega) (by simpa using hw)
theorem joinS_join (s : List Nat) : ∀ zs : List (List Nat), Str.join (stOf s) (zs.map stOf) = stOf (D.joinS s zs)
  | [] => rfl
  | [x] => rfl
  | x :: y :: zs => by
    have ih := joinS_join s (y :: zs)
    show stOf x ++ stOf s ++ Str.join (stOf s) (stOf y :: zs.map stOf) = _
    have ih' : Str.join (stOf s) (stOf y :: zs.map stOf) = stOf (D.joinS s (y :: zs)) := ih
    rw [ih', stOf_app, stOf_app]
    rfl
theorem joinS_mem (s : List Nat) : ∀ (zs : List (List Nat)) (c : Nat), c ∈ D.joinS s zs → c ∈ s ∨ ∃ z ∈ zs, c ∈ z
  | [], c, h => by cases h
  | [x], c, h => .inr ⟨x, List.mem_cons_self, h⟩
  | x :: y :: zs, c, h => by
    have h' : c ∈ x ++ s ++ D.joinS s (y :: zs) := h
    rcases List.mem_append.mp h' with h' | h'
    · rcases List.mem_append.mp h' with h' | h'
      · exact .inr ⟨x, List.mem_cons_self, h'⟩
      · exact .inl h'
    · rcases joinS_mem s (y :: zs) c h' with h1 | ⟨z, h1, h2⟩
      · exact .inl h1
      · exact .inr ⟨z, List.mem_cons_of_mem _ h1, h2⟩
theorem joinS_len (s : List Nat) : ∀ zs : List (List Nat), (D.joinS s zs).length ≤ (zs.map List.length).sum + zs.length * s.length
  | [] => Nat.zero_le _
  | [x] => by
    show x.length ≤ (x.length + 0) + 1 * s.length
    omega
  | x :: y :: zs => by
    have ih := joinS_len s (y :: zs)
    show (x ++ s ++ D.joinS s (y :: zs)).length ≤ (x.length + ((y :: zs).map List.length).sum) + ((y :: zs).length + 1) * s.length
    rw [List.length_append, List.length_append, Nat.succ_mul]
    omega
theorem starts_eq (s t : List Nat) : Txt.startswith (stOf s) (stOf t) = t.isPrefixOf s := by
  unfold Txt.startswith
  rw [StrLaws.subAt_eq, stOf_len, stOf_len, stOf_cps, stOf_cps, List.drop_zero, Bool.eq_iff_iff]
  simp only [Nat.zero_add, Bool.and_eq_true, decide_eq_true_eq, beq_iff_eq, List.isPrefixOf_iff_prefix]
  constructor
  · rintro ⟨_, h⟩
    rw [← h]
    exact List.take_prefix _ _
  · intro h
    exact ⟨h.length_le, (List.prefix_iff_eq_take.mp h).symm⟩
section
variable {X : Cx}
theorem mt_ok (hu : X.A.units + 65 < cLine) (n : Nat) (m : D.Mt) : MtR X (mtId m) (rMt X.K n m) := by
  intro pins s σ H x vs v us Q I rx rv h
  obtain ⟨φ, Z, η, px, pxs, z, η', hr, rp, rs, e, f⟩ := h
  unfold D.mtV at e
  split at e
  · rename_i c w
    obtain ⟨e1, rfl⟩ := wrote_ok e
    cases rp with
    | cell ec =>
      obtain ⟨u, rfl, rw'⟩ := rs.one
      cases q : η[c]? with
      | none => rw [q] at e1; simp [D.appO] at e1
      | some o =>
        obtain ⟨ys, ws, rfl, e2, r2⟩ := ob_lst hr ec q
        rw [q] at e1
        simp only [D.appO] at e1
        split at e1
        · rename_i hl
          have := put_some e1
          subst this
          have hl' : ys.length < 16777216 := hl
          exact mt_append pins s σ H _ _ v us Q I rx rv ⟨_, ws, u, rfl, rfl, e2, by rw [← r2.length, sizeLine_eq]; exact hl', fin_write f hr ec (r2.append (.cons rw' .nil)) .non⟩
        · cases e1
  · rename_i c w
    obtain ⟨e1, rfl⟩ := wrote_ok e
    obtain ⟨zs, e3, e4⟩ := Option.bind_eq_some_iff.mp e1
    cases rp with
    | cell ec =>
      obtain ⟨u, rfl, rw'⟩ := rs.one
      obtain ⟨b, us', rfl, e5, r5⟩ := lstO_some hr rw' e3
      cases q : η[c]? with
      | none => rw [q] at e4; simp [D.extO] at e4
      | some o =>
        obtain ⟨ys, ws, rfl, e2, r2⟩ := ob_lst hr ec q
        rw [q] at e4
        simp only [D.extO] at e4
        split at e4
        · rename_i hl
          have := put_some e4
          subst this
          have hl' : ys.length + zs.length ≤ 16777216 := hl
          exact mt_extend pins s σ H _ _ v us Q I rx rv ⟨_, b, ws, us', rfl, rfl, e2, e5, by rw [← r2.length, ← r5.length, sizeLine_eq]; exact hl', fin_write f hr ec (r2.append r5) .non⟩
        · cases e4
  · rename_i c
    cases rp with
    | cell ec =>
      cases rs
      cases q : η[c]? with
      | none => rw [q] at e; simp [D.popO] at e
      | some o =>
        obtain ⟨ys, ws, rfl, e2, r2⟩ := ob_lst hr ec q
        rw [q] at e
        simp only [D.popO] at e
        cases hl : ys.getLast? with
        | none => rw [hl] at e; cases e
        | some y =>
          rw [hl] at e
          cases e
          obtain ⟨u, h1, h2⟩ := r2.last hl
          exact mt_pop pins s σ H _ _ v us Q I rx rv ⟨_, ws, u, rfl, rfl, e2, h1, fin_write f hr ec r2.dropLast h2⟩
  · rename_i c i
    cases rp with
    | cell ec =>
      obtain ⟨u, rfl, ru⟩ := rs.one
      cases ru
      cases q : η[c]? with
      | none => rw [q] at e; simp [D.popAtO] at e
      | some o =>
        obtain ⟨ys, ws, rfl, e2, r2⟩ := ob_lst hr ec q
        rw [q] at e
        simp only [D.popAtO] at e
        cases hi : D.ixN ys.length i with
        | none => rw [hi] at e; cases e
        | some k =>
          rw [hi] at e
          simp only [D.opt_some, D.bind_ok] at e
          cases hk : ys[k]? with
          | none => rw [hk] at e; cases e
          | some y =>
            rw [hk] at e
            cases e
            obtain ⟨u, h1, h2⟩ := r2.get hk
            obtain ⟨g1, g2, g3, g4⟩ := ixN_seq hi
            obtain ⟨hz, _⟩ := I.lstM e2
            rw [sizeLine_eq, ← r2.length] at hz
            exact mt_popAt pins s σ H _ _ v us Q I rx rv ⟨_, ws, i, k, u, rfl, rfl, e2, by omega, by omega, by rw [← r2.length]; exact g1, h1, fin_write f hr ec (r2.eraseIdx k) h2⟩
  · rename_i y
    obtain ⟨e1, rfl⟩ := opt_ok e
    generalize ep : D.vw η' px = p' at e1
    cases p' <;> simp only [D.indexV, reduceCtorEq] at e1
    rename_i ys
    obtain ⟨a, ws, rfl, e2, r2⟩ := vw_lst hr rp ep
    obtain ⟨u, rfl, ru⟩ := rs.one
    unfold D.indexL at e1
    split at e1
    · rename_i hf
      simp only [Bool.and_eq_true, List.all_eq_true] at hf
      obtain ⟨j, e3, rfl⟩ := Option.map_eq_some_iff.mp e1
      obtain ⟨w, h1, h2, h3⟩ := indexOf_facts e3
      have nc : D.noCells ys = true := by rw [noCells_all, List.all_eq_true]; exact fun z hz => flat_noCell _ _ (hf.2 z hz)
      have ny := flat_noCell _ _ hf.1
      have hd := flat_depth 21 (.lst ys) (by show ys.all (D.flat 20) = true; rw [List.all_eq_true]; exact hf.2)
      have hd2 := flat_depth 20 y hf.1
      refine mt_indexD hu pins s σ H _ _ v us Q I rx rv ⟨a, u, toD y, toDs ys, j, toD w, rfl, rfl, .lst (SqL.of e2) (r2.dp nc), ru.dp ny, shaped_of (d := .list (toDs ys)) (by rw [PyData.canLay0]; exact r2.lay) hd (by decide), shaped_of ru.lay hd2 (by decide), ?_, ?_, ?_, fin_val f hr (.int _)⟩
      · rw [toDs_map, List.getElem?_map, h1]; rfl
      · rw [← eqv_toD _ _ (noCell_mem nc (List.mem_of_getElem? h1)) ny]; exact h2
      · intro m z' hm hz
        rw [toDs_map, List.getElem?_map] at hz
        obtain ⟨z, hz1, rfl⟩ := Option.map_eq_some_iff.mp hz
        rw [← eqv_toD _ _ (noCell_mem nc (List.mem_of_getElem? hz1)) ny]
        exact h3 m z hm hz1
    · cases e1
  · rename_i y
    obtain ⟨e1, rfl⟩ := opt_ok e
    generalize ep : D.vw η' px = p' at e1
    cases p' <;> simp only [D.countV, reduceCtorEq] at e1
    rename_i ys
    obtain ⟨a, ws, rfl, e2, r2⟩ := vw_lst hr rp ep
    obtain ⟨u, rfl, ru⟩ := rs.one
    unfold D.countL at e1
    split at e1
    · rename_i hf
      simp only [Bool.and_eq_true, List.all_eq_true] at hf
      cases e1
      have nc : D.noCells ys = true := by rw [noCells_all, List.all_eq_true]; exact fun z hz => flat_noCell _ _ (hf.2 z hz)
      have ny := flat_noCell _ _ hf.1
      have hd := flat_depth 21 (.lst ys) (by show ys.all (D.flat 20) = true; rw [List.all_eq_true]; exact hf.2)
      have hd2 := flat_depth 20 y hf.1
      have ec : (ys.countP fun x => D.eqv x y) = (toDs ys).countP fun z => PyData.eqv z (toD y) := by
        rw [toDs_map, List.countP_map]
        exact List.countP_congr fun x hx => by
          show _ ↔ PyData.eqv (toD x) (toD y) = true
          rw [← eqv_toD _ _ (noCell_mem nc hx) ny]
      rw [ec] at f
      exact mt_countD hu pins s σ H _ _ v us Q I rx rv ⟨a, u, toD y, toDs ys, rfl, rfl, .lst (SqL.of e2) (r2.dp nc), ru.dp ny, shaped_of (d := .list (toDs ys)) (by rw [PyData.canLay0]; exact r2.lay) hd (by decide), shaped_of ru.lay hd2 (by decide), fin_val f hr (.int _)⟩
    · cases e1
  · rename_i a b
    cases e
    cases rp with
    | str h1 =>
      obtain ⟨u, rfl, ru⟩ := rs.one
      cases ru with
      | str h2 =>
        refine mt_startswith pins _ σ H _ _ v us Q I rx rv ⟨_, _, rfl, rfl, ?_⟩
        rw [starts_eq]
        exact fin_val f hr (.bl _)
  · rename_i sp y
    obtain ⟨e1, rfl⟩ := opt_ok e
    obtain ⟨zs, e2, e3⟩ := Option.bind_eq_some_iff.mp e1
    obtain ⟨ys, e4, e5⟩ := Option.bind_eq_some_iff.mp e2
    obtain ⟨u, rfl, ru⟩ := rs.one
    obtain ⟨a, ws, rfl, hq, r2⟩ := seqOf_some hr ru e4
    obtain ⟨rfl, hks⟩ := r2.strs e5
    cases rp with
    | str h1 =>
      unfold D.joinL at e3
      split at e3
      · rename_i hl
        cases e3
        have hl' : (zs.map List.length).sum + zs.length * sp.length ≤ 16777216 := hl
        refine mt_join pins s σ H _ _ v us Q I rx rv ⟨_, a, zs.map stOf, rfl, rfl, hq.elim (fun h => .inl h.1) (fun h => .inr h.1), ?_, ?_⟩
        · have e : (zs.map stOf).map (·.length) = zs.map List.length := by
            rw [List.map_map]
            exact List.map_congr_left fun z _ => stOf_len z
          rw [e, List.length_map, stOf_len]
          exact hl'
        · have e : Txt.join (stOf sp) (zs.map stOf) = stOf (D.joinS sp zs) := by
            rw [← joinS_join]
            exact StrLaws.glued_eq_join _ _
          rw [e]
          refine fin_val f hr (.str ⟨Nat.le_trans (joinS_len _ _) hl', fun c hc => ?_⟩)
          rcases joinS_mem sp zs c hc with h | ⟨z, hz, h⟩
          · exact h1.2 c h
          · exact (hks z hz).2 c h
      · cases e3
  · rename_i c k d
    obtain ⟨e1, rfl⟩ := opt_ok e
    cases rp with
    | cell ec =>
      cases q : η'[c]? with
      | none => rw [q] at e1; simp [D.getO] at e1
      | some o =>
        obtain ⟨ys, ws, rfl, e2, r2⟩ := ob_lst hr ec q
        rw [q] at e1
        simp [D.getO] at e1
  · cases e
theorem rcv_ok {m : D.Mt} {px : PV} {vx : V} (hr : HR K φ Z η H) (rp : RV K φ Z H px vx) (e : D.rcv η m px = true) : tyV K (mtTy m) vx H := by
  have lists : ∀ {T : String} {xs : List PV}, T = "list" → D.vw η px = .lst xs → tyV K T vx H := by
    intro T xs hT ev
    obtain ⟨a, vs, rfl, e1, r1⟩ := vw_lst hr rp ev
    exact .inl ⟨hT, _, SqL.of e1⟩
  cases m <;> cases px <;> simp only [D.rcv, Bool.false_eq_true] at e
  all_goals first
    | (cases rp; exact rfl)
    | exact lists rfl rfl
    | (rename_i c
       cases q : η[c]? with
       | none => rw [q] at e; simp [D.rcvO] at e
       | some o =>
         cases rp with
         | cell ec =>
           obtain ⟨ys, ws, rfl, e2, r2⟩ := ob_lst hr ec q
           first
             | (refine lists rfl (xs := ys) ?_; simp [D.vw, q, D.vwO])
             | (rw [q] at e; simp [D.rcvO] at e))
end
end DS
end

section
set_option Elab.async false
set_option linter.all false
set_option maxRecDepth 100000
set_option maxHeartbeats 1000000
namespace DS
open PySem PySem.Spec PyProof.Rows L2

theorem meets_enum1 {v : Value} {o : Obj} {H : Heap → Prop} (B : Begins v o H) :
    Meets (Builtin.«enumerate.__new__» ⟨[.type "enumerate", v], []⟩) (fun _ R s => H s.heap ∧
      R (.ok (.ret (.ref (s.heap.push o).objs.size))) { s with heap := (s.heap.push o).push { cls := .type "enumerate", data := .fields #[.none, .bool false, .ref s.heap.objs.size, rawInt 0, .none, .none] } }) :=
  .of_wp fun prog w A R s h => by
    obtain ⟨hp, g, d, tk, os⟩ := s; obtain ⟨h1, h⟩ := h
    have hsub := sub_enumerate
    have q1 : ∀ {A' : Around} {E : Value → Shared → Prop} {Q : Value → Shared → Prop}, Q (.ref hp.objs.size) ⟨hp.push o, g, d, tk, os⟩ → wpAny (model prog w) A' (pyIter v) Q E ⟨hp, g, d, tk, os⟩ :=
      fun q => B.iter prog w _ _ ⟨hp, g, d, tk, os⟩ _ h1 q
    wp_walk using q1
    refine wpAny_stack_any fun st => wpAny_pure ?_
    split
    · rename_i c _ _ _ _ _
      cases (c == Value.type "enumerate")
      · wp_walk using q1
        exact ⟨_, rfl, h⟩
      · wp_walk using q1
        exact ⟨_, rfl, h⟩
    · wp_walk using q1
      exact ⟨_, rfl, h⟩
theorem call_enum1 {prog : Program} {w : World} {A : Around} {E : Value → Shared → Prop} {s : Shared} {v : Value} {o : Obj} {H : Heap → Prop} {Q : Value → Shared → Prop} (B : Begins v o H) (h1 : H s.heap)
    (h : ∀ h', IsEnum h' (s.heap.objs.size + 1) s.heap.objs.size 0 .none → h'.get? s.heap.objs.size = some o → h'.objs.size = s.heap.objs.size + 2 →
      (∀ b o, s.heap.get? b = some o → h'.get? b = some o) → Q (.ref (s.heap.objs.size + 1)) { s with heap := h' }) :
    wpAny (model prog w) A (call (.type "enumerate") [v]) Q E s := by
  refine callType_new F.called_enumerate (by decide) (F.typeCall_enumerate_1 _) (F.newCall_enumerate_1 _) (fun obj => F.args_object_init_2 obj _) F.entry_enumerate_new
    (meets_enum1 B) ⟨h1, ?_⟩
  have hz : (s.heap.push o).objs.size = s.heap.objs.size + 1 := Heap.size_push ..
  show _ ∧ _
  rw [hz]
  have he : IsEnum ((s.heap.push o).push { cls := .type "enumerate", data := .fields #[.none, .bool false, .ref s.heap.objs.size, rawInt 0, .none, .none] }) (s.heap.objs.size + 1) s.heap.objs.size 0 .none := by
    have := Heap.get?_push_size (s.heap.push o) (o := { cls := .type "enumerate", data := .fields #[.none, .bool false, .ref s.heap.objs.size, rawInt 0, .none, .none] }) rfl
    rw [hz] at this; exact this
  refine ⟨⟨_, he, rfl⟩, h _ he (Heap.get?_push_of_some _ (Heap.get?_push_size _ B.free)) (by rw [Heap.size_push, hz]) fun b o x => Heap.get?_push_of_some _ (Heap.get?_push_of_some _ x)⟩
/-- the tuple at a, each item in a new pair -/
def ItetT (K : PySem.W.Frag) (a : Addr) : L2.It :=
  ⟨fun i H => ∃ (xs : List V) (x : V), SqT K H a xs ∧ xs[i]? = some x, fun i H v H' => ∃ T x, v = .ref T ∧ H T = none ∧ H' = upd H T (.tup [.int (i : Nat), x]) ∧ ∀ xs, SqT K H a xs → xs[i]? = some x, fun i H => ∃ xs : List V, SqT K H a xs ∧ xs.length ≤ i⟩
theorem next_enumT_end {prog : Program} {w : World} {A : Around} {E : Value → Shared → Prop} {s : Shared} {e it t : Addr} {i : Nat} {items : Array Value} {c : Int} {old : Value} {Q : Option Value → Shared → Prop} (hh : A.handled = none)
    (he : IsEnum s.heap e it c old) (hit : s.heap.IsTupleIter it t i) (ht : s.heap.IsTuple t items) (hx : items[i]? = none)
    (hQ : ∀ h', Heap.ExtBut it s.heap h' → Q none { s with heap := h' }) : wpAny (model prog w) A (pyNext (.ref e)) Q E s := by
  have hT : s.TypeIs (.ref e) "enumerate" := ⟨_, he, rfl⟩
  unfold pyNext
  refine wpAny_bind (wpAny_attempt (wpAny_callSpecial?_slot (name := Str.ofString "__next__") hT F.slot_enumerate_next
    (wpAny_call_entry F.slot_enumerate_next hT F.entry_enumerate_next ?_ (F.args_enumerate_next_1 _))))
  show wpAny _ _ (field (.ref e) 2 >>= _) _ _ _
  refine wpAny_bind (wpAny_field he rfl (x := .ref it) rfl ?_)
  refine wpAny_bind (wpAny_nextOf_tuple_end (A := A.in1) hh hit ht hx fun h' x he' hx' => ?_)
  obtain ⟨o, ho, hc⟩ := hx'
  refine wpAny_bind (wpAny_isInstance (T := "StopIteration") (b := true) ⟨o, ho, hc⟩ isSubtype_stop ?_)
  exact wpAny_pure (hQ _ he')
theorem turn_enumT {P : Program} {w : World} {K : PySem.W.Frag} {elts : List Expr} {kk : Nat} {tpos : Pos} (a e it : Addr) :
    Turn P w K (.Tuple elts kk tpos) (ItetT K a) [e, it] e (fun i h => (∃ old, IsEnum h e it ((i : Nat) : Int) old) ∧ h.IsTupleIter it a i ∧ e ≠ it) where
  mem := by simp
  obj := fun i h st b hb => by
    obtain ⟨⟨old, he⟩, ⟨o, ho, hc, hd⟩, _⟩ := st
    have e' : b = e ∨ b = it := by simpa using hb
    rcases e' with z | z
    · rw [z]; exact ⟨_, he, fun v q => nomatch q⟩
    · rw [z]; exact ⟨o, ho, fun v q => by rw [hd] at q; cases q⟩
  keep := fun i h h' st k => let ⟨⟨old, he⟩, hi, hne⟩ := st; ⟨⟨old, k e (by simp) _ he⟩, hi.at fun o q => k it (by simp) o q, hne⟩
  item := by
    intro X hP hw hK hc i pins s σ H E I hf st hg
    subst hP hw hK
    obtain ⟨⟨old, he⟩, hit, hne⟩ := st
    obtain ⟨xs, x, hq, hx⟩ := hg
    obtain ⟨its, rv, p, hz⟩ := I.tuple hq
    obtain ⟨u, hu, ru⟩ := rv.get hx
    have hel : e < s.heap.objs.size := Heap.lt_size he
    have hil : it < s.heap.objs.size := by obtain ⟨_, q, _⟩ := hit; exact Heap.lt_size q
    have hal : a ≠ it ∧ a ≠ e := by
      obtain ⟨o1, q1, c1, d1⟩ := hit
      obtain ⟨o2, q2, c2, _⟩ := (show s.heap.IsTuple a its.toArray from p)
      refine ⟨?_, ?_⟩
      · rintro rfl
        rw [q1] at q2; cases q2
        rw [c1] at c2; exact absurd c2 (by decide)
      · rintro rfl
        have he' : s.heap.get? a = some _ := he
        rw [he'] at q2; cases q2
        injection c2 with c3
        exact absurd c3 (by decide)
    have hlt : i < its.toArray.size := by
      have := (List.getElem?_eq_some_iff.mp hu).1
      simpa using this
    refine wpAny_pyNext_enum_itemD (Draws.tuple (A := X.A.in1) (I.ok.hd hc) it a hal.1 its.toArray) he ⟨hit, p⟩ hlt hne (by simp only [List.mem_cons, List.not_mem_nil, or_false, not_or]; exact ⟨hne, Ne.symm hal.2⟩) fun x' h' tk hP ho hit' hT hsz hk => ?_
    have ex : x' = u := by
      rw [List.getElem?_toArray, hu] at hP
      exact (Option.some.inj hP).symm
    subst ex
    refine ⟨_, rfl, wpAny_letOwnedTupleGo_enum (s := { s with heap := h', toks := tk + 1 }) ho fun h'' he' sb => ?_⟩
    have hT2 : h''.get? s.heap.objs.size = some { cls := .type "tuple", data := .seq #[.int i tk, x'] } := (sb.2 _ (Nat.ne_of_gt hel)).trans hT
    have new : ObjOk X.prog X.w (upd H s.heap.objs.size (.tup [.int (i : Nat), x])) h'' s.heap.objs.size (.tup [.int (i : Nat), x]) :=
      ⟨by show 2 ≤ sizeLine; decide, [.int i tk, x'], .cons ⟨_, rfl⟩ (.cons ru .nil), ⟨_, hT2, rfl, _, rfl⟩⟩
    have I1 : Inv X pins σ (upd H s.heap.objs.size (.tup [.int (i : Nat), x])) { s with heap := h'', toks := tk + 1 } :=
      I.turnedNew (ch := [e, it]) (fun b ob hb q => (sb.2 b (fun z => hb (by simp [z]))).trans (hk b ob (fun z => hb (by simp [z])) (fun z => hb (by simp [z])) q)) hf (Nat.le_refl _) new
    refine ⟨.ref s.heap.objs.size, _, I1, rfl, ⟨_, x, rfl, I.hok.fresh (Nat.le_refl _), rfl, fun ys hy => by rw [I.tuple_inj hy hq]; exact hx⟩, ⟨⟨x', ?_⟩, hit'.1.at fun o q => (sb.2 it (Ne.symm hne)).trans q, hne⟩, fun b hb => ?_⟩
    · have e1 : ((i + 1 : Nat) : Int) = (i : Int) + 1 := by omega
      rw [e1]; exact he'
    · have hb' : b < s.heap.objs.size := by
        have e' : b = e ∨ b = it := by simpa using hb
        rcases e' with z | z
        · rw [z]; exact hel
        · rw [z]; exact hil
      rw [upd_ne (Nat.ne_of_lt hb')]
      exact (hf b hb).1
  done := by
    intro X hP hw hK hc i pins s σ H E I hf st hg
    subst hP hw hK
    obtain ⟨⟨old, he⟩, hit, hne⟩ := st
    obtain ⟨xs, hq, hx⟩ := hg
    obtain ⟨its, rv, p, hz⟩ := I.tuple hq
    obtain ⟨f0, f1, f2, f3, f4, f5⟩ := hf it (by simp)
    have hl := rv.length
    exact next_enumT_end (I.ok.hd hc) he hit (show s.heap.IsTuple a its.toArray from p) (by simp; omega) fun h' eb => ⟨rfl, I.turned (t' := s.toks) (fun b o hb q => eb b o hb q) f0 f1 f3 f4 f5⟩
  self := fun A i s Q E st h => let ⟨⟨_, he⟩, _⟩ := st; wpAny_pyIter_enum he h

def iEnumA (K : PySem.W.Frag) (ta : TA) : TI := fun σ H R => ta σ H fun vs H1 => ∃ a xs, vs = [.ref a] ∧ ((SqL K H1 a xs ∧ R (Ite K a) H1) ∨ (SqT K H1 a xs ∧ R (ItetT K a) H1))
theorem pi_enumA {X : Cx} {e : Expr} {ta : TA} {p pos tpos : Pos} {elts : List Expr} {kk : Nat} (hg : Gl X "enumerate") (hm : X.mg "enumerate" = none) (ha : PA X [e] ta) (hs : starEach [e] X.env = [(false, eval e X.env)] := by rfl) :
    PI X (.Tuple elts kk tpos) (.Call (.Name "enumerate" p) [e] [] pos) (iEnumA X.K ta) := by
  refine ⟨fun pins s σ H R I h => ?_⟩
  refine Call_ (ld_blt I hg hm boot_enumerate (PyProof.Rows.callWith_type1 (thn (ha.run pos pins s σ H _ I h) fun us s1 ⟨vs, H1, I1, r1, q1⟩ => ?_) hs rfl))
  obtain ⟨a, xs, ex, hq⟩ := q1
  subst ex
  cases r1 with
  | cons r rr =>
    cases rr
    cases r
    have fin : ∀ {J : L2.It} {tn : Nat → Heap → Prop} (h' : Heap), (∀ b o, s1.heap.get? b = some o → h'.get? b = some o) → h'.objs.size = s1.heap.objs.size + 2 → Turn X.prog X.w X.K (.Tuple elts kk tpos) J [s1.heap.objs.size + 1, s1.heap.objs.size] (s1.heap.objs.size + 1) tn → tn 0 h' → R J H1 →
        PIE X pins σ (.Tuple elts kk tpos) R (.ref (s1.heap.objs.size + 1)) { s1 with heap := h' } := by
      intro J tn h' hk hsz T st q
      have I2 : Inv X pins σ H1 { s1 with heap := h' } := I1.kept (t' := s1.toks) hk
      refine ⟨s1.heap.objs.size + 1, [s1.heap.objs.size + 1, s1.heap.objs.size], _, _, H1, rfl, I2, T, st, fun b hb => ?_, q⟩
      have e' : b = s1.heap.objs.size + 1 ∨ b = s1.heap.objs.size := by simpa using hb
      have hle : s1.heap.objs.size ≤ b := by
        rcases e' with z | z
        · rw [z]; exact Nat.le_succ _
        · rw [z]; exact Nat.le_refl _
      exact I1.fpOk hle (I1.hok.fresh hle)
    rcases hq with ⟨hq, q⟩ | ⟨hq, q⟩
    · obtain ⟨its, rv, p', hz⟩ := I1.list hq
      exact call_enumerate_list p'.isList fun h' he hit hsz hk => wpAny_pyIter_enum he (fin h' hk hsz (turn_enum a (s1.heap.objs.size + 1) s1.heap.objs.size) ⟨⟨.none, he⟩, hit, Nat.succ_ne_self _⟩ q)
    · obtain ⟨its, rv, p', hz⟩ := I1.tuple hq
      exact call_enum1 (begins_tuple a its.toArray) (show s1.heap.IsTuple a its.toArray from p') fun h' he hit hsz hk => wpAny_pyIter_enum he (fin h' hk hsz (turn_enumT a (s1.heap.objs.size + 1) s1.heap.objs.size) ⟨⟨.none, he⟩, ⟨_, hit, rfl, rfl⟩, Nat.succ_ne_self _⟩ q)
end DS
end

section
set_option Elab.async false
set_option linter.all false
set_option maxRecDepth 100000
set_option maxHeartbeats 1000000
namespace DS
open PySem PySem.Spec PyProof.Rows L2
variable {ct : Ct} {K : Fg} {φ φ' φ'' Z Z' : List Addr} {H H' H'' : Hp} {η η' : D.Hp} {ρ : D.Env} {σ : L2.St} {W : WX} {E : XK}

/-- Z', with lists that are new since H -/
def zOk (Z Z' : List Addr) (H : Hp) : Prop := ∀ d ∈ Z', d ∈ Z ∨ H d = none
theorem zOk.refl : zOk Z Z H := fun d h => .inl h
/-- from one state to a later one, where the lists of Z may change -/
structure ExtW (Z φ : List Addr) (H : Hp) (φ' : List Addr) (H' : Hp) : Prop where
  pre : φ <+: φ'
  keep : ∀ a o, H a = some o → a ∉ φ → a ∉ Z → H' a = some o
  out : ∀ a o, H a = some o → a ∉ φ → a ∉ Z → a ∉ φ'
theorem Ext.w (x : Ext φ H φ' H') : ExtW Z φ H φ' H' := ⟨x.pre, fun a o e n _ => x.keep a o e n, fun a o e n _ => x.out a o e n⟩
theorem ExtW.trans (a : ExtW Z φ H φ' H') (b : Ext φ' H' φ'' H'') : ExtW Z φ H φ'' H'' :=
  ⟨a.pre.trans b.pre, fun x o h n z => b.keep x o (a.keep x o h n z) (a.out x o h n z), fun x o h n z => b.out x o (a.keep x o h n z) (a.out x o h n z)⟩
theorem ExtW.upd {D : Addr} {o : HO} (a : ExtW Z φ H φ' H') (h : D ∈ Z) : ExtW Z φ H φ' (upd H' D o) :=
  ⟨a.pre, fun x u e n z => by rw [upd_ne (by rintro rfl; exact z h)]; exact a.keep x u e n z, a.out⟩
theorem HR.tupZ (h : HR K φ Z η H) {a : Addr} {vs : List V} (e : H a = some (.tup vs)) : a ∉ Z := fun z => by
  obtain ⟨us, q⟩ := h.zin a z
  rw [q] at e; cases e
theorem HR.frzZ (h : HR K φ Z η H) {a : Addr} {o : Obj} {u : HO} (e : H a = some (.frz o u)) : a ∉ Z := fun z => by
  obtain ⟨us, q⟩ := h.zin a z
  rw [q] at e; cases e
theorem HR.ktupW (h : HR K φ Z η H) (x : ExtW Z φ H φ' H') {a : Addr} {vs : List V} (e : SqT K H a vs) : SqT K H' a vs := by
  rcases e with (e | ⟨o, e⟩) | e
  · exact .inl (.inl (x.keep a _ e (h.tupOut e) (h.tupZ e)))
  · exact .inl (.inr ⟨o, x.keep a _ e (h.frzOut e) (h.frzZ e)⟩)
  · exact .inr e
theorem HR.kscrW (h : HR K φ Z η H) (x : ExtW Z φ H φ' H') {a : Addr} {vs : List V} (e : SqF K H a vs) : SqF K H' a vs := by
  rcases e with ⟨o, e⟩ | e
  · exact .inl ⟨o, x.keep a _ e (h.frzOut e) (h.frzZ e)⟩
  · exact .inr e
mutual
theorem RV.extW (h : HR K φ Z η H) (x : ExtW Z φ H φ' H') (z : zOk Z Z' H) : ∀ {p : PV} {v : V}, RV K φ Z H p v → RV K φ' Z' H' p v
  | _, _, .non => .non
  | _, _, .bl b => .bl b
  | _, _, .int i => .int i
  | _, _, .str hk => .str hk
  | _, _, .tup e hs => .tup (h.ktupW x e) (RVs.extW h x z hs)
  | _, _, .lst (a := a) e h1 h2 hs => .lst (x.keep _ _ e h1 h2) (x.out _ _ e h1 h2) (fun m => (z a m).elim h2 fun n => by rw [n] at e; cases e) (RVs.extW h x z hs)
  | _, _, .cell e => .cell (pre_get x.pre e)
  | _, _, .scr e => .scr (h.kscrW x e)
theorem RVs.extW (h : HR K φ Z η H) (x : ExtW Z φ H φ' H') (z : zOk Z Z' H) : ∀ {p : List PV} {v : List V}, RVs K φ Z H p v → RVs K φ' Z' H' p v
  | _, _, .nil => .nil
  | _, _, .cons r t => .cons (RV.extW h x z r) (RVs.extW h x z t)
end
structure WkR (K : Fg) (Z φ0 : List Addr) (H0 : Hp) (xs : List PV) (w : D.Wt) (J : L2.It) : Prop where
  go : ∀ (Z' φ : List Addr) (H : Hp) (η : D.Hp) (i : Nat), zOk Z Z' H0 → ExtW Z φ0 H0 φ H → HR K φ Z' η H → D.stays w η = true → i < xs.length → J.go i H
  stop : ∀ (Z' φ : List Addr) (H : Hp) (η : D.Hp), zOk Z Z' H0 → ExtW Z φ0 H0 φ H → HR K φ Z' η H → D.stays w η = true → J.stop xs.length H
  yld : ∀ (Z' φ : List Addr) (H : Hp) (η : D.Hp) (i : Nat) (x : V) (H' : Hp), zOk Z Z' H0 → ExtW Z φ0 H0 φ H → HR K φ Z' η H → D.stays w η = true → i < xs.length → J.yld i H x H' →
    ∃ p, xs[i]? = some p ∧ Ext φ H φ H' ∧ HR K φ Z' η H' ∧ RV K φ Z' H' p x
def rI (K : Fg) (Z : List Addr) : List Addr → Hp → List PV × D.Wt → L2.It → Prop := fun φ H p J => WkR K Z φ H p.1 p.2 J
abbrev tI (ct : Ct) (K : Fg) (Z : List Addr) (W : WX) (ev : D.Env → D.Hp → D.Res (List PV × D.Wt)) : TI := tG (rI K Z) ct K Z W ev
theorem _root_.L2.PI.mono {X : Cx} {tg e : Expr} {t t' : TI} (h : PI X tg e t) (hm : ∀ σ H Q, t' σ H Q → t σ H Q) : PI X tg e t' := ⟨fun pins s σ H Q I ht => h.run pins s σ H Q I (hm _ _ _ ht)⟩

/-- from a walk that gives the i-th of vs, the heap as it was -/
theorem WkR.at {J : L2.It} {G : Hp → Prop} {xs : List PV} {vs : List V} {w : D.Wt} (k : Walk J vs.length G (YAt vs)) (h0 : HR K φ Z η H) (r : RVs K φ Z H xs vs)
    (hG : ∀ (Z' φ' : List Addr) (H' : Hp) (η' : D.Hp), ExtW Z φ H φ' H' → HR K φ' Z' η' H' → D.stays w η' = true → G H') : WkR K Z φ H xs w J where
  go := fun Z' φ' H' η' i z x h st hi => k.goes i H' (by rw [← r.length]; exact hi) (hG Z' φ' H' η' x h st)
  stop := fun Z' φ' H' η' z x h st => by rw [r.length]; exact k.stops H' (hG Z' φ' H' η' x h st)
  yld := fun Z' φ' H' η' i v H'' z x h st hi y => by
    obtain ⟨rfl, e⟩ := k.yields i H' v H'' (by rw [← r.length]; exact hi) (hG Z' φ' H' η' x h st) y
    obtain ⟨p, e1, r1⟩ := r.get' e
    exact ⟨p, e1, .refl, h, r1.extW h0 x z⟩
theorem wk_list {a : Addr} {xs : List PV} {vs : List V} (h0 : HR K φ Z η H) (e : H a = some (.lst vs)) (n : a ∉ φ) (m : a ∉ Z) (r : RVs K φ Z H xs vs) : WkR K Z φ H xs none (Itl K a) :=
  WkR.at walk_list h0 r fun Z' φ' H' η' x h _ => SqL.of (x.keep _ _ e n m)
theorem wk_tup {a : Addr} {xs : List PV} {vs : List V} (h0 : HR K φ Z η H) (e : SqT K H a vs) (r : RVs K φ Z H xs vs) : WkR K Z φ H xs none (Itt K a) :=
  WkR.at walk_tup h0 r fun Z' φ' H' η' x h _ => h0.ktupW x e
theorem stays_some {c : Nat} {xs : List PV} (h : D.stays (some (c, xs)) η = true) : η[c]? = some (.lst xs) := D.stays_iff.mp h
theorem wk_cell {c : Nat} {a : Addr} {xs : List PV} (ec : φ[c]? = some a) : WkR K Z φ H xs (some (c, xs)) (Itl K a) where
  go := fun Z' φ' H' η' i z x h st hi => by
    obtain ⟨ys, vs, e, e1, r⟩ := ob_lst h (pre_get x.pre ec) (stays_some st)
    cases e
    exact walk_list.goes i H' (by rw [← r.length]; exact hi) (SqL.of e1)
  stop := fun Z' φ' H' η' z x h st => by
    obtain ⟨ys, vs, e, e1, r⟩ := ob_lst h (pre_get x.pre ec) (stays_some st)
    cases e
    rw [r.length]
    exact walk_list.stops H' (SqL.of e1)
  yld := fun Z' φ' H' η' i v H'' z x h st hi y => by
    obtain ⟨ys, vs, e, e1, r⟩ := ob_lst h (pre_get x.pre ec) (stays_some st)
    cases e
    obtain ⟨rfl, e2⟩ := walk_list.yields i H' v H'' (by rw [← r.length]; exact hi) (SqL.of e1) y
    obtain ⟨p, e3, r1⟩ := r.get' e2
    exact ⟨p, e3, .refl, h, r1⟩
theorem wk_str {s : List Nat} (k : okS s) : WkR K Z φ H (s.map fun c => .str [c]) none (Its (stOf s)) where
  go := fun Z' φ' H' η' i z x h st hi => walk_str.goes i H' (by rw [List.length_map] at hi; rw [← stOf_len] at hi; exact hi) trivial
  stop := fun Z' φ' H' η' z x h st => by
    rw [List.length_map, ← stOf_len]
    exact walk_str.stops H' trivial
  yld := fun Z' φ' H' η' i v H'' z x h st hi y => by
    obtain ⟨rfl, c, e, rfl⟩ := walk_str.yields i H' v H'' (by rw [List.length_map] at hi; rw [← stOf_len] at hi; exact hi) trivial y
    have e1 : s[i]? = some c := by
      have := congrArg (fun l : List Nat => l[i]?) (stOf_cps s)
      simp only [Array.getElem?_toList] at this
      rw [← this]; exact e
    refine ⟨.str [c], by rw [List.getElem?_map, e1]; rfl, .refl, h, .str (s := [c]) ⟨by show 1 ≤ 16777216; decide, fun d hd => ?_⟩⟩
    rw [List.mem_singleton.mp hd]
    exact k.2 c (List.mem_of_getElem? e1)
theorem rangeL_len (i j : Int) : (D.rangeL i j).length = (j - i).toNat := by simp [D.rangeL]
theorem rangeL_get {i j : Int} {k : Nat} (h : k < (j - i).toNat) : (D.rangeL i j)[k]? = some (.int (i + (k : Int))) := by simp [D.rangeL, h]
theorem wk_range {i j : Int} : WkR K Z φ H (D.rangeL i j) none (Itr i (j - i).toNat) where
  go := fun Z' φ' H' η' k z x h st hi => walk_range.goes k H' (by rw [rangeL_len] at hi; exact hi) trivial
  stop := fun Z' φ' H' η' z x h st => by
    rw [rangeL_len]
    exact walk_range.stops H' trivial
  yld := fun Z' φ' H' η' k v H'' z x h st hi y => by
    rw [rangeL_len] at hi
    obtain ⟨rfl, rfl⟩ := walk_range.yields k H' v H'' hi trivial y
    exact ⟨_, rangeL_get hi, .refl, h, .int _⟩
def cntC (i j c : Int) : Nat := if 0 < c then ((j - i + c - 1) / c).toNat else if c < 0 then ((i - j - c - 1) / (-c)).toNat else 0
theorem wk_rangeC {i j c : Int} : WkR K Z φ H (D.rangeC i j c) none (Itc i c (cntC i j c)) where
  go := fun Z' φ' H' η' k z x h st hi => walk_rangeC.goes k H' (by simpa [D.rangeC, cntC] using hi) trivial
  stop := fun Z' φ' H' η' z x h st => by
    have e : (D.rangeC i j c).length = cntC i j c := by simp [D.rangeC, cntC]
    rw [e]
    exact walk_rangeC.stops H' trivial
  yld := fun Z' φ' H' η' k v H'' z x h st hi y => by
    have hi' : k < cntC i j c := by simpa [D.rangeC, cntC] using hi
    obtain ⟨rfl, rfl⟩ := walk_rangeC.yields k H' v H'' hi' trivial y
    refine ⟨.int (i + (k : Int) * c), ?_, .refl, h, .int _⟩
    unfold D.rangeC
    rw [List.getElem?_map, List.getElem?_range (by exact hi')]
    rfl
/-- from a walk that gives new pairs -/
theorem WkR.pair {J : L2.It} {G : Hp → Prop} {xs : List PV} {n : Nat} {f g : Nat → Option V} (hn : xs.length = n) (k : Walk J n G (YPair f g)) (h0 : HR K φ Z η H)
    (hG : ∀ (Z' φ' : List Addr) (H' : Hp) (η' : D.Hp), ExtW Z φ H φ' H' → HR K φ' Z' η' H' → G H')
    (hp : ∀ (i : Nat) (x y : V), i < n → f i = some x → g i = some y → ∃ p q, xs[i]? = some (.tup [p, q]) ∧ RV K φ Z H p x ∧ RV K φ Z H q y) : WkR K Z φ H xs none J where
  go := fun Z' φ' H' η' i z x h st hi => k.goes i H' (by rw [← hn]; exact hi) (hG Z' φ' H' η' x h)
  stop := fun Z' φ' H' η' z x h st => by rw [hn]; exact k.stops H' (hG Z' φ' H' η' x h)
  yld := fun Z' φ' H' η' i v H'' z x h st hi y => by
    obtain ⟨T, a, b, rfl, hT, rfl, e1, e2⟩ := k.yields i H' v H'' (by rw [← hn]; exact hi) (hG Z' φ' H' η' x h) y
    obtain ⟨p, q, e3, r1, r2⟩ := hp i a b (by rw [← hn]; exact hi) e1 e2
    have ex := ext_new h (o := .tup [a, b]) hT
    exact ⟨_, e3, ex, h.new hT, .tup (SqT.of upd_same) (.cons ((r1.extW h0 x z).ext h ex) (.cons ((r2.extW h0 x z).ext h ex) .nil))⟩
theorem walk_enumT {a : Addr} {xs : List V} : Walk (ItetT K a) xs.length (fun H => SqT K H a xs) (YPair (fun i => some (.int (i : Nat))) (fun i => xs[i]?)) := by
  refine ⟨fun i _ hi q => ⟨xs, xs[i], q, by simp [hi]⟩, fun _ q => ⟨xs, q, Nat.le_refl _⟩, fun i H v H' _ q y => ?_⟩
  obtain ⟨T, x, h1, h2, h3, h4⟩ := y
  exact ⟨T, .int (i : Nat), x, h1, h2, h3, rfl, h4 xs q⟩
theorem enumL_get {xs : List PV} {i : Nat} {p : PV} (e : xs[i]? = some p) : (D.enumL xs)[i]? = some (.tup [.int (i : Nat), p]) := by
  simp [D.enumL, e]
theorem enumL_len (xs : List PV) : (D.enumL xs).length = xs.length := by simp [D.enumL]
theorem wk_enum {a : Addr} {xs : List PV} {vs : List V} (h0 : HR K φ Z η H) (e : H a = some (.lst vs)) (n : a ∉ φ) (m : a ∉ Z) (r : RVs K φ Z H xs vs) : WkR K Z φ H (D.enumL xs) none (Ite K a) := by
  refine WkR.pair (by rw [enumL_len, r.length]) walk_enum h0 (fun Z' φ' H' η' x h => SqL.of (x.keep _ _ e n m)) fun i x y hi e1 e2 => ?_
  cases e1
  obtain ⟨p, e3, r1⟩ := r.get' e2
  exact ⟨_, p, enumL_get e3, .int _, r1⟩
theorem wk_enumT {a : Addr} {xs : List PV} {vs : List V} (h0 : HR K φ Z η H) (e : SqT K H a vs) (r : RVs K φ Z H xs vs) : WkR K Z φ H (D.enumL xs) none (ItetT K a) := by
  refine WkR.pair (by rw [enumL_len, r.length]) walk_enumT h0 (fun Z' φ' H' η' x h => h0.ktupW x e) fun i x y hi e1 e2 => ?_
  cases e1
  obtain ⟨p, e3, r1⟩ := r.get' e2
  exact ⟨_, p, enumL_get e3, .int _, r1⟩
theorem walk_zipT {n : Nat} {a b : Addr} {xs ys : List V} (hn : n = min xs.length ys.length) : Walk (RZ.ItzT K a b) n (fun H => SqT K H a xs ∧ SqT K H b ys) (YPair (fun i => xs[i]?) (fun i => ys[i]?)) := by
  subst hn
  refine ⟨fun i _ hi q => ?_, fun _ q => ⟨xs, ys, q.1, q.2, by omega⟩, fun i H v H' _ q y => ?_⟩
  · have h1 : i < xs.length := by omega
    have h2 : i < ys.length := by omega
    exact ⟨xs, ys, xs[i], ys[i], q.1, q.2, by simp [h1], by simp [h2]⟩
  · obtain ⟨T, x, z, h1, h2, h3, h4, h5⟩ := y
    exact ⟨T, x, z, h1, h2, h3, h4 xs q.1, h5 ys q.2⟩
theorem zipL_get {xs ys : List PV} {i : Nat} {p q : PV} (e : xs[i]? = some p) (e2 : ys[i]? = some q) : (D.zipL xs ys)[i]? = some (.tup [p, q]) := by
  unfold D.zipL
  rw [List.getElem?_map, (List.getElem?_zip_eq_some (z := (p, q))).mpr ⟨e, e2⟩]
  rfl
theorem zipL_len (xs ys : List PV) : (D.zipL xs ys).length = min xs.length ys.length := by simp [D.zipL]
theorem wk_zip {a b : Addr} {xs ys : List PV} {vs us : List V} (h0 : HR K φ Z η H) (e : H a = some (.lst vs)) (n : a ∉ φ) (m : a ∉ Z) (r : RVs K φ Z H xs vs) (e' : H b = some (.lst us)) (n' : b ∉ φ) (m' : b ∉ Z) (r' : RVs K φ Z H ys us) : WkR K Z φ H (D.zipL xs ys) none (Itz K a b) := by
  refine WkR.pair (by rw [zipL_len, r.length, r'.length]) (walk_zip rfl) h0 (fun Z' φ' H' η' x h => ⟨SqL.of (x.keep _ _ e n m), SqL.of (x.keep _ _ e' n' m')⟩) fun i x y hi e1 e2 => ?_
  obtain ⟨p, e3, r1⟩ := r.get' e1
  obtain ⟨q, e4, r2⟩ := r'.get' e2
  exact ⟨p, q, zipL_get e3 e4, r1, r2⟩
theorem wk_zipT {a b : Addr} {xs ys : List PV} {vs us : List V} (h0 : HR K φ Z η H) (e : SqT K H a vs) (r : RVs K φ Z H xs vs) (e' : SqT K H b us) (r' : RVs K φ Z H ys us) : WkR K Z φ H (D.zipL xs ys) none (RZ.ItzT K a b) := by
  refine WkR.pair (by rw [zipL_len, r.length, r'.length]) (walk_zipT rfl) h0 (fun Z' φ' H' η' x h => ⟨h0.ktupW x e, h0.ktupW x e'⟩) fun i x y hi e1 e2 => ?_
  obtain ⟨p, e3, r1⟩ := r.get' e1
  obtain ⟨q, e4, r2⟩ := r'.get' e2
  exact ⟨p, q, zipL_get e3 e4, r1, r2⟩
theorem cnt_up {i j c : Int} (hc : 0 < c) : (if i < j then (j - i - 1) / c + 1 else 0) = (((j - i + c - 1) / c).toNat : Int) ∧ (if i < j then (j - i - 1) / c + 1 else 0) ≤ (j - i).natAbs := by
  by_cases h : i < j
  · rw [if_pos h]
    have e : j - i + c - 1 = (j - i - 1) + 1 * c := by omega
    have h0 : 0 ≤ (j - i - 1) / c := Int.ediv_nonneg (by omega) (by omega)
    have h1 : (j - i - 1) / c ≤ j - i - 1 := Int.ediv_le_self _ (by omega)
    rw [e, Int.add_mul_ediv_right _ _ (by omega)]
    omega
  · rw [if_neg h]
    have h1 : (j - i + c - 1) / c < 1 := Int.ediv_lt_of_lt_mul hc (by omega)
    omega
theorem rgC {i j c : Int} (h1 : D.small i = true) (h2 : D.small j = true) (h3 : D.small c = true) (h4 : c ≠ 0) : RgC i j c (cntC i j c) := by
  have q1 := of_decide_eq_true h1
  have q2 := of_decide_eq_true h2
  have q3 := of_decide_eq_true h3
  have hs : Builtin.Range.rangeSize i j c = (cntC i j c : Nat) ∧ Builtin.Range.rangeSize i j c ≤ (j - i).natAbs := by
    unfold Builtin.Range.rangeSize cntC
    by_cases hc : 0 < c
    · rw [if_pos hc, if_pos hc]
      exact cnt_up hc
    · have hc' : c < 0 := by omega
      rw [if_neg hc, if_neg hc, if_pos hc']
      obtain ⟨a, b⟩ := cnt_up (i := j) (j := i) (c := -c) (by omega)
      refine ⟨?_, by show (if j < i then (i - j - 1) / -c + 1 else 0) ≤ _; omega⟩
      show (if j < i then (i - j - 1) / -c + 1 else 0) = _
      rw [a]
      congr 2
  refine ⟨h4, q3, ?_, hs.1⟩
  have hn : 0 ≤ Builtin.Range.rangeSize i j c := by rw [hs.1]; omega
  unfold Builtin.Range.small Builtin.Range.rangeFitsLong
  simp only [Bool.and_eq_true, Bool.or_eq_true, decide_eq_true_eq]
  refine ⟨⟨⟨⟨?_, ?_⟩, ?_⟩, ?_⟩, .inr ?_⟩
  · omega
  · omega
  · omega
  · omega
  · split <;> (simp only [Bool.and_eq_true, decide_eq_true_eq]; omega)

def iSeq (K : Fg) (te : TE) : TI := fun σ H R => te σ H fun v H1 => (∃ x, v = .str x ∧ R (Its x) H1) ∨ ∃ a xs, v = .ref a ∧ ((SqL K H1 a xs ∧ R (Itl K a) H1) ∨ (SqT K H1 a xs ∧ R (Itt K a) H1))
theorem pi_seq {X : Cx} {tg e : Expr} {te : TE} (he : PE X e te) : PI X tg e (iSeq X.K te) := by
  refine ⟨fun pins s σ H R I h => ?_⟩
  refine thn (he.run pins s σ H _ I h) fun v s1 ⟨y, H1, I1, r1, hq⟩ => ?_
  rcases hq with ⟨x, rfl, q⟩ | ⟨a, xs, rfl, hq⟩
  · obtain ⟨t, rfl⟩ := r1
    cases ha : x.cps.all (· < 128)
    · exact wpAny_pyIter_wide ha (pi_one (tk := s1.toks) I1 _ (turn_str _ x t "str_iterator" (.inr rfl)) ⟨_, Heap.get?_push_size _ rfl, rfl, rfl⟩ q)
    · exact wpAny_pyIter_ascii ha (pi_one (tk := s1.toks) I1 _ (turn_str _ x t "str_ascii_iterator" (.inl rfl)) ⟨_, Heap.get?_push_size _ rfl, rfl, rfl⟩ q)
  · cases r1
    rcases hq with ⟨hq, q⟩ | ⟨hq, q⟩
    · obtain ⟨its, rv, p, hz⟩ := I1.list hq
      exact wpAny_pyIter_list p.isList (pi_one (tk := s1.toks) I1 _ (turn_list a _) ⟨_, Heap.get?_push_size _ rfl, rfl, rfl⟩ q)
    · obtain ⟨its, rv, p, hz⟩ := I1.tuple hq
      exact wpAny_pyIter_tuple (show s1.heap.IsTuple a its.toArray from p) (pi_one (tk := s1.toks) I1 _ (turn_tuple a _) ⟨_, Heap.get?_push_size _ rfl, rfl, rfl⟩ q)
theorem walkV_ok {x : PV} {v : V} {p : List PV × D.Wt} (hr : HR K φ Z η H) (r : RV K φ Z H x v) (e : D.walkV η x = some p) :
    (∃ z, v = .str z ∧ rI K Z φ H p (Its z)) ∨ ∃ a xs, v = .ref a ∧ ((SqL K H a xs ∧ rI K Z φ H p (Itl K a)) ∨ (SqT K H a xs ∧ rI K Z φ H p (Itt K a))) := by
  cases r with
  | str hk =>
    simp only [D.walkV, Option.some.injEq] at e
    subst e
    exact .inl ⟨_, rfl, wk_str hk⟩
  | tup ht hs =>
    simp only [D.walkV, Option.some.injEq] at e
    subst e
    exact .inr ⟨_, _, rfl, .inr ⟨ht, wk_tup hr ht hs⟩⟩
  | lst hl h1 h2 hs =>
    simp only [D.walkV, Option.some.injEq] at e
    subst e
    exact .inr ⟨_, _, rfl, .inl ⟨SqL.of hl, wk_list hr hl h1 h2 hs⟩⟩
  | @cell c a ec =>
    simp only [D.walkV] at e
    cases q : η[c]? with
    | none => rw [q] at e; simp [D.walkO] at e
    | some o =>
      rw [q] at e
      obtain ⟨ys, vs, rfl, e1, rs⟩ := ob_lst hr ec q
      simp only [D.walkO, Option.some.injEq] at e
      subst e
      exact .inr ⟨_, _, rfl, .inl ⟨SqL.of e1, wk_cell ec⟩⟩
  | _ => simp [D.walkV] at e
theorem enmV_ok {x : PV} {v : V} {p : List PV × D.Wt} (hr : HR K φ Z η H) (r : RV K φ Z H x v) (e : D.enmV x = some p) :
    ∃ a xs, v = .ref a ∧ ((SqL K H a xs ∧ rI K Z φ H p (Ite K a)) ∨ (SqT K H a xs ∧ rI K Z φ H p (ItetT K a))) := by
  cases r with
  | tup ht hs =>
    simp only [D.enmV, Option.some.injEq] at e
    subst e
    exact ⟨_, _, rfl, .inr ⟨ht, wk_enumT hr ht hs⟩⟩
  | lst hl h1 h2 hs =>
    simp only [D.enmV, Option.some.injEq] at e
    subst e
    exact ⟨_, _, rfl, .inl ⟨SqL.of hl, wk_enum hr hl h1 h2 hs⟩⟩
  | _ => simp [D.enmV] at e
theorem zipV_ok {x y : PV} {v u : V} {p : List PV × D.Wt} (hr : HR K φ Z η H) (r : RV K φ Z H x v) (r' : RV K φ Z H y u) (e : D.zipV x y = some p) :
    ∃ a b xs ys, v = .ref a ∧ u = .ref b ∧ ((SqL K H a xs ∧ SqL K H b ys ∧ rI K Z φ H p (Itz K a b)) ∨ (SqT K H a xs ∧ SqT K H b ys ∧ rI K Z φ H p (RZ.ItzT K a b))) := by
  cases r with
  | tup ht hs =>
    cases r' with
    | tup ht' hs' =>
      simp only [D.zipV, Option.some.injEq] at e
      subst e
      exact ⟨_, _, _, _, rfl, rfl, .inr ⟨ht, ht', wk_zipT hr ht hs ht' hs'⟩⟩
    | _ => simp [D.zipV] at e
  | lst hl h1 h2 hs =>
    cases r' with
    | lst hl' h1' h2' hs' =>
      simp only [D.zipV, Option.some.injEq] at e
      subst e
      exact ⟨_, _, _, _, rfl, rfl, .inl ⟨SqL.of hl, SqL.of hl', wk_zip hr hl h1 h2 hs hl' h1' h2' hs'⟩⟩
    | _ => simp [D.zipV] at e
  | _ => cases r' <;> simp [D.zipV] at e
end DS
end

section
set_option Elab.async false
set_option linter.all false
set_option maxRecDepth 100000
set_option maxHeartbeats 1000000
namespace DS
open PySem PySem.Spec PyProof.Rows L2

/-- the names of defs, of constants -/
structure Nm where
  fnm : Nat → Option Str
  gnm : Nat → Option Str
  prm : Nat → List Str
def vis (sc : Scope) (x : Str) : Bool := match sc.names.lookup x with | some .local => true | some .cell => true | some .free => true | _ => false
def glb (sc : Scope) (x : Str) : Bool := match sc.names.lookup x with | some .globalImplicit => true | _ => false
/-- a name that may be stored -/
def lcl (fs sc : Scope) (x : Str) : Bool := match sc.names.lookup x with | some .local => true | some .cell => fs.names.lookup x == some .cell | _ => false
def isLoc (sc : Scope) (x : Str) : Bool := match sc.names.lookup x with | some .local => true | _ => false
def noStar : Expr → Bool | .Starred _ _ => false | _ => true
def noSet : Expr → Bool | .Set _ _ _ => false | _ => true
def noSl : Expr → Bool | .Slice _ _ _ _ => false | _ => true
def noSup : Expr → Bool | .Call (.Name _ _) [] [] _ => false | _ => true
def noComp : Expr → Bool | .ListComp _ _ _ _ => false | .SetComp _ _ _ _ => false | .DictComp _ _ _ _ _ => false | _ => true
def plainT : Expr → Bool | .UnaryOp .Not _ _ => false | .BoolOp _ _ _ => false | .IfExp _ _ _ _ => false | .Compare _ _ _ _ => false | _ => true
def isTupE : Expr → Bool | .Tuple _ _ _ => true | _ => false
def dbg (x : Str) : Bool := x == ("__debug__" : Str)
def chkC : D.PV → Const → Bool
  | .non, .none => true
  | .bl b, .bool c => b == c
  | .int i, .int j => i == j
  | .str s, .str x => decide (stOf s = x) && decide (s.length ≤ 16777216) && s.all fun c => decide (c < 1114112)
  | _, _ => false
def biName : D.BI → Str
  | .len => "len" | .abs => "abs" | .int => "int" | .tuple => "tuple" | .list => "list" | .sorted => "sorted"
  | .all => "all" | .any => "any" | .sum => "sum" | .max => "max" | .min => "min" | .str => "str"
def tyName : D.Ty → String
  | .int => "int" | .bool => "bool" | .str => "str" | .tuple => "tuple" | .list => "list" | .dict => "dict"
def mtIn : D.Mt → Bool | .replace => false | _ => true
def newB : D.BI → Bool | .list => true | .sorted => true | _ => false
def chkTg (N : List Str) (fs sc : Scope) : D.Tg → Expr → Bool
  | .nm i, .Name x _ => decide (N[i]? = some x) && lcl fs sc x
  | .tup is, .Tuple es _ _ => decide (is.length = es.length) && (is.zip es).all fun p => match p.2 with | .Name x _ => decide (N[p.1]? = some x) && lcl fs sc x | _ => false
  | _, _ => false
def tgS : D.Tg → List Nat
  | .nm i => [i]
  | .tup is => is
def relS' (s sc : Scope) : Scope := L2.relS s sc
mutual
def chkE (M : Nm) (N : List Str) : D.E → Scope → Scope → Expr → Bool
  | .var i, fs, sc, e => match e with
    | .Name x _ => decide (N[i]? = some x) && vis sc x && !dbg x && !(x == ("__classdict__" : Str))
    | _ => false
  | .con v, fs, sc, e => match e with
    | .Constant c _ _ => chkC v c
    | _ => false
  | .glb g, fs, sc, e => match e with
    | .Name x _ => decide (M.gnm g = some x) && glb sc x && !dbg x
    | _ => false
  | .tup es, fs, sc, e => match e with
    | .Tuple es' _ _ => chkEs M N es fs sc es'
    | _ => false
  | .fz f, fs, sc, e => chkF M N f fs sc e
  | .bop c es, fs, sc, e => match e with
    | .BoolOp op es' _ => (if c then op == .And else op == .Or) && !es'.isEmpty && chkEs M N es fs sc es'
    | _ => false
  | .not a, fs, sc, e => match e with
    | .UnaryOp op a' _ => op == .Not && chkE M N a fs sc a'
    | _ => false
  | .ite c a b, fs, sc, e => match e with
    | .IfExp c' a' b' _ => chkE M N c fs sc c' && chkE M N a fs sc a' && chkE M N b fs sc b'
    | _ => false
  | .bin o a b, fs, sc, e => match e with
    | .BinOp a' op b' _ => op == opOf o && chkE M N a fs sc a' && chkE M N b fs sc b'
    | _ => false
  | .neg a, fs, sc, e => match e with
    | .UnaryOp op a' _ => op == .USub && chkE M N a fs sc a'
    | _ => false
  | .cmp o a b, fs, sc, e => match e with
    | .Compare a' [op] [b'] _ => op == cmOf o && !behindInMarks op b' && chkE M N a fs sc a' && chkE M N b fs sc b'
    | _ => false
  | .chn o o' a b c, fs, sc, e => match e with
    | .Compare a' [op, op'] [b', c'] _ => op == cmOf o && op' == cmOf o' && !lastMarks [op, op'] [b', c'] && chkE M N a fs sc a' && chkE M N b fs sc b' && chkE M N c fs sc c'
    | _ => false
  | .isN k a, fs, sc, e => match e with
    | .Compare a' [op] [.Constant .none _ _] _ => (if k then op == .Is else op == .IsNot) && chkE M N a fs sc a'
    | _ => false
  | .call f es, fs, sc, e => match e with
    | .Call (.Name x _) (e1 :: es') [] _ => decide (M.fnm f = some x) && glb sc x && !dbg x && chkEs M N es fs sc (e1 :: es')
    | _ => false
  | .bi b es, fs, sc, e => match e with
    | .Call (.Name x _) (e1 :: es') [] _ => x == biName b && glb sc x && chkEs M N es fs sc (e1 :: es')
    | _ => false
  | .isi a t, fs, sc, e => match e with
    | .Call (.Name x _) [a', .Name T _] [] _ => x == ("isinstance" : Str) && glb sc x && T == (tyName t : Str) && glb sc T && noStar a' && chkE M N a fs sc a'
    | _ => false
  | .mth m o es, fs, sc, e => match e with
    | .Call (.Attribute o' nm apos) es' [] cpos => mtIn m && nm == (mtName m : Str) && noSup o' && (apos.endLine == cpos.line) && decide (es'.length < 30) && chkE M N o fs sc o' && chkEs M N es fs sc es'
    | _ => false
  | .idx a i, fs, sc, e => match e with
    | .Subscript a' i' _ => noSl i' && chkE M N a fs sc a' && chkE M N i fs sc i'
    | _ => false
  | .slc a lo hi, fs, sc, e => match e with
    | .Subscript a' (.Slice lo' hi' none _) _ => chkE M N a fs sc a' && chkEs M N lo fs sc lo'.toList && chkEs M N hi fs sc hi'.toList
    | _ => false
  | .bwd a, fs, sc, e => match e with
    | .Subscript a' (.Slice none none (some (.UnaryOp .USub (.Constant (.int 1) _ _) _)) _) _ => chkE M N a fs sc a'
    | _ => false
def chkEs (M : Nm) (N : List Str) : D.Es → Scope → Scope → List Expr → Bool
  | .nil, fs, sc, es => es.isEmpty
  | .cons e es, fs, sc, l => match l with
    | e' :: es' => noStar e' && chkE M N e fs sc e' && chkEs M N es fs sc es'
    | [] => false
def chkF (M : Nm) (N : List Str) : D.F → Scope → Scope → Expr → Bool
  | .lst es, fs, sc, e => match e with
    | .List es' _ => chkEs M N es fs sc es'
    | _ => false
  | .lc el tg it cs own, fs, sc, e => match e with
    | .ListComp elt [⟨t, iter, ifs, 0⟩] scope _ => chkI M N it fs sc t iter && noSet iter && chkTg N scope (relS' scope sc) tg t && chkEs M N cs scope (relS' scope sc) ifs && decide (ifs.length ≤ 1) &&
        chkE M N el scope (relS' scope sc) elt && (tgS tg).all (fun i => own.contains i) && blkC N sc scope (own.map fun i => (N.getD i "", i))
    | _ => false
  | .lc2 el tg it cs tg1 it1 cs1 own own1, fs, sc, e => match e with
    | .ListComp elt [⟨t, iter, ifs, 0⟩, ⟨t1, iter1, ifs1, 0⟩] scope _ => chkI M N it fs sc t iter && noSet iter && chkTg N scope (relS' scope sc) tg t && chkEs M N cs scope (relS' scope sc) ifs && decide (ifs.length ≤ 1) &&
        chkI M N it1 scope (relS' scope sc) t1 iter1 && noSet iter1 && chkTg N scope (relS' scope sc) tg1 t1 && chkEs M N cs1 scope (relS' scope sc) ifs1 && decide (ifs1.length ≤ 1) &&
        chkE M N el scope (relS' scope sc) elt && (tgS tg).all (fun i => own.contains i) && (tgS tg1).all (fun i => own1.contains i) && own1.all (fun i => own.contains i) && blkC N sc scope (own.map fun i => (N.getD i "", i))
    | _ => false
  | .bi b es, fs, sc, e => match e with
    | .Call (.Name x _) (e1 :: es') [] _ => newB b && x == biName b && glb sc x && chkEs M N es fs sc (e1 :: es')
    | _ => false
  | .bin o a b, fs, sc, e => match e with
    | .BinOp a' op b' _ => op == opOf o && chkE M N a fs sc a' && chkE M N b fs sc b'
    | _ => false
  | .slc a lo hi, fs, sc, e => match e with
    | .Subscript a' (.Slice lo' hi' none _) _ => chkE M N a fs sc a' && chkEs M N lo fs sc lo'.toList && chkEs M N hi fs sc hi'.toList
    | _ => false
def chkI (M : Nm) (N : List Str) : D.It → Scope → Scope → Expr → Expr → Bool
  | .seq a, fs, sc, t, e => chkE M N a fs sc e
  | .rng es, fs, sc, t, e => match e with
    | .Call (.Name x _) args [] _ => x == ("range" : Str) && glb sc x && decide (1 ≤ args.length ∧ args.length ≤ 3) && chkEs M N es fs sc args
    | _ => false
  | .enm a, fs, sc, t, e => match e with
    | .Call (.Name x _) [a'] [] _ => x == ("enumerate" : Str) && glb sc x && isTupE t && noStar a' && chkE M N a fs sc a'
    | _ => false
  | .zip a b, fs, sc, t, e => match e with
    | .Call (.Name x _) [a', b'] [] _ => x == ("zip" : Str) && glb sc x && isTupE t && noStar a' && noStar b' && chkE M N a fs sc a' && chkE M N b fs sc b'
    | _ => false
end

theorem boot_bi : ∀ b, bootBuiltins (biName b) = some (biVal b) := by
  intro b
  cases b <;> decide +kernel
theorem bi_nm : ∀ b, biName b ≠ "__name__" ∧ (biName b == ("__debug__" : Str)) = false := by
  intro b
  cases b <;> decide +kernel
theorem boot_ty : ∀ t, bootBuiltins (tyName t : Str) = some (.type (tyName t)) := by
  intro t
  cases t <;> decide +kernel
theorem ty_nm : ∀ t, (tyName t : Str) ≠ "__name__" ∧ ((tyName t : Str) == ("__debug__" : Str)) = false := by
  intro b
  cases b <;> decide +kernel
theorem glb_ok {X : Cx} {sc : Scope} {x : Str} (hs : X.env.scope = sc) (h : glb sc x = true) : Gl X x := by
  unfold glb at h
  show X.env.scope.names.lookup x = _
  rw [hs]
  split at h
  · assumption
  · cases h
theorem vis_ok {sc : Scope} {x : Str} (h : vis sc x = true) : Vis sc x := by
  unfold vis at h
  split at h
  · exact .inl (by assumption)
  · exact .inr (.inl (by assumption))
  · exact .inr (.inr (by assumption))
  · cases h
theorem lcl_ok {X : Cx} {fs sc : Scope} {x : Str} (hs : X.env.scope = sc) (hf : ∀ x, fs.names.lookup x = some .cell → X.fn x = true) (h : lcl fs sc x = true) :
    Loc X.env.scope x ∧ (X.fn x = true ∨ X.env.scope.names.lookup x = some .local) := by
  unfold lcl at h
  rw [hs]
  split at h
  · exact ⟨.inl (by assumption), .inr (by assumption)⟩
  · exact ⟨.inr (by assumption), .inl (hf x (eq_of_beq h))⟩
  · cases h
theorem star_ok {e : Expr} (h : noStar e = true) (es : List Expr) (env : Env) : starEach (e :: es) env = (false, eval e env) :: starEach es env := by
  cases e <;> first | rfl | (simp [noStar] at h)
theorem sl_ok {e : Expr} (h : noSl e = true) : PlainIx e := fun o i => by
  cases e <;> first | rfl | (simp [noSl] at h)
theorem plainT_ok {e : Expr} (h : plainT e = true) (env : Env) (whole : Sem Value) : isTrue e env whole = (do let v ← whole; standAt e.pos; holding [v] (truthy v)) := by
  cases e with
  | UnaryOp op a pos => cases op <;> first | rfl | (simp [plainT] at h)
  | _ => first | rfl | (simp [plainT] at h)
theorem set_ok {e : Expr} (h : noSet e = true) (env : Env) (x : Value) : foldedSetIterable e env x = pure x := by
  cases e <;> first | rfl | (simp [noSet] at h)
theorem sup_ok {e : Expr} (h : noSup e = true) (nm : Str) (env : Env) (w : Sem Value) : attributeBase e nm env w = w := by
  unfold attributeBase
  split
  · simp [noSup] at h
  · rfl
end DS
end

section
set_option Elab.async false
set_option linter.all false
set_option maxRecDepth 100000
set_option maxHeartbeats 1000000
namespace DS
open PySem PySem.Spec PyProof.Rows L2
section
variable {ct : Ct} {K : Fg} {φ φ' φ'' Z Z' : List Addr} {H H' H'' : Hp} {η η' : D.Hp} {ρ : D.Env} {σ : L2.St} {W : WX} {E : XK}
variable {α β γ δ : Type} {R : List Addr → Hp → α → β → Prop} {R' : List Addr → Hp → γ → δ → Prop}
/-- THE STEP, with what follows -/
theorem tG.use2 {ev : D.Env → D.Hp → D.Res α} {f : α → D.Hp → D.Res γ} {Q : δ → Hp → Prop} {Q' : β → Hp → Prop} (h : StR K φ Z ρ η σ H) (w : WP R' ct K Z φ H ((ev ρ η).bind f) Q (WE W σ))
    (k : ∀ φ1 a η1 v1 H1, Ext φ H φ1 H1 → StR K φ1 Z ρ η1 σ H1 → R φ1 H1 a v1 → WP R' ct K Z φ1 H1 (f a η1) Q (WE W σ) → Q' v1 H1) : tG R ct K Z W ev σ H Q' := by
  refine ⟨φ, ρ, η, h, ?_⟩
  cases e : ev ρ η with
  | ok a η1 =>
    rw [e] at w
    exact fun φ1 v H1 x h1 r => k φ1 a η1 v H1 x (h.ext x h1) r (WP.ext w x)
  | exc c fs η1 => rw [e] at w; exact w
  | err => rw [e] at w; exact w
/-- from one evaluator to another that does as much -/
theorem tG.conv {ev ev' : D.Env → D.Hp → D.Res α} {σ : L2.St} {H : Hp} {Q : β → Hp → Prop} (t : tG R ct K Z W ev' σ H Q) (he : ∀ ρ η, ev ρ η = ev' ρ η) : tG R ct K Z W ev σ H Q := by
  obtain ⟨φ, ρ, η, h, w⟩ := t
  exact ⟨φ, ρ, η, h, by rw [he]; exact w⟩
end
/-- a new list: its address is not seen elsewhere -/
def FinF (K : Fg) (Z φ : List Addr) (H : Hp) (xs : List PV) (η' : D.Hp) (Q : VK) : Prop :=
  ∀ φ' a vs H', Ext φ H φ' H' → H a = none → HR K φ' (a :: Z) η' H' → H' a = some (.lst vs) → RVs K φ' (a :: Z) H' xs vs → Q (.ref a) H'
def WPF (ct : Ct) (K : Fg) (Z φ : List Addr) (H : Hp) (r : D.Res (List PV)) (Q : VK) (E : XK) : Prop :=
  match r with
  | .ok xs η' => FinF K Z φ H xs η' Q
  | .exc c fs η' => Exc ct K Z φ H c fs η' E
  | .err => False
theorem none_back {K : Fg} {φ φ' Z' : List Addr} {η' : D.Hp} {H H' : Hp} {a : Addr} (x : Ext φ H φ' H') (h' : HR K φ' Z' η' H') (n : H' a = none) : H a = none := by
  cases e : H a with
  | none => rfl
  | some o =>
    by_cases hm : a ∈ φ
    · have : a ∈ φ' := x.pre.subset hm
      obtain ⟨vs, q⟩ := h'.cells this
      rw [n] at q; cases q
    · have := x.keep a o e hm
      rw [n] at this; cases this
theorem WPF.ext {ct : Ct} {K : Fg} {φ φ' Z : List Addr} {η' : D.Hp} {H H' : Hp} {r : D.Res (List PV)} {Q : VK} {E : XK} (f : WPF ct K Z φ H r Q E) (x : Ext φ H φ' H') (h' : HR K φ' Z η' H') : WPF ct K Z φ' H' r Q E := by
  cases r with
  | ok xs η1 => exact fun φ'' a vs H'' x' n h => f φ'' a vs H'' (x.trans x') (none_back x h' n) h
  | exc c fs η1 => exact Exc.ext f x
  | err => exact f
section
variable {ct : Ct} {K : Fg} {φ φ' φ'' Z Z' : List Addr} {H H' H'' : Hp} {η η' : D.Hp} {ρ : D.Env} {σ : L2.St} {W : WX} {E : XK}
variable {α β : Type} {R : List Addr → Hp → α → β → Prop}
theorem tG.useF {ev : D.Env → D.Hp → D.Res α} {f : α → D.Hp → D.Res (List PV)} {Q : VK} {Q' : β → Hp → Prop} (h : StR K φ Z ρ η σ H) (w : WPF ct K Z φ H ((ev ρ η).bind f) Q (WE W σ))
    (k : ∀ φ1 a η1 v1 H1, Ext φ H φ1 H1 → StR K φ1 Z ρ η1 σ H1 → R φ1 H1 a v1 → WPF ct K Z φ1 H1 (f a η1) Q (WE W σ) → Q' v1 H1) : tG R ct K Z W ev σ H Q' := by
  refine ⟨φ, ρ, η, h, ?_⟩
  cases e : ev ρ η with
  | ok a η1 =>
    rw [e] at w
    exact fun φ1 v H1 x h1 r => k φ1 a η1 v H1 x (h.ext x h1) r (WPF.ext w x h1)
  | exc c fs η1 => rw [e] at w; exact w
  | err => rw [e] at w; exact w
theorem WPF.of_opt {o : Option (List PV)} {Q : VK} (w : WPF ct K Z φ H (D.Res.opt o η) Q E) : ∃ xs, o = some xs ∧ FinF K Z φ H xs η Q := by
  cases o with
  | none => exact w.elim
  | some a => exact ⟨a, rfl, w⟩
/-- a list that is made now -/
theorem FinF.now {xs : List PV} {vs : List V} {Q : VK} {p : Addr} (f : FinF K Z φ H xs η Q) (h : HR K φ Z η H) (r : RVs K φ Z H xs vs) (n : H p = none) : Q (.ref p) (upd H p (.lst vs)) := by
  obtain ⟨h1, h2, h3⟩ := h.reserve (vs := vs) n
  exact f φ p vs _ (ext_new h n) n h1 upd_same (h3 r)
end
/-- a test -/
def trE (ev : D.Env → D.Hp → D.Res PV) : D.Env → D.Hp → D.Res Bool := fun ρ η => (ev ρ η).bind fun x η1 => D.Res.opt (D.truth η1 x) η1
section
variable {ct : Ct} {φ φ' φ'' Z Z' : List Addr} {H H' H'' : Hp} {η η' : D.Hp} {ρ : D.Env} {σ : L2.St} {W : WX} {E : XK} {X : Cx}
theorem pt_plain {e : Expr} {ev : D.Env → D.Hp → D.Res PV} (h : PE X e (tE ct X.K Z W ev)) (hp : plainT e = true) : PT X e (tT ct X.K Z W (trE ev)) := by
  refine (pt_truth h (plainT_ok hp X.env)).mono fun σ H Q t => ?_
  obtain ⟨φ, ρ, η, st, w⟩ := t
  refine tG.use2 st w fun φ1 a η1 v1 H1 x st1 r w1 => ?_
  obtain ⟨k, e1, f⟩ := w1.of_opt
  exact ⟨k, truV_of st1.hr r e1, f φ1 k H1 .refl st1.hr rfl⟩
/-- a test whose value is a bool -/
theorem pt_bool {e : Expr} {te : TE} {ev : D.Env → D.Hp → D.Res PV} (h : PT X e (tB te)) (hm : ∀ σ H Q, tE ct X.K Z W ev σ H Q → te σ H Q) (hb : ∀ ρ η, match ev ρ η with | .ok x _ => ∃ b, x = .bl b | _ => True) : PT X e (tT ct X.K Z W (trE ev)) := by
  refine h.mono fun σ H Q t => hm σ H _ ?_
  obtain ⟨φ, ρ, η, st, w⟩ := t
  have b := hb ρ η
  refine ⟨φ, ρ, η, st, ?_⟩
  unfold trE at w
  cases e1 : ev ρ η with
  | ok x η1 =>
    rw [e1] at w b
    obtain ⟨c, rfl⟩ := b
    intro φ1 v H1 x1 h1 r
    cases r
    exact ⟨c, rfl, w φ1 c H1 x1 h1 rfl⟩
  | exc c fs η1 => rw [e1] at w; exact w
  | err => rw [e1] at w; exact w
end

/-- what is known of the surroundings -/
structure Gd (M : Nm) (N : List Str) (C : D.Cfg) (ct : Ct) (X : Cx) : Prop where
  hN : X.N = N
  nd : N.Nodup
  calm : X.calm = true
  hu : X.A.units + 70 < cLine
  glb : ∀ g x p, M.gnm g = some x → C.gv g = some p → ∃ v u, X.mg x = some u ∧ RelV v u ∧ ∀ φ Z H η, HR X.K φ Z η H → RV X.K φ Z H p v
  bi : ∀ b, X.mg (biName b) = none
  ty : ∀ t, X.mg (tyName t : Str) = none
  isi : X.mg "isinstance" = none
  rng : X.mg "range" = none
  enm : X.mg "enumerate" = none
  zip : X.mg "zip" = none
  fn : ∀ f x, M.fnm f = some x → ∃ k fa fd ps sp, FnOk X.prog X.w X.K X.mg X.base (L2.CX X.prog X.w) k fa fd ps sp ∧ Room k X.A ∧ X.mg x = some (.ref fa) ∧ PySem.W.keepIn X.K (.ref fa) = true ∧ Binds X.K fd ps [] ∧
    ∀ φ Z η H xs vs Q E, HR X.K φ Z η H → RVs X.K φ Z H xs vs → WP (rV X.K Z) ct X.K Z φ H (C.cf f xs η) Q E → sp vs H Q E
section
variable (M : Nm) (N : List Str) (C : D.Cfg) (ct : Ct)
def SoE (ir : D.E) : Prop := ∀ (X : Cx) (fs sc : Scope) (W : WX) (Z : List Addr) (e : Expr), Gd M N C ct X → X.env.scope = sc → (∀ x, fs.names.lookup x = some .cell → X.fn x = true) → Takes X W → chkE M N ir fs sc e = true →
  PE X e (tE ct X.K Z W (D.evE C ir)) ∧ PT X e (tT ct X.K Z W (trE (D.evE C ir)))
def one1 (ev : D.Env → D.Hp → D.Res (List PV)) : D.Env → D.Hp → D.Res PV := fun ρ η => (ev ρ η).bind fun xs η1 => match xs with
  | [x] => .ok x η1
  | _ => .err
structure SoL (X : Cx) (W : WX) (Z : List Addr) (ir : D.Es) (es : List Expr) : Prop where
  pa : PA X es (tA ct X.K Z W (D.evEs C ir))
  one : ∀ e, es = [e] → PE X e (tE ct X.K Z W (one1 (D.evEs C ir)))
  bop : ∀ (c : Bool) (pos : Pos), es ≠ [] → PE X (.BoolOp (if c then .And else .Or) es pos) (tE ct X.K Z W (D.evB C c ir)) ∧ PW X (.BoolOp (if c then .And else .Or) es pos) (tT ct X.K Z W (trE (D.evB C c ir)))
  cs : es.length ≤ 1 → PTs X es (tT ct X.K Z W (D.evC C ir))
def SoEs (ir : D.Es) : Prop := ∀ (X : Cx) (fs sc : Scope) (W : WX) (Z : List Addr) (es : List Expr), Gd M N C ct X → X.env.scope = sc → (∀ x, fs.names.lookup x = some .cell → X.fn x = true) → Takes X W → chkEs M N ir fs sc es = true → SoL C ct X W Z ir es
def tF (ct : Ct) (K : Fg) (Z : List Addr) (W : WX) (ev : D.Env → D.Hp → D.Res (List PV)) : TE := fun σ H Q => ∃ φ ρ η, StR K φ Z ρ η σ H ∧ WPF ct K Z φ H (ev ρ η) Q (WE W σ)
def SoF (ir : D.F) : Prop := ∀ (X : Cx) (fs sc : Scope) (W : WX) (Z : List Addr) (e : Expr), Gd M N C ct X → X.env.scope = sc → (∀ x, fs.names.lookup x = some .cell → X.fn x = true) → Takes X W → chkF M N ir fs sc e = true →
  PE X e (tF ct X.K Z W (D.evF C ir))
def SoI (ir : D.It) : Prop := ∀ (X : Cx) (fs sc : Scope) (W : WX) (Z : List Addr) (t e : Expr), Gd M N C ct X → X.env.scope = sc → (∀ x, fs.names.lookup x = some .cell → X.fn x = true) → Takes X W → chkI M N ir fs sc t e = true →
  PI X t e (tI ct X.K Z W (D.evI C ir))
end
section
variable {M : Nm} {N : List Str} {C : D.Cfg} {ct : Ct}
theorem so_var (i : Nat) : SoE M N C ct (.var i) := by
  intro X fs sc W Z e g hs hf tk h
  unfold chkE at h
  split at h
  · rename_i x pos
    simp only [Bool.and_eq_true, decide_eq_true_eq, Bool.not_eq_true', dbg] at h
    obtain ⟨⟨⟨h1, h2⟩, h3⟩, h4⟩ := h
    have p : PE X (.Name x pos) (tE ct X.K Z W (D.evE C (.var i))) := by
      refine (pe_var (i := i) (by rw [g.hN]; exact h1) (by rw [hs]; exact vis_ok h2) h3 h4).mono fun σ H Q t => ?_
      obtain ⟨φ, ρ, η, st, w⟩ := t
      simp only [D.evE] at w
      obtain ⟨a, e1, f⟩ := w.of_opt
      have e2 : ρ[i]? = some (some a) := by
        cases q : ρ[i]? with
        | none => rw [q] at e1; cases e1
        | some o => rw [q] at e1; exact congrArg some e1
      obtain ⟨v, e3, r⟩ := st.val i a e2
      exact ⟨v, e3, fin_val f st.hr r⟩
    exact ⟨p, pt_plain p rfl⟩
  · cases h
theorem so_con (v : PV) : SoE M N C ct (.con v) := by
  intro X fs sc W Z e g hs hf tk h
  unfold chkE at h
  split at h
  · rename_i c k pos
    have fin : ∀ {σ : L2.St} {H : Hp} {Q : VK} {u : V}, (∀ φ, RV X.K φ Z H v u) → tE ct X.K Z W (D.evE C (.con v)) σ H Q → Q u H := by
      intro σ H Q u r t
      obtain ⟨φ, ρ, η, st, w⟩ := t
      simp only [D.evE] at w
      exact fin_val w st.hr (r φ)
    have p : PE X (.Constant c k pos) (tE ct X.K Z W (D.evE C (.con v))) := by
      unfold chkC at h
      split at h
      · exact pe_non.mono fun σ H Q t => fin (fun _ => .non) t
      · have := eq_of_beq h
        subst this
        exact pe_bl.mono fun σ H Q t => fin (fun _ => .bl _) t
      · have := eq_of_beq h
        subst this
        exact pe_int.mono fun σ H Q t => fin (fun _ => .int _) t
      · simp only [Bool.and_eq_true, decide_eq_true_eq, List.all_eq_true] at h
        obtain ⟨⟨h1, h2⟩, h3⟩ := h
        subst h1
        exact pe_str.mono fun σ H Q t => fin (fun _ => .str ⟨h2, h3⟩) t
      · cases h
    exact ⟨p, pt_plain p rfl⟩
  · cases h
theorem so_glb (i : Nat) : SoE M N C ct (.glb i) := by
  intro X fs sc W Z e g hs hf tk h
  unfold chkE at h
  split at h
  · rename_i x pos
    simp only [Bool.and_eq_true, decide_eq_true_eq, Bool.not_eq_true', dbg] at h
    obtain ⟨⟨h1, h2⟩, h3⟩ := h
    have p : PE X (.Name x pos) (tE ct X.K Z W (D.evE C (.glb i))) := by
      cases q : C.gv i with
      | none =>
        refine ⟨fun pins s σ H Q I t => ?_⟩
        obtain ⟨φ, ρ, η, st, w⟩ := t
        simp only [D.evE, q] at w
        exact w.elim
      | some p =>
        obtain ⟨v, u, e1, e2, e3⟩ := g.glb i x p h1 q
        refine (pe_glob (glb_ok hs h2) e1 e2 h3).mono fun σ H Q t => ?_
        obtain ⟨φ, ρ, η, st, w⟩ := t
        simp only [D.evE, q] at w
        exact fin_val w st.hr (e3 φ Z H η st.hr)
    exact ⟨p, pt_plain p rfl⟩
  · cases h
theorem len_line {xs : List PV} {vs : List V} {K : Fg} {φ Z : List Addr} {H : Hp} (r : RVs K φ Z H xs vs) (h : xs.length ≤ D.line) : vs.length ≤ sizeLine := by
  rw [← r.length, sizeLine_eq]; exact h
theorem so_tup {es : D.Es} (he : SoEs M N C ct es) : SoE M N C ct (.tup es) := by
  intro X fs sc W Z e g hs hf tk h
  unfold chkE at h
  split at h
  · rename_i es' k pos
    have p : PE X (.Tuple es' k pos) (tE ct X.K Z W (D.evE C (.tup es))) := by
      refine (pe_tup (he X fs sc W Z es' g hs hf tk h).pa).mono fun σ H Q t => ?_
      obtain ⟨φ, ρ, η, st, w⟩ := t
      simp only [D.evE] at w
      refine tG.use2 st w fun φ1 a η1 v1 H1 x st1 r w1 => ?_
      split at w1
      · rename_i hl
        exact ⟨len_line r hl, fin_tup w1 st1.hr r⟩
      · exact w1.elim
    exact ⟨p, pt_plain p rfl⟩
  · cases h
theorem so_fz {f : D.F} (hf' : SoF M N C ct f) : SoE M N C ct (.fz f) := by
  intro X fs sc W Z e g hs hf tk h
  have h' : chkF M N f fs sc e = true := by unfold chkE at h; exact h
  have p : PE X e (tE ct X.K Z W (D.evE C (.fz f))) := by
    refine (hf' X fs sc W Z e g hs hf tk h').mono fun σ H Q t => ?_
    obtain ⟨φ, ρ, η, st, w⟩ := t
    simp only [D.evE] at w
    refine ⟨φ, ρ, η, st, ?_⟩
    cases q : D.evF C f ρ η with
    | ok xs η1 =>
      rw [q] at w
      intro φ' a vs H' x n hr e1 rs
      obtain ⟨k1, k2, k3⟩ := hr.frees
      refine w φ' _ H' x k1 (.lst e1 (fun m => hr.dis a m List.mem_cons_self) (fun m => ?_) (k3 rs))
      obtain ⟨us, e2⟩ := st.hr.zin a m
      rw [n] at e2; cases e2
    | exc c fs η1 => rw [q] at w; exact w
    | err => rw [q] at w; exact w
  refine ⟨p, pt_plain p ?_⟩
  unfold chkF at h'
  cases f <;> (simp only at h'; split at h' <;> first | rfl | (cases h'))
theorem so_not {a : D.E} (ha : SoE M N C ct a) : SoE M N C ct (.not a) := by
  intro X fs sc W Z e g hs hf tk h
  unfold chkE at h
  split at h
  · rename_i op a' pos
    simp only [Bool.and_eq_true, beq_iff_eq] at h
    obtain ⟨rfl, h2⟩ := h
    obtain ⟨p1, p2⟩ := ha X fs sc W Z a' g hs hf tk h2
    refine ⟨(pe_notT p1).mono fun σ H Q t => ?_, (pt_not p2).mono fun σ H Q t => ?_⟩
    · obtain ⟨φ, ρ, η, st, w⟩ := t
      simp only [D.evE] at w
      refine tG.use2 st w fun φ1 a η1 v1 H1 x st1 r w1 => ?_
      obtain ⟨y, e1, f⟩ := w1.of_opt
      obtain ⟨b, e2, rfl⟩ := Option.map_eq_some_iff.mp e1
      exact ⟨b, truV_of st1.hr r e2, fin_val f st1.hr (.bl _)⟩
    · obtain ⟨φ, ρ, η, st, w⟩ := t
      simp only [trE, D.evE] at w
      refine ⟨φ, ρ, η, st, ?_⟩
      unfold trE
      cases q : D.evE C a ρ η with
      | ok y η1 =>
        rw [q] at w
        cases q2 : D.truth η1 y with
        | none => simp only [D.bind_ok, q2, Option.map_none, D.opt_none, D.bind_err] at w; exact w.elim
        | some b =>
          simp only [D.bind_ok, q2, Option.map_some, D.opt_some] at w
          have w : WP rEq ct X.K Z φ H (.ok (!b) η1) Q (WE W σ) := w
          simp only [D.bind_ok, q2, D.opt_some]
          intro φ1 v H1 x h1 r
          cases r
          exact w φ1 _ H1 x h1 rfl
      | exc c fs η1 => rw [q] at w; exact w
      | err => rw [q] at w; exact w
  · cases h
theorem so_bop {c : Bool} {es : D.Es} (he : SoEs M N C ct es) : SoE M N C ct (.bop c es) := by
  intro X fs sc W Z e g hs hf tk h
  unfold chkE at h
  split at h
  · rename_i op es' pos
    simp only [Bool.and_eq_true, Bool.not_eq_true', List.isEmpty_eq_false_iff] at h
    obtain ⟨⟨h1, h2⟩, h3⟩ := h
    have hop : op = if c then .And else .Or := by
      cases c with
      | true => exact eq_of_beq h1
      | false => exact eq_of_beq h1
    subst hop
    obtain ⟨b1, b2⟩ := (he X fs sc W Z es' g hs hf tk h3).bop c pos h2
    refine ⟨b1.mono fun σ H Q t => t.conv fun ρ η => by simp only [D.evE], b2.pt.mono fun σ H Q t => t.conv fun ρ η => by simp only [trE, D.evE]⟩
  · cases h
theorem so_ite {c a b : D.E} (hc : SoE M N C ct c) (ha : SoE M N C ct a) (hb : SoE M N C ct b) : SoE M N C ct (.ite c a b) := by
  intro X fs sc W Z e g hs hf tk h
  unfold chkE at h
  split at h
  · rename_i c' a' b' pos
    simp only [Bool.and_eq_true] at h
    obtain ⟨⟨h1, h2⟩, h3⟩ := h
    obtain ⟨_, c2⟩ := hc X fs sc W Z c' g hs hf tk h1
    obtain ⟨a1, a2⟩ := ha X fs sc W Z a' g hs hf tk h2
    obtain ⟨b1, b2⟩ := hb X fs sc W Z b' g hs hf tk h3
    refine ⟨(pe_ifExp c2 a1 b1).mono fun σ H Q t => ?_, ?_⟩
    · obtain ⟨φ, ρ, η, st, w⟩ := t
      simp only [D.evE] at w
      refine ⟨φ, ρ, η, st, ?_⟩
      unfold trE
      cases q : D.evE C c ρ η with
      | ok y η1 =>
        rw [q] at w
        simp only [D.bind_ok] at w ⊢
        cases q2 : D.truth η1 y with
        | none => rw [q2] at w; exact w.elim
        | some k =>
          rw [q2] at w
          simp only [D.br_some] at w
          intro φ1 v H1 x h1 r
          cases r
          have st1 := st.ext x h1
          have w1 := WP.ext w x
          cases k with
          | true => exact ⟨φ1, ρ, η1, st1, w1⟩
          | false => exact ⟨φ1, ρ, η1, st1, w1⟩
      | exc c fs η1 => rw [q] at w; exact w
      | err => rw [q] at w; exact w
    · refine ⟨fun pins s σ H Q I t => ?_⟩
      show wpAny _ _ (do if ← isTrue c' X.env (eval c' X.env) then isTrue a' X.env (eval a' X.env) else isTrue b' X.env (eval b' X.env)) _ _ _
      obtain ⟨φ, ρ, η, st, w⟩ := t
      simp only [trE, D.evE] at w
      refine wpAny_bind (thn (c2.run pins s σ H (fun k H1 => if k = true then tT ct X.K Z W (trE (D.evE C a)) σ H1 Q else tT ct X.K Z W (trE (D.evE C b)) σ H1 Q) I ?_) fun k s1 ⟨H1, I1, q1⟩ => ?_)
      · refine ⟨φ, ρ, η, st, ?_⟩
        unfold trE
        cases q : D.evE C c ρ η with
        | ok y η1 =>
          rw [q] at w
          simp only [D.bind_ok] at w ⊢
          cases q2 : D.truth η1 y with
          | none => rw [q2] at w; exact w.elim
          | some k =>
            rw [q2] at w
            simp only [D.br_some] at w
            intro φ1 v H1 x h1 r
            cases r
            have st1 := st.ext x h1
            have w1 := WP.ext w x
            cases k with
            | true => exact ⟨φ1, ρ, η1, st1, w1⟩
            | false => exact ⟨φ1, ρ, η1, st1, w1⟩
        | exc c fs η1 => rw [q] at w; exact w
        | err => rw [q] at w; exact w
      · cases k with
        | true => exact a2.run pins s1 σ H1 Q I1 q1
        | false => exact b2.run pins s1 σ H1 Q I1 q1
  · cases h
theorem so_bin {o : D.Op} {a b : D.E} (ha : SoE M N C ct a) (hb : SoE M N C ct b) : SoE M N C ct (.bin o a b) := by
  intro X fs sc W Z e g hs hf tk h
  unfold chkE at h
  split at h
  · rename_i a' op b' pos
    simp only [Bool.and_eq_true, beq_iff_eq] at h
    obtain ⟨⟨rfl, h2⟩, h3⟩ := h
    have p : PE X (.BinOp a' (opOf o) b' pos) (tE ct X.K Z W (D.evE C (.bin o a b))) := by
      refine (pe_op (bin_ok o) (ha X fs sc W Z a' g hs hf tk h2).1 (hb X fs sc W Z b' g hs hf tk h3).1).mono fun σ H Q t => ?_
      obtain ⟨φ, ρ, η, st, w⟩ := t
      simp only [D.evE] at w
      refine tG.use2 st w fun φ1 x η1 v1 H1 x1 st1 r1 w1 => tG.use2 st1 w1 fun φ2 y η2 v2 H2 x2 st2 r2 w2 => ?_
      obtain ⟨z, e1, f⟩ := w2.of_opt
      exact ⟨φ2, Z, η2, x, y, z, st2.hr, r1.ext st1.hr x2, r2, e1, f.new st2.hr⟩
    exact ⟨p, pt_plain p rfl⟩
  · cases h
theorem so_neg {a : D.E} (ha : SoE M N C ct a) : SoE M N C ct (.neg a) := by
  intro X fs sc W Z e g hs hf tk h
  unfold chkE at h
  split at h
  · rename_i op a' pos
    simp only [Bool.and_eq_true, beq_iff_eq] at h
    obtain ⟨rfl, h2⟩ := h
    have p : PE X (.UnaryOp .USub a' pos) (tE ct X.K Z W (D.evE C (.neg a))) := by
      refine (pe_un un_neg (ha X fs sc W Z a' g hs hf tk h2).1).mono fun σ H Q t => ?_
      obtain ⟨φ, ρ, η, st, w⟩ := t
      simp only [D.evE] at w
      refine tG.use2 st w fun φ1 x η1 v1 H1 x1 st1 r1 w1 => ?_
      obtain ⟨z, e1, f⟩ := w1.of_opt
      cases r1 <;> simp only [D.negV, Option.some.injEq, reduceCtorEq] at e1
      subst e1
      exact ⟨_, rfl, fin_val f st1.hr (.int _)⟩
    exact ⟨p, pt_plain p rfl⟩
  · cases h
theorem so_cmp {o : D.Cm} {a b : D.E} (ha : SoE M N C ct a) (hb : SoE M N C ct b) : SoE M N C ct (.cmp o a b) := by
  intro X fs sc W Z e g hs hf tk h
  unfold chkE at h
  split at h
  · rename_i a' op b' pos
    simp only [Bool.and_eq_true, beq_iff_eq, Bool.not_eq_true'] at h
    obtain ⟨⟨⟨rfl, h1⟩, h2⟩, h3⟩ := h
    have pa := (ha X fs sc W Z a' g hs hf tk h2).1
    have pb := (hb X fs sc W Z b' g hs hf tk h3).1
    have hu : X.A.units + 64 < cLine := by have := g.hu; omega
    have m : ∀ (σ : L2.St) (H : Hp) (Q : VK), tE ct X.K Z W (D.evE C (.cmp o a b)) σ H Q → tOp (rCm X.K o) (tE ct X.K Z W (D.evE C a)) (tE ct X.K Z W (D.evE C b)) σ H Q := fun σ H Q t => by
      obtain ⟨φ, ρ, η, st, w⟩ := t
      simp only [D.evE] at w
      refine tG.use2 st w fun φ1 x η1 v1 H1 x1 st1 r1 w1 => tG.use2 st1 w1 fun φ2 y η2 v2 H2 x2 st2 r2 w2 => ?_
      obtain ⟨z, e1, f⟩ := w2.of_opt
      obtain ⟨k, e2, rfl⟩ := Option.map_eq_some_iff.mp e1
      exact ⟨φ2, Z, η2, x, y, k, st2.hr, r1.ext st1.hr x2, r2, e2, fin_val f st2.hr (.bl _)⟩
    refine ⟨(pe_cmpR (cm_ok hu o) pa pb h1).mono m, pt_bool (te := tOp (rCm X.K o) (tE ct X.K Z W (D.evE C a)) (tE ct X.K Z W (D.evE C b))) (pt_cmpR (cm_ok hu o) pa pb h1) m fun ρ η => ?_⟩
    simp only [D.evE]
    cases D.evE C a ρ η with
    | ok x η1 =>
      simp only [D.bind_ok]
      cases D.evE C b ρ η1 with
      | ok y η2 =>
        simp only [D.bind_ok]
        cases D.cmV o (D.vw η2 x) (D.vw η2 y) with
        | none => trivial
        | some k => exact ⟨k, rfl⟩
      | exc => trivial
      | err => trivial
    | exc => trivial
    | err => trivial
  · cases h
theorem so_chn {o o' : D.Cm} {a b c : D.E} (ha : SoE M N C ct a) (hb : SoE M N C ct b) (hc : SoE M N C ct c) : SoE M N C ct (.chn o o' a b c) := by
  intro X fs sc W Z e g hs hf tk h
  unfold chkE at h
  split at h
  · rename_i a' op op' b' c' pos
    simp only [Bool.and_eq_true, beq_iff_eq, Bool.not_eq_true'] at h
    obtain ⟨⟨⟨⟨⟨rfl, rfl⟩, h1⟩, h2⟩, h3⟩, h4⟩ := h
    have pa := (ha X fs sc W Z a' g hs hf tk h2).1
    have pb := (hb X fs sc W Z b' g hs hf tk h3).1
    have pc := (hc X fs sc W Z c' g hs hf tk h4).1
    have hu : X.A.units + 64 < cLine := by have := g.hu; omega
    have m : ∀ (σ : L2.St) (H : Hp) (Q : VK), tE ct X.K Z W (D.evE C (.chn o o' a b c)) σ H Q → tChain (rCm X.K o) (rCm X.K o') (tE ct X.K Z W (D.evE C a)) (tE ct X.K Z W (D.evE C b)) (tE ct X.K Z W (D.evE C c)) σ H Q := fun σ H Q t => by
      obtain ⟨φ, ρ, η, st, w⟩ := t
      simp only [D.evE] at w
      refine tG.use2 st w fun φ1 x η1 v1 H1 x1 st1 r1 w1 => tG.use2 st1 w1 fun φ2 y η2 v2 H2 x2 st2 r2 w2 => ?_
      cases q : D.cmV o (D.vw η2 x) (D.vw η2 y) with
      | none => rw [q] at w2; exact w2.elim
      | some k =>
        rw [q] at w2
        simp only [D.br_some] at w2
        refine ⟨φ2, Z, η2, x, y, k, st2.hr, r1.ext st1.hr x2, r2, q, k, rfl, ?_⟩
        cases k with
        | false => exact fin_val w2 st2.hr (.bl _)
        | true =>
          rw [if_pos rfl] at w2 ⊢
          refine tG.use2 st2 w2 fun φ3 z η3 v3 H3 x3 st3 r3 w3 => ?_
          obtain ⟨z', e1, f⟩ := w3.of_opt
          obtain ⟨k, e2, rfl⟩ := Option.map_eq_some_iff.mp e1
          exact ⟨φ3, Z, η3, y, z, k, st3.hr, r2.ext st2.hr x3, r3, e2, fin_val f st3.hr (.bl _)⟩
    refine ⟨(pe_chain (cm_ok hu o) (cm_ok hu o') pa pb pc h1).mono m, pt_bool (te := tChain (rCm X.K o) (rCm X.K o') (tE ct X.K Z W (D.evE C a)) (tE ct X.K Z W (D.evE C b)) (tE ct X.K Z W (D.evE C c))) (pt_chain (cm_ok hu o) (cm_ok hu o') pa pb pc h1) m fun ρ η => ?_⟩
    simp only [D.evE]
    cases D.evE C a ρ η with
    | ok x η1 =>
      simp only [D.bind_ok]
      cases D.evE C b ρ η1 with
      | ok y η2 =>
        simp only [D.bind_ok]
        cases D.cmV o (D.vw η2 x) (D.vw η2 y) with
        | none => trivial
        | some k =>
          cases k with
          | false => exact ⟨false, rfl⟩
          | true =>
            simp only [D.br_some, if_true]
            cases D.evE C c ρ η2 with
            | ok z η3 =>
              simp only [D.bind_ok]
              cases D.cmV o' (D.vw η3 y) (D.vw η3 z) with
              | none => trivial
              | some k => exact ⟨k, rfl⟩
            | exc => trivial
            | err => trivial
      | exc => trivial
      | err => trivial
    | exc => trivial
    | err => trivial
  · cases h
theorem so_isN {k : Bool} {a : D.E} (ha : SoE M N C ct a) : SoE M N C ct (.isN k a) := by
  intro X fs sc W Z e g hs hf tk h
  unfold chkE at h
  split at h
  · rename_i a' op j pos' pos
    simp only [Bool.and_eq_true] at h
    obtain ⟨h1, h2⟩ := h
    have pa := (ha X fs sc W Z a' g hs hf tk h2).1
    have key : ∀ {x : PV} {v : V} {φ : List Addr} {H : Hp}, RV X.K φ Z H x v → ∃ b, D.isNon k x = .bl b ∧ (if k then decide (v = .non) else !decide (v = .non)) = b := by
      intro x v φ H r
      cases r <;> cases k <;> exact ⟨_, rfl, by simp⟩
    have m : ∀ (σ : L2.St) (H : Hp) (Q : VK), tE ct X.K Z W (D.evE C (.isN k a)) σ H Q → (if k then tIsN (tE ct X.K Z W (D.evE C a)) else tNotN (tE ct X.K Z W (D.evE C a))) σ H Q := fun σ H Q t => by
      obtain ⟨φ, ρ, η, st, w⟩ := t
      simp only [D.evE] at w
      have hh : tE ct X.K Z W (D.evE C a) σ H fun x H1 => Q (.bl (if k then decide (x = .non) else !decide (x = .non))) H1 := by
        refine tG.use2 st w fun φ1 x η1 v1 H1 x1 st1 r1 w1 => ?_
        obtain ⟨b, e1, e2⟩ := key r1
        rw [e1] at w1
        rw [e2]
        exact fin_val w1 st1.hr (.bl _)
      cases k with
      | true => exact hh
      | false => exact hh
    have hb : ∀ ρ η, match D.evE C (.isN k a) ρ η with | .ok x _ => ∃ b, x = .bl b | _ => True := fun ρ η => by
      simp only [D.evE]
      cases D.evE C a ρ η with
      | ok x η1 =>
        simp only [D.bind_ok]
        cases x <;> exact ⟨_, rfl⟩
      | exc => trivial
      | err => trivial
    cases k with
    | true =>
      have := eq_of_beq h1
      subst this
      exact ⟨(pe_cmp (pc_isN pa) rfl).mono m, pt_bool (te := tIsN (tE ct X.K Z W (D.evE C a))) (pt_cmp (pc_isN pa) rfl) m hb⟩
    | false =>
      have := eq_of_beq h1
      subst this
      exact ⟨(pe_cmp (pc_notN pa) rfl).mono m, pt_bool (te := tNotN (tE ct X.K Z W (D.evE C a))) (pt_cmp (pc_notN pa) rfl) m hb⟩
  · cases h
end
end DS
end

section
set_option Elab.async false
set_option linter.all false
set_option maxRecDepth 100000
set_option maxHeartbeats 1000000
namespace DS
open PySem PySem.Spec PyProof.Rows L2
section
variable {M : Nm} {N : List Str} {C : D.Cfg} {ct : Ct}

theorem stars_of : ∀ {es : D.Es} {fs sc : Scope} {l : List Expr}, chkEs M N es fs sc l = true → ∀ x ∈ l, noStar x = true
  | .nil, fs, sc, l, h => by
    unfold chkEs at h
    have : l = [] := by simpa using h
    subst this
    exact fun x hx => by cases hx
  | .cons e es, fs, sc, l, h => by
    unfold chkEs at h
    split at h
    · simp only [Bool.and_eq_true] at h
      intro x hx
      rcases List.mem_cons.mp hx with rfl | hx
      · exact h.1.1
      · exact stars_of h.2 x hx
    · cases h
theorem stars_any : ∀ {l : List Expr}, (∀ x ∈ l, noStar x = true) → ∀ env pos, (backTo pos (starEach l env)).any (·.1) = false
  | [], _, env, pos => rfl
  | x :: l, h, env, pos => by
    rw [star_ok (h x List.mem_cons_self)]
    show (false || (backTo pos (starEach l env)).any (·.1)) = false
    rw [stars_any (fun y hy => h y (List.mem_cons_of_mem _ hy)) env pos]
    rfl
theorem stars_all : ∀ {l : List Expr}, (∀ x ∈ l, noStar x = true) → ∀ env pos, (backTo pos (starEach l env)).all (fun x => !x.1) = true
  | [], _, env, pos => rfl
  | x :: l, h, env, pos => by
    rw [star_ok (h x List.mem_cons_self)]
    show ((!false) && (backTo pos (starEach l env)).all (fun x => !x.1)) = true
    rw [stars_all (fun y hy => h y (List.mem_cons_of_mem _ hy)) env pos]
    rfl
theorem so_nil : SoEs M N C ct .nil := by
  intro X fs sc W Z es g hs hf tk h
  unfold chkEs at h
  have : es = [] := by simpa using h
  subst this
  refine ⟨pa_nil.mono fun σ H Q t => ?_, fun e he => (by cases he), fun c pos hn => absurd rfl hn, fun _ => pts_nil_ fun σ H Q t => ?_⟩
  · obtain ⟨φ, ρ, η, st, w⟩ := t
    simp only [D.evEs] at w
    exact w φ [] H .refl st.hr .nil
  · obtain ⟨φ, ρ, η, st, w⟩ := t
    simp only [D.evC] at w
    exact w φ true H .refl st.hr rfl
where
  pts_nil_ {X : Cx} {t : TT} (hm : ∀ σ H Q, t σ H Q → tYes σ H Q) : PTs X [] t := ⟨fun pins s σ H Q I h => pts_nil.run pins s σ H Q I (hm _ _ _ h)⟩
theorem pts_mono {X : Cx} {es : List Expr} {t t' : TT} (h : PTs X es t) (hm : ∀ σ H Q, t' σ H Q → t σ H Q) : PTs X es t' := ⟨fun pins s σ H Q I ht => h.run pins s σ H Q I (hm _ _ _ ht)⟩
theorem pw_mono {X : Cx} {e : Expr} {t t' : TT} (h : PW X e t) (hm : ∀ σ H Q, t' σ H Q → t σ H Q) : PW X e t' := ⟨fun wh pins s σ H Q I ht => h.run wh pins s σ H Q I (hm _ _ _ ht)⟩
theorem so_cons {e : D.E} {es : D.Es} (he : SoE M N C ct e) (hes : SoEs M N C ct es) : SoEs M N C ct (.cons e es) := by
  intro X fs sc W Z l g hs hf tk h
  unfold chkEs at h
  split at h
  · rename_i e' es'
    simp only [Bool.and_eq_true] at h
    obtain ⟨⟨h1, h2⟩, h3⟩ := h
    obtain ⟨p1, p2⟩ := he X fs sc W Z e' g hs hf tk h2
    have L := hes X fs sc W Z es' g hs hf tk h3
    have sing : ∀ {x : List Expr}, es' = [] → es = .nil := by
      intro _ q
      subst q
      cases es with
      | nil => rfl
      | cons a b => unfold chkEs at h3; simp at h3
    refine ⟨(pa_cons p1 L.pa (star_ok h1 es' X.env)).mono fun σ H Q t => ?_, fun e1 q => ?_, fun c pos _ => ?_, fun hl => ?_⟩
    · obtain ⟨φ, ρ, η, st, w⟩ := t
      simp only [D.evEs] at w
      refine tG.use2 st w fun φ1 x η1 v1 H1 x1 st1 r1 w1 => tG.use2 st1 w1 fun φ2 y η2 v2 H2 x2 st2 r2 w2 => ?_
      exact w2 φ2 (v1 :: v2) H2 .refl st2.hr (.cons (r1.ext st1.hr x2) r2)
    · cases q
      have := sing (x := []) rfl
      subst this
      exact p1.mono fun σ H Q t => t.conv fun ρ η => by
        unfold one1
        simp only [D.evEs]
        cases D.evE C e ρ η <;> rfl
    · cases es' with
      | nil =>
        have := sing (x := []) rfl
        subst this
        refine ⟨(pe_one p1).mono fun σ H Q t => t.conv fun ρ η => by simp only [D.evB], ?_⟩
        cases c with
        | true => exact pw_mono (pw_and1 p2) fun σ H Q t => t.conv fun ρ η => by simp only [trE, D.evB]
        | false => exact pw_mono (pw_or1 p2) fun σ H Q t => t.conv fun ρ η => by simp only [trE, D.evB]
      | cons e2 es2 =>
        cases es with
        | nil => unfold chkEs at h3; simp at h3
        | cons a b =>
          obtain ⟨b1, b2⟩ := L.bop c pos (by simp)
          have rd : ∀ {σ : L2.St} {H : Hp} {Q : Bool → Hp → Prop}, tT ct X.K Z W (trE (D.evB C c (.cons e (.cons a b)))) σ H Q → tT ct X.K Z W (trE (D.evE C e)) σ H fun k H1 => if k = c then tT ct X.K Z W (trE (D.evB C c (.cons a b))) σ H1 Q else Q k H1 := by
            intro σ H Q t
            obtain ⟨φ, ρ, η, st, w⟩ := t
            refine ⟨φ, ρ, η, st, ?_⟩
            unfold trE at w ⊢
            rw [D.evB] at w
            cases q : D.evE C e ρ η with
            | ok y η1 =>
              rw [q] at w
              simp only [D.bind_ok] at w ⊢
              cases q2 : D.truth η1 y with
              | none => rw [q2] at w; exact w.elim
              | some k =>
                rw [q2] at w
                simp only [Option.map_some, D.br_some] at w
                intro φ1 v H1 x h1 r
                cases r
                have st1 := st.ext x h1
                by_cases hk : k = c
                · rw [if_pos hk]
                  rw [if_pos (by simpa using hk)] at w
                  exact ⟨φ1, ρ, η1, st1, WP.ext w x⟩
                · rw [if_neg hk]
                  rw [if_neg (by simpa using hk)] at w
                  simp only [D.bind_ok, q2, D.opt_some] at w
                  exact w φ1 k H1 x h1 rfl
            | exc c fs η1 => rw [q] at w; exact w
            | err => rw [q] at w; exact w
          have rv : ∀ {σ : L2.St} {H : Hp} {Q : VK}, tE ct X.K Z W (D.evB C c (.cons e (.cons a b))) σ H Q → tE ct X.K Z W (D.evE C e) σ H fun x H1 => ∃ k, TruV X.K x H1 k ∧ if k = c then tE ct X.K Z W (D.evB C c (.cons a b)) σ H1 Q else Q x H1 := by
            intro σ H Q t
            obtain ⟨φ, ρ, η, st, w⟩ := t
            rw [D.evB] at w
            refine tG.use2 st w fun φ1 x η1 v1 H1 x1 st1 r1 w1 => ?_
            cases q2 : D.truth η1 x with
            | none => rw [q2] at w1; exact w1.elim
            | some k =>
              rw [q2] at w1
              simp only [Option.map_some, D.br_some] at w1
              refine ⟨k, truV_of st1.hr r1 q2, ?_⟩
              by_cases hk : k = c
              · rw [if_pos hk]
                rw [if_pos (by simpa using hk)] at w1
                exact ⟨φ1, ρ, η1, st1, w1⟩
              · rw [if_neg hk]
                rw [if_neg (by simpa using hk)] at w1
                exact fin_val w1 st1.hr r1
          have cvt : ∀ {α : Prop} {β : Prop} {k : Bool}, (if k = false then α else β) → if k = true then β else α := by
            intro α β k h
            cases k <;> simpa using h
          cases c with
          | true => exact ⟨(pe_andT p1 b1).mono fun σ H Q t => rv t, pw_mono (pw_and p2 b2) fun σ H Q t => by
              refine imp_ (rd t) fun k H1 q => ?_
              cases k with
              | true => simpa using q
              | false => simpa using q⟩
          | false => exact ⟨(pe_orT p1 b1).mono fun σ H Q t => by
              refine imp_ (rv t) fun x H1 ⟨k, q1, q2⟩ => ⟨k, q1, cvt q2⟩, pw_mono (pw_or p2 b2) fun σ H Q t => by
              refine imp_ (rd t) fun k H1 q => ?_
              cases k with
              | true => simpa using q
              | false => simpa using q⟩
    · have q : es' = [] := by
        cases es' with
        | nil => rfl
        | cons _ _ => simp at hl
      subst q
      have := sing (x := []) rfl
      subst this
      refine pts_mono (pts_one p2) fun σ H Q t => t.conv fun ρ η => ?_
      simp only [D.evC, trE]
      cases D.evE C e ρ η with
      | ok y η1 =>
        simp only [D.bind_ok]
        cases D.truth η1 y with
        | none => rfl
        | some k => cases k <;> rfl
      | exc => rfl
      | err => rfl
  · cases h
where
  imp_ {α β : Type} {R : List Addr → Hp → α → β → Prop} {ct : Ct} {K : Fg} {Z : List Addr} {W : WX} {ev : D.Env → D.Hp → D.Res α} {σ : L2.St} {H : Hp} {Q Q' : β → Hp → Prop} (t : tG R ct K Z W ev σ H Q) (h : ∀ v H, Q v H → Q' v H) : tG R ct K Z W ev σ H Q' := by
    obtain ⟨φ, ρ, η, st, w⟩ := t
    refine ⟨φ, ρ, η, st, ?_⟩
    cases q : ev ρ η with
    | ok y η1 => rw [q] at w; exact fun φ' v H' x hr r => h _ _ (w φ' v H' x hr r)
    | exc c fs η1 => rw [q] at w; exact w
    | err => rw [q] at w; exact w

theorem so_call {f : Nat} {es : D.Es} (hes : SoEs M N C ct es) : SoE M N C ct (.call f es) := by
  intro X fs sc W Z e g hs hf tk h
  unfold chkE at h
  split at h
  · rename_i x p1 e1 es' pos
    simp only [Bool.and_eq_true, decide_eq_true_eq, Bool.not_eq_true', dbg] at h
    obtain ⟨⟨⟨h1, h2⟩, h3⟩, h4⟩ := h
    obtain ⟨k, fa, fd, ps, sp, F, hr, hm, hk, hb, hsp⟩ := g.fn f x h1
    have L := hes X fs sc W Z _ g hs hf tk h4
    have hst := stars_of h4
    have p : PE X (.Call (.Name x p1) (e1 :: es') [] pos) (tE ct X.K Z W (D.evE C (.call f es))) := by
      refine (pe_callS (E := fun σ => WE W σ) F hr (glb_ok hs h2) hm hk hb (fun σ => passAt tk σ) L.pa h3 (star_ok (hst _ List.mem_cons_self) es' X.env) (stars_any (fun y hy => hst y (List.mem_cons_of_mem _ hy)) X.env pos)).mono fun σ H Q t => ?_
      obtain ⟨φ, ρ, η, st, w⟩ := t
      simp only [D.evE] at w
      exact tG.use2 st w fun φ1 xs η1 vs H1 x1 st1 r1 w1 => hsp φ1 Z η1 H1 xs vs Q (WE W σ) st1.hr r1 w1
    exact ⟨p, pt_plain p rfl⟩
  · cases h

theorem pe_biV {X : Cx} {b : D.BI} {r : List V → Hp → VK → Prop} {t : TA} {e : Expr} {es : List Expr} {p pos : Pos} (hc : CallR X (biVal b) r) (hg : Gl X (biName b)) (hm : X.mg (biName b) = none) (ha : PA X (e :: es) t) (hs : ∀ x ∈ e :: es, noStar x = true) :
    PE X (.Call (.Name (biName b) p) (e :: es) [] pos) (tCB r t) := by
  have h1 := star_ok (hs _ List.mem_cons_self) es X.env
  have h2 := stars_any (fun y hy => hs y (List.mem_cons_of_mem _ hy)) X.env pos
  have h3 := boot_bi b
  have h4 := bi_nm b
  cases b
  all_goals first
    | exact pe_callB hc hg hm h3 ha h4.1 h4.2 h1 h2
    | exact pe_callTy hc hg hm h3 ha h4.1 h4.2 h1 h2
theorem so_bi {b : D.BI} {es : D.Es} (hes : SoEs M N C ct es) : SoE M N C ct (.bi b es) := by
  intro X fs sc W Z e g hs hf tk h
  unfold chkE at h
  split at h
  · rename_i x p1 e1 es' pos
    simp only [Bool.and_eq_true, beq_iff_eq] at h
    obtain ⟨⟨rfl, h2⟩, h4⟩ := h
    have L := hes X fs sc W Z _ g hs hf tk h4
    have p : PE X (.Call (.Name (biName b) p1) (e1 :: es') [] pos) (tE ct X.K Z W (D.evE C (.bi b es))) := by
      refine (pe_biV (bi_ok g.calm (by have := g.hu; omega) b) (glb_ok hs h2) (g.bi b) L.pa (stars_of h4)).mono fun σ H Q t => ?_
      obtain ⟨φ, ρ, η, st, w⟩ := t
      simp only [D.evE] at w
      refine tG.use2 st w fun φ1 xs η1 vs H1 x1 st1 r1 w1 => ?_
      obtain ⟨z, e1, f⟩ := w1.of_opt
      exact ⟨φ1, Z, η1, xs, z, st1.hr, r1, e1, f⟩
    exact ⟨p, pt_plain p rfl⟩
  · cases h
theorem kitB_all : ∀ t : D.Ty, kitB "NoneType" (tyName t) = some false ∧ kitB "bool" (tyName t) = some (match t with | .int => true | .bool => true | _ => false) ∧ kitB "int" (tyName t) = some (match t with | .int => true | _ => false) ∧
    kitB "str" (tyName t) = some (match t with | .str => true | _ => false) ∧ kitB "tuple" (tyName t) = some (match t with | .tuple => true | _ => false) ∧ kitB "list" (tyName t) = some (match t with | .list => true | _ => false) := by
  intro t
  cases t <;> decide +kernel
theorem isTy_ok {K : Fg} {φ Z : List Addr} {H : Hp} {η : D.Hp} {x : PV} {v : V} {t : D.Ty} {b : Bool} (hr : HR K φ Z η H) (r : RV K φ Z H x v) (e : D.isTy η t x = some b) :
    ∃ u, TyX K H v u ∧ PySem.W.kitOne K u (.type (tyName t)) = some b := by
  obtain ⟨k0, k1, k2, k3, k4, k5⟩ := kitB_all t
  cases r with
  | non =>
    simp only [D.isTy, Option.some.injEq] at e
    exact ⟨_, .base .non, kit_ty (by rw [k0, e])⟩
  | bl b => exact ⟨_, .base (.bl _), kit_ty (by rw [k1, ← e]; cases t <;> rfl)⟩
  | int b => exact ⟨_, .base (.int _), kit_ty (by rw [k2, ← e]; cases t <;> rfl)⟩
  | str b => exact ⟨_, .base (.str _), kit_ty (by rw [k3, ← e]; cases t <;> rfl)⟩
  | tup ht hs =>
    have q : PySem.W.kitOne K (.type "tuple") (.type (tyName t)) = some b := kit_ty (by rw [k4, ← e]; cases t <;> rfl)
    rcases ht with (ht | ⟨o, ht⟩) | ⟨o, its, n, h1, h2, _⟩
    · exact ⟨_, .base (.tup ht), q⟩
    · exact ⟨_, .fTuple ht, q⟩
    · exact ⟨_, .kTuple h1 h2, q⟩
  | lst hl h1 h2 hs =>
    exact ⟨_, .base (.lst hl), kit_ty (by rw [k5, ← e]; cases t <;> rfl)⟩
  | @cell c a ec =>
    simp only [D.isTy] at e
    cases q : η[c]? with
    | none => rw [q] at e; simp [D.isTyO] at e
    | some o =>
      rw [q] at e
      obtain ⟨xs, vs, rfl, e1, rs⟩ := ob_lst hr ec q
      exact ⟨_, .base (.lst e1), kit_ty (by rw [k5, ← e]; cases t <;> rfl)⟩
  | scr => cases t <;> simp [D.isTy] at e
theorem so_isi {a : D.E} {t : D.Ty} (ha : SoE M N C ct a) : SoE M N C ct (.isi a t) := by
  intro X fs sc W Z e g hs hf tk h
  unfold chkE at h
  split at h
  · rename_i x p1 a' T p2 pos
    simp only [Bool.and_eq_true, beq_iff_eq] at h
    obtain ⟨⟨⟨⟨⟨rfl, h2⟩, rfl⟩, h3⟩, h4⟩, h5⟩ := h
    have pa := (ha X fs sc W Z a' g hs hf tk h5).1
    have pl : PA X [a', .Name (tyName t : Str) p2] (tCons (tE ct X.K Z W (D.evE C a)) (tCons (tC (.ty (tyName t))) tNil)) :=
      pa_cons pa (pa_cons (pe_bltn (glb_ok hs h3) (g.ty t) (boot_ty t) rfl (ty_nm t).1 (ty_nm t).2) pa_nil rfl) (star_ok h4 _ X.env)
    have p : PE X (.Call (.Name "isinstance" p1) [a', .Name (tyName t : Str) p2] [] pos) (tE ct X.K Z W (D.evE C (.isi a t))) := by
      refine (pe_callB call_isi (glb_ok hs h2) g.isi PyProof.Rows.boot_isinstance pl (by decide) (by decide) (star_ok h4 _ X.env) rfl).mono fun σ H Q tt => ?_
      obtain ⟨φ, ρ, η, st, w⟩ := tt
      simp only [D.evE] at w
      refine tG.use2 st w fun φ1 y η1 v1 H1 x1 st1 r1 w1 => ?_
      obtain ⟨z, e1, f⟩ := w1.of_opt
      obtain ⟨b, e2, rfl⟩ := Option.map_eq_some_iff.mp e1
      obtain ⟨u, q1, q2⟩ := isTy_ok st1.hr r1 e2
      exact ⟨v1, .ty (tyName t), u, .type (tyName t), b, rfl, .ty _, q1, q2, fin_val f st1.hr (.bl _)⟩
    exact ⟨p, pt_plain p rfl⟩
  · cases h
theorem mt_facts (m : D.Mt) (hm : m ≠ .replace) : PlainAttrs (mtTy m) ∧ Slot (mtTy m) (mtName m : Str) (mtId m) ∧ typeOf (.builtin (mtId m)) = pure (.type "method_descriptor") := by
  cases m
  · exact ⟨F.plainAttrs_list, F.slot_list_append, F.type_list_append⟩
  · exact ⟨F.plainAttrs_list, F.slot_list_extend, F.type_list_extend⟩
  · exact ⟨F.plainAttrs_list, F.slot_list_pop, F.type_list_pop⟩
  · exact ⟨F.plainAttrs_list, F.slot_list_pop, F.type_list_pop⟩
  · exact ⟨F.plainAttrs_list, F.slot_list_index, F.type_list_index⟩
  · exact ⟨F.plainAttrs_list, F.slot_list_count, F.type_list_count⟩
  · exact ⟨F.plainAttrs_str, F.slot_str_startswith, F.type_str_startswith⟩
  · exact ⟨F.plainAttrs_str, F.slot_str_join, F.type_str_join⟩
  · exact ⟨F.plainAttrs_dict, F.slot_dict_get, F.type_dict_get⟩
  · exact absurd rfl hm
theorem mtV_exc {n : Nat} {m : D.Mt} {x : PV} {xs : List PV} {η η' : D.Hp} {c : Nat} {fs : List PV} : D.mtV n η m x xs ≠ .exc c fs η' := by
  have opt : ∀ {α : Type} {o : Option α} {η η' : D.Hp} {c : Nat} {fs : List PV}, D.Res.opt o η ≠ .exc c fs η' := by
    intro α o η η' c fs h
    cases o <;> cases h
  have wr : ∀ {o : Option D.Hp} {η η' : D.Hp} {c : Nat} {fs : List PV}, D.wrote η o ≠ .exc c fs η' := by
    intro o η η' c fs h
    cases o <;> cases h
  intro h
  unfold D.mtV at h
  split at h
  · exact wr h
  · exact wr h
  · unfold D.popO at h
    split at h
    · rename_i ys _
      cases q : ys.getLast? with
      | none => rw [q] at h; cases h
      | some y => rw [q] at h; cases h
    · cases h
  · unfold D.popAtO at h
    split at h
    · rename_i i c' xs' ys _
      cases q : D.ixN ys.length _ with
      | none => rw [q] at h; cases h
      | some k =>
        rw [q] at h
        simp only [D.opt_some, D.bind_ok] at h
        cases q2 : ys[k]? with
        | none => rw [q2] at h; cases h
        | some y => rw [q2] at h; cases h
    · cases h
  · exact opt h
  · exact opt h
  · cases h
  · exact opt h
  · exact opt h
  · cases h
theorem so_mth {m : D.Mt} {o : D.E} {es : D.Es} (ho : SoE M N C ct o) (hes : SoEs M N C ct es) : SoE M N C ct (.mth m o es) := by
  intro X fs sc W Z e g hs hf tk h
  unfold chkE at h
  split at h
  · rename_i o' nm apos es' cpos
    simp only [Bool.and_eq_true, beq_iff_eq, decide_eq_true_eq] at h
    obtain ⟨⟨⟨⟨⟨⟨h1, rfl⟩, h2⟩, h3⟩, h4⟩, h5⟩, h6⟩ := h
    have h3 := beq_iff_eq.mpr h3
    have po := (ho X fs sc W Z o' g hs hf tk h5).1
    have L := hes X fs sc W Z es' g hs hf tk h6
    have hu : X.A.units + 65 < cLine := by have := g.hu; omega
    have hm : m ≠ .replace := by cases m <;> simp [mtIn] at h1 ⊢
    · obtain ⟨f1, f2, f3⟩ := mt_facts m hm
      have rd : ∀ {σ : L2.St} {H : Hp} {Q : VK}, tE ct X.K Z W (D.evE C (.mth m o es)) σ H Q → tE ct X.K Z W (D.evE C o) σ H fun x H1 => tyV X.K (mtTy m) x H1 ∧ tA ct X.K Z W (D.evEs C es) σ H1 fun xs H2 => rMt X.K C.n m x xs H2 Q := by
        intro σ H Q t
        obtain ⟨φ, ρ, η, st, w⟩ := t
        simp only [D.evE] at w
        refine tG.use2 st w fun φ1 x η1 v1 H1 x1 st1 r1 w1 => ?_
        split at w1
        · rename_i hrc
          refine ⟨rcv_ok st1.hr r1 hrc, tG.use2 st1 w1 fun φ2 xs η2 vs H2 x2 st2 r2 w2 => ?_⟩
          cases q : D.mtV C.n η2 m x xs with
          | ok z η3 =>
            rw [q] at w2
            exact ⟨φ2, Z, η2, x, xs, z, η3, st2.hr, r1.ext st1.hr x2, r2, q, w2⟩
          | exc c fs η3 => exact absurd q mtV_exc
          | err => rw [q] at w2; exact w2.elim
        · exact w1.elim
      have p : PE X (.Call (.Attribute o' (mtName m : Str) apos) es' [] cpos) (tE ct X.K Z W (D.evE C (.mth m o es))) := by
        cases es' with
        | nil =>
          have : es = .nil := by
            cases es with
            | nil => rfl
            | cons a b => unfold chkEs at h6; simp at h6
          subst this
          refine (pe_bm0 f1 f2 f3 (mt_ok hu C.n m) po (sup_ok h2 _ _ _) h3).mono fun σ H Q t => ?_
          obtain ⟨φ, ρ, η, st, w⟩ := rd t
          refine ⟨φ, ρ, η, st, ?_⟩
          cases q : D.evE C o ρ η with
          | ok y η1 =>
            rw [q] at w
            intro φ' v H' x hr r
            obtain ⟨k1, φ2, ρ2, η2, st2, k2⟩ := w φ' v H' x hr r
            simp only [D.evEs] at k2
            exact ⟨k1, k2 φ2 [] H' .refl st2.hr .nil⟩
          | exc c fs η1 => rw [q] at w; exact w
          | err => rw [q] at w; exact w
        | cons e1 es' =>
          have hst := stars_of h6
          refine (pe_bm f1 f2 f3 (mt_ok hu C.n m) po L.pa (sup_ok h2 _ _ _) ?_ h3 (star_ok (hst _ List.mem_cons_self) es' X.env) (stars_any (fun y hy => hst y (List.mem_cons_of_mem _ hy)) X.env cpos)).mono fun σ H Q t => rd t
          rw [stars_all hst X.env cpos]
          show (true && true && decide ((e1 :: es').length + 0 + 0 < 30)) = true
          rw [decide_eq_true (by omega)]
          rfl
      exact ⟨p, pt_plain p rfl⟩
  · cases h
end
end DS
end

section
set_option Elab.async false
set_option linter.all false
set_option maxRecDepth 100000
set_option maxHeartbeats 1000000
namespace DS
open PySem PySem.Spec PyProof.Rows L2
section
variable {M : Nm} {N : List Str} {C : D.Cfg} {ct : Ct}
theorem so_idx {a i : D.E} (ha : SoE M N C ct a) (hi : SoE M N C ct i) : SoE M N C ct (.idx a i) := by
  intro X fs sc W Z e g hs hf tk h
  unfold chkE at h
  split at h
  · rename_i a' i' pos
    simp only [Bool.and_eq_true] at h
    obtain ⟨⟨h1, h2⟩, h3⟩ := h
    have p : PE X (.Subscript a' i' pos) (tE ct X.K Z W (D.evE C (.idx a i))) := by
      refine (pe_ix idx_ok (ha X fs sc W Z a' g hs hf tk h2).1 (hi X fs sc W Z i' g hs hf tk h3).1 (sl_ok h1)).mono fun σ H Q t => ?_
      obtain ⟨φ, ρ, η, st, w⟩ := t
      simp only [D.evE] at w
      refine tG.use2 st w fun φ1 x η1 v1 H1 x1 st1 r1 w1 => tG.use2 st1 w1 fun φ2 y η2 v2 H2 x2 st2 r2 w2 => ?_
      obtain ⟨z, e1, f⟩ := w2.of_opt
      exact ⟨φ2, Z, η2, x, y, z, st2.hr, r1.ext st1.hr x2, r2, e1, f⟩
    exact ⟨p, pt_plain p rfl⟩
  · cases h
/-- an end of a slice -/
def opE (ev : D.Env → D.Hp → D.Res (List PV)) : D.Env → D.Hp → D.Res (Option Int) := fun ρ η => (ev ρ η).bind fun l η2 => D.Res.opt (D.optI l) η2
theorem po_ok {es : D.Es} (hes : SoEs M N C ct es) {X : Cx} {fs sc : Scope} {W : WX} {Z : List Addr} {o : Option Expr} (g : Gd M N C ct X) (hs : X.env.scope = sc) (hf : ∀ x, fs.names.lookup x = some .cell → X.fn x = true) (tk : Takes X W)
    (h : chkEs M N es fs sc o.toList = true) : PO X o (tG rEq ct X.K Z W (opE (D.evEs C es))) := by
  have L := hes X fs sc W Z _ g hs hf tk h
  cases o with
  | none =>
    have : es = .nil := by
      cases es with
      | nil => rfl
      | cons a b => unfold chkEs at h; simp at h
    subst this
    refine ⟨fun pins s σ H Q I t => po_none.run pins s σ H Q I ?_⟩
    obtain ⟨φ, ρ, η, st, w⟩ := t
    simp only [opE, D.evEs] at w
    exact w φ none H .refl st.hr rfl
  | some e =>
    refine ⟨fun pins s σ H Q I t => (po_some (L.one e rfl)).run pins s σ H Q I ?_⟩
    obtain ⟨φ, ρ, η, st, w⟩ := t
    refine ⟨φ, ρ, η, st, ?_⟩
    unfold opE at w
    unfold one1
    cases q : D.evEs C es ρ η with
    | ok l η1 =>
      rw [q] at w
      simp only [D.bind_ok] at w ⊢
      cases q2 : D.optI l with
      | none => rw [q2] at w; exact w.elim
      | some oi =>
        rw [q2] at w
        unfold D.optI at q2
        split at q2
        · exfalso
          have : es = .nil ∨ ∃ a b, es = .cons a b := by cases es <;> simp
          rcases this with rfl | ⟨a, b, rfl⟩
          · unfold chkEs at h; simp at h
          · simp only [D.evEs] at q
            cases q3 : D.evE C a ρ η with
            | ok y η3 =>
              rw [q3] at q
              simp only [D.bind_ok] at q
              cases q4 : D.evEs C b ρ η3 with
              | ok l η4 => rw [q4] at q; cases q
              | exc => rw [q4] at q; cases q
              | err => rw [q4] at q; cases q
            | exc => rw [q3] at q; cases q
            | err => rw [q3] at q; cases q
        · cases q2
          rename_i i
          intro φ1 v H1 x h1 r
          cases r
          exact ⟨i, rfl, w φ1 _ H1 x h1 rfl⟩
        · cases q2
    | exc c fs η1 => rw [q] at w; exact w
    | err => rw [q] at w; exact w
theorem bind_opE {γ : Type} {es : D.Es} {ρ : D.Env} {η : D.Hp} (f : Option Int → D.Hp → D.Res γ) : ((D.evEs C es ρ η).bind fun l η2 => (D.Res.opt (D.optI l) η2).bind f) = (opE (D.evEs C es) ρ η).bind f := by
  unfold opE
  cases D.evEs C es ρ η <;> rfl
theorem so_slc {a : D.E} {lo hi : D.Es} (ha : SoE M N C ct a) (hl : SoEs M N C ct lo) (hh : SoEs M N C ct hi) : SoE M N C ct (.slc a lo hi) := by
  intro X fs sc W Z e g hs hf tk h
  unfold chkE at h
  split at h
  · rename_i a' lo' hi' p2 pos
    simp only [Bool.and_eq_true] at h
    obtain ⟨⟨h1, h2⟩, h3⟩ := h
    have p : PE X (.Subscript a' (.Slice lo' hi' none p2) pos) (tE ct X.K Z W (D.evE C (.slc a lo hi))) := by
      refine (pe_slice slc_ok (ha X fs sc W Z a' g hs hf tk h1).1 (po_ok (Z := Z) hl g hs hf tk h2) (po_ok (Z := Z) hh g hs hf tk h3)).mono fun σ H Q t => ?_
      obtain ⟨φ, ρ, η, st, w⟩ := t
      simp only [D.evE, bind_opE] at w
      refine tG.use2 st w fun φ1 x η1 v1 H1 x1 st1 r1 w1 => tG.use2 st1 w1 fun φ2 l η2 l' H2 x2 st2 r2 w2 => tG.use2 st2 w2 fun φ3 u η3 u' H3 x3 st3 r3 w3 => ?_
      cases r2
      cases r3
      obtain ⟨z, e1, f⟩ := w3.of_opt
      exact ⟨φ3, Z, η3, x, z, st3.hr, (r1.ext st1.hr x2).ext st2.hr x3, e1, f.new st3.hr⟩
    exact ⟨p, pt_plain p rfl⟩
  · cases h

theorem sf_lst {es : D.Es} (hes : SoEs M N C ct es) : SoF M N C ct (.lst es) := by
  intro X fs sc W Z e g hs hf tk h
  unfold chkF at h
  split at h
  · rename_i es' pos
    refine (pe_lst (hes X fs sc W Z es' g hs hf tk h).pa).mono fun σ H Q t => ?_
    obtain ⟨φ, ρ, η, st, w⟩ := t
    simp only [D.evF] at w
    refine tG.useF st w fun φ1 xs η1 vs H1 x1 st1 r1 w1 => ?_
    split at w1
    · rename_i hl
      exact ⟨len_line r1 hl, fun p n => FinF.now w1 st1.hr r1 n⟩
    · exact w1.elim
  · cases h
theorem sf_bi {b : D.BI} {es : D.Es} (hes : SoEs M N C ct es) : SoF M N C ct (.bi b es) := by
  intro X fs sc W Z e g hs hf tk h
  unfold chkF at h
  split at h
  · rename_i x p1 e1 es' pos
    simp only [Bool.and_eq_true, beq_iff_eq] at h
    obtain ⟨⟨⟨h0, rfl⟩, h2⟩, h4⟩ := h
    have L := hes X fs sc W Z _ g hs hf tk h4
    have hc : CallR X (biVal b) (rBiF X.K b) := by
      cases b <;> first | exact list_okF g.calm | exact sorted_okF (by have := g.hu; omega) | (simp [newB] at h0)
    refine (pe_biV hc (glb_ok hs h2) (g.bi b) L.pa (stars_of h4)).mono fun σ H Q t => ?_
    obtain ⟨φ, ρ, η, st, w⟩ := t
    simp only [D.evF] at w
    refine tG.useF st w fun φ1 xs η1 vs H1 x1 st1 r1 w1 => ?_
    obtain ⟨ys, e1, f⟩ := w1.of_opt
    obtain ⟨z, e2, e3⟩ := Option.bind_eq_some_iff.mp e1
    have : z = .lst ys := by cases z <;> simp [D.lstV] at e3; rw [e3]
    subst this
    exact ⟨φ1, Z, η1, xs, ys, st1.hr, r1, e2, fun p ws n r => f.now st1.hr r n⟩
  · cases h
theorem sf_bin {o : D.Op} {a b : D.E} (ha : SoE M N C ct a) (hb : SoE M N C ct b) : SoF M N C ct (.bin o a b) := by
  intro X fs sc W Z e g hs hf tk h
  unfold chkF at h
  split at h
  · rename_i a' op b' pos
    simp only [Bool.and_eq_true, beq_iff_eq] at h
    obtain ⟨⟨rfl, h2⟩, h3⟩ := h
    refine (pe_op (bin_ok o) (ha X fs sc W Z a' g hs hf tk h2).1 (hb X fs sc W Z b' g hs hf tk h3).1).mono fun σ H Q t => ?_
    obtain ⟨φ, ρ, η, st, w⟩ := t
    simp only [D.evF] at w
    refine tG.useF st w fun φ1 x η1 v1 H1 x1 st1 r1 w1 => tG.useF st1 w1 fun φ2 y η2 v2 H2 x2 st2 r2 w2 => ?_
    obtain ⟨ys, e1, f⟩ := w2.of_opt
    obtain ⟨z, e2, e3⟩ := Option.bind_eq_some_iff.mp e1
    have : z = .lst ys := by cases z <;> simp [D.lstV] at e3; rw [e3]
    subst this
    exact ⟨φ2, Z, η2, x, y, .lst ys, st2.hr, r1.ext st1.hr x2, r2, e2, fun p ws n r => f.now st2.hr r n⟩
  · cases h
theorem sf_slc {a : D.E} {lo hi : D.Es} (ha : SoE M N C ct a) (hl : SoEs M N C ct lo) (hh : SoEs M N C ct hi) : SoF M N C ct (.slc a lo hi) := by
  intro X fs sc W Z e g hs hf tk h
  unfold chkF at h
  split at h
  · rename_i a' lo' hi' p2 pos
    simp only [Bool.and_eq_true] at h
    obtain ⟨⟨h1, h2⟩, h3⟩ := h
    refine (pe_slice slc_ok (ha X fs sc W Z a' g hs hf tk h1).1 (po_ok (Z := Z) hl g hs hf tk h2) (po_ok (Z := Z) hh g hs hf tk h3)).mono fun σ H Q t => ?_
    obtain ⟨φ, ρ, η, st, w⟩ := t
    simp only [D.evF, bind_opE] at w
    refine tG.useF st w fun φ1 x η1 v1 H1 x1 st1 r1 w1 => tG.useF st1 w1 fun φ2 l η2 l' H2 x2 st2 r2 w2 => tG.useF st2 w2 fun φ3 u η3 u' H3 x3 st3 r3 w3 => ?_
    cases r2
    cases r3
    obtain ⟨ys, e1, f⟩ := w3.of_opt
    obtain ⟨z, e2, e3⟩ := Option.bind_eq_some_iff.mp e1
    have : z = .lst ys := by cases z <;> simp [D.lstV] at e3; rw [e3]
    subst this
    exact ⟨φ3, Z, η3, x, .lst ys, st3.hr, (r1.ext st1.hr x2).ext st2.hr x3, e2, fun p ws n r => f.now st3.hr r n⟩
  · cases h

theorem si_seq {a : D.E} (ha : SoE M N C ct a) : SoI M N C ct (.seq a) := by
  intro X fs sc W Z t e g hs hf tk h
  unfold chkI at h
  refine (pi_seq (ha X fs sc W Z e g hs hf tk h).1).mono fun σ H Q tt => ?_
  obtain ⟨φ, ρ, η, st, w⟩ := tt
  simp only [D.evI] at w
  refine tG.use2 st w fun φ1 x η1 v1 H1 x1 st1 r1 w1 => ?_
  obtain ⟨p, e1, f⟩ := w1.of_opt
  rcases walkV_ok st1.hr r1 e1 with ⟨z, rfl, q⟩ | ⟨a, xs, rfl, ⟨h1, q⟩ | ⟨h1, q⟩⟩
  · exact .inl ⟨z, rfl, f φ1 _ H1 .refl st1.hr q⟩
  · exact .inr ⟨a, xs, rfl, .inl ⟨h1, f φ1 _ H1 .refl st1.hr q⟩⟩
  · exact .inr ⟨a, xs, rfl, .inr ⟨h1, f φ1 _ H1 .refl st1.hr q⟩⟩
theorem si_enm {a : D.E} (ha : SoE M N C ct a) : SoI M N C ct (.enm a) := by
  intro X fs sc W Z t e g hs hf tk h
  unfold chkI at h
  split at h
  · rename_i x p1 a' pos
    simp only [Bool.and_eq_true, beq_iff_eq] at h
    obtain ⟨⟨⟨⟨rfl, h2⟩, h3⟩, h4⟩, h5⟩ := h
    cases t <;> simp only [isTupE, Bool.false_eq_true] at h3
    have pl : PA X [a'] (tCons (tE ct X.K Z W (D.evE C a)) tNil) := pa_cons (ha X fs sc W Z a' g hs hf tk h5).1 pa_nil (star_ok h4 [] X.env)
    refine (pi_enumA (glb_ok hs h2) g.enm pl (star_ok h4 [] X.env)).mono fun σ H Q tt => ?_
    obtain ⟨φ, ρ, η, st, w⟩ := tt
    simp only [D.evI] at w
    refine tG.use2 st w fun φ1 x η1 v1 H1 x1 st1 r1 w1 => ?_
    obtain ⟨p, e1, f⟩ := w1.of_opt
    obtain ⟨a, xs, rfl, ⟨h1, q⟩ | ⟨h1, q⟩⟩ := enmV_ok st1.hr r1 e1
    · exact ⟨a, xs, rfl, .inl ⟨h1, f φ1 _ H1 .refl st1.hr q⟩⟩
    · exact ⟨a, xs, rfl, .inr ⟨h1, f φ1 _ H1 .refl st1.hr q⟩⟩
  · cases h
theorem si_zip {a b : D.E} (ha : SoE M N C ct a) (hb : SoE M N C ct b) : SoI M N C ct (.zip a b) := by
  intro X fs sc W Z t e g hs hf tk h
  unfold chkI at h
  split at h
  · rename_i x p1 a' b' pos
    simp only [Bool.and_eq_true, beq_iff_eq] at h
    obtain ⟨⟨⟨⟨⟨⟨rfl, h2⟩, h3⟩, h4⟩, h5⟩, h6⟩, h7⟩ := h
    cases t <;> simp only [isTupE, Bool.false_eq_true] at h3
    have pl : PA X [a', b'] (tCons (tE ct X.K Z W (D.evE C a)) (tCons (tE ct X.K Z W (D.evE C b)) tNil)) :=
      pa_cons (ha X fs sc W Z a' g hs hf tk h6).1 (pa_cons (hb X fs sc W Z b' g hs hf tk h7).1 pa_nil (star_ok h5 [] X.env)) (star_ok h4 _ X.env)
    refine (RZ.pi_zipA (glb_ok hs h2) g.zip pl (star_ok h4 _ X.env) (by rw [star_ok h5]; rfl)).mono fun σ H Q tt => ?_
    obtain ⟨φ, ρ, η, st, w⟩ := tt
    simp only [D.evI] at w
    refine tG.use2 st w fun φ1 x η1 v1 H1 x1 st1 r1 w1 => tG.use2 st1 w1 fun φ2 y η2 v2 H2 x2 st2 r2 w2 => ?_
    obtain ⟨p, e1, f⟩ := w2.of_opt
    obtain ⟨a, b, xs, ys, rfl, rfl, ⟨h1, h1', q⟩ | ⟨h1, h1', q⟩⟩ := zipV_ok st2.hr (r1.ext st1.hr x2) r2 e1
    · exact ⟨a, b, xs, ys, rfl, .inl ⟨h1, h1', f φ2 _ H2 .refl st2.hr q⟩⟩
    · exact ⟨a, b, xs, ys, rfl, .inr ⟨h1, h1', f φ2 _ H2 .refl st2.hr q⟩⟩
  · cases h
theorem small_b {i : Int} (h : D.small i = true) : -(2 ^ 62) ≤ i ∧ i < 2 ^ 62 := by
  have := of_decide_eq_true h
  omega
theorem si_rng {es : D.Es} (hes : SoEs M N C ct es) : SoI M N C ct (.rng es) := by
  intro X fs sc W Z t e g hs hf tk h
  unfold chkI at h
  split at h
  · rename_i x p1 args pos
    simp only [Bool.and_eq_true, beq_iff_eq, decide_eq_true_eq] at h
    obtain ⟨⟨⟨rfl, h2⟩, h3⟩, h4⟩ := h
    have L := hes X fs sc W Z args g hs hf tk h4
    have hst := stars_of h4
    -- the number of values is that of the arguments
    have len : ∀ (es : D.Es) (args : List Expr), chkEs M N es fs sc args = true → ∀ ρ η xs η', D.evEs C es ρ η = .ok xs η' → xs.length = args.length := by
      intro es
      refine D.Es.rec (motive_1 := fun _ => True) (motive_2 := fun es => ∀ (args : List Expr), chkEs M N es fs sc args = true → ∀ ρ η xs η', D.evEs C es ρ η = .ok xs η' → xs.length = args.length) (motive_3 := fun _ => True) (motive_4 := fun _ => True)
        (fun _ => trivial) (fun _ => trivial) (fun _ => trivial) (fun _ _ => trivial) (fun _ _ => trivial) (fun _ _ _ => trivial) (fun _ _ => trivial) (fun _ _ _ _ _ _ => trivial) (fun _ _ _ _ _ => trivial) (fun _ _ => trivial) (fun _ _ _ _ _ => trivial) (fun _ _ _ _ _ _ _ _ => trivial) (fun _ _ _ => trivial)
        (fun _ _ _ => trivial) (fun _ _ _ => trivial) (fun _ _ _ => trivial) (fun _ _ _ _ _ => trivial) (fun _ _ _ _ => trivial) (fun _ _ _ _ _ _ => trivial) (fun _ _ => trivial) ?_ ?_ (fun _ _ => trivial) (fun _ _ _ _ _ _ _ _ => trivial) (fun _ _ _ _ _ _ _ _ _ _ _ _ _ _ => trivial) (fun _ _ _ => trivial) (fun _ _ _ _ _ => trivial) (fun _ _ _ _ _ _ => trivial)
        (fun _ _ => trivial) (fun _ _ => trivial) (fun _ _ => trivial) (fun _ _ _ _ => trivial) es
      · intro args h ρ η xs η' q
        unfold chkEs at h
        have : args = [] := by simpa using h
        subst this
        simp only [D.evEs] at q
        cases q; rfl
      · intro e es _ ih args h ρ η xs η' q
        unfold chkEs at h
        split at h
        · simp only [Bool.and_eq_true] at h
          simp only [D.evEs] at q
          cases q1 : D.evE C e ρ η with
          | ok y η1 =>
            rw [q1] at q
            simp only [D.bind_ok] at q
            cases q2 : D.evEs C es ρ η1 with
            | ok l η2 =>
              rw [q2] at q
              cases q
              rw [List.length_cons, List.length_cons, ih _ h.2 ρ η1 l _ q2]
            | exc => rw [q2] at q; cases q
            | err => rw [q2] at q; cases q
          | exc => rw [q1] at q; cases q
          | err => rw [q1] at q; cases q
        · cases h
    have rd : ∀ (σ : L2.St) (H : Hp) (Q : L2.It → Hp → Prop), tI ct X.K Z W (D.evI C (.rng es)) σ H Q → tA ct X.K Z W (D.evEs C es) σ H fun vs H1 => ∃ xs p, D.rngV xs = some p ∧ xs.length = args.length ∧ (∀ is, D.intsV xs = some is → vs = is.map V.int) ∧ ∀ J, (∀ φ, rI X.K Z φ H1 p J) → Q J H1 := by
      intro σ H Q tt
      obtain ⟨φ, ρ, η, st, w⟩ := tt
      simp only [D.evI] at w
      have ln : ∀ xs η', D.evEs C es ρ η = .ok xs η' → xs.length = args.length := fun xs η' q => len es args h4 ρ η xs η' q
      refine ⟨φ, ρ, η, st, ?_⟩
      cases q : D.evEs C es ρ η with
      | ok xs η1 =>
        rw [q] at w
        intro φ1 vs H1 x1 h1 r1
        have w1 := WP.ext w x1
        simp only [D.bind_ok] at w1
        obtain ⟨p, e1, f⟩ := w1.of_opt
        exact ⟨xs, p, e1, ln xs η1 q, fun is hi => r1.ints hi, fun J hJ => f φ1 J H1 .refl h1 (hJ φ1)⟩
      | exc c fs η1 => rw [q] at w; exact w
      | err => rw [q] at w; exact w
    match args, h3, L, hst, rd with
    | [a], _, L, hst, rd =>
      refine (pi_range1 (glb_ok hs h2) g.rng L.pa (star_ok (hst _ (by simp)) _ X.env)).mono fun σ H Q tt => ?_
      refine so_cons.imp_ (rd σ H Q tt) fun vs H1 ⟨xs, p, e1, e2, e3, e4⟩ => ?_
      unfold D.rngV at e1
      split at e1
      · rename_i j
        split at e1
        · rename_i hj
          cases e1
          obtain ⟨b1, b2⟩ := small_b hj
          refine ⟨j, e3 [j] rfl, b1, b2, e4 _ fun φ => ?_⟩
          have := wk_range (K := X.K) (φ := φ) (Z := Z) (H := H1) (i := 0) (j := j)
          rw [Int.sub_zero] at this
          exact this
        · cases e1
      · simp at e2
      · simp at e2
      · cases e1
    | [a, b], _, L, hst, rd =>
      refine (pi_range2 (glb_ok hs h2) g.rng L.pa (by rw [star_ok (hst _ (by simp)), star_ok (hst _ (by simp))]; rfl) (star_ok (hst _ (by simp)) _ X.env)).mono fun σ H Q tt => ?_
      refine so_cons.imp_ (rd σ H Q tt) fun vs H1 ⟨xs, p, e1, e2, e3, e4⟩ => ?_
      unfold D.rngV at e1
      split at e1
      · simp at e2
      · rename_i i j
        split at e1
        · rename_i hj
          cases e1
          simp only [Bool.and_eq_true] at hj
          obtain ⟨b1, b2⟩ := small_b hj.1
          obtain ⟨b3, b4⟩ := small_b hj.2
          exact ⟨i, j, e3 [i, j] rfl, ⟨b1, b2, b3, b4⟩, e4 _ fun φ => wk_range⟩
        · cases e1
      · simp at e2
      · cases e1
    | [a, b, c], _, L, hst, rd =>
      refine (pi_range3 (glb_ok hs h2) g.rng L.pa (star_ok (hst _ (by simp)) _ X.env) (stars_any (fun y hy => hst y (List.mem_cons_of_mem _ hy)) X.env pos)).mono fun σ H Q tt => ?_
      refine so_cons.imp_ (rd σ H Q tt) fun vs H1 ⟨xs, p, e1, e2, e3, e4⟩ => ?_
      unfold D.rngV at e1
      split at e1
      · simp at e2
      · simp at e2
      · rename_i i j k
        split at e1
        · rename_i hj
          cases e1
          simp only [Bool.and_eq_true, decide_eq_true_eq] at hj
          exact ⟨i, j, k, _, e3 [i, j, k] rfl, rgC hj.1.1.1 hj.1.1.2 hj.1.2 hj.2, e4 _ fun φ => wk_rangeC⟩
        · cases e1
      · cases e1
  · cases h
end
end DS
end

section
set_option Elab.async false
set_option linter.all false
set_option maxRecDepth 100000
set_option maxHeartbeats 1000000
namespace DS
open PySem PySem.Spec PyProof.Rows L2
section
variable {ct : Ct} {K : Fg} {φ φ' φ'' Z Z' : List Addr} {H H' H'' : Hp} {η η' : D.Hp} {ρ ρ' : D.Env} {σ : L2.St} {W : WX} {E : XK}
def gNs : List Nat → TGs
  | [] => gNil
  | i :: is => gCons (gName i) (gNs is)
def gT (K : Fg) : D.Tg → TG
  | .nm i => gName i
  | .tup is => fun v σ H Q => gTup K is.length (gNs is) v σ H Q ∨ gUnl K is.length (gNs is) v σ H Q
theorem pg_or {X : Cx} {e : Expr} {t1 t2 : TG} (h1 : PG X e t1) (h2 : PG X e t2) : PG X e (fun v σ H Q => t1 v σ H Q ∨ t2 v σ H Q) :=
  ⟨fun pins s σ H v u Q I r w => w.elim (h1.run pins s σ H v u Q I r) (h2.run pins s σ H v u Q I r)⟩
theorem pg_ok {X : Cx} {N : List Str} {fs sc : Scope} {tg : D.Tg} {t : Expr} (hN : X.N = N) (nd : N.Nodup) (hc : X.calm = true) (hs : X.env.scope = sc) (hf : ∀ x, fs.names.lookup x = some .cell → X.fn x = true) (h : chkTg N fs sc tg t = true) : PG X t (gT X.K tg) := by
  unfold chkTg at h
  split at h
  · rename_i i x pos
    simp only [Bool.and_eq_true, decide_eq_true_eq] at h
    obtain ⟨l1, l2⟩ := lcl_ok hs hf h.2
    exact pg_name (by rw [hN]; exact nd) (by rw [hN]; exact h.1) l1 l2
  · rename_i is es k pos
    simp only [Bool.and_eq_true, decide_eq_true_eq] at h
    obtain ⟨h1, h2⟩ := h
    have all : ∀ (is : List Nat) (es : List Expr), is.length = es.length → ((is.zip es).all fun p => match p.2 with | .Name x _ => decide (N[p.1]? = some x) && lcl fs sc x | _ => false) = true →
        PGs X es (gNs is) ∧ (assignEach es X.env).length = is.length ∧ (assignEach es X.env).findIdx? (·.1) = none := by
      intro is
      induction is with
      | nil =>
        intro es hl _
        have : es = [] := by cases es with | nil => rfl | cons _ _ => simp at hl
        subst this
        exact ⟨pgs_nil, rfl, rfl⟩
      | cons i is ih =>
        intro es hl ha
        cases es with
        | nil => simp at hl
        | cons e es =>
          rw [List.zip_cons_cons, List.all_cons, Bool.and_eq_true] at ha
          obtain ⟨ha1, ha2⟩ := ha
          obtain ⟨i1, i2, i3⟩ := ih es (by simpa using hl) ha2
          split at ha1
          · rename_i x pos' heq
            simp only at heq
            subst heq
            simp only [Bool.and_eq_true, decide_eq_true_eq] at ha1
            obtain ⟨l1, l2⟩ := lcl_ok hs hf ha1.2
            refine ⟨pgs_cons (pg_name (by rw [hN]; exact nd) (by rw [hN]; exact ha1.1) l1 l2) i1 rfl, ?_, ?_⟩
            · show (assignEach es X.env).length + 1 = is.length + 1
              rw [i2]
            · show List.findIdx? (·.1) ((false, assign (.Name x pos') X.env) :: assignEach es X.env) = none
              rw [List.findIdx?_cons]
              simp [i3]
          · cases ha1
    obtain ⟨a1, a2, a3⟩ := all is es h1 h2
    exact pg_or (pg_tup hc a1 a2 a3) (pg_unl hc a1 a2 a3)
  · cases h
theorem wipe_get (σ : L2.St) (j : Nat) : ∀ vs : List Nat, (L2.wipe σ vs)[j]? = if j ∈ vs then σ[j]?.map (fun _ => none) else σ[j]?
  | [] => by simp [L2.wipe]
  | v :: vs => by
    unfold L2.wipe
    by_cases hv : v = j
    · subst hv
      rw [if_pos List.mem_cons_self, List.getElem?_set, if_pos rfl, wipe_length]
      by_cases hl : v < σ.length
      · rw [if_pos hl, List.getElem?_eq_getElem hl]; rfl
      · rw [if_neg hl, List.getElem?_eq_none (by omega)]; rfl
    · rw [List.getElem?_set_ne hv, wipe_get σ j vs]
      have : j ∈ v :: vs ↔ j ∈ vs := by
        rw [List.mem_cons]
        exact ⟨fun h => h.elim (fun e => absurd e.symm hv) id, .inr⟩
      by_cases hm : j ∈ vs
      · rw [if_pos hm, if_pos (this.mpr hm)]
      · rw [if_neg hm, if_neg (fun z => hm (this.mp z))]
theorem wipe_set (σ : L2.St) {i : Nat} {o : Option V} {vs : List Nat} (h : i ∈ vs) : L2.wipe (σ.set i o) vs = L2.wipe σ vs := by
  apply List.ext_getElem?
  intro j
  rw [wipe_get, wipe_get]
  by_cases hj : j ∈ vs
  · rw [if_pos hj, if_pos hj, List.getElem?_set]
    split
    · rename_i e
      subst e
      split
      · rename_i hl
        rw [List.getElem?_eq_getElem hl]; rfl
      · rename_i hl
        rw [List.getElem?_eq_none (by omega)]
    · rfl
  · rw [if_neg hj, if_neg hj, List.getElem?_set_ne]
    rintro rfl
    exact hj h
theorem wipe_wipe (σ : L2.St) (vs : List Nat) : L2.wipe (L2.wipe σ vs) vs = L2.wipe σ vs := by
  apply List.ext_getElem?
  intro j
  rw [wipe_get, wipe_get]
  by_cases hj : j ∈ vs
  · rw [if_pos hj, if_pos hj]
    cases σ[j]? <;> rfl
  · rw [if_neg hj, if_neg hj]
theorem tgt_ok {tg : D.Tg} {x : PV} {v : V} {Q : L2.St → Hp → Prop} (st : StR K φ Z ρ η σ H) (r : RV K φ Z H x v) (e : D.bindT η tg x ρ = some ρ')
    (k : ∀ σ2, StR K φ Z ρ' η σ2 H → (∀ vs, (∀ i ∈ tgS tg, i ∈ vs) → L2.wipe σ2 vs = L2.wipe σ vs) → Q σ2 H) : gT K tg v σ H Q := by
  cases tg with
  | nm i =>
    simp only [D.bindT, Option.some.injEq] at e
    subst e
    exact k _ (st.set i r) fun vs hv => wipe_set σ (hv i (by simp [tgS]))
  | tup is =>
    have many : ∀ (is : List Nat) (xs : List PV) (vs : List V) (ρ : D.Env) (σ : L2.St), StR K φ Z ρ η σ H → RVs K φ Z H xs vs → D.setMany is xs ρ = some ρ' → is.length = vs.length ∧
        ∀ Q : L2.St → Hp → Prop, (∀ σ2, StR K φ Z ρ' η σ2 H → (∀ ws, (∀ i ∈ is, i ∈ ws) → L2.wipe σ2 ws = L2.wipe σ ws) → Q σ2 H) → gNs is vs σ H Q := by
      intro is
      induction is with
      | nil =>
        intro xs vs ρ σ st rs e
        cases xs with
        | nil =>
          cases rs
          simp only [D.setMany, Option.some.injEq] at e
          subst e
          exact ⟨rfl, fun Q k => ⟨rfl, k σ st fun _ _ => rfl⟩⟩
        | cons _ _ => simp [D.setMany] at e
      | cons i is ih =>
        intro xs vs ρ σ st rs e
        cases xs with
        | nil => simp [D.setMany] at e
        | cons y ys =>
          cases rs with
          | cons r rs =>
            simp only [D.setMany] at e
            obtain ⟨l, q⟩ := ih _ _ _ _ (st.set i r) rs e
            refine ⟨by rw [List.length_cons, List.length_cons, l], fun Q k => ⟨_, _, rfl, q Q fun σ2 s2 hw => k σ2 s2 fun ws hv => ?_⟩⟩
            rw [hw ws fun j hj => hv j (List.mem_cons_of_mem _ hj), wipe_set σ (hv i List.mem_cons_self)]
    cases r <;> simp only [D.bindT, reduceCtorEq] at e
    · rename_i xs vs a ht hs
      obtain ⟨l, q⟩ := many is xs vs ρ σ st hs e
      exact .inl ⟨a, vs, rfl, ht, l.symm, q Q k⟩
    · rename_i xs vs a h h1 h2 hs
      obtain ⟨l, q⟩ := many is xs vs ρ σ st hs e
      exact .inr ⟨a, vs, rfl, .inl (.inl h), l.symm, q Q k⟩

theorem HR.app {D : Addr} {us ws : List V} (h : HR K φ (D :: Z) η H) (e : H D = some (.lst us)) :
    HR K φ (D :: Z) η (upd H D (.lst ws)) ∧ (∀ {x : PV} {v : V}, RV K φ (D :: Z) H x v → RV K φ (D :: Z) (upd H D (.lst ws)) x v) ∧ ∀ {x : List PV} {v : List V}, RVs K φ (D :: Z) H x v → RVs K φ (D :: Z) (upd H D (.lst ws)) x v := by
  have nd : D ∉ φ := fun m => h.dis D m List.mem_cons_self
  have one : ∀ {x : PV} {v : V}, RV K φ (D :: Z) H x v → RV K φ (D :: Z) (upd H D (.lst ws)) x v := by
    intro x v r
    refine RV.rec (motive_1 := fun x v _ => RV K φ (D :: Z) (upd H D (.lst ws)) x v) (motive_2 := fun x v _ => RVs K φ (D :: Z) (upd H D (.lst ws)) x v) .non .bl .int .str (fun ht _ r => .tup ?_ r)
      (fun {_ _ a} e1 h1 h2 _ r => .lst (by rw [upd_ne (fun z => h2 (by rw [z]; exact List.mem_cons_self))]; exact e1) h1 h2 r) .cell (fun ht => .scr ?_) .nil (fun _ _ r t => .cons r t) r
    · rcases ht with (ht | ⟨o, ht⟩) | ht
      · exact .inl (.inl (by rw [upd_ne (ne_of ht e (by simp))]; exact ht))
      · exact .inl (.inr ⟨o, by rw [upd_ne (ne_of ht e (by simp))]; exact ht⟩)
      · exact .inr ht
    · rcases ht with ⟨o, ht⟩ | ht
      · exact .inl ⟨o, by rw [upd_ne (ne_of ht e (by simp))]; exact ht⟩
      · exact .inr ht
  have all : ∀ {x : List PV} {v : List V}, RVs K φ (D :: Z) H x v → RVs K φ (D :: Z) (upd H D (.lst ws)) x v := by
    intro x v r
    induction x generalizing v with
    | nil => cases r; exact .nil
    | cons y ys ih => cases r with | cons r t => exact .cons (one r) (ih t)
  refine ⟨⟨h.len, h.nd, h.dis, fun a ha => ?_, fun c a o e1 e2 => ?_⟩, one, all⟩
  · by_cases z : a = D
    · subst z; exact ⟨ws, upd_same⟩
    · obtain ⟨vs, q⟩ := h.zin a ha
      exact ⟨vs, by rw [upd_ne z]; exact q⟩
  · have ob := h.ob c a o e1 e2
    cases o with
    | lst xs =>
      obtain ⟨vs, q, r⟩ := ob
      exact ⟨vs, by rw [upd_ne (fun z => nd (by rw [← z]; exact List.mem_of_getElem? e1))]; exact q, all r⟩
    | dct kvs => exact ob.elim
theorem Ext.updNew {D : Addr} {o : HO} (x : Ext φ H φ' H') (n : H D = none) : Ext φ H φ' (upd H' D o) :=
  ⟨x.pre, fun a u e m => by rw [upd_ne (ne_of_none e n)]; exact x.keep a u e m, x.out⟩
theorem StR.blk (st : StR K φ Z ρ η σ H) (x : Ext φ H φ' H') (h' : HR K φ' Z' η' H') (z : zOk Z Z' H) : StR K φ' Z' ρ η' σ H' :=
  ⟨h', st.len, fun i p e => let ⟨v, e1, r⟩ := st.val i p e; ⟨v, e1, r.extW st.hr x.w z⟩⟩
theorem lcG_nil {α : Type} {w : D.Wt} {f : α → D.Hp → D.Res (Option PV)} {ηe : D.Hp} {ys : List PV} (h : D.lcG w f [] η = .ok ys ηe) : D.stays w η = true ∧ ys = [] ∧ ηe = η := by
  rw [D.lcG] at h
  split at h
  · cases h; exact ⟨by assumption, rfl, rfl⟩
  · cases h
theorem lcG_cons {α : Type} {w : D.Wt} {f : α → D.Hp → D.Res (Option PV)} {x : α} {xs : List α} {ηe : D.Hp} {ys : List PV} (h : D.lcG w f (x :: xs) η = .ok ys ηe) :
    D.stays w η = true ∧ ∃ o η1 ys', f x η = .ok o η1 ∧ D.lcG w f xs η1 = .ok ys' ηe ∧ ys = o.elim ys' (· :: ys') := by
  rw [D.lcG] at h
  split at h
  · refine ⟨by assumption, ?_⟩
    cases q : f x η with
    | ok o η1 =>
      rw [q] at h
      simp only [D.bind_ok] at h
      cases q2 : D.lcG w f xs η1 with
      | ok ys' η2 =>
        rw [q2] at h
        cases h
        exact ⟨o, η1, ys', rfl, q2, rfl⟩
      | exc => rw [q2] at h; cases h
      | err => rw [q2] at h; cases h
    | exc => rw [q] at h; cases h
    | err => rw [q] at h; cases h
  · cases h
end
section
variable {M : Nm} {N : List Str} {C : D.Cfg} {ct : Ct}
def tE' (ct : Ct) (K : Fg) (W : WX) (ev : D.Env → D.Hp → D.Res PV) : TE := fun σ H Q => ∃ Z, tE ct K Z W ev σ H Q
def tT' (ct : Ct) (K : Fg) (W : WX) (ev : D.Env → D.Hp → D.Res Bool) : TT := fun σ H Q => ∃ Z, tT ct K Z W ev σ H Q
abbrev W0 : WX := fun _ _ _ _ => False
/-- the comprehension's reading -/
theorem lc_rd {K : Fg} {Z : List Addr} {W : WX} {el : D.E} {tg : D.Tg} {it : D.It} {cs : D.Es} {own : List Nat} (h7 : ∀ i ∈ tgS tg, i ∈ own) {σ : L2.St} {H : Hp} {Q : VK} (tt : tF ct K Z W (D.evF C (.lc el tg it cs own)) σ H Q) :
    tLc (tI ct K Z W (D.evI C it)) (gT K tg) (tT' ct K W0 (D.evC C cs)) (tE' ct K W0 (D.evE C el)) own σ H Q := by
  obtain ⟨φ, ρ, η, st, w⟩ := tt
  simp only [D.evF] at w
  refine tG.useF st w fun φ1 p η1 J H1 x1 st1 wk w1 => ?_
  intro Da hD
  split at w1
  · rename_i hline
    generalize hbody : (fun (x : PV) (η : D.Hp) => (D.Res.opt (D.bindT η tg x (D.wipe ρ own)) η).bind fun ρ' η => (D.evC C cs ρ' η).bind fun b η1 => if b = true then (D.evE C el ρ' η1).bind fun y η2 => D.Res.ok (some y) η2 else .ok none η1) = body at w1
    cases hl : D.lcG p.2 body p.1 η1 with
    | exc => rw [hl] at w1; exact w1.elim
    | err => rw [hl] at w1; exact w1.elim
    | ok total ηe =>
      rw [hl] at w1
      have w1 : FinF K Z φ1 H1 total ηe Q := w1
      obtain ⟨r1, r2, r3⟩ := st1.hr.reserve (vs := []) hD
      have zok : zOk Z (Da :: Z) H1 := fun d hd => (List.mem_cons.mp hd).elim (fun e => .inr (by rw [e]; exact hD)) .inl
      have x0 : Ext φ1 H1 φ1 (upd H1 Da (.lst [])) := ext_new st1.hr hD
      let Pv : Nat → Hp → Prop := fun i H => ∃ φ' η' acc vs ys, Ext φ1 H1 φ' H ∧ HR K φ' (Da :: Z) η' H ∧ H Da = some (.lst vs) ∧ RVs K φ' (Da :: Z) H acc vs ∧ acc.length ≤ i ∧ D.lcG p.2 body (p.1.drop i) η' = .ok ys ηe ∧ acc ++ ys = total
      refine ⟨fun i m H => m = p.1.length - i ∧ i ≤ p.1.length ∧ Pv i H, ⟨p.1.length, by simp, Nat.zero_le _, φ1, η1, [], [], total, x0, r1, upd_same, .nil, Nat.le_refl _, by rw [List.drop_zero]; exact hl, rfl⟩, ?_⟩
      rintro i m H2 ⟨rfl, hi, φ', η', acc, vs, ys, x2, hr2, eD, ra, hacc, hlc, htot⟩
      by_cases hlt : i < p.1.length
      · right
        have hd : p.1.drop i = p.1[i] :: p.1.drop (i + 1) := List.drop_eq_getElem_cons hlt
        rw [hd] at hlc
        obtain ⟨hst, o, η3, ys', hb, hlc', hys⟩ := lcG_cons hlc
        refine ⟨wk.go (Da :: Z) φ' H2 η' i zok x2.w hr2 hst hlt, Pv (i + 1), fun H' p' => ⟨p.1.length - (i + 1), by omega, rfl, hlt, p'⟩, fun v H3 y => ?_⟩
        obtain ⟨q, e1, x3, hr3, rq⟩ := wk.yld (Da :: Z) φ' H2 η' i v H3 zok x2.w hr2 hst hlt y
        have nD : Da ∉ φ' := fun m => hr2.dis Da m List.mem_cons_self
        have eD3 : H3 Da = some (.lst vs) := x3.keep Da _ eD nD
        have x13 : Ext φ1 H1 φ' H3 := x2.trans x3
        have eq : q = p.1[i] := by
          rw [List.getElem?_eq_getElem hlt] at e1
          exact (Option.some.inj e1).symm
        subst eq
        have ra3 := ra.ext hr2 x3
        subst hbody
        simp only at hb
        cases hbt : D.bindT η' tg p.1[i] (D.wipe ρ own) with
        | none => rw [hbt] at hb; cases hb
        | some ρ' =>
          rw [hbt] at hb
          simp only [D.opt_some, D.bind_ok] at hb
          have sb3 : StR K φ' (Da :: Z) (D.wipe ρ own) η' (L2.wipe σ own) H3 := (st1.blk x13 hr3 zok).wipe own
          refine tgt_ok sb3 rq hbt fun σ2 s2 hw => ⟨by rw [hw own h7, wipe_wipe], ⟨Da :: Z, φ', ρ', η', s2, ?_⟩⟩
          cases hc : D.evC C cs ρ' η' with
          | exc => rw [hc] at hb; cases hb
          | err => rw [hc] at hb; cases hb
          | ok b η4 =>
            rw [hc] at hb
            simp only [D.bind_ok] at hb
            intro φ4 b' H4 x4 hr4 eb
            cases eb
            have nD4 : Da ∉ φ4 := fun m => hr4.dis Da m List.mem_cons_self
            have eD4 : H4 Da = some (.lst vs) := x4.keep Da _ eD3 nD
            cases b with
            | false =>
              simp only [Bool.false_eq_true, if_false] at hb
              cases hb
              simp only [Bool.false_eq_true, if_false]
              exact ⟨φ4, η3, acc, vs, ys', x13.trans x4, hr4, eD4, ra3.ext hr3 x4, by omega, hlc', by rw [← htot, hys]; rfl⟩
            | true =>
              simp only [if_true] at hb ⊢
              cases he : D.evE C el ρ' η4 with
              | exc => rw [he] at hb; cases hb
              | err => rw [he] at hb; cases hb
              | ok y η5 =>
                rw [he] at hb
                cases hb
                refine ⟨Da :: Z, φ4, ρ', η4, s2.ext x4 hr4, ?_⟩
                rw [he]
                intro φ5 u H5 x5 hr5 ru
                have eD5 : H5 Da = some (.lst vs) := x5.keep Da _ eD4 nD4
                have ra5 := (ra3.ext hr3 x4).ext hr4 x5
                obtain ⟨k1, k2, k3⟩ := hr5.app (ws := vs ++ [u]) eD5
                refine ⟨vs, eD5, ?_, φ5, η3, acc ++ [y], vs ++ [u], ys', ((x13.trans x4).trans x5).updNew hD, k1, upd_same, (k3 ra5).append (.cons (k2 ru) .nil), ?_, hlc', ?_⟩
                · rw [← ra5.length, sizeLine_eq]
                  have : p.1.length < 16777216 := hline
                  omega
                · rw [List.length_append, List.length_singleton]; omega
                · rw [← htot, hys, List.append_assoc]; rfl
      · left
        have hin : i = p.1.length := by omega
        subst hin
        rw [List.drop_length] at hlc
        obtain ⟨hst, rfl, rfl⟩ := lcG_nil hlc
        rw [List.append_nil] at htot
        subst htot
        exact ⟨wk.stop (Da :: Z) φ' H2 ηe zok x2.w hr2 hst, w1 φ' Da vs H2 x2 hD hr2 eD ra⟩
  · exact w1.elim
theorem lcH_nil {α : Type} {w : D.Wt} {f : α → D.Hp → D.Res (List PV)} {ηe : D.Hp} {ys : List PV} (h : D.lcH w f [] η = .ok ys ηe) : D.stays w η = true ∧ ys = [] ∧ ηe = η := by
  rw [D.lcH] at h
  split at h
  · cases h; exact ⟨by assumption, rfl, rfl⟩
  · cases h
theorem lcH_cons {α : Type} {w : D.Wt} {f : α → D.Hp → D.Res (List PV)} {x : α} {xs : List α} {ηe : D.Hp} {ys : List PV} (h : D.lcH w f (x :: xs) η = .ok ys ηe) :
    D.stays w η = true ∧ ∃ zs η1 ys', f x η = .ok zs η1 ∧ D.lcH w f xs η1 = .ok ys' ηe ∧ ys = zs ++ ys' := by
  rw [D.lcH] at h
  split at h
  · rename_i hst
    cases e : f x η with
    | exc => rw [e] at h; cases h
    | err => rw [e] at h; cases h
    | ok zs η1 =>
      rw [e, D.bind_ok] at h
      cases e2 : D.lcH w f xs η1 with
      | exc => rw [e2] at h; cases h
      | err => rw [e2] at h; cases h
      | ok ys' η2 =>
        rw [e2] at h
        cases h
        exact ⟨hst, zs, η1, ys', rfl, e2, rfl⟩
  · cases h
def tI' (ct : Ct) (K : Fg) (ev : D.Env → D.Hp → D.Res (List PV × D.Wt)) : TI := fun σ H Q => ∃ Z, tI ct K Z W0 ev σ H Q
/-- the reading of a comprehension of two clauses -/
theorem lc2_rd {K : Fg} {Z : List Addr} {W : WX} {el : D.E} {tg tg1 : D.Tg} {it it1 : D.It} {cs cs1 : D.Es} {own own1 : List Nat} (h7 : ∀ i ∈ tgS tg, i ∈ own) (h8 : ∀ i ∈ tgS tg1, i ∈ own1) {σ : L2.St} {H : Hp} {Q : VK} (tt : tF ct K Z W (D.evF C (.lc2 el tg it cs tg1 it1 cs1 own own1)) σ H Q) :
    tLc2 (tI ct K Z W (D.evI C it)) (gT K tg) (tT' ct K W0 (D.evC C cs)) (tI' ct K (D.evI C it1)) (gT K tg1) (tT' ct K W0 (D.evC C cs1)) (tE' ct K W0 (D.evE C el)) own own1 σ H Q := by
  obtain ⟨φ, ρ, η, st, w⟩ := tt
  simp only [D.evF] at w
  refine tG.useF st w fun φ1 p η1 J H1 x1 st1 wk w1 => ?_
  intro Da hD
  generalize hbody : (fun (x : PV) (η : D.Hp) => (D.Res.opt (D.bindT η tg x (D.wipe ρ own)) η).bind fun ρ' η => (D.evC C cs ρ' η).bind fun b η1 => if b = true then (D.evI C it1 ρ' η1).bind fun q η2 => D.lcG q.2 (fun x η => (D.Res.opt (D.bindT η tg1 x (D.wipe ρ' own1)) η).bind fun ρ2 η => (D.evC C cs1 ρ2 η).bind fun b η1 => if b = true then (D.evE C el ρ2 η1).bind fun y η2 => D.Res.ok (some y) η2 else .ok none η1) q.1 η2 else .ok [] η1) = body at w1
  cases hl : D.lcH p.2 body p.1 η1 with
  | exc => rw [hl] at w1; exact w1.elim
  | err => rw [hl] at w1; exact w1.elim
  | ok total ηe =>
    rw [hl] at w1
    rw [D.bind_ok] at w1
    split at w1
    · rename_i hline
      have w1 : FinF K Z φ1 H1 total ηe Q := w1
      obtain ⟨r1, r2, r3⟩ := st1.hr.reserve (vs := []) hD
      have zok : zOk Z (Da :: Z) H1 := fun d hd => (List.mem_cons.mp hd).elim (fun e => .inr (by rw [e]; exact hD)) .inl
      have x0 : Ext φ1 H1 φ1 (upd H1 Da (.lst [])) := ext_new st1.hr hD
      let Pv : Nat → Hp → Prop := fun i H => ∃ φ' η' acc vs ys, Ext φ1 H1 φ' H ∧ HR K φ' (Da :: Z) η' H ∧ H Da = some (.lst vs) ∧ RVs K φ' (Da :: Z) H acc vs ∧ D.lcH p.2 body (p.1.drop i) η' = .ok ys ηe ∧ acc ++ ys = total
      refine ⟨fun i m H => m = p.1.length - i ∧ i ≤ p.1.length ∧ Pv i H, ⟨p.1.length, by simp, Nat.zero_le _, φ1, η1, [], [], total, x0, r1, upd_same, .nil, by rw [List.drop_zero]; exact hl, rfl⟩, ?_⟩
      rintro i m H2 ⟨rfl, hi, φ', η', acc, vs, ys, x2, hr2, eD, ra, hlc, htot⟩
      by_cases hlt : i < p.1.length
      · right
        have hd : p.1.drop i = p.1[i] :: p.1.drop (i + 1) := List.drop_eq_getElem_cons hlt
        rw [hd] at hlc
        obtain ⟨hst, zs, η3, ys', hb, hlc', hys⟩ := lcH_cons hlc
        refine ⟨wk.go (Da :: Z) φ' H2 η' i zok x2.w hr2 hst hlt, Pv (i + 1), fun H' p' => ⟨p.1.length - (i + 1), by omega, rfl, hlt, p'⟩, fun v H3 y => ?_⟩
        obtain ⟨q, e1, x3, hr3, rq⟩ := wk.yld (Da :: Z) φ' H2 η' i v H3 zok x2.w hr2 hst hlt y
        have nD : Da ∉ φ' := fun m => hr2.dis Da m List.mem_cons_self
        have eD3 : H3 Da = some (.lst vs) := x3.keep Da _ eD nD
        have x13 : Ext φ1 H1 φ' H3 := x2.trans x3
        have eq : q = p.1[i] := by
          rw [List.getElem?_eq_getElem hlt] at e1
          exact (Option.some.inj e1).symm
        subst eq
        have ra3 := ra.ext hr2 x3
        subst hbody
        simp only at hb
        cases hbt : D.bindT η' tg p.1[i] (D.wipe ρ own) with
        | none => rw [hbt] at hb; cases hb
        | some ρ' =>
          rw [hbt] at hb
          simp only [D.opt_some, D.bind_ok] at hb
          have sb3 : StR K φ' (Da :: Z) (D.wipe ρ own) η' (L2.wipe σ own) H3 := (st1.blk x13 hr3 zok).wipe own
          refine tgt_ok sb3 rq hbt fun σ2 s2 hw => ⟨by rw [hw own h7, wipe_wipe], ⟨Da :: Z, φ', ρ', η', s2, ?_⟩⟩
          cases hc : D.evC C cs ρ' η' with
          | exc => rw [hc] at hb; cases hb
          | err => rw [hc] at hb; cases hb
          | ok b η4 =>
            rw [hc] at hb
            simp only [D.bind_ok] at hb
            intro φ4 b' H4 x4 hr4 eb
            cases eb
            have nD4 : Da ∉ φ4 := fun m => hr4.dis Da m List.mem_cons_self
            have eD4 : H4 Da = some (.lst vs) := x4.keep Da _ eD3 nD
            cases b with
            | false =>
              simp only [Bool.false_eq_true, if_false] at hb
              cases hb
              simp only [Bool.false_eq_true, if_false]
              exact ⟨φ4, η3, acc, vs, ys', x13.trans x4, hr4, eD4, ra3.ext hr3 x4, hlc', by rw [← htot, hys]; rfl⟩
            | true =>
              simp only [if_true] at hb ⊢
              cases he : D.evI C it1 ρ' η4 with
              | exc => rw [he] at hb; cases hb
              | err => rw [he] at hb; cases hb
              | ok q1 η5 =>
                rw [he, D.bind_ok] at hb
                generalize hbody1 : (fun (x : PV) (η : D.Hp) => (D.Res.opt (D.bindT η tg1 x (D.wipe ρ' own1)) η).bind fun ρ2 η => (D.evC C cs1 ρ2 η).bind fun b η1 => if b = true then (D.evE C el ρ2 η1).bind fun y η2 => D.Res.ok (some y) η2 else .ok none η1) = body1 at hb
                refine ⟨Da :: Z, φ4, ρ', η4, s2.ext x4 hr4, ?_⟩
                rw [he]
                intro φ5 J1 H5 x5 hr5 wk1
                have wk1 : WkR K (Da :: Z) φ5 H5 q1.1 q1.2 J1 := wk1
                have x15 : Ext φ1 H1 φ5 H5 := (x13.trans x4).trans x5
                have s5 : StR K φ5 (Da :: Z) ρ' η5 σ2 H5 := (s2.ext x4 hr4).ext x5 hr5
                have eD5 : H5 Da = some (.lst vs) := x5.keep Da _ eD4 nD4
                have ra5 := (ra3.ext hr3 x4).ext hr4 x5
                let Pv1 : Nat → Hp → Prop := fun j H => ∃ φ' η' acc vs ys, Ext φ1 H1 φ' H ∧ ExtW (Da :: Z) φ5 H5 φ' H ∧ HR K φ' (Da :: Z) η' H ∧ H Da = some (.lst vs) ∧ RVs K φ' (Da :: Z) H acc vs ∧ D.lcG q1.2 body1 (q1.1.drop j) η' = .ok ys η3 ∧ acc ++ (ys ++ ys') = total
                refine ⟨fun j k H => k = q1.1.length - j ∧ j ≤ q1.1.length ∧ Pv1 j H, ⟨q1.1.length, by simp, Nat.zero_le _, φ5, η5, acc, vs, zs, x15, Ext.refl.w, hr5, eD5, ra5, by rw [List.drop_zero]; exact hb, by rw [← hys]; exact htot⟩, ?_⟩
                rintro j k H6 ⟨rfl, hj, φ6, η6, acc6, vs6, ys6, x6, w6, hr6, eD6, ra6, hlc6, htot6⟩
                by_cases hlj : j < q1.1.length
                · right
                  have hd6 : q1.1.drop j = q1.1[j] :: q1.1.drop (j + 1) := List.drop_eq_getElem_cons hlj
                  rw [hd6] at hlc6
                  obtain ⟨hst6, o, η7, ys7, hb7, hlc7, hys7⟩ := lcG_cons hlc6
                  refine ⟨wk1.go (Da :: Z) φ6 H6 η6 j .refl w6 hr6 hst6 hlj, Pv1 (j + 1), fun H' p' => ⟨q1.1.length - (j + 1), by omega, rfl, hlj, p'⟩, fun v H7 y => ?_⟩
                  obtain ⟨q, e7, x7, hr7, rq7⟩ := wk1.yld (Da :: Z) φ6 H6 η6 j v H7 .refl w6 hr6 hst6 hlj y
                  have nD6 : Da ∉ φ6 := fun m => hr6.dis Da m List.mem_cons_self
                  have eD7 : H7 Da = some (.lst vs6) := x7.keep Da _ eD6 nD6
                  have eq7 : q = q1.1[j] := by
                    rw [List.getElem?_eq_getElem hlj] at e7
                    exact (Option.some.inj e7).symm
                  subst eq7
                  have ra7 := ra6.ext hr6 x7
                  have w7 := w6.trans x7
                  subst hbody1
                  simp only at hb7
                  cases hbt7 : D.bindT η6 tg1 q1.1[j] (D.wipe ρ' own1) with
                  | none => rw [hbt7] at hb7; cases hb7
                  | some ρ2 =>
                    rw [hbt7] at hb7
                    simp only [D.opt_some, D.bind_ok] at hb7
                    have s7 : StR K φ6 (Da :: Z) ρ' η6 σ2 H7 := ⟨hr7, s5.len, fun i p e => let ⟨v, e1, r⟩ := s5.val i p e; ⟨v, e1, r.extW s5.hr w7 .refl⟩⟩
                    refine tgt_ok (s7.wipe own1) rq7 hbt7 fun σ3 s3 hw3 => ⟨by rw [hw3 own1 h8, wipe_wipe], ⟨Da :: Z, φ6, ρ2, η6, s3, ?_⟩⟩
                    cases hc7 : D.evC C cs1 ρ2 η6 with
                    | exc => rw [hc7] at hb7; cases hb7
                    | err => rw [hc7] at hb7; cases hb7
                    | ok b η8 =>
                      rw [hc7] at hb7
                      simp only [D.bind_ok] at hb7
                      intro φ8 b' H8 x8 hr8 eb
                      cases eb
                      have nD8 : Da ∉ φ8 := fun m => hr8.dis Da m List.mem_cons_self
                      have eD8 : H8 Da = some (.lst vs6) := x8.keep Da _ eD7 nD6
                      cases b with
                      | false =>
                        simp only [Bool.false_eq_true, if_false] at hb7
                        cases hb7
                        simp only [Bool.false_eq_true, if_false]
                        exact ⟨φ8, η7, acc6, vs6, ys7, (x6.trans x7).trans x8, w7.trans x8, hr8, eD8, ra7.ext hr7 x8, hlc7, by rw [← htot6, hys7]; rfl⟩
                      | true =>
                        simp only [if_true] at hb7 ⊢
                        cases he7 : D.evE C el ρ2 η8 with
                        | exc => rw [he7] at hb7; cases hb7
                        | err => rw [he7] at hb7; cases hb7
                        | ok y η9 =>
                          rw [he7] at hb7
                          cases hb7
                          refine ⟨Da :: Z, φ8, ρ2, η8, s3.ext x8 hr8, ?_⟩
                          rw [he7]
                          intro φ9 u H9 x9 hr9 ru
                          have eD9 : H9 Da = some (.lst vs6) := x9.keep Da _ eD8 nD8
                          have ra9 := (ra7.ext hr7 x8).ext hr8 x9
                          obtain ⟨k1, k2, k3⟩ := hr9.app (ws := vs6 ++ [u]) eD9
                          refine ⟨vs6, eD9, ?_, φ9, η7, acc6 ++ [y], vs6 ++ [u], ys7, (((x6.trans x7).trans x8).trans x9).updNew hD, ((w7.trans x8).trans x9).upd List.mem_cons_self, k1, upd_same, (k3 ra9).append (.cons (k2 ru) .nil), hlc7, ?_⟩
                          · rw [← ra9.length, sizeLine_eq]
                            have hz := congrArg List.length htot6
                            rw [hys7] at hz
                            have : total.length ≤ 16777216 := hline
                            simp only [List.length_append, Option.elim_some, List.length_cons] at hz
                            omega
                          · rw [← htot6, hys7, List.append_assoc]; rfl
                · left
                  have hjn : j = q1.1.length := by omega
                  subst hjn
                  rw [List.drop_length] at hlc6
                  obtain ⟨hst6, rfl, e6⟩ := lcG_nil hlc6
                  subst e6
                  exact ⟨wk1.stop (Da :: Z) φ6 H6 η3 .refl w6 hr6 hst6, φ6, η3, acc6, vs6, ys', x6, hr6, eD6, ra6, hlc', by rw [← htot6]; rfl⟩
      · left
        have hin : i = p.1.length := by omega
        subst hin
        rw [List.drop_length] at hlc
        obtain ⟨hst, rfl, rfl⟩ := lcH_nil hlc
        rw [List.append_nil] at htot
        subst htot
        exact ⟨wk.stop (Da :: Z) φ' H2 ηe zok x2.w hr2 hst, w1 φ' Da vs H2 x2 hD hr2 eD ra⟩
    · exact w1.elim
/-- what the rule for a comprehension asks -/
structure LcP (C : D.Cfg) (ct : Ct) (X : Cx) (W : WX) (Z : List Addr) (el : D.E) (tg : D.Tg) (it : D.It) (cs : D.Es) (own : List Nat) (elt t iter : Expr) (ifs : List Expr) (scope : Scope) : Prop where
  hi : PI X t iter (tI ct X.K Z W (D.evI C it))
  ok : BlkOk X.N X.env.scope scope (own.map fun i => (X.N.getD i "", i))
  hg : ∀ (s : Shared) (H : Hp) (Cc : Addr) (cl : List (Str × Addr)) (fp : List Addr), PG (X.blk s H scope (compEnvC scope cl Cc X.env) fp) t (gT X.K tg)
  ht : ∀ (s : Shared) (H : Hp) (Cc : Addr) (cl : List (Str × Addr)) (fp : List Addr), PTs (X.blk s H scope (compEnvC scope cl Cc X.env) fp) ifs (tT' ct X.K W0 (D.evC C cs))
  he : ∀ (s : Shared) (H : Hp) (Cc : Addr) (cl : List (Str × Addr)) (fp : List Addr), PE (X.blk s H scope (compEnvC scope cl Cc X.env) fp) elt (tE' ct X.K W0 (D.evE C el))
  hs : ∀ x, foldedSetIterable iter X.env x = pure x
  h7 : ∀ i ∈ tgS tg, i ∈ own
theorem own2 (own : List Nat) (N : List Str) : (own.map fun i => (N.getD i "", i)).map (·.2) = own := by
  rw [List.map_map]
  exact List.map_id' own
theorem lc_parts {el : D.E} {tg : D.Tg} {it : D.It} {cs : D.Es} {own : List Nat} (hel : SoE M N C ct el) (hit : SoI M N C ct it) (hcs : SoEs M N C ct cs) {X : Cx} {fs sc : Scope} {W : WX} {Z : List Addr} {elt t iter : Expr} {ifs : List Expr} {scope : Scope} {pos : Pos} (g : Gd M N C ct X) (hs : X.env.scope = sc) (hf : ∀ x, fs.names.lookup x = some .cell → X.fn x = true) (tk : Takes X W)
    (h : chkF M N (.lc el tg it cs own) fs sc (.ListComp elt [⟨t, iter, ifs, 0⟩] scope pos) = true) : LcP C ct X W Z el tg it cs own elt t iter ifs scope := by
  unfold chkF at h
  simp only [Bool.and_eq_true, decide_eq_true_eq, List.all_eq_true, List.contains_iff_mem] at h
  obtain ⟨⟨⟨⟨⟨⟨⟨h1, h2⟩, h3⟩, h4⟩, h5⟩, h6⟩, h7⟩, h8⟩ := h
  have gb : ∀ (s : Shared) (H : Hp) (Cc : Addr) (cl : List (Str × Addr)) (fp : List Addr), Gd M N C ct (X.blk s H scope (compEnvC scope cl Cc X.env) fp) := fun s H Cc cl fp =>
    ⟨g.hN, g.nd, g.calm, g.hu, g.glb, g.bi, g.ty, g.isi, g.rng, g.enm, g.zip, g.fn⟩
  have sb : ∀ (s : Shared) (H : Hp) (Cc : Addr) (cl : List (Str × Addr)) (fp : List Addr), (X.blk s H scope (compEnvC scope cl Cc X.env) fp).env.scope = relS' scope sc := fun s H Cc cl fp => by
    rw [← hs]; rfl
  have tk0 : ∀ (s : Shared) (H : Hp) (Cc : Addr) (cl : List (Str × Addr)) (fp : List Addr), Takes (X.blk s H scope (compEnvC scope cl Cc X.env) fp) W0 := fun s H Cc cl fp => takes0
  exact ⟨hit X fs sc W Z t iter g hs hf tk h1, by rw [hs, g.hN]; exact blkOk_by h8, fun s H Cc cl fp => pg_ok (gb s H Cc cl fp).hN g.nd g.calm (sb s H Cc cl fp) (fun x hx => beq_iff_eq.mpr hx) h3,
    fun s H Cc cl fp => ⟨fun pins s' σ H' Q I ⟨Z', q⟩ => ((hcs _ scope _ W0 Z' ifs (gb s H Cc cl fp) (sb s H Cc cl fp) (fun x hx => beq_iff_eq.mpr hx) (tk0 s H Cc cl fp) h4).cs h5).run pins s' σ H' Q I q⟩,
    fun s H Cc cl fp => ⟨fun pins s' σ H' Q I ⟨Z', q⟩ => (hel _ scope _ W0 Z' elt (gb s H Cc cl fp) (sb s H Cc cl fp) (fun x hx => beq_iff_eq.mpr hx) (tk0 s H Cc cl fp) h6).1.run pins s' σ H' Q I q⟩,
    set_ok h2 X.env, h7⟩
theorem sf_lc {el : D.E} {tg : D.Tg} {it : D.It} {cs : D.Es} {own : List Nat} (hel : SoE M N C ct el) (hit : SoI M N C ct it) (hcs : SoEs M N C ct cs) : SoF M N C ct (.lc el tg it cs own) := by
  intro X fs sc W Z e g hs hf tk h
  have h' := h
  unfold chkF at h'
  split at h'
  · rename_i elt t iter ifs scope pos
    have P := lc_parts (Z := Z) hel hit hcs g hs hf tk h
    have pe := pe_lc (X := X) (pos := pos) g.calm (by rw [g.hN]; exact g.nd) P.hi P.ok P.hg P.ht P.he P.hs
    rw [own2] at pe
    exact pe.mono fun σ H Q tt => lc_rd P.h7 tt
  · cases h'
theorem ps_lc {el : D.E} {tg : D.Tg} {it : D.It} {cs : D.Es} {own : List Nat} (hel : SoE M N C ct el) (hit : SoI M N C ct it) (hcs : SoEs M N C ct cs) {X : Cx} {fs sc : Scope} {W : WX} {Z : List Addr} {elt t iter : Expr} {ifs : List Expr} {scope : Scope} {pos spos py : Pos} {i : Nat} {y : Str} (g : Gd M N C ct X) (hs : X.env.scope = sc) (hf : ∀ x, fs.names.lookup x = some .cell → X.fn x = true) (tk : Takes X W)
    (h : chkF M N (.lc el tg it cs own) fs sc (.ListComp elt [⟨t, iter, ifs, 0⟩] scope pos) = true) (hk : sc.kind = .function) (hi : N[i]? = some y) (hy : sc.names.lookup y = some .local) (hl : (py.line == pos.line) = true)
    (ha : (scope.names.any fun (n, k) => n == y && (k == .local || k == .cell)) = false) : PS X (.Assign [.Name y py] (.ListComp elt [⟨t, iter, ifs, 0⟩] scope pos) spos) (tAsg (tF ct X.K Z W (D.evF C (.lc el tg it cs own))) (gName i)) := by
  have P := lc_parts (Z := Z) hel hit hcs g hs hf tk h
  have pe := ps_setLc (X := X) (i := i) (y := y) (py := py) (pos := pos) (spos := spos) g.calm (by rw [g.hN]; exact g.nd) (by rw [g.hN]; exact hi) (by rw [hs]; exact hy) (sw_true (by rw [hs]; exact hk) (by rw [hs]; exact hy) hl ha) P.hi P.ok P.hg P.ht P.he P.hs
  rw [own2] at pe
  exact pe.mono fun D σ H tt => lc_rd P.h7 tt
structure Lc2P (C : D.Cfg) (ct : Ct) (X : Cx) (W : WX) (Z : List Addr) (el : D.E) (tg : D.Tg) (it : D.It) (cs : D.Es) (tg1 : D.Tg) (it1 : D.It) (cs1 : D.Es) (own own1 : List Nat) (elt t iter t1 iter1 : Expr) (ifs ifs1 : List Expr) (scope : Scope) : Prop where
  hi : PI X t iter (tI ct X.K Z W (D.evI C it))
  ok : BlkOk X.N X.env.scope scope (own.map fun i => (X.N.getD i "", i))
  hg : ∀ (s : Shared) (H : Hp) (Cc : Addr) (cl : List (Str × Addr)) (fp : List Addr), PG (X.blk s H scope (compEnvC scope cl Cc X.env) fp) t (gT X.K tg)
  ht : ∀ (s : Shared) (H : Hp) (Cc : Addr) (cl : List (Str × Addr)) (fp : List Addr), PTs (X.blk s H scope (compEnvC scope cl Cc X.env) fp) ifs (tT' ct X.K W0 (D.evC C cs))
  hi1 : ∀ (s : Shared) (H : Hp) (Cc : Addr) (cl : List (Str × Addr)) (fp : List Addr), PI (X.blk s H scope (compEnvC scope cl Cc X.env) fp) t1 iter1 (tI' ct X.K (D.evI C it1))
  hg1 : ∀ (s : Shared) (H : Hp) (Cc : Addr) (cl : List (Str × Addr)) (fp : List Addr), PG (X.blk s H scope (compEnvC scope cl Cc X.env) fp) t1 (gT X.K tg1)
  ht1 : ∀ (s : Shared) (H : Hp) (Cc : Addr) (cl : List (Str × Addr)) (fp : List Addr), PTs (X.blk s H scope (compEnvC scope cl Cc X.env) fp) ifs1 (tT' ct X.K W0 (D.evC C cs1))
  he : ∀ (s : Shared) (H : Hp) (Cc : Addr) (cl : List (Str × Addr)) (fp : List Addr), PE (X.blk s H scope (compEnvC scope cl Cc X.env) fp) elt (tE' ct X.K W0 (D.evE C el))
  hs : ∀ x, foldedSetIterable iter X.env x = pure x
  hs1 : ∀ env x, foldedSetIterable iter1 env x = pure x
  h7 : ∀ i ∈ tgS tg, i ∈ own
  h8 : ∀ i ∈ tgS tg1, i ∈ own1
  h9 : ∀ i ∈ own1, i ∈ (own.map fun i => (X.N.getD i "", i)).map (·.2)
theorem lc2_parts {el : D.E} {tg tg1 : D.Tg} {it it1 : D.It} {cs cs1 : D.Es} {own own1 : List Nat} (hel : SoE M N C ct el) (hit : SoI M N C ct it) (hcs : SoEs M N C ct cs) (hit1 : SoI M N C ct it1) (hcs1 : SoEs M N C ct cs1) {X : Cx} {fs sc : Scope} {W : WX} {Z : List Addr} {elt t iter t1 iter1 : Expr} {ifs ifs1 : List Expr} {scope : Scope} {pos : Pos} (g : Gd M N C ct X) (hs : X.env.scope = sc) (hf : ∀ x, fs.names.lookup x = some .cell → X.fn x = true) (tk : Takes X W)
    (h : chkF M N (.lc2 el tg it cs tg1 it1 cs1 own own1) fs sc (.ListComp elt [⟨t, iter, ifs, 0⟩, ⟨t1, iter1, ifs1, 0⟩] scope pos) = true) : Lc2P C ct X W Z el tg it cs tg1 it1 cs1 own own1 elt t iter t1 iter1 ifs ifs1 scope := by
  unfold chkF at h
  simp only [Bool.and_eq_true, decide_eq_true_eq, List.all_eq_true, List.contains_iff_mem] at h
  obtain ⟨⟨⟨⟨⟨⟨⟨⟨⟨⟨⟨⟨⟨⟨h1, h2⟩, h3⟩, h4⟩, h5⟩, k1⟩, k2⟩, k3⟩, k4⟩, k5⟩, h6⟩, h7⟩, h8⟩, h9⟩, hb⟩ := h
  have gb : ∀ (s : Shared) (H : Hp) (Cc : Addr) (cl : List (Str × Addr)) (fp : List Addr), Gd M N C ct (X.blk s H scope (compEnvC scope cl Cc X.env) fp) := fun s H Cc cl fp =>
    ⟨g.hN, g.nd, g.calm, g.hu, g.glb, g.bi, g.ty, g.isi, g.rng, g.enm, g.zip, g.fn⟩
  have sb : ∀ (s : Shared) (H : Hp) (Cc : Addr) (cl : List (Str × Addr)) (fp : List Addr), (X.blk s H scope (compEnvC scope cl Cc X.env) fp).env.scope = relS' scope sc := fun s H Cc cl fp => by
    rw [← hs]; rfl
  have tk0 : ∀ (s : Shared) (H : Hp) (Cc : Addr) (cl : List (Str × Addr)) (fp : List Addr), Takes (X.blk s H scope (compEnvC scope cl Cc X.env) fp) W0 := fun s H Cc cl fp => takes0
  exact ⟨hit X fs sc W Z t iter g hs hf tk h1, by rw [hs, g.hN]; exact blkOk_by hb, fun s H Cc cl fp => pg_ok (gb s H Cc cl fp).hN g.nd g.calm (sb s H Cc cl fp) (fun x hx => beq_iff_eq.mpr hx) h3,
    fun s H Cc cl fp => ⟨fun pins s' σ H' Q I ⟨Z', q⟩ => ((hcs _ scope _ W0 Z' ifs (gb s H Cc cl fp) (sb s H Cc cl fp) (fun x hx => beq_iff_eq.mpr hx) (tk0 s H Cc cl fp) h4).cs h5).run pins s' σ H' Q I q⟩,
    fun s H Cc cl fp => ⟨fun pins s' σ H' Q I ⟨Z', q⟩ => (hit1 _ scope _ W0 Z' t1 iter1 (gb s H Cc cl fp) (sb s H Cc cl fp) (fun x hx => beq_iff_eq.mpr hx) (tk0 s H Cc cl fp) k1).run pins s' σ H' Q I q⟩,
    fun s H Cc cl fp => pg_ok (gb s H Cc cl fp).hN g.nd g.calm (sb s H Cc cl fp) (fun x hx => beq_iff_eq.mpr hx) k3,
    fun s H Cc cl fp => ⟨fun pins s' σ H' Q I ⟨Z', q⟩ => ((hcs1 _ scope _ W0 Z' ifs1 (gb s H Cc cl fp) (sb s H Cc cl fp) (fun x hx => beq_iff_eq.mpr hx) (tk0 s H Cc cl fp) k4).cs k5).run pins s' σ H' Q I q⟩,
    fun s H Cc cl fp => ⟨fun pins s' σ H' Q I ⟨Z', q⟩ => (hel _ scope _ W0 Z' elt (gb s H Cc cl fp) (sb s H Cc cl fp) (fun x hx => beq_iff_eq.mpr hx) (tk0 s H Cc cl fp) h6).1.run pins s' σ H' Q I q⟩,
    set_ok h2 X.env, fun env => set_ok k2 env, h7, h8, fun i hi => by rw [own2]; exact h9 i hi⟩
theorem sf_lc2 {el : D.E} {tg tg1 : D.Tg} {it it1 : D.It} {cs cs1 : D.Es} {own own1 : List Nat} (hel : SoE M N C ct el) (hit : SoI M N C ct it) (hcs : SoEs M N C ct cs) (hit1 : SoI M N C ct it1) (hcs1 : SoEs M N C ct cs1) : SoF M N C ct (.lc2 el tg it cs tg1 it1 cs1 own own1) := by
  intro X fs sc W Z e g hs hf tk h
  have h' := h
  unfold chkF at h'
  split at h'
  · rename_i elt t iter ifs t1 iter1 ifs1 scope pos
    have P := lc2_parts (Z := Z) hel hit hcs hit1 hcs1 g hs hf tk h
    have pe := pe_lc2 (X := X) (pos := pos) g.calm (by rw [g.hN]; exact g.nd) P.hi P.ok P.h9 P.hg P.ht P.hi1 P.hg1 P.ht1 P.he P.hs P.hs1
    rw [own2] at pe
    exact pe.mono fun σ H Q tt => lc2_rd P.h7 P.h8 tt
  · cases h'
theorem ps_lc2 {el : D.E} {tg tg1 : D.Tg} {it it1 : D.It} {cs cs1 : D.Es} {own own1 : List Nat} (hel : SoE M N C ct el) (hit : SoI M N C ct it) (hcs : SoEs M N C ct cs) (hit1 : SoI M N C ct it1) (hcs1 : SoEs M N C ct cs1) {X : Cx} {fs sc : Scope} {W : WX} {Z : List Addr} {elt t iter t1 iter1 : Expr} {ifs ifs1 : List Expr} {scope : Scope} {pos spos py : Pos} {i : Nat} {y : Str} (g : Gd M N C ct X) (hs : X.env.scope = sc) (hf : ∀ x, fs.names.lookup x = some .cell → X.fn x = true) (tk : Takes X W)
    (h : chkF M N (.lc2 el tg it cs tg1 it1 cs1 own own1) fs sc (.ListComp elt [⟨t, iter, ifs, 0⟩, ⟨t1, iter1, ifs1, 0⟩] scope pos) = true) (hk : sc.kind = .function) (hi : N[i]? = some y) (hy : sc.names.lookup y = some .local) (hl : (py.line == pos.line) = true)
    (ha : (scope.names.any fun (n, k) => n == y && (k == .local || k == .cell)) = false) : PS X (.Assign [.Name y py] (.ListComp elt [⟨t, iter, ifs, 0⟩, ⟨t1, iter1, ifs1, 0⟩] scope pos) spos) (tAsg (tF ct X.K Z W (D.evF C (.lc2 el tg it cs tg1 it1 cs1 own own1))) (gName i)) := by
  have P := lc2_parts (Z := Z) hel hit hcs hit1 hcs1 g hs hf tk h
  have pe := ps_setLc2 (X := X) (i := i) (y := y) (py := py) (pos := pos) (spos := spos) g.calm (by rw [g.hN]; exact g.nd) (by rw [g.hN]; exact hi) (by rw [hs]; exact hy) (sw_true (by rw [hs]; exact hk) (by rw [hs]; exact hy) hl ha) P.hi P.ok P.h9 P.hg P.ht P.hi1 P.hg1 P.ht1 P.he P.hs P.hs1
  rw [own2] at pe
  exact pe.mono fun D σ H tt => lc2_rd P.h7 P.h8 tt
end
end DS
end

section
set_option Elab.async false
set_option linter.all false
set_option maxRecDepth 100000
set_option maxHeartbeats 1000000
namespace DS
open PySem PySem.Spec PyProof.Rows L2
section
variable {M : Nm} {N : List Str} {C : D.Cfg} {ct : Ct}
theorem so_bwd {a : D.E} (ha : SoE M N C ct a) : SoE M N C ct (.bwd a) := by
  intro X fs sc W Z e g hs hf tk h
  unfold chkE at h
  split at h
  · rename_i a' k p1 p2 p3 pos
    have p : PE X (.Subscript a' (.Slice none none (some (.UnaryOp .USub (.Constant (.int 1) k p1) p2)) p3) pos) (tE ct X.K Z W (D.evE C (.bwd a))) := by
      refine (pe_bwd (ha X fs sc W Z a' g hs hf tk h).1).mono fun σ H Q t => ?_
      obtain ⟨φ, ρ, η, st, w⟩ := t
      simp only [D.evE] at w
      refine tG.use2 st w fun φ1 x η1 v1 H1 x1 st1 r1 w1 => ?_
      obtain ⟨z, e1, f⟩ := w1.of_opt
      exact ⟨φ1, Z, η1, x, z, st1.hr, r1, e1, f.new st1.hr⟩
    exact ⟨p, pt_plain p rfl⟩
  · cases h
mutual
theorem soE : ∀ e : D.E, SoE M N C ct e
  | .var i => so_var i
  | .con v => so_con v
  | .glb i => so_glb i
  | .tup es => so_tup (soEs es)
  | .fz f => so_fz (soF f)
  | .bop c es => so_bop (soEs es)
  | .not a => so_not (soE a)
  | .ite c a b => so_ite (soE c) (soE a) (soE b)
  | .bin o a b => so_bin (soE a) (soE b)
  | .neg a => so_neg (soE a)
  | .cmp o a b => so_cmp (soE a) (soE b)
  | .chn o o' a b c => so_chn (soE a) (soE b) (soE c)
  | .isN k a => so_isN (soE a)
  | .call f es => so_call (soEs es)
  | .bi b es => so_bi (soEs es)
  | .isi a t => so_isi (soE a)
  | .mth m o es => so_mth (soE o) (soEs es)
  | .idx a i => so_idx (soE a) (soE i)
  | .slc a lo hi => so_slc (soE a) (soEs lo) (soEs hi)
  | .bwd a => so_bwd (soE a)
theorem soEs : ∀ e : D.Es, SoEs M N C ct e
  | .nil => so_nil
  | .cons e es => so_cons (soE e) (soEs es)
theorem soF : ∀ e : D.F, SoF M N C ct e
  | .lst es => sf_lst (soEs es)
  | .lc el tg it cs own => sf_lc (soE el) (soI it) (soEs cs)
  | .lc2 el tg it cs tg1 it1 cs1 own own1 => sf_lc2 (soE el) (soI it) (soEs cs) (soI it1) (soEs cs1)
  | .bi b es => sf_bi (soEs es)
  | .bin o a b => sf_bin (soE a) (soE b)
  | .slc a lo hi => sf_slc (soE a) (soEs lo) (soEs hi)
theorem soI : ∀ e : D.It, SoI M N C ct e
  | .seq e => si_seq (soE e)
  | .rng es => si_rng (soEs es)
  | .enm e => si_enm (soE e)
  | .zip a b => si_zip (soE a) (soE b)
end
end

section
variable {ct : Ct} {K : Fg} {φ φ' φ'' Z Z' : List Addr} {H H' H'' : Hp} {η η' : D.Hp} {ρ ρ' : D.Env} {σ : L2.St} {W : WX} {T : Ends}
def WPS (ct : Ct) (K : Fg) (Z φ : List Addr) (H : Hp) (r : D.Out) (E : Ends) (W : WX) : Prop :=
  match r with
  | .next ρ' η' => ∀ φ' σ' H', Ext φ H φ' H' → StR K φ' Z ρ' η' σ' H' → E.nx σ' H'
  | .brk ρ' η' => ∀ φ' σ' H', Ext φ H φ' H' → StR K φ' Z ρ' η' σ' H' → E.bk σ' H'
  | .cnt ρ' η' => ∀ φ' σ' H', Ext φ H φ' H' → StR K φ' Z ρ' η' σ' H' → E.ct σ' H'
  | .ret v η' => ∀ φ' u H', Ext φ H φ' H' → HR K φ' Z η' H' → RV K φ' Z H' v u → E.rt u H'
  | .exc c fs ρ' η' => ∃ C ns, ct c = some (C, ns) ∧ ∀ φ' σ' H' d vs, Ext φ H φ' H' → StR K φ' Z ρ' η' σ' H' → RVs K φ' Z H' fs vs → H' d = some (.xd (ns.zip vs)) → W (.ref C) (some d) σ' H'
  | .err => False
def tS (ct : Ct) (K : Fg) (Z : List Addr) (W : WX) (ev : D.Env → D.Hp → D.Out) : TS := fun E σ H => ∃ φ ρ η, StR K φ Z ρ η σ H ∧ WPS ct K Z φ H (ev ρ η) E W
theorem WPS.ext {r : D.Out} (f : WPS ct K Z φ H r T W) (x : Ext φ H φ' H') : WPS ct K Z φ' H' r T W := by
  cases r with
  | next ρ' η' => exact fun φ'' σ' H'' x' => f φ'' σ' H'' (x.trans x')
  | brk ρ' η' => exact fun φ'' σ' H'' x' => f φ'' σ' H'' (x.trans x')
  | cnt ρ' η' => exact fun φ'' σ' H'' x' => f φ'' σ' H'' (x.trans x')
  | ret v η' => exact fun φ'' u H'' x' => f φ'' u H'' (x.trans x')
  | exc c fs ρ' η' =>
    obtain ⟨C, ns, e, f⟩ := f
    exact ⟨C, ns, e, fun φ'' σ' H'' d vs x' => f φ'' σ' H'' d vs (x.trans x')⟩
  | err => exact f
section
variable {α β : Type} {R : List Addr → Hp → α → β → Prop}
theorem exc_out {c : Nat} {fs : List PV} (st : StR K φ Z ρ η σ H) (w : WPS ct K Z φ H (.exc c fs ρ η') T W) : Exc ct K Z φ H c fs η' (WE W σ) := by
  obtain ⟨C, ns, e, f⟩ := w
  exact ⟨C, ns, e, fun φ' H' d vs x h r hd => f φ' σ H' d vs x (st.ext x h) r hd⟩
theorem tG.useS {ev : D.Env → D.Hp → D.Res α} {f : α → D.Hp → D.Out} {Q' : β → Hp → Prop} (h : StR K φ Z ρ η σ H) (w : WPS ct K Z φ H ((ev ρ η).out ρ f) T W)
    (k : ∀ φ1 a η1 v1 H1, Ext φ H φ1 H1 → StR K φ1 Z ρ η1 σ H1 → R φ1 H1 a v1 → WPS ct K Z φ1 H1 (f a η1) T W → Q' v1 H1) : tG R ct K Z W ev σ H Q' := by
  refine ⟨φ, ρ, η, h, ?_⟩
  cases e : ev ρ η with
  | ok a η1 =>
    rw [e] at w
    exact fun φ1 v H1 x h1 r => k φ1 a η1 v H1 x (h.ext x h1) r (WPS.ext w x)
  | exc c fs η1 => rw [e] at w; exact exc_out h w
  | err => rw [e] at w; exact w
theorem tF.useS {ev : D.Env → D.Hp → D.Res (List PV)} {f : List PV → D.Hp → D.Out} {Q : VK} (h : StR K φ Z ρ η σ H) (w : WPS ct K Z φ H ((ev ρ η).out ρ f) T W)
    (k : ∀ φ1 xs η1 a vs H1, Ext φ H φ1 H1 → H a = none → HR K φ1 (a :: Z) η1 H1 → H1 a = some (.lst vs) → RVs K φ1 (a :: Z) H1 xs vs → WPS ct K Z φ H (f xs η1) T W → Q (.ref a) H1) : tF ct K Z W ev σ H Q := by
  refine ⟨φ, ρ, η, h, ?_⟩
  cases e : ev ρ η with
  | ok a η1 =>
    rw [e] at w
    exact fun φ1 p vs H1 x n h1 e1 r => k φ1 a η1 p vs H1 x n h1 e1 r w
  | exc c fs η1 => rw [e] at w; exact exc_out h w
  | err => rw [e] at w; exact w
/-- a test that chooses -/
theorem tT.useS {ev : D.Env → D.Hp → D.Res PV} {f : Bool → D.Hp → D.Out} {Q' : Bool → Hp → Prop} (h : StR K φ Z ρ η σ H) (w : WPS ct K Z φ H ((ev ρ η).out ρ fun x η1 => D.Out.opt (D.truth η1 x) fun b => f b η1) T W)
    (k : ∀ φ1 b η1 H1, Ext φ H φ1 H1 → StR K φ1 Z ρ η1 σ H1 → WPS ct K Z φ1 H1 (f b η1) T W → Q' b H1) : tT ct K Z W (trE ev) σ H Q' := by
  refine ⟨φ, ρ, η, h, ?_⟩
  unfold trE
  cases e : ev ρ η with
  | ok a η1 =>
    rw [e] at w
    simp only [D.bind_ok, D.out_ok] at w ⊢
    cases q : D.truth η1 a with
    | none => rw [q] at w; exact w.elim
    | some b =>
      rw [q] at w
      intro φ1 v H1 x h1 r
      cases r
      exact k φ1 b η1 H1 x (h.ext x h1) (WPS.ext w x)
  | exc c fs η1 => rw [e] at w; exact exc_out h w
  | err => rw [e] at w; exact w
end
theorem br_opt (o : Option Bool) (a b : D.Out) : D.Out.br o a b = D.Out.opt o fun t => if t = true then a else b := by
  cases o <;> rfl
/-- a reserved list becomes a cell of the state -/
theorem own_st {a : Addr} {xs : List PV} {vs : List V} (st : StR K φ Z ρ η σ H) (x : Ext φ H φ' H') (n : H a = none) (h : HR K φ' (a :: Z) η' H') (e : H' a = some (.lst vs)) (r : RVs K φ' (a :: Z) H' xs vs) :
    Ext φ H (φ' ++ [a]) H' ∧ StR K (φ' ++ [a]) Z ρ (η' ++ [.lst xs]) σ H' ∧ RV K (φ' ++ [a]) Z H' (.cell η'.length) (.ref a) := by
  have nz : a ∉ Z := fun m => by
    obtain ⟨us, q⟩ := st.hr.zin a m
    rw [n] at q; cases q
  obtain ⟨h1, h2⟩ := h.owns e r nz
  have zok : zOk Z (a :: Z) H := fun d hd => (List.mem_cons.mp hd).elim (fun e => .inr (by rw [e]; exact n)) .inl
  refine ⟨⟨x.pre.trans (List.prefix_append _ _), x.keep, fun b o eb nb m => ?_⟩, ⟨h1, st.len, fun i p ei => ?_⟩, .cell ?_⟩
  · rcases List.mem_append.mp m with m | m
    · exact x.out b o eb nb m
    · rw [List.mem_singleton.mp m, n] at eb; cases eb
  · obtain ⟨v, e1, rv⟩ := st.val i p ei
    exact ⟨v, e1, h2 (rv.extW st.hr x.w zok)⟩
  · rw [← h.len, List.getElem?_append_right (Nat.le_refl _), Nat.sub_self]
    rfl
end

def noTup : Expr → Bool | .Tuple _ _ _ => false | .List _ _ => false | _ => true
/-- name = [.. for ..] that goes the short way -/
def swp (sc : Scope) (x : Str) (p : Pos) : Expr → Bool
  | .ListComp _ _ scope pos => isLoc sc x && (p.line == pos.line) && !(scope.names.any fun (n, k) => n == x && (k == .local || k == .cell))
  | _ => false
def swn (sc : Scope) (x : Str) (p : Pos) : Expr → Bool
  | .ListComp _ _ scope pos => !(isLoc sc x && (p.line == pos.line) && !(scope.names.any fun (n, k) => n == x && (k == .local || k == .cell)))
  | e => noComp e
mutual
def chkS (M : Nm) (N : List Str) (sc : Scope) : D.S → Stmt → Bool
  | .asg i e, s => match s with
    | .Assign [.Name x p] v pos => decide (N[i]? = some x) && lcl sc sc x && (match e with
      | .fz f => (swp sc x p v || swn sc x p v) && chkF M N f sc sc v
      | e => swn sc x p v && chkE M N e sc sc v)
    | _ => false
  | .own i f, s => match s with
    | .Assign [.Name x p] v pos => decide (N[i]? = some x) && lcl sc sc x && (swp sc x p v || swn sc x p v) && chkF M N f sc sc v
    | _ => false
  | .unp is e, s => match s with
    | .Assign [t] v pos => isTupE t && chkTg N sc sc (.tup is) t && noTup v && noComp v && chkE M N e sc sc v
    | _ => false
  | .par i j a b, s => false
  | .set o i e, s => match s with
    | .Assign [.Subscript o' i' _] v pos => noSl i' && noComp v && chkE M N o sc sc o' && chkE M N i sc sc i' && chkE M N e sc sc v
    | _ => false
  | .ex e, s => match s with
    | .Expr e' pos => noComp e' && chkE M N e sc sc e'
    | _ => false
  | .ite c a b, s => match s with
    | .If c' a' b' pos => chkE M N c sc sc c' && chkSs M N sc a a' && chkSs M N sc b b'
    | _ => false
  | .loop tg it b, s => match s with
    | .For t iter b' [] pos => chkTg N sc sc tg t && noSet iter && chkI M N it sc sc t iter && chkSs M N sc b b'
    | _ => false
  | .whl k c b, s => match s with
    | .While c' b' [] pos => chkE M N c sc sc c' && chkSs M N sc b b'
    | _ => false
  | .ret e, s => match s with
    | .Return (some e') pos => chkE M N e sc sc e'
    | _ => false
  | .retF f, s => match s with
    | .Return (some e') pos => chkF M N f sc sc e'
    | _ => false
  | .retN, s => match s with
    | .Return none pos => true
    | _ => false
  | .brk, s => match s with
    | .Break pos => true
    | _ => false
  | .cnt, s => match s with
    | .Continue pos => true
    | _ => false
  | .rse c es, s => false
  | .nev, s => true
  | .pass, s => match s with
    | .Pass pos => true
    | _ => false
def chkSs (M : Nm) (N : List Str) (sc : Scope) : D.Ss → List Stmt → Bool
  | .nil, l => l.isEmpty
  | .cons s ss, l => match l with
    | s' :: ss' => chkS M N sc s s' && chkSs M N sc ss ss'
    | [] => false
end
def SoS (M : Nm) (N : List Str) (C : D.Cfg) (ct : Ct) (ir : D.S) : Prop := ∀ (X : Cx) (sc : Scope) (W : WX) (Z : List Addr) (s : Stmt), Gd M N C ct X → X.env.scope = sc → sc.kind = .function → (∀ x, sc.names.lookup x = some .cell → X.fn x = true) → Takes X W →
  PassesOwn (model X.prog X.w) X.A X.env X.xe → chkS M N sc ir s = true → PS X s (tS ct X.K Z W (D.evS C ir))
def SoSs (M : Nm) (N : List Str) (C : D.Cfg) (ct : Ct) (ir : D.Ss) : Prop := ∀ (X : Cx) (sc : Scope) (W : WX) (Z : List Addr) (s : List Stmt), Gd M N C ct X → X.env.scope = sc → sc.kind = .function → (∀ x, sc.names.lookup x = some .cell → X.fn x = true) → Takes X W →
  PassesOwn (model X.prog X.w) X.A X.env X.xe → chkSs M N sc ir s = true → PSs X s (tS ct X.K Z W (D.evSs C ir))
theorem swn_ok {X : Cx} {sc : Scope} {x : Str} {p : Pos} {v : Expr} {l : Nat} (hs : X.env.scope = sc) (hk : sc.kind = .function) (h : swn sc x p v = true) : swapsWith v (some (.Name x p)) l X.env = pure false := by
  unfold swn at h
  split at h
  · rename_i elt gs scope pos
    have hb : X.env.blockKind = .function := by unfold Env.blockKind; rw [hs, hk]; rfl
    have hk2 : X.env.kindOf x = sc.names.lookup x := by show X.env.scope.names.lookup x = _; rw [hs]
    have e : ((X.env.blockKind == .function && X.env.kindOf x == some .local && p.line == pos.line) && !(scope.names.any fun (n, k) => n == x && (k == .local || k == .cell))) = false := by
      rw [hb, hk2]
      have e2 : (sc.names.lookup x == some .local) = isLoc sc x := by
        unfold isLoc
        cases sc.names.lookup x with
        | none => rfl
        | some k => cases k <;> rfl
      rw [e2]
      exact (Bool.not_eq_true' _).mp h
    show (pure _ : Sem Bool) = _
    exact congrArg pure e
  · cases v <;> first | rfl | (simp [noComp] at h)
theorem comp_none {e : Expr} (h : noComp e = true) (l : Nat) (env : Env) : swapsWith e none l env = pure false := by
  cases e <;> first | rfl | (simp [noComp] at h)
theorem comp_some {e : Expr} (h : noComp e = true) (t : Expr) (l : Nat) (env : Env) : swapsWithSole [t] e l env = pure false := by
  cases e <;> first | rfl | (simp [noComp] at h)
theorem tup_none {e : Expr} (h : noTup e = true) (t : Expr) (env : Env) : swappedStores [t] e env = pure none := by
  cases t <;> first | rfl | (cases e <;> first | rfl | (simp [noTup] at h))
end DS
end

section
set_option Elab.async false
set_option linter.all false
set_option maxRecDepth 100000
set_option maxHeartbeats 1000000
namespace DS
open PySem PySem.Spec PyProof.Rows L2
section
variable {M : Nm} {N : List Str} {C : D.Cfg} {ct : Ct}
/-- name = value, the value by its reading; the store -/
theorem asg_rd {X : Cx} {Z : List Addr} {W : WX} {e : D.E} {i : Nat} {T : Ends} {σ : L2.St} {H : Hp} {te : TE} (hm : tE ct X.K Z W (D.evE C e) σ H (fun x H1 => gName i x σ H1 T.nx) → te σ H (fun x H1 => gName i x σ H1 T.nx))
    (t : tS ct X.K Z W (D.evS C (.asg i e)) T σ H) : tAsg te (gName i) T σ H := by
  obtain ⟨φ, ρ, η, st, w⟩ := t
  simp only [D.evS] at w
  exact hm (tG.useS st w fun φ1 a η1 v1 H1 x st1 r w1 => w1 φ1 _ H1 .refl (st1.set i r))
theorem own_rd {X : Cx} {Z : List Addr} {W : WX} {f : D.F} {i : Nat} {T : Ends} {σ : L2.St} {H : Hp} (t : tS ct X.K Z W (D.evS C (.own i f)) T σ H) : tAsg (tF ct X.K Z W (D.evF C f)) (gName i) T σ H := by
  obtain ⟨φ, ρ, η, st, w⟩ := t
  simp only [D.evS] at w
  refine tF.useS st w fun φ1 xs η1 a vs H1 x n h1 e1 r w1 => ?_
  obtain ⟨x2, s2, rc⟩ := own_st st x n h1 e1 r
  exact w1 _ _ H1 x2 (s2.set i rc)
/-- name = a new list -/
theorem ps_F {f : D.F} {X : Cx} {sc : Scope} {W : WX} {Z : List Addr} {x : Str} {p pos : Pos} {v : Expr} {i : Nat} (g : Gd M N C ct X) (hs : X.env.scope = sc) (hk : sc.kind = .function) (hf : ∀ x, sc.names.lookup x = some .cell → X.fn x = true) (tk : Takes X W)
    (hi : N[i]? = some x) (hl : lcl sc sc x = true) (hw : (swp sc x p v || swn sc x p v) = true) (h : chkF M N f sc sc v = true) : PS X (.Assign [.Name x p] v pos) (tAsg (tF ct X.K Z W (D.evF C f)) (gName i)) := by
  obtain ⟨l1, l2⟩ := lcl_ok hs hf hl
  rcases Bool.or_eq_true_iff.mp hw with hw | hw
  · unfold swp at hw
    split at hw
    · rename_i elt gs scope lpos
      simp only [Bool.and_eq_true, Bool.not_eq_true'] at hw
      obtain ⟨⟨h1, h2⟩, h3⟩ := hw
      have hy : sc.names.lookup x = some .local := by
        unfold isLoc at h1
        split at h1
        · assumption
        · cases h1
      have h' := h
      cases f with
      | lc el tg it cs own =>
        unfold chkF at h'
        split at h'
        · rename_i e1 t iter ifs sc1 p1 heq
          cases heq
          exact ps_lc (soE el) (soI it) (soEs cs) g hs hf tk h hk hi hy h2 h3
        · cases h'
      | lc2 el tg it cs tg1 it1 cs1 own own1 =>
        unfold chkF at h'
        split at h'
        · rename_i e1 t iter ifs t1 iter1 ifs1 sc1 p1 heq
          cases heq
          exact ps_lc2 (soE el) (soI it) (soEs cs) (soI it1) (soEs cs1) g hs hf tk h hk hi hy h2 h3
        · cases h'
      | lst _ => unfold chkF at h'; simp at h'
      | bi _ _ => unfold chkF at h'; simp at h'
      | bin _ _ _ => unfold chkF at h'; simp at h'
      | slc _ _ _ => unfold chkF at h'; simp at h'
    · cases hw
  · exact ps_set (i := i) (by rw [g.hN]; exact g.nd) (by rw [g.hN]; exact hi) l1 (soF f X sc sc W Z v g hs hf tk h) (swn_ok hs hk hw) l2
theorem ss_asg {i : Nat} {e : D.E} : SoS M N C ct (.asg i e) := by
  intro X sc W Z s g hs hk hf tk ho h
  unfold chkS at h
  split at h
  · rename_i x p v pos
    simp only [Bool.and_eq_true, decide_eq_true_eq] at h
    obtain ⟨⟨h1, h2⟩, h3⟩ := h
    obtain ⟨l1, l2⟩ := lcl_ok hs hf h2
    split at h3
    · rename_i f
      simp only [Bool.and_eq_true] at h3
      refine (ps_F (Z := Z) g hs hk hf tk h1 h2 h3.1 h3.2).mono fun T σ H t => asg_rd (fun tt => ?_) t
      obtain ⟨φ, ρ, η, st, w⟩ := tt
      simp only [D.evE] at w
      refine ⟨φ, ρ, η, st, ?_⟩
      cases q : D.evF C f ρ η with
      | ok xs η1 =>
        rw [q] at w
        intro φ' a vs H' x n hr e1 rs
        obtain ⟨k1, k2, k3⟩ := hr.frees
        refine w φ' _ H' x k1 (.lst e1 (fun m => hr.dis a m List.mem_cons_self) (fun m => ?_) (k3 rs))
        obtain ⟨us, e2⟩ := st.hr.zin a m
        rw [n] at e2; cases e2
      | exc c fs η1 => rw [q] at w; exact w
      | err => rw [q] at w; exact w
    · simp only [Bool.and_eq_true] at h3
      refine (ps_set (i := i) (by rw [g.hN]; exact g.nd) (by rw [g.hN]; exact h1) l1 (soE e X sc sc W Z v g hs hf tk h3.2).1 (swn_ok hs hk h3.1) l2).mono fun T σ H t => asg_rd id t
  · cases h
theorem ss_own {i : Nat} {f : D.F} : SoS M N C ct (.own i f) := by
  intro X sc W Z s g hs hk hf tk ho h
  unfold chkS at h
  split at h
  · rename_i x p v pos
    simp only [Bool.and_eq_true, decide_eq_true_eq] at h
    obtain ⟨⟨⟨h1, h2⟩, h3⟩, h4⟩ := h
    exact (ps_F (Z := Z) g hs hk hf tk h1 h2 h3 h4).mono fun T σ H t => own_rd t
  · cases h
theorem ss_unp {is : List Nat} {e : D.E} : SoS M N C ct (.unp is e) := by
  intro X sc W Z s g hs hk hf tk ho h
  unfold chkS at h
  split at h
  · rename_i t v pos
    simp only [Bool.and_eq_true] at h
    obtain ⟨⟨⟨⟨h0, h1⟩, h2⟩, h3⟩, h4⟩ := h
    have h1' : (assignEach [t] X.env).map (·.2) = [assign t X.env] := by
      cases t <;> first | rfl | (simp [isTupE] at h0)
    refine (ps_asg (soE e X sc sc W Z v g hs hf tk h4).1 (pg_ok g.hN g.nd g.calm hs hf h1) (comp_some h3 _ _ _) (tup_none h2 _ _) h1').mono fun T σ H tt => ?_
    obtain ⟨φ, ρ, η, st, w⟩ := tt
    simp only [D.evS] at w
    refine tG.useS st w fun φ1 a η1 v1 H1 x st1 r w1 => ?_
    cases q : D.bindT η1 (.tup is) a ρ with
    | none => rw [q] at w1; exact w1.elim
    | some ρ1 =>
      rw [q] at w1
      exact tgt_ok st1 r q fun σ2 s2 _ => w1 φ1 σ2 H1 .refl s2
  · cases h
theorem setV_ok {X : Cx} {n : Nat} {φ Z : List Addr} {H : Hp} {η η' : D.Hp} {o i v : PV} {vo vi vv : V} {Q : Hp → Prop} (hr : HR X.K φ Z η H) (ro : RV X.K φ Z H o vo) (ri : RV X.K φ Z H i vi) (rv : RV X.K φ Z H v vv) (e : D.setV n v η o i = some η')
    (k : ∀ H', Ext φ H φ H' → HR X.K φ Z η' H' → Q H') : rSetL vo vi vv H Q := by
  cases ro <;> simp only [D.setV, reduceCtorEq] at e
  rename_i c a ec
  cases q : η[c]? with
  | none => rw [q] at e; simp [D.setO] at e
  | some ob =>
    obtain ⟨xs, vs, rfl, e1, rs⟩ := ob_lst hr ec q
    rw [q] at e
    cases ri <;> simp only [D.setO, reduceCtorEq] at e
    rename_i j
    obtain ⟨m, h1, h2⟩ := Option.bind_eq_some_iff.mp e
    have := put_some h2
    subst this
    obtain ⟨w1, w2⟩ := hr.write ec (rs.set rv m)
    exact ⟨a, vs, j, m, rfl, rfl, e1, by rw [← rs.length]; exact h1, k _ w2 w1⟩
theorem ss_set {o i e : D.E} : SoS M N C ct (.set o i e) := by
  intro X sc W Z s g hs hk hf tk ho h
  unfold chkS at h
  split at h
  · rename_i o' i' p v pos
    simp only [Bool.and_eq_true] at h
    obtain ⟨⟨⟨⟨h1, h2⟩, h3⟩, h4⟩, h5⟩ := h
    have ha : ∀ v, assign (.Subscript o' i' p) X.env v = (do
      let ov ← holding [v] (eval o' X.env)
      let iv ← holding [v, ov] (eval i' X.env)
      standAt p
      holding [v, ov, iv] (setItem ov iv v)
      release [v, ov, iv] []) := fun v => by
      cases i' <;> first | rfl | (simp [noSl] at h1)
    refine (ps_asg (soE e X sc sc W Z v g hs hf tk h5).1 (pg_sub (soE o X sc sc W Z o' g hs hf tk h3).1 (soE i X sc sc W Z i' g hs hf tk h4).1 set_list ha) (comp_some h2 _ _ _) rfl rfl).mono fun T σ H tt => ?_
    obtain ⟨φ, ρ, η, st, w⟩ := tt
    simp only [D.evS] at w
    refine tG.useS st w fun φ1 a η1 v1 H1 x1 st1 r1 w1 => tG.useS st1 w1 fun φ2 b η2 v2 H2 x2 st2 r2 w2 => tG.useS st2 w2 fun φ3 c η3 v3 H3 x3 st3 r3 w3 => ?_
    cases q : D.setV C.n a η3 b c with
    | none => rw [q] at w3; exact w3.elim
    | some η4 =>
      rw [q] at w3
      exact setV_ok st3.hr (r2.ext st2.hr x3) r3 ((r1.ext st1.hr x2).ext st2.hr x3) q fun H' x h' => w3 φ3 σ H' x (st3.ext x h')
  · cases h
theorem ss_ex {e : D.E} : SoS M N C ct (.ex e) := by
  intro X sc W Z s g hs hk hf tk ho h
  unfold chkS at h
  split at h
  · rename_i v pos
    simp only [Bool.and_eq_true] at h
    refine (ps_expr (soE e X sc sc W Z v g hs hf tk h.2).1 (comp_none h.1 _ _)).mono fun T σ H tt => ?_
    obtain ⟨φ, ρ, η, st, w⟩ := tt
    simp only [D.evS] at w
    exact tG.useS st w fun φ1 a η1 v1 H1 x1 st1 r1 w1 => w1 φ1 σ H1 .refl st1
  · cases h
theorem ss_ite {c : D.E} {a b : D.Ss} (ha : SoSs M N C ct a) (hb : SoSs M N C ct b) : SoS M N C ct (.ite c a b) := by
  intro X sc W Z s g hs hk hf tk ho h
  unfold chkS at h
  split at h
  · rename_i c' a' b' pos
    simp only [Bool.and_eq_true] at h
    obtain ⟨⟨h1, h2⟩, h3⟩ := h
    refine (ps_if (soE c X sc sc W Z c' g hs hf tk h1).2 (ha X sc W Z a' g hs hk hf tk ho h2) (hb X sc W Z b' g hs hk hf tk ho h3)).mono fun T σ H tt => ?_
    obtain ⟨φ, ρ, η, st, w⟩ := tt
    simp only [D.evS, br_opt] at w
    refine tT.useS st w fun φ1 k η1 H1 x1 st1 w1 => ?_
    cases k with
    | true => exact ⟨φ1, ρ, η1, st1, w1⟩
    | false => exact ⟨φ1, ρ, η1, st1, w1⟩
  · cases h
theorem ss_ret {e : D.E} : SoS M N C ct (.ret e) := by
  intro X sc W Z s g hs hk hf tk ho h
  unfold chkS at h
  split at h
  · rename_i v pos
    refine (ps_ret (soE e X sc sc W Z v g hs hf tk h).1).mono fun T σ H tt => ?_
    obtain ⟨φ, ρ, η, st, w⟩ := tt
    simp only [D.evS] at w
    exact tG.useS st w fun φ1 a η1 v1 H1 x1 st1 r1 w1 => w1 φ1 v1 H1 .refl st1.hr r1
  · cases h
theorem ss_retF {f : D.F} : SoS M N C ct (.retF f) := by
  intro X sc W Z s g hs hk hf tk ho h
  unfold chkS at h
  split at h
  · rename_i v pos
    refine (ps_ret (soF f X sc sc W Z v g hs hf tk h)).mono fun T σ H tt => ?_
    obtain ⟨φ, ρ, η, st, w⟩ := tt
    simp only [D.evS] at w
    refine tF.useS st w fun φ1 xs η1 a vs H1 x n h1 e1 r w1 => ?_
    obtain ⟨x2, s2, rc⟩ := own_st st x n h1 e1 r
    exact w1 _ _ H1 x2 s2.hr rc
  · cases h
theorem ss_retN : SoS M N C ct .retN := by
  intro X sc W Z s g hs hk hf tk ho h
  unfold chkS at h
  split at h
  · refine ps_retN.mono fun T σ H tt => ?_
    obtain ⟨φ, ρ, η, st, w⟩ := tt
    simp only [D.evS] at w
    exact w φ .non H .refl st.hr .non
  · cases h
theorem ss_brk : SoS M N C ct .brk := by
  intro X sc W Z s g hs hk hf tk ho h
  unfold chkS at h
  split at h
  · refine ps_break.mono fun T σ H tt => ?_
    obtain ⟨φ, ρ, η, st, w⟩ := tt
    simp only [D.evS] at w
    exact w φ σ H .refl st
  · cases h
theorem ss_cnt : SoS M N C ct .cnt := by
  intro X sc W Z s g hs hk hf tk ho h
  unfold chkS at h
  split at h
  · refine ps_continue.mono fun T σ H tt => ?_
    obtain ⟨φ, ρ, η, st, w⟩ := tt
    simp only [D.evS] at w
    exact w φ σ H .refl st
  · cases h
theorem ss_pass : SoS M N C ct .pass := by
  intro X sc W Z s g hs hk hf tk ho h
  unfold chkS at h
  split at h
  · refine ps_pass.mono fun T σ H tt => ?_
    obtain ⟨φ, ρ, η, st, w⟩ := tt
    simp only [D.evS] at w
    exact w φ σ H .refl st
  · cases h
/-- behind a turn -/
theorem turn_ok {K : Fg} {φ Z : List Addr} {H : Hp} {W : WX} {T T' : Ends} {o : D.Out} {f : D.Env → D.Hp → D.Out} (w : WPS ct K Z φ H (o.turn f) T W) (hr : T'.rt = T.rt) (hb : ∀ σ H, T.nx σ H → T'.bk σ H)
    (hn : ∀ ρ1 η1 φ' σ' H', Ext φ H φ' H' → StR K φ' Z ρ1 η1 σ' H' → WPS ct K Z φ' H' (f ρ1 η1) T W → T'.nx σ' H' ∧ T'.ct σ' H') : WPS ct K Z φ H o T' W := by
  cases o with
  | next ρ1 η1 => exact fun φ' σ' H' x st => (hn ρ1 η1 φ' σ' H' x st (WPS.ext w x)).1
  | cnt ρ1 η1 => exact fun φ' σ' H' x st => (hn ρ1 η1 φ' σ' H' x st (WPS.ext w x)).2
  | brk ρ1 η1 => exact fun φ' σ' H' x st => hb σ' H' (w φ' σ' H' x st)
  | ret v η1 => exact fun φ' u H' x h r => by rw [hr]; exact w φ' u H' x h r
  | exc c fs ρ1 η1 => exact w
  | err => exact w
theorem ss_whl {k : Nat} {c : D.E} {b : D.Ss} (hb : SoSs M N C ct b) : SoS M N C ct (.whl k c b) := by
  intro X sc W Z s g hs hk hf tk ho h
  unfold chkS at h
  split at h
  · rename_i c' b' pos
    simp only [Bool.and_eq_true] at h
    obtain ⟨h1, h2⟩ := h
    refine (ps_while ho (soE c X sc sc W Z c' g hs hf tk h1).2 (hb X sc W Z b' g hs hk hf tk ho h2)).mono fun T σ H tt => ?_
    obtain ⟨φ, ρ, η, st, w⟩ := tt
    simp only [D.evS] at w
    refine ⟨fun m σ H => ∃ φ ρ η, StR X.K φ Z ρ η σ H ∧ WPS ct X.K Z φ H (D.whlL (fun ρ η => D.evE C c ρ η) (fun ρ η => D.evSs C b ρ η) m ρ η) T W, ⟨k, φ, ρ, η, st, w⟩, ?_⟩
    rintro m σ H ⟨φ, ρ, η, st, w⟩
    cases m with
    | zero => rw [D.whlL] at w; exact w.elim
    | succ m =>
      rw [D.whlL] at w
      simp only [br_opt] at w
      refine tT.useS st w fun φ1 t η1 H1 x1 st1 w1 => ?_
      cases t with
      | false => exact w1 φ1 σ H1 .refl st1
      | true =>
        rw [if_pos rfl] at w1 ⊢
        refine ⟨fun σ' H' => ∃ φ ρ η, StR X.K φ Z ρ η σ' H' ∧ WPS ct X.K Z φ H' (D.whlL (fun ρ η => D.evE C c ρ η) (fun ρ η => D.evSs C b ρ η) m ρ η) T W, fun σ' H' q => ⟨m, Nat.lt_succ_self m, q⟩, φ1, ρ, η1, st1, ?_⟩
        exact turn_ok w1 rfl (fun _ _ q => q) fun ρ2 η2 φ' σ' H' x st2 w2 => ⟨⟨φ', ρ2, η2, st2, w2⟩, ⟨φ', ρ2, η2, st2, w2⟩⟩
  · cases h
theorem ss_loop {tg : D.Tg} {it : D.It} {b : D.Ss} (hb : SoSs M N C ct b) : SoS M N C ct (.loop tg it b) := by
  intro X sc W Z s g hs hk hf tk ho h
  unfold chkS at h
  split at h
  · rename_i t iter b' pos
    simp only [Bool.and_eq_true] at h
    obtain ⟨⟨⟨h1, h2⟩, h3⟩, h4⟩ := h
    refine (ps_for ho g.calm (soI it X sc sc W Z t iter g hs hf tk h3) (pg_ok g.hN g.nd g.calm hs hf h1) (hb X sc W Z b' g hs hk hf tk ho h4) (set_ok h2 X.env)).mono fun T σ H tt => ?_
    obtain ⟨φ, ρ, η, st, w⟩ := tt
    simp only [D.evS] at w
    refine tG.useS st w fun φ1 p η1 J H1 x1 st1 wk w1 => ?_
    generalize hbody : (fun (x : PV) (ρ : D.Env) (η : D.Hp) => D.Out.opt (D.bindT η tg x ρ) fun ρ' => D.evSs C b ρ' η) = body at w1
    let Pv : Nat → L2.St → Hp → Prop := fun i σ H => ∃ φ' ρ' η', Ext φ1 H1 φ' H ∧ StR X.K φ' Z ρ' η' σ H ∧ WPS ct X.K Z φ' H (D.forL p.2 body (p.1.drop i) ρ' η') T W
    refine ⟨fun i m σ H => m = p.1.length - i ∧ i ≤ p.1.length ∧ Pv i σ H, ⟨p.1.length, by simp, Nat.zero_le _, φ1, ρ, η1, .refl, st1, w1⟩, ?_⟩
    rintro i m σ2 H2 ⟨rfl, hi, φ', ρ', η', x2, st2, w2⟩
    by_cases hlt : i < p.1.length
    · right
      rw [List.drop_eq_getElem_cons hlt, D.forL] at w2
      split at w2
      · rename_i hst
        refine ⟨wk.go Z φ' H2 η' i .refl x2.w st2.hr hst hlt, Pv (i + 1), fun σ' H' p' => ⟨p.1.length - (i + 1), by omega, rfl, hlt, p'⟩, fun v H3 y => ?_⟩
        obtain ⟨q, e1, x3, hr3, rq⟩ := wk.yld Z φ' H2 η' i v H3 .refl x2.w st2.hr hst hlt y
        have eq : q = p.1[i] := by
          rw [List.getElem?_eq_getElem hlt] at e1
          exact (Option.some.inj e1).symm
        subst eq
        have w3 := WPS.ext w2 x3
        subst hbody
        simp only at w3
        cases hbt : D.bindT η' tg p.1[i] ρ' with
        | none => rw [hbt] at w3; exact w3.elim
        | some ρ2 =>
          rw [hbt] at w3
          simp only [D.oopt_some] at w3
          refine tgt_ok (st2.ext x3 hr3) rq hbt fun σ4 s4 _ => ⟨φ', ρ2, η', s4, ?_⟩
          exact turn_ok w3 rfl (fun _ _ q => q) fun ρ5 η5 φ5 σ5 H5 x5 st5 w5 => ⟨⟨φ5, ρ5, η5, (x2.trans x3).trans x5, st5, w5⟩, ⟨φ5, ρ5, η5, (x2.trans x3).trans x5, st5, w5⟩⟩
      · exact w2.elim
    · left
      have hin : i = p.1.length := by omega
      subst hin
      rw [List.drop_length, D.forL] at w2
      split at w2
      · rename_i hst
        exact ⟨wk.stop Z φ' H2 η' .refl x2.w st2.hr hst, w2 φ' σ2 H2 .refl st2⟩
      · exact w2.elim
  · cases h
theorem ss_no {ir : D.S} (h : ∀ sc s, chkS M N sc ir s = false) : SoS M N C ct ir := by
  intro X sc W Z s g hs hk hf tk ho h'
  rw [h] at h'
  cases h'
theorem ss_nev : SoS M N C ct .nev := by
  intro X sc W Z s g hs hk hf tk ho h'
  refine ps_never.mono fun T σ H tt => ?_
  obtain ⟨φ, ρ, η, st, w⟩ := tt
  simp only [D.evS] at w
  exact w
theorem sss_nil : SoSs M N C ct .nil := by
  intro X sc W Z s g hs hk hf tk ho h
  unfold chkSs at h
  have : s = [] := by simpa using h
  subst this
  refine pss_nil.mono fun T σ H tt => ?_
  obtain ⟨φ, ρ, η, st, w⟩ := tt
  simp only [D.evSs] at w
  exact w φ σ H .refl st
theorem sss_cons {s : D.S} {ss : D.Ss} (h1 : SoS M N C ct s) (h2 : SoSs M N C ct ss) : SoSs M N C ct (.cons s ss) := by
  intro X sc W Z l g hs hk hf tk ho h
  unfold chkSs at h
  split at h
  · rename_i s' ss'
    simp only [Bool.and_eq_true] at h
    refine (pss_cons (h1 X sc W Z s' g hs hk hf tk ho h.1) (h2 X sc W Z ss' g hs hk hf tk ho h.2)).mono fun T σ H tt => ?_
    obtain ⟨φ, ρ, η, st, w⟩ := tt
    simp only [D.evSs] at w
    refine ⟨φ, ρ, η, st, ?_⟩
    cases q : D.evS C s ρ η with
    | next ρ1 η1 =>
      rw [q] at w
      exact fun φ' σ' H' x st' => ⟨φ', ρ1, η1, st', WPS.ext w x⟩
    | brk ρ1 η1 => rw [q] at w; exact w
    | cnt ρ1 η1 => rw [q] at w; exact w
    | ret v η1 => rw [q] at w; exact w
    | exc c fs ρ1 η1 => rw [q] at w; exact w
    | err => rw [q] at w; exact w
  · cases h
mutual
theorem soS : ∀ s : D.S, SoS M N C ct s
  | .asg i e => ss_asg
  | .own i f => ss_own
  | .unp is e => ss_unp
  | .par i j a b => ss_no fun sc s => by unfold chkS; rfl
  | .set o i e => ss_set
  | .ex e => ss_ex
  | .ite c a b => ss_ite (soSs a) (soSs b)
  | .loop tg it b => ss_loop (soSs b)
  | .whl k c b => ss_whl (soSs b)
  | .ret e => ss_ret
  | .retF f => ss_retF
  | .retN => ss_retN
  | .brk => ss_brk
  | .cnt => ss_cnt
  | .rse c es => ss_no fun sc s => by unfold chkS; rfl
  | .pass => ss_pass
  | .nev => ss_nev
theorem soSs : ∀ s : D.Ss, SoSs M N C ct s
  | .nil => sss_nil
  | .cons s ss => sss_cons (soS s) (soSs ss)
end
end
end DS
end

section
set_option Elab.async false
set_option linter.all false
set_option maxRecDepth 100000
set_option maxHeartbeats 1000000
namespace DS
open PySem PySem.Spec PyProof.Rows L2
section
variable {ct : Ct} {K : Fg} {φ φ' φ'' Z Z' : List Addr} {H H' H'' : Hp} {η η' : D.Hp} {ρ ρ' : D.Env} {σ : L2.St} {W : WX} {E : XK}
theorem take_get {l l' : List Addr} (h : l <+: l') {c : Nat} {a : Addr} (hc : c < l.length) (e : l'[c]? = some a) : l[c]? = some a := by
  obtain ⟨t, rfl⟩ := h
  rw [List.getElem?_append_left hc] at e
  exact e
mutual
theorem RV.shut (hp : φ <+: φ') : ∀ {x : PV} {v : V}, RV K φ' Z H x v → D.closed φ.length x = true → RV K φ Z H x v
  | _, _, .non, _ => .non
  | _, _, .bl b, _ => .bl b
  | _, _, .int i, _ => .int i
  | _, _, .str hk, _ => .str hk
  | _, _, .tup e hs, h => .tup e (RVs.shut hp hs (by simpa [D.closed] using h))
  | _, _, .lst e h1 h2 hs, h => .lst e (fun m => h1 (hp.subset m)) h2 (RVs.shut hp hs (by simpa [D.closed] using h))
  | _, _, .cell e, h => .cell (take_get hp (by simpa [D.closed] using h) e)
  | _, _, .scr e, _ => .scr e
theorem RVs.shut (hp : φ <+: φ') : ∀ {x : List PV} {v : List V}, RVs K φ' Z H x v → D.closeds φ.length x = true → RVs K φ Z H x v
  | _, _, .nil, _ => .nil
  | _, _, .cons r t, h => by
    simp only [D.closeds, Bool.and_eq_true] at h
    exact .cons (RV.shut hp r h.1) (RVs.shut hp t h.2)
end
theorem HR.drop (h : HR K φ' Z η' H) (hp : φ <+: φ') (pn : D.P φ.length φ.length η') : HR K φ Z (η'.take φ.length) H := by
  refine ⟨?_, hp.sublist.nodup h.nd, fun a ha => h.dis a (hp.subset ha), h.zin, fun c a o e1 e2 => ?_⟩
  · rw [List.length_take]
    have := pn.len
    omega
  · have hc : c < φ.length := (List.getElem?_eq_some_iff.mp e1).1
    rw [List.getElem?_take, if_pos hc] at e2
    have ob := h.ob c a o (pre_get hp e1) e2
    have cl := pn.cl c o hc e2
    cases o with
    | lst xs =>
      obtain ⟨vs, e, r⟩ := ob
      exact ⟨vs, e, r.shut hp (by simpa [D.clO] using cl)⟩
    | dct kvs => exact ob.elim
theorem Ext.drop (x : Ext φ H φ' H') : Ext φ H φ H' := ⟨List.prefix_refl _, x.keep, fun _ _ _ n => n⟩
theorem HR.closed (h : HR K φ Z η H) : D.P φ.length φ.length η := by
  have cl : ∀ {x : PV} {v : V}, RV K φ Z H x v → D.closed φ.length x = true := by
    intro x v r
    refine RV.rec (motive_1 := fun x v _ => D.closed φ.length x = true) (motive_2 := fun x v _ => D.closeds φ.length x = true) ?_ ?_ ?_ ?_ ?_ ?_ ?_ ?_ ?_ ?_ r
    · simp [D.closed]
    · intro b; simp [D.closed]
    · intro b; simp [D.closed]
    · intro _ _; simp [D.closed]
    · intro _ _ _ _ _ h; simpa [D.closed] using h
    · intro _ _ _ _ _ _ _ h; simpa [D.closed] using h
    · intro c a e; simpa [D.closed] using (List.getElem?_eq_some_iff.mp e).1
    · intro _ _ _; simp [D.closed]
    · simp [D.closeds]
    · intro _ _ _ _ _ _ h1 h2; simp [D.closeds, h1, h2]
  have cls : ∀ {x : List PV} {v : List V}, RVs K φ Z H x v → D.closeds φ.length x = true := by
    intro x v r
    induction x generalizing v with
    | nil => simp [D.closeds]
    | cons y ys ih => cases r with | cons r t => simp only [D.closeds, Bool.and_eq_true]; exact ⟨cl r, ih t⟩
  refine ⟨by rw [h.len]; exact Nat.le_refl _, fun c o hc e => ?_⟩
  obtain ⟨a, ea⟩ : ∃ a, φ[c]? = some a := ⟨_, List.getElem?_eq_getElem hc⟩
  obtain ⟨xs, vs, rfl, e1, rs⟩ := ob_lst h ea e
  simpa [D.clO] using cls rs
/-- back at the caller -/
theorem fin_ok {keep : Bool} {o : D.Out} {Q : VK} (hl : φ.length = η.length) (w : WP (rV K Z) ct K Z φ H (D.fin η.length keep o) Q E) (ok : D.okO η.length η.length o) :
    WPS ct K Z φ H o { nx := fun _ H' => Q .non H', rt := Q } (fun cls d _ H' => E cls d H') := by
  rw [← hl] at w ok
  cases o with
  | next ρ1 η1 => exact fun φ' σ' H' x st => w φ .non H' x.drop (st.hr.drop x.pre ok) .non
  | brk => exact w.elim
  | cnt => exact w.elim
  | exc c fs ρ1 η1 =>
    simp only [D.fin] at w
    split at w
    · rename_i hc
      obtain ⟨C, ns, e, f⟩ := w
      exact ⟨C, ns, e, fun φ' σ' H' d vs x st r hd => f φ H' d vs x.drop (st.hr.drop x.pre ok) (r.shut x.pre hc) hd⟩
    · exact w.elim
  | err => exact w.elim
  | ret v η1 =>
    intro φ' u H' x h r
    have hd := h.drop x.pre ok
    simp only [D.fin] at w
    have simple : ∀ {y : PV}, D.finV φ.length keep η1 v = .ok y (η1.take φ.length) → RV K φ Z H' y u → Q u H' := by
      intro y e ry
      rw [e] at w
      exact w φ u H' x.drop hd ry
    cases r with
    | non => exact simple rfl .non
    | bl b => exact simple rfl (.bl b)
    | int b => exact simple rfl (.int b)
    | str b => exact simple rfl (.str b)
    | scr b => exact simple rfl (.scr b)
    | tup ht hs =>
      simp only [D.finV] at w
      split at w
      · rename_i hc
        exact w φ _ H' x.drop hd (.tup ht (hs.shut x.pre hc))
      · exact w.elim
    | lst e1 h1 h2 hs =>
      simp only [D.finV] at w
      split at w
      · rename_i hc
        exact w φ _ H' x.drop hd (.lst e1 (fun m => h1 (x.pre.subset m)) h2 (hs.shut x.pre hc))
      · exact w.elim
    | @cell c a ec =>
      simp only [D.finV] at w
      split at w
      · rename_i hc
        exact w φ _ H' x.drop hd (.cell (take_get x.pre hc ec))
      · rename_i hc
        cases q : η1[c]? with
        | none => rw [q] at w; exact w.elim
        | some ob =>
          obtain ⟨xs, vs, rfl, e1, rs⟩ := ob_lst h ec q
          rw [q] at w
          simp only [D.finO] at w
          have na : a ∉ φ := fun m => by
            obtain ⟨i, hi, ei⟩ := List.mem_iff_getElem.mp m
            have e2 : φ'[i]? = some a := pre_get x.pre (by rw [List.getElem?_eq_getElem hi, ei])
            obtain ⟨g1, g2⟩ := List.getElem?_eq_some_iff.mp e2
            obtain ⟨g3, g4⟩ := List.getElem?_eq_some_iff.mp ec
            have := (List.getElem_inj h.nd).mp (g2.trans g4.symm)
            omega
          have nz : a ∉ Z := h.dis a (List.mem_of_getElem? ec)
          split at w
          · rename_i hcl
            have rs' := rs.shut x.pre hcl
            split at w
            · -- the caller's new cell
              have hn : H a = none := by
                cases eo : H a with
                | none => rfl
                | some o => exact absurd (List.mem_of_getElem? ec) (x.out a o eo na)
              have xe : Ext φ H (φ ++ [a]) H' := ⟨List.prefix_append _ _, x.keep, fun b o eb nb m => by
                rcases List.mem_append.mp m with m | m
                · exact nb m
                · rw [List.mem_singleton.mp m, hn] at eb; cases eb⟩
              have up : ∀ {y : PV} {v : V}, RV K φ' Z H' y v → D.closed φ.length y = true → RV K (φ ++ [a]) Z H' y v := by
                intro y v ry
                refine RV.rec (motive_1 := fun y v _ => D.closed φ.length y = true → RV K (φ ++ [a]) Z H' y v) (motive_2 := fun y v _ => D.closeds φ.length y = true → RVs K (φ ++ [a]) Z H' y v) ?_ ?_ ?_ ?_ ?_ ?_ ?_ ?_ ?_ ?_ ry
                · intro _; exact .non
                · intro b _; exact .bl b
                · intro b _; exact .int b
                · intro _ hk _; exact .str hk
                · intro _ _ _ ht _ ih hc; exact .tup ht (ih (by simpa [D.closed] using hc))
                · intro _ _ b eb h1 h2 _ ih hc
                  refine .lst eb (fun m => ?_) h2 (ih (by simpa [D.closed] using hc))
                  rcases List.mem_append.mp m with m | m
                  · exact h1 (x.pre.subset m)
                  · exact h1 (by rw [List.mem_singleton.mp m]; exact List.mem_of_getElem? ec)
                · intro d b eb hc
                  exact .cell (pre_get (List.prefix_append _ _) (take_get x.pre (by simpa [D.closed] using hc) eb))
                · intro _ _ e _; exact .scr e
                · intro _; exact .nil
                · intro _ _ _ _ _ _ ih1 ih2 hc
                  simp only [D.closeds, Bool.and_eq_true] at hc
                  exact .cons (ih1 hc.1) (ih2 hc.2)
              have ups : ∀ {y : List PV} {v : List V}, RVs K φ' Z H' y v → D.closeds φ.length y = true → RVs K (φ ++ [a]) Z H' y v := by
                intro y v ry hc
                induction y generalizing v with
                | nil => cases ry; exact .nil
                | cons z zs ih =>
                  cases ry with
                  | cons r t =>
                    simp only [D.closeds, Bool.and_eq_true] at hc
                    exact .cons (up r hc.1) (ih t hc.2)
              have lt : (η1.take φ.length).length = φ.length := hd.len.symm
              refine w (φ ++ [a]) _ H' xe ⟨by simp [lt], ?_, fun b hb => ?_, h.zin, fun d b o e3 e4 => ?_⟩ (.cell ?_)
              · rw [List.nodup_append]
                exact ⟨hd.nd, by simp, fun b hb b' hb' e => na (by rw [List.mem_singleton] at hb'; rw [← hb', ← e]; exact hb)⟩
              · rcases List.mem_append.mp hb with hb | hb
                · exact hd.dis b hb
                · rw [List.mem_singleton.mp hb]; exact nz
              · by_cases hdl : d < φ.length
                · rw [List.getElem?_append_left hdl] at e3
                  rw [List.getElem?_append_left (by rw [lt]; exact hdl), List.getElem?_take, if_pos hdl] at e4
                  have ob := h.ob d b o (pre_get x.pre e3) e4
                  have cl := ok.cl d o hdl e4
                  cases o with
                  | lst ys =>
                    obtain ⟨us, e5, r5⟩ := ob
                    exact ⟨us, e5, ups r5 (by simpa [D.clO] using cl)⟩
                  | dct => exact ob.elim
                · rw [List.getElem?_append_right (by omega)] at e3
                  rw [List.getElem?_append_right (by omega), lt] at e4
                  cases k : d - φ.length with
                  | zero =>
                    rw [k] at e3 e4
                    cases e3; cases e4
                    exact ⟨vs, e1, ups rs hcl⟩
                  | succ m => rw [k] at e3; cases e3
              · rw [List.getElem?_append_right (Nat.le_refl _), Nat.sub_self]; rfl
            · exact w φ _ H' x.drop hd (.lst e1 na nz rs')
          · exact w.elim
end
/-- what a def promises: to do as the evaluator, with calls k deep -/
def spD (ct : Ct) (K : Fg) (T : D.Tb) (k f : Nat) : Sp := fun vs H Q E => ∃ φ Z η xs, HR K φ Z η H ∧ RVs K φ Z H xs vs ∧ WP (rV K Z) ct K Z φ H (D.evD T k f xs η) Q E
/-- a def as the top has written it, and its text for the evaluator -/
def DefOk (M : Nm) (T : D.Tb) (K : Fg) (mg : Str → Option Value) (f : Nat) (x : Str) (fa : Addr) (fdt : FuncData) : Prop :=
  ∃ d y qual st N, T.fd f = some d ∧ mg x = some (.ref fa) ∧ Fun K y qual st fa fdt ∧ FnScope N (M.prm f) (defScope st) ∧ chkSs M N (defScope st) d.body (defBody st) = true ∧ d.ns = N.length ∧ d.np = (M.prm f).length ∧
    ∀ (s : Shared) (us : List Value), us.length = (M.prm f).length → BindsTo s fdt ⟨us, []⟩ ((M.prm f).zip us)
/-- the program, written down for the evaluator -/
structure Pg (M : Nm) (T : D.Tb) (K : Fg) (mg : Str → Option Value) : Prop where
  defs : ∀ f x, M.fnm f = some x → ∃ fa fdt, DefOk M T K mg f x fa fdt
  glb : ∀ g x p, M.gnm g = some x → T.gv g = some p → ∃ v u, mg x = some u ∧ RelV v u ∧ ∀ φ Z H η, HR K φ Z η H → RV K φ Z H p v
  bi : ∀ b, mg (biName b) = none
  ty : ∀ t, mg (tyName t : Str) = none
  isi : mg "isinstance" = none
  rng : mg "range" = none
  enm : mg "enumerate" = none
  zip : mg "zip" = none
section
variable {M : Nm} {T : D.Tb} {ct : Ct} {P : Program} {w : World} {K : Fg} {mg : Str → Option Value} {base : Heap}
theorem start_ok {φ Z : List Addr} {H : Hp} {η : D.Hp} {N : List Str} {xs : List PV} {vs : List V} {d : D.FD} (h : HR K φ Z η H) (r : RVs K φ Z H xs vs) (hl : xs.length = d.np) (h1 : d.ns = N.length) :
    StR K φ Z (xs.map some ++ List.replicate (d.ns - d.np) none) η (L2.start N vs) H := by
  have hlen := r.length
  refine ⟨h, ?_, fun i p e => ?_⟩
  · unfold L2.start
    rw [List.length_append, List.length_append, List.length_map, List.length_map, List.length_replicate, List.length_replicate, ← hlen, ← h1, ← hl]
  · unfold L2.start
    by_cases hi : i < xs.length
    · rw [List.getElem?_append_left (by simpa using hi), List.getElem?_map] at e
      obtain ⟨y, e1, e2⟩ := Option.map_eq_some_iff.mp e
      cases e2
      obtain ⟨v, e3, r3⟩ := r.get e1
      refine ⟨v, ?_, r3⟩
      rw [List.getElem?_append_left (by rw [List.length_map]; omega), List.getElem?_map, e3]
      rfl
    · rw [List.getElem?_append_right (by simpa using hi)] at e
      rw [List.getElem?_replicate] at e
      split at e <;> cases e
theorem all_fn (A : Pg M T K mg) : ∀ (kk : Nat) (f : Nat) (x : Str) (fa : Addr) (fdt : FuncData), DefOk M T K mg f x fa fdt → FnOk P w K mg base (L2.CX P w) kk fa fdt (M.prm f) (spD ct K T kk f) := by
  intro kk
  induction kk with
  | zero =>
    intro f x fa fdt ⟨d, y, qual, st, N, e1, e2, F, S, ck, h1, h2, hb⟩
    refine ⟨fun vs H Q E q => ?_, fun A outer s H args us vs Q E _ _ _ _ q => ?_⟩
    · obtain ⟨φ, Z, η, xs, _, _, w⟩ := q
      rw [D.evD] at w
      exact w.elim
    · obtain ⟨φ, Z, η, xs, _, _, w⟩ := q
      rw [D.evD] at w
      exact w.elim
  | succ kk ih =>
    intro f x fa fdt ⟨d, y, qual, st, N, e1, e2, F, S, ck, h1, h2, hb⟩
    refine F.okX S (fun vs H Q E q => ?_) fun cdv Ar outer s H vs Q E hr q => ?_
    · obtain ⟨φ, Z, η, xs, _, r, w⟩ := q
      rw [D.evD] at w
      simp only [e1] at w
      split at w
      · rename_i hl
        rw [← r.length, hl, h2]
      · exact w.elim
    · obtain ⟨φ, Z, η, xs, h, r, w1⟩ := q
      rw [D.evD] at w1
      simp only [e1] at w1
      split at w1
      · rename_i hl
        let C : D.Cfg := ⟨T.gv, D.evD T kk, η.length⟩
        have g : Gd M N C ct (cxOf (L2.CX P w) P w K mg base N qual (defScope st) fa cdv Ar outer s H E) := by
          refine ⟨rfl, S.nd, rfl, ?_, A.glb, A.bi, A.ty, A.isi, A.rng, A.enm, A.zip, fun f' x' hf' => ?_⟩
          · have := hr.un
            show (Ar.deeper (envOfC qual (defScope st) s.heap.objs.size fa cdv)).units + 70 < cLine
            omega
          · obtain ⟨fa', fd', D'⟩ := A.defs f' x' hf'
            have i4 := ih f' x' fa' fd' D'
            obtain ⟨d', y', q', st', N', _, i1, F', _, _, _, _, i3⟩ := D'
            exact ⟨kk, fa', fd', M.prm f', _, i4, hr, i1, F'.kp, fun s us _ hl => by simpa using i3 s us (by simpa using hl), fun φ Z η H xs vs Q E h r w => ⟨φ, Z, η, xs, h, r, w⟩⟩
        refine ⟨tS ct K Z (fun cls d _ H' => E cls d H') (D.evSs C d.body), ?_, ?_⟩
        · exact soSs d.body _ (defScope st) _ Z _ g rfl S.kind (fun _ _ => rfl) (takes_of (E := E) rfl rfl rfl rfl) (passes_of rfl) ck
        · refine ⟨φ, _, η, start_ok h r hl h1, fin_ok h.len w1 ?_⟩
          refine D.prSs (n := η.length) (m := η.length) (C := C) ⟨Nat.le_refl _, fun m f xs η' hm p => D.evD_okR T kk f xs m η.length η' hm p⟩ (Nat.le_refl _) d.body _ η ?_
          have := h.closed
          rw [h.len] at this
          exact this
      · exact w1.elim

/-- THE END: a law's row from the evaluator's answer -/
theorem end_of {l : PySem.W.OpenLaw} {n k f : Nat} {q : Program} {loose : List Str} {XP : (Str → Option Value) → Heap → Prop} {YP : World → Heap → Prop} {d : DefRec} {K : Params → PySem.W.Frag} {x : Str}
    (hn : l.most = some n) (hn2 : n ≤ sizeLine) (hdf : d.params.defaults = []) (hk : k ≤ 200) (hY : ∀ (w : World) (h : Heap), YP w h → (K w.params).In h) (hf : M.fnm f = some d.name) (hp : M.prm f = [x])
    (hs : ∀ ns : List Int, ns.length ≤ n → ∃ η, D.evD T k f [.scr ns] [] = .ok (.bl true) η)
    (F : ∀ (w : World) (mg : Str → Option Value) (fa : Addr) (h : Heap), (K w.params).In h → h.Ns mainGlobals mg → mg d.name = some (.ref fa) → Pg M T (K w.params) mg) :
    PySem.W.WalkO q loose XP YP l.row.toRowW d [] (fun f vs => PySem.call f vs) := by
  have hr : Room 200 callerA := ⟨rfl, by decide, by decide⟩
  refine L2.walk_of (n := n) (k := k) (x := x) (CX := fun w => L2.CX l.prog w) (sp := fun w => spD (fun _ => none) (K w.params) T k f) hn hn2 hdf (hr.mono hk) hY ?_ ?_ ?_
  · intro w mg fa h KX G hmg
    have A := F w mg fa h KX G hmg
    obtain ⟨fa0, fd, D0⟩ := A.defs f d.name hf
    have e0 := D0
    obtain ⟨_, _, _, _, _, _, e0, _, _, _, _, _, hb⟩ := e0
    rw [hmg] at e0
    cases e0
    refine ⟨fd, fun s u => ?_, fun base _ _ => ?_⟩
    · have := hb s [u] (by rw [hp]; rfl)
      rw [hp] at this
      exact this
    · have := all_fn (P := l.prog) (w := w) (base := base) (ct := fun _ => none) A k f d.name fa fd D0
      rw [hp] at this
      exact this
  · intro w H a ns hl hO hS
    have hq : SqF (K w.params) H a (ns.map V.int) := by
      rcases hS with (hS | ⟨o, hS⟩) | hS
      · rcases hO a with z | ⟨o, xs, z⟩
        · rw [z] at hS; cases hS
        · rw [z] at hS; cases hS
      · exact .inl ⟨o, hS⟩
      · exact .inr hS
    obtain ⟨η, e⟩ := hs ns hl
    refine ⟨[], [], [], [.scr ns], ⟨rfl, List.nodup_nil, fun _ h => (by cases h), fun _ h => (by cases h), fun c a o h => (by simp at h)⟩, .cons (.scr hq) .nil, ?_⟩
    rw [e]
    intro φ' v H' _ _ r
    cases r
    rfl
  · intro w H s e s' h
    obtain ⟨_, _, _, _, _, _, _, _, _, _, _, _, z⟩ := h
    exact z
end
end DS
end

section
set_option linter.all false
set_option Elab.async false
set_option maxRecDepth 100000
namespace D
/-- _law_stream -/
def streamFD : FD := ⟨1, 1, true,
  (.cons (.retF (.lst (.cons (.bi .list (.cons (.var 0) .nil)) (.cons (.con (.int 0)) (.cons (.con (.int 0)) .nil)))))
  .nil)⟩
def nextFD : FD := ⟨2, 5, false,
  (.cons (.ite (.cmp .eq (.idx (.var 0) (.con (.int 1))) (.con (.int 0)))
  (.cons (.asg 3 (.idx (.var 0) (.con (.int 2))))
  (.cons (.asg 4 (.bin .add (.con (.int 7)) (.var 3)))
  (.cons (.ite (.cmp .lt (.var 3) (.bi .len (.cons (.idx (.var 0) (.con (.int 0))) .nil)))
  (.cons (.asg 4 (.bi .abs (.cons (.idx (.idx (.var 0) (.con (.int 0))) (.var 3)) .nil)))
  .nil)
  .nil)
  (.cons (.ite (.cmp .lt (.var 4) (.bin .pow (.con (.int 10)) (.con (.int 18))))
  (.cons (.asg 4 (.bin .mod (.bi .int (.cons (.bin .add (.bin .add (.bin .mul (.var 4) (.con (.int 48271))) (.bin .mul (.var 3) (.con (.int 69621)))) (.con (.int 11))) .nil)) (.con (.int 2147483647))))
  (.cons (.asg 4 (.bin .add (.bin .mul (.bin .mod (.bi .int (.cons (.bin .add (.bin .mul (.var 4) (.con (.int 16807))) (.con (.int 13))) .nil)) (.con (.int 2147483647))) (.con (.int 65537))) (.var 4)))
  .nil))
  .nil)
  (.cons (.set (.var 0) (.con (.int 1)) (.var 4))
  (.cons (.set (.var 0) (.con (.int 2)) (.bin .add (.var 3) (.con (.int 1))))
  .nil))))))
  .nil)
  (.cons (.asg 2 (.bin .mod (.bi .int (.cons (.idx (.var 0) (.con (.int 1))) .nil)) (.var 1)))
  (.cons (.set (.var 0) (.con (.int 1)) (.bin .fdiv (.idx (.var 0) (.con (.int 1))) (.var 1)))
  (.cons (.ret (.var 2))
  .nil))))⟩
/-- a stream at c -/
def St (η : Hp) (c : Nat) : Prop := ∃ (ns : List Int) (v k : Int), η[c]? = some (.lst [.lst (ns.map .int), .int v, .int k]) ∧ 0 ≤ k ∧ ns.length ≤ 1000
/-- only the stream at c may have changed -/
structure Sb (c : Nat) (η η' : Hp) : Prop where
  st : St η' c
  len : η'.length = η.length
  oth : ∀ j, j ≠ c → η'[j]? = η[j]?
theorem Sb.refl {c : Nat} {η : Hp} (h : St η c) : Sb c η η := ⟨h, rfl, fun _ _ => rfl⟩
theorem Sb.trans {c : Nat} {η η' η'' : Hp} (h : Sb c η η') (k : Sb c η' η'') : Sb c η η'' := ⟨k.st, k.len.trans h.len, fun j hj => (k.oth j hj).trans (h.oth j hj)⟩
theorem St.lt {η : Hp} {c : Nat} (h : St η c) : c < η.length := by
  obtain ⟨_, _, _, e, _⟩ := h
  exact (List.getElem?_eq_some_iff.mp e).1
theorem take_self {η : Hp} {n : Nat} (h : η.length = n) : η.take n = η := by rw [← h]; exact List.take_length
theorem cap_small {i : Int} (h : i.natAbs < 18446744073709551616) : cap i = true := decide_eq_true h
@[simp] theorem ordOk_int (a b : Int) : ordOk (.int a) (.int b) = true := rfl
@[simp] theorem ltb_int (a b : Int) : ltb (.int a) (.int b) = decide (a < b) := rfl
@[simp] theorem flat_int' (n : Nat) (s : Int) : flat n (.int s) = true := flat_int n s
@[simp] theorem flat_str' (n : Nat) (s : List Nat) : flat n (.str s) = true := flat_str n s
@[simp] theorem flat_bl' (n : Nat) (s : Bool) : flat n (.bl s) = true := flat_bl n s
@[simp] theorem flat_non' (n : Nat) : flat n .non = true := flat_non n
theorem tail_ok (C : Cfg) (c : Nat) (m v kk : Int) (ns : List Int) (x2 x3 x4 : Option PV) (η : Hp) (e : η[c]? = some (.lst [.lst (ns.map .int), .int v, .int kk])) (h0 : 0 < m) (h1 : m < 1073741824) :
    evSs C (.cons (.asg 2 (.bin .mod (.bi .int (.cons (.idx (.var 0) (.con (.int 1))) .nil)) (.var 1)))
      (.cons (.set (.var 0) (.con (.int 1)) (.bin .fdiv (.idx (.var 0) (.con (.int 1))) (.var 1))) (.cons (.ret (.var 2)) .nil))) [some (.cell c), some (.int m), x2, x3, x4] η =
    .ret (.int (v.fmod m)) (η.set c (.lst [.lst (ns.map .int), .int (v.fdiv m), .int kk])) := by
  have hm : m ≠ 0 := by omega
  have hm2 : m.natAbs < 1073741824 := by omega
  simp [e, atI, ixN, hm, hm2, put, noCell]
/-- the stream's next cell -/
theorem fill_ok (C : Cfg) (c : Nat) (m v kk : Int) (ns : List Int) (x2 x3 x4 : Option PV) (η : Hp) (e : η[c]? = some (.lst [.lst (ns.map .int), .int v, .int kk])) (hk : 0 ≤ kk) (hn : ns.length ≤ 1000) :
    ∃ (y3 y4 : Option PV) (v' kk' : Int), evS C (.ite (.cmp .eq (.idx (.var 0) (.con (.int 1))) (.con (.int 0)))
  (.cons (.asg 3 (.idx (.var 0) (.con (.int 2))))
  (.cons (.asg 4 (.bin .add (.con (.int 7)) (.var 3)))
  (.cons (.ite (.cmp .lt (.var 3) (.bi .len (.cons (.idx (.var 0) (.con (.int 0))) .nil)))
  (.cons (.asg 4 (.bi .abs (.cons (.idx (.idx (.var 0) (.con (.int 0))) (.var 3)) .nil)))
  .nil)
  .nil)
  (.cons (.ite (.cmp .lt (.var 4) (.bin .pow (.con (.int 10)) (.con (.int 18))))
  (.cons (.asg 4 (.bin .mod (.bi .int (.cons (.bin .add (.bin .add (.bin .mul (.var 4) (.con (.int 48271))) (.bin .mul (.var 3) (.con (.int 69621)))) (.con (.int 11))) .nil)) (.con (.int 2147483647))))
  (.cons (.asg 4 (.bin .add (.bin .mul (.bin .mod (.bi .int (.cons (.bin .add (.bin .mul (.var 4) (.con (.int 16807))) (.con (.int 13))) .nil)) (.con (.int 2147483647))) (.con (.int 65537))) (.var 4)))
  .nil))
  .nil)
  (.cons (.set (.var 0) (.con (.int 1)) (.var 4))
  (.cons (.set (.var 0) (.con (.int 2)) (.bin .add (.var 3) (.con (.int 1))))
  .nil))))))
  .nil) [some (.cell c), some (.int m), x2, x3, x4] η = .next [some (.cell c), some (.int m), x2, y3, y4] (η.set c (.lst [.lst (ns.map .int), .int v', .int kk'])) ∧ 0 ≤ kk' := by
  have hc := (List.getElem?_eq_some_iff.mp e).1
  have hc2 : c < C.n ∨ C.n ≤ c := by omega
  have hset : ∀ (o : Ob), (η.set c o)[c]? = some o := fun o => by rw [List.getElem?_set_self hc]
  by_cases hv : v = 0
  · by_cases hl : kk < ns.length
    · have hlt : kk.toNat < ns.length := by omega
      by_cases h18 : (if ns[kk.toNat] < 0 then -ns[kk.toNat] else ns[kk.toNat]) < 1000000000000000000
      · simp [e, atI, ixN, hv, hk, hl, put, noCell, cap, h18, hset]
        exact ⟨_, _, _, _, ⟨⟨rfl, rfl⟩, rfl⟩, by omega⟩
      · simp [e, atI, ixN, hv, hk, hl, put, noCell, cap, h18, hset]
        exact ⟨_, _, _, _, ⟨⟨rfl, rfl⟩, rfl⟩, by omega⟩
    · by_cases h18 : 7 + kk < 1000000000000000000
      · simp [e, atI, ixN, hv, hk, hl, put, noCell, cap, h18, hset]
        exact ⟨_, _, _, _, ⟨⟨rfl, rfl⟩, rfl⟩, by omega⟩
      · simp [e, atI, ixN, hv, hk, hl, put, noCell, cap, h18, hset]
        exact ⟨_, _, _, _, ⟨⟨rfl, rfl⟩, rfl⟩, by omega⟩
  · refine ⟨x3, x4, v, kk, ?_, hk⟩
    have hs : η.set c (.lst [.lst (ns.map .int), .int v, .int kk]) = η := by
      apply List.ext_getElem?
      intro j
      by_cases hj : c = j
      · subst hj; rw [hset, e]
      · rw [List.getElem?_set_ne hj]
    rw [hs]
    simp [e, atI, ixN, hv]
theorem next_ok (T : Tb) (f k c : Nat) (m : Int) (η : Hp) (hf : T.fd f = some nextFD) (hs : St η c) (h0 : 0 < m) (h1 : m < 1073741824) :
    ∃ d η', evD T (k + 1) f [.cell c, .int m] η = .ok (.int d) η' ∧ 0 ≤ d ∧ d < m ∧ Sb c η η' := by
  obtain ⟨ns, v, kk, e, hk, hn⟩ := hs
  have hc := (List.getElem?_eq_some_iff.mp e).1
  rw [evD_succ nextFD hf rfl]
  obtain ⟨y3, y4, v', kk', e1, hk'⟩ := fill_ok ⟨T.gv, evD T k, η.length⟩ c m v kk ns none none none η e hk hn
  have e2 : (η.set c (.lst [.lst (ns.map .int), .int v', .int kk']))[c]? = some (.lst [.lst (ns.map .int), .int v', .int kk']) := by rw [List.getElem?_set_self hc]
  have e3 := tail_ok ⟨T.gv, evD T k, η.length⟩ c m v' kk' ns none y3 y4 _ e2 h0 h1
  refine ⟨v'.fmod m, η.set c (.lst [.lst (ns.map .int), .int (v'.fdiv m), .int kk']), ?_, Int.fmod_nonneg_of_pos _ h0, Int.fmod_lt_of_pos _ h0, ⟨ns, v'.fdiv m, kk', ?_, hk', hn⟩, by simp, fun j hj => by rw [List.getElem?_set_ne (Ne.symm hj)]⟩
  · show fin η.length false (evSs _ (.cons _ _) [some (.cell c), some (.int m), none, none, none] η) = _
    rw [evSs, e1, then_next, e3]
    simp
    exact List.take_of_length_le (by simp)
  · rw [List.getElem?_set_self hc]

theorem stream_ok (T : Tb) (f k : Nat) (ns : List Int) (η : Hp) (hf : T.fd f = some streamFD) :
    evD T (k + 1) f [.scr ns] η = .ok (.cell η.length) (η ++ [.lst [.lst (ns.map .int), .int 0, .int 0]]) := by
  rw [evD_succ streamFD hf rfl]
  simp [streamFD, closeds, closed, closeds_all, line]
theorem stream_st (ns : List Int) (η : Hp) (h : ns.length ≤ 1000) : St (η ++ [.lst [.lst (ns.map .int), .int 0, .int 0]]) η.length :=
  ⟨ns, 0, 0, by simp, Int.le_refl _, h⟩
/-- a datum comes back as it is -/
theorem fin_data {n : Nat} {keep : Bool} {v : PV} {η : Hp} (h : noCell v = true) : fin n keep (.ret v η) = .ok v (η.take n) := by
  have h2 := closed_of n v h
  cases v <;> simp_all [fin, finV, closed, noCell]
/-- rows that are drawn from -/
def Rows (η : Hp) (c : Nat) (r : PV) (xs : List PV) : Prop := r = .lst xs ∨ r = .tup xs ∨ ∃ d, r = .cell d ∧ d ≠ c ∧ η[d]? = some (.lst xs)
def pickFD (n : Nat) : FD := ⟨2, 2, false,
  (.cons (.ret (.idx (.var 1) (.call n (.cons (.var 0) (.cons (.bi .len (.cons (.var 1) .nil)) .nil)))))
  .nil)⟩
theorem atI_nat {α : Type} (xs : List α) (d : Int) (h0 : 0 ≤ d) (h1 : d < xs.length) : atI xs d = some (xs[d.toNat]'(by omega)) := by
  unfold atI ixN
  rw [if_pos h0, if_pos h1]
  show xs[d.toNat]? = _
  rw [List.getElem?_eq_getElem]
theorem pick_ok (T : Tb) (f n k c : Nat) (r : PV) (xs : List PV) (η : Hp) (hf : T.fd f = some (pickFD n)) (hn : T.fd n = some nextFD) (hs : St η c) (hr : Rows η c r xs) (h0 : 0 < xs.length) (h1 : xs.length < 1073741824) (hx : ∀ x ∈ xs, noCell x = true) :
    ∃ y η', evD T (k + 2) f [.cell c, r] η = .ok y η' ∧ y ∈ xs ∧ Sb c η η' := by
  obtain ⟨d, η', e, d0, d1, sb⟩ := next_ok T n k c xs.length η hn hs (by omega) (by omega)
  have hd : d.toNat < xs.length := by omega
  refine ⟨xs[d.toNat], η', ?_, List.getElem_mem hd, sb⟩
  rw [evD_succ (pickFD n) hf rfl]
  have hy := hx _ (List.getElem_mem hd)
  have lv : lenV η [r] = some (.int xs.length) := by
    rcases hr with rfl | rfl | ⟨q, rfl, _, e2⟩
    · rfl
    · rfl
    · simp [e2]
  have iv : idxV η' r (.int d) = some xs[d.toNat] := by
    rcases hr with rfl | rfl | ⟨q, rfl, hq, e2⟩
    · simp [atI_nat xs d d0 d1]
    · simp [atI_nat xs d d0 d1]
    · have e3 : η'[q]? = some (.lst xs) := by rw [sb.oth q hq]; exact e2
      simp [e3, atI_nat xs d d0 d1]
  have ev : evSs ⟨T.gv, evD T (k + 1), η.length⟩ (pickFD n).body [some (.cell c), some r] η = .ret xs[d.toNat] η' := by
    simp [pickFD, biV, lv, e, iv]
  show fin _ _ (evSs _ _ ([some (.cell c), some r] ++ []) η) = _
  rw [List.append_nil, ev, fin_data hy, take_self sb.len]
@[simp] theorem isNon_non (k : Bool) : isNon k .non = .bl k := rfl
@[simp] theorem isNon_bl (k b : Bool) : isNon k (.bl b) = .bl (!k) := rfl
@[simp] theorem isNon_int (k : Bool) (b : Int) : isNon k (.int b) = .bl (!k) := rfl
@[simp] theorem isNon_str (k : Bool) (b : List Nat) : isNon k (.str b) = .bl (!k) := rfl
@[simp] theorem isNon_tup (k : Bool) (b : List PV) : isNon k (.tup b) = .bl (!k) := rfl
@[simp] theorem isNon_lst (k : Bool) (b : List PV) : isNon k (.lst b) = .bl (!k) := rfl
@[simp] theorem isNon_cell (k : Bool) (b : Nat) : isNon k (.cell b) = .bl (!k) := rfl
@[simp] theorem isNon_scr (k : Bool) (b : List Int) : isNon k (.scr b) = .bl (!k) := rfl

def isintFD : FD := ⟨1, 1, false,
  (.cons (.ret (.bop true (.cons (.isi (.var 0) .int) (.cons (.not (.isi (.var 0) .bool)) .nil))))
  .nil)⟩
def equalFD (i s : Nat) : FD := ⟨2, 3, false,
  (.cons (.ite (.isN true (.var 1))
  (.cons (.ret (.isN true (.var 0)))
  .nil)
  .nil)
  (.cons (.ite (.isi (.var 1) .bool)
  (.cons (.ret (.bop true (.cons (.isi (.var 0) .bool) (.cons (.cmp .eq (.var 0) (.var 1)) .nil))))
  .nil)
  .nil)
  (.cons (.ite (.isi (.var 1) .int)
  (.cons (.ret (.bop true (.cons (.call i (.cons (.var 0) .nil)) (.cons (.cmp .eq (.var 0) (.var 1)) .nil))))
  .nil)
  .nil)
  (.cons (.ite (.isi (.var 1) .str)
  (.cons (.ret (.bop true (.cons (.isi (.var 0) .str) (.cons (.cmp .eq (.var 0) (.var 1)) .nil))))
  .nil)
  .nil)
  (.cons (.ite (.bop true (.cons (.isi (.var 1) .tuple) (.cons (.not (.isi (.var 0) .tuple)) .nil)))
  (.cons (.ret (.con (.bl false)))
  .nil)
  .nil)
  (.cons (.ite (.bop true (.cons (.isi (.var 1) .list) (.cons (.not (.isi (.var 0) .list)) .nil)))
  (.cons (.ret (.con (.bl false)))
  .nil)
  .nil)
  (.cons (.ite (.cmp .ne (.bi .len (.cons (.var 0) .nil)) (.bi .len (.cons (.var 1) .nil)))
  (.cons (.ret (.con (.bl false)))
  .nil)
  .nil)
  (.cons (.ret (.bi .all (.cons (.fz (.lc (.call s (.cons (.idx (.var 0) (.var 2)) (.cons (.idx (.var 1) (.var 2)) .nil))) (.nm 2) (.rng (.cons (.bi .len (.cons (.var 1) .nil)) .nil)) .nil [2])) .nil)))
  .nil))))))))⟩
theorem isint_ok (T : Tb) (f k : Nat) (i : Int) (η : Hp) (hf : T.fd f = some isintFD) : evD T (k + 1) f [.int i] η = .ok (.bl true) η := by
  rw [evD_succ isintFD hf rfl]
  simp [isintFD]
theorem lcG_const {α : Type} {f : α → Hp → Res (Option PV)} {η : Hp} {v : PV} {xs : List α} (h : ∀ x ∈ xs, f x η = .ok (some v) η) : lcG none f xs η = .ok (List.replicate xs.length v) η := by
  rw [lcG_mem (fun _ => some v) xs h, filterMap_some, List.map_const']
theorem rangeL_len (i j : Int) : (rangeL i j).length = (j - i).toNat := by simp [rangeL]
theorem mem_rangeL {i j : Int} {x : PV} (h : x ∈ rangeL i j) : ∃ k : Int, x = .int k ∧ i ≤ k ∧ k < j := by
  obtain ⟨k, hk, rfl⟩ := List.mem_map.mp h
  have := List.mem_range.mp hk
  exact ⟨_, rfl, by omega, by omega⟩
theorem bools_rep (n : Nat) (b : Bool) : bools (List.replicate n (.bl b)) = some (List.replicate n b) := by
  induction n with
  | zero => rfl
  | succ n ih => simp [List.replicate_succ, bools, ih]
/-- at most m items everywhere -/
def slim (m : Nat) : Nat → PV → Bool
  | 0, .tup xs => xs.isEmpty
  | 0, .lst xs => xs.isEmpty
  | n + 1, .tup xs => decide (xs.length ≤ m) && xs.all (slim m n)
  | n + 1, .lst xs => decide (xs.length ≤ m) && xs.all (slim m n)
  | _, _ => true
theorem allL_rep (n : Nat) : allL (List.replicate n (.bl true)) = some (.bl true) := by
  simp [allL, bools_rep]
/-- _law_equal of a datum and itself -/
theorem equal_same (T : Tb) (f i : Nat) (hf : T.fd f = some (equalFD i f)) (hi : T.fd i = some isintFD) : ∀ (n k : Nat) (v : PV) (η : Hp), n ≤ 40 → flat n v = true → slim 1000000 n v = true → evD T (k + n + 2) f [v, v] η = .ok (.bl true) η := by
  intro n
  induction n with
  | zero =>
    intro k v η hn hv hs
    rw [show k + 0 + 2 = (k + 1) + 1 from rfl, evD_succ (equalFD i f) hf rfl]
    cases v with
    | non => simp [equalFD]
    | bl b => simp [equalFD, eqv]
    | int j => simp [equalFD, isint_ok T i k j _ hi]
    | str s => simp [equalFD]
    | _ => simp [flat] at hv
  | succ n ih =>
    intro k v η hn hv hs
    rw [show k + (n + 1) + 2 = (k + n + 2) + 1 from by omega, evD_succ (equalFD i f) hf rfl]
    have one : ∀ (xs : List PV), (∀ x ∈ xs, flat n x = true) → (∀ x ∈ xs, slim 1000000 n x = true) → ∀ y ∈ rangeL 0 xs.length, ∃ z, evD T (k + n + 2) f [z, z] η = .ok (.bl true) η ∧ ∃ j, y = .int j ∧ atI xs j = some z := by
      intro xs h1 h2 y hy
      obtain ⟨j, rfl, hj0, hj1⟩ := mem_rangeL hy
      have hm : xs[j.toNat]'(by omega) ∈ xs := List.getElem_mem _
      exact ⟨_, ih k _ η (by omega) (h1 _ hm) (h2 _ hm), j, rfl, atI_nat xs j hj0 hj1⟩
    cases v with
    | non => simp [equalFD]
    | bl b => simp [equalFD, eqv]
    | int j => simp [equalFD, isint_ok T i (k + n + 1) j _ hi]
    | str s => simp [equalFD]
    | cell => simp [flat] at hv
    | scr => simp [flat] at hv
    | tup xs =>
      simp only [flat, List.all_eq_true] at hv
      simp only [slim, Bool.and_eq_true, decide_eq_true_eq, List.all_eq_true] at hs
      have hsm : small (xs.length : Int) = true := by simp [small]; omega
      have hln : (rangeL 0 (xs.length : Int)).length < line := by rw [rangeL_len]; simp [line]; omega
      simp [equalFD, eqv, hsm, hln]
      rw [lcG_const (v := .bl true)]
      · simp [one_s1, lstO, allL_rep]
      · intro y hy
        obtain ⟨z, h1, j, rfl, h2⟩ := one xs hv hs.2 y hy
        simp [h2, h1]
    | lst xs =>
      simp only [flat, List.all_eq_true] at hv
      simp only [slim, Bool.and_eq_true, decide_eq_true_eq, List.all_eq_true] at hs
      have hsm : small (xs.length : Int) = true := by simp [small]; omega
      have hln : (rangeL 0 (xs.length : Int)).length < line := by rw [rangeL_len]; simp [line]; omega
      simp [equalFD, eqv, hsm, hln]
      rw [lcG_const (v := .bl true)]
      · simp [one_s1, lstO, allL_rep]
      · intro y hy
        obtain ⟨z, h1, j, rfl, h2⟩ := one xs hv hs.2 y hy
        simp [h2, h1]

@[simp] theorem rcv_join (η : Hp) (s : List Nat) : rcv η .join (.str s) = true := rfl
@[simp] theorem rcv_starts (η : Hp) (s : List Nat) : rcv η .starts (.str s) = true := rfl
@[simp] theorem rcv_index (η : Hp) (s : List PV) : rcv η .index (.lst s) = true := rfl
@[simp] theorem rcv_append (η : Hp) (c : Nat) : rcv η .append (.cell c) = rcvO .append η[c]? := rfl
@[simp] theorem rcv_extend (η : Hp) (c : Nat) : rcv η .extend (.cell c) = rcvO .extend η[c]? := rfl
@[simp] theorem rcv_pop (η : Hp) (c : Nat) : rcv η .pop (.cell c) = rcvO .pop η[c]? := rfl
@[simp] theorem rcv_popAt (η : Hp) (c : Nat) : rcv η .popAt (.cell c) = rcvO .popAt η[c]? := rfl
@[simp] theorem rcv_indexC (η : Hp) (c : Nat) : rcv η .index (.cell c) = rcvO .index η[c]? := rfl
@[simp] theorem rcvO_append (xs : List PV) : rcvO .append (some (.lst xs)) = true := rfl
@[simp] theorem rcvO_extend (xs : List PV) : rcvO .extend (some (.lst xs)) = true := rfl
@[simp] theorem rcvO_pop (xs : List PV) : rcvO .pop (some (.lst xs)) = true := rfl
@[simp] theorem rcvO_popAt (xs : List PV) : rcvO .popAt (some (.lst xs)) = true := rfl
@[simp] theorem rcvO_index (xs : List PV) : rcvO .index (some (.lst xs)) = true := rfl
theorem lcG_sb {α : Type} {f : α → Hp → Res (Option PV)} {c : Nat} {η0 : Hp} {P : PV → Prop} : ∀ {xs : List α}, (∀ x ∈ xs, ∀ η, Sb c η0 η → ∃ y η', f x η = .ok (some y) η' ∧ P y ∧ Sb c η η') → ∀ η, Sb c η0 η →
    ∃ ys η', lcG none f xs η = .ok ys η' ∧ ys.length = xs.length ∧ (∀ y ∈ ys, P y) ∧ Sb c η η'
  | [], _, η, hs => ⟨[], η, by simp [lcG], rfl, fun y hy => (by cases hy), .refl hs.st⟩
  | x :: xs, h, η, hs => by
    obtain ⟨y, η1, e1, p1, s1⟩ := h x List.mem_cons_self η hs
    obtain ⟨ys, η2, e2, l2, p2, s2⟩ := lcG_sb (fun z hz => h z (List.mem_cons_of_mem _ hz)) η1 (hs.trans s1)
    refine ⟨y :: ys, η2, by simp [lcG, e1, e2], by simp [l2], fun z hz => ?_, s1.trans s2⟩
    rcases List.mem_cons.mp hz with rfl | hz
    · exact p1
    · exact p2 z hz
theorem forL_run {α : Type} {f : α → Env → Hp → Out} {n : Nat} {I : Nat → Env → Hp → Prop} : ∀ {xs : List α} {i : Nat}, i + xs.length ≤ n → (∀ x ∈ xs, ∀ i ρ η, i < n → I i ρ η → ∃ ρ' η', f x ρ η = .next ρ' η' ∧ I (i + 1) ρ' η') → ∀ ρ η, I i ρ η →
    ∃ ρ' η', forL none f xs ρ η = .next ρ' η' ∧ I (i + xs.length) ρ' η'
  | [], i, _, _, ρ, η, h => ⟨ρ, η, by simp [forL], h⟩
  | x :: xs, i, hn, hf, ρ, η, h => by
    rw [List.length_cons] at hn
    obtain ⟨ρ1, η1, e1, h1⟩ := hf x List.mem_cons_self i ρ η (by omega) h
    obtain ⟨ρ2, η2, e2, h2⟩ := forL_run (by omega) (fun z hz => hf z (List.mem_cons_of_mem _ hz)) ρ1 η1 h1
    refine ⟨ρ2, η2, by simp [forL, e1, e2], ?_⟩
    rw [List.length_cons, show i + (xs.length + 1) = i + 1 + xs.length by omega]
    exact h2
theorem abc_at (η : Hp) (d : Int) (h0 : 0 ≤ d) (h1 : d < 3) : idxV η (.str [97, 98, 99]) (.int d) = some (.str [97 + d.toNat]) := by
  have : d = 0 ∨ d = 1 ∨ d = 2 := by omega
  rcases this with rfl | rfl | rfl <;> rfl
theorem singles {m : Nat} : ∀ {ys : List PV}, (∀ y ∈ ys, ∃ a, y = .str [a] ∧ 97 ≤ a ∧ a < m) → ∃ as : List Nat, strsV ys = some (as.map fun a => [a]) ∧ as.length = ys.length ∧ ∀ a ∈ as, 97 ≤ a ∧ a < m
  | [], _ => ⟨[], rfl, rfl, fun a h => by cases h⟩
  | y :: ys, h => by
    obtain ⟨a, rfl, h1, h2⟩ := h y List.mem_cons_self
    obtain ⟨as, e, l, ha⟩ := singles fun z hz => h z (List.mem_cons_of_mem _ hz)
    refine ⟨a :: as, by simp [strsV, e], by simp [l], fun b hb => ?_⟩
    rcases List.mem_cons.mp hb with rfl | hb
    · exact ⟨h1, h2⟩
    · exact ha b hb
theorem joinS_singles : ∀ as : List Nat, joinS [] (as.map fun a => [a]) = as
  | [] => rfl
  | [a] => rfl
  | a :: b :: as => by
    have ih := joinS_singles (b :: as)
    show [a] ++ [] ++ joinS [] ((b :: as).map fun a => [a]) = a :: b :: as
    rw [ih]; rfl
theorem sum_singles (as : List Nat) : ((as.map fun a => [a]).map List.length).sum = as.length := by
  induction as with
  | nil => rfl
  | cons a as ih =>
    simp only [List.map_cons, List.sum_cons, ih, List.length_cons, List.length_nil]
    omega
def stringFD (n : Nat) : FD := ⟨4, 5, false,
  (.cons (.ret (.mth .join (.con (.str [])) (.cons (.fz (.lc (.idx (.con (.str [97, 98, 99])) (.call n (.cons (.var 0) (.cons (.var 3) .nil)))) (.nm 4) (.rng (.cons (.bin .add (.var 1) (.call n (.cons (.var 0) (.cons (.bin .add (.bin .sub (.var 2) (.var 1)) (.con (.int 1))) .nil)))) .nil)) .nil [4])) .nil)))
  .nil)⟩
theorem string_ok (T : Tb) (f n k c : Nat) (lo hi le : Int) (η : Hp) (hf : T.fd f = some (stringFD n)) (hn : T.fd n = some nextFD) (hs : St η c) (h0 : 0 ≤ lo) (h1 : lo ≤ hi) (h2 : hi ≤ 100000) (h3 : 1 ≤ le) (h4 : le ≤ 3) :
    ∃ w η', evD T (k + 2) f [.cell c, .int lo, .int hi, .int le] η = .ok (.str w) η' ∧ lo ≤ w.length ∧ (w.length : Int) ≤ hi ∧ (∀ a ∈ w, 97 ≤ a ∧ a < 97 + le.toNat) ∧ Sb c η η' := by
  rw [evD_succ (stringFD n) hf rfl]
  obtain ⟨d, η1, e1, d0, d1, s1⟩ := next_ok T n k c (hi - lo + 1) η hn hs (by omega) (by omega)
  have hrun := lcG_sb (f := fun (x : PV) η => ((evD T (k + 1) n [.cell c, .int le] η).bind fun y η2 => Res.opt (idxV η2 (.str [97, 98, 99]) y) η2).bind fun y η2 => Res.ok (some y) η2) (c := c) (η0 := η1) (P := fun y => ∃ a, y = .str [a] ∧ 97 ≤ a ∧ a < 97 + le.toNat) (xs := rangeL 0 (lo + d))
    (fun x hx η2 s2 => by
      obtain ⟨q, η3, e3, q0, q1, s3⟩ := next_ok T n k c le η2 hn s2.st (by omega) (by omega)
      refine ⟨.str [97 + q.toNat], η3, ?_, ⟨_, rfl, by omega, by omega⟩, s3⟩
      rw [e3]
      simp only [bind_ok]
      rw [abc_at η3 q q0 (by omega)]
      rfl) η1 (.refl s1.st)
  obtain ⟨ys, η2, e2, l2, p2, s2⟩ := hrun
  obtain ⟨as, e4, l4, p4⟩ := singles p2
  have hsm : small (lo + d) = true := by simp [small]; omega
  have hln : (rangeL 0 (lo + d)).length < line := by rw [rangeL_len]; simp [line]; omega
  rw [rangeL_len] at l2
  have hj : joinL [] (as.map fun a => [a]) = some (.str as) := by
    unfold joinL
    rw [sum_singles, joinS_singles, if_pos]
    simp [line]; omega
  refine ⟨as, η2, ?_, by omega, by omega, p4, s1.trans s2⟩
  simp [stringFD, e1, hsm, hln, e2, e4, hj]
  exact take_self (s1.trans s2).len

/-- a word that is drawn -/
structure Wrd (lo hi : Int) (w : List Nat) : Prop where
  lo : lo ≤ w.length
  hi : (w.length : Int) ≤ hi
  ab : ∀ a ∈ w, 97 ≤ a ∧ a < 100
def codeBody (string : Nat) : Ss :=
  (.cons (.asg 6 (.call string (.cons (.var 0) (.cons (.con (.int 1)) (.cons (.var 2) (.cons (.var 3) .nil))))))
  (.cons (.ex (.mth .extend (.var 4) (.cons (.ite (.cmp .notin (.var 6) (.var 4)) (.fz (.lst (.cons (.var 6) .nil))) (.fz (.lst .nil))) .nil)))
  .nil))
def codeFD (pick next string : Nat) : FD := ⟨3, 7, false,
  (.cons (.asg 3 (.call pick (.cons (.var 0) (.cons (.fz (.lst (.cons (.con (.int 2)) (.cons (.con (.int 2)) (.cons (.con (.int 3)) (.cons (.con (.int 1)) .nil)))))) .nil))))
  (.cons (.own 4 (.lst .nil))
  (.cons (.loop (.nm 5) (.rng (.cons (.call next (.cons (.var 0) (.cons (.bin .add (.var 1) (.con (.int 1))) .nil))) .nil)) (codeBody string))
  (.cons (.ret (.bi .tuple (.cons (.var 4) .nil)))
  .nil))))⟩
theorem St.app {η : Hp} {c : Nat} {o : Ob} (h : St η c) : St (η ++ [o]) c := by
  have hl := h.lt
  obtain ⟨ns, v, k, e, r⟩ := h
  exact ⟨ns, v, k, by rw [List.getElem?_append_left hl]; exact e, r⟩
theorem St.set {η : Hp} {c d : Nat} {o : Ob} (h : St η c) (hd : d ≠ c) : St (η.set d o) c := by
  obtain ⟨ns, v, k, e, r⟩ := h
  exact ⟨ns, v, k, by rw [List.getElem?_set_ne hd]; exact e, r⟩
theorem any_str (ws : List (List Nat)) (w : List Nat) : ((ws.map PV.str).any fun z => eqv z (.str w)) = decide (w ∈ ws) := by
  rw [Bool.eq_iff_iff, List.any_eq_true, decide_eq_true_eq]
  constructor
  · rintro ⟨z, hz, h⟩
    obtain ⟨u, hu, rfl⟩ := List.mem_map.mp hz
    rw [eqv_str, beq_iff_eq] at h
    exact h ▸ hu
  · intro h
    exact ⟨_, List.mem_map.mpr ⟨w, h, rfl⟩, by simp⟩
theorem all_flat_str (n : Nat) (ws : List (List Nat)) : (ws.map PV.str).all (flat n) = true := by
  rw [List.all_eq_true]
  intro z hz
  obtain ⟨u, _, rfl⟩ := List.mem_map.mp hz
  simp
/-- a heap of the caller with one more cell, a list, only the stream changed -/
structure Hx (c : Nat) (η : Hp) (xs : List PV) (h : Hp) : Prop where
  at_ : h[η.length]? = some (.lst xs)
  len : h.length = η.length + 1
  st : St h c
  oth : ∀ j, j < η.length → j ≠ c → h[j]? = η[j]?
theorem Hx.sb {c : Nat} {η h h' : Hp} {xs : List PV} (x : Hx c η xs h) (hc : c < η.length) (s : Sb c h h') : Hx c η xs h' :=
  ⟨by rw [s.oth _ (by omega)]; exact x.at_, by rw [s.len]; exact x.len, s.st, fun j h1 h2 => by rw [s.oth j h2]; exact x.oth j h1 h2⟩
theorem Hx.set {c : Nat} {η h : Hp} {xs ys : List PV} (x : Hx c η xs h) (hc : c < η.length) : Hx c η ys (h.set η.length (.lst ys)) :=
  ⟨by rw [List.getElem?_set_self]; rw [x.len]; omega, by rw [List.length_set]; exact x.len, x.st.set (by omega), fun j h1 h2 => by rw [List.getElem?_set_ne (by omega)]; exact x.oth j h1 h2⟩
theorem Hx.take {c : Nat} {η h : Hp} {xs : List PV} (x : Hx c η xs h) (hc : c < η.length) : Sb c η (h.take η.length) := by
  refine ⟨?_, by rw [List.length_take, x.len]; omega, fun j hj => ?_⟩
  · obtain ⟨ns, v, k, e, r⟩ := x.st
    exact ⟨ns, v, k, by rw [List.getElem?_take, if_pos hc]; exact e, r⟩
  · rw [List.getElem?_take]
    split
    · exact x.oth j (by assumption) hj
    · rw [List.getElem?_eq_none (by omega)]
theorem Hx.new {c : Nat} {η h : Hp} {xs : List PV} (s : Sb c η h) : Hx c η xs (h ++ [.lst xs]) :=
  ⟨by rw [← s.len]; simp, by simp [s.len], s.st.app, fun j h1 h2 => by rw [List.getElem?_append_left (by rw [s.len]; exact h1)]; exact s.oth j h2⟩
theorem code_ok (T : Tb) (f p n t k c : Nat) (many most : Int) (η : Hp) (hf : T.fd f = some (codeFD p n t)) (hp : T.fd p = some (pickFD n)) (ht : T.fd t = some (stringFD n)) (hn : T.fd n = some nextFD) (hs : St η c) (h0 : 0 ≤ many) (h1 : many ≤ 1000) (h2 : 1 ≤ most) (h3 : most ≤ 1000) :
    ∃ (ws : List (List Nat)) (η' : Hp), evD T (k + 3) f [.cell c, .int many, .int most] η = .ok (.tup (ws.map .str)) η' ∧ (ws.length : Int) ≤ many ∧ ws.Nodup ∧ (∀ w ∈ ws, Wrd 1 most w) ∧ Sb c η η' := by
  rw [evD_succ (codeFD p n t) hf rfl]
  have hc := hs.lt
  obtain ⟨y, η1, e1, hy, s1⟩ := pick_ok T p n k c (.lst [.int 2, .int 2, .int 3, .int 1]) [.int 2, .int 2, .int 3, .int 1] η hp hn hs (.inl rfl) (by simp) (by simp) (by simp [noCell])
  obtain ⟨le, rfl, l1, l3⟩ : ∃ le : Int, y = .int le ∧ 1 ≤ le ∧ le ≤ 3 := by
    simp at hy
    rcases hy with rfl | rfl | rfl <;> exact ⟨_, rfl, by omega, by omega⟩
  have x1 : Hx c η [] (η1 ++ [.lst []]) := Hx.new s1
  obtain ⟨d, η2, e2, d0, d1, s2⟩ := next_ok T n (k + 1) c (many + 1) (η1 ++ [.lst []]) hn x1.st (by omega) (by omega)
  have x2 := x1.sb hc s2
  have hsm : small d = true := by simp [small]; omega
  have run := forL_run (f := fun (x : PV) ρ h => evSs ⟨T.gv, evD T (k + 2), η.length⟩ (codeBody t) (ρ.set 5 (some x)) h) (xs := rangeL 0 d) (i := 0) (n := 1000)
    (I := fun i ρ h => ∃ (y5 y6 : Option PV) (ws : List (List Nat)), ρ = [some (.cell c), some (.int many), some (.int most), some (.int le), some (.cell η.length), y5, y6] ∧ Hx c η (ws.map .str) h ∧ ws.length ≤ i ∧ ws.Nodup ∧ ∀ w ∈ ws, Wrd 1 most w)
    (by rw [rangeL_len]; omega)
    (fun x hx i ρ h hin hI => by
      obtain ⟨y5, y6, ws, rfl, xh, hl, nd, wd⟩ := hI
      obtain ⟨w, h2, ew, w1, w2, w3, sw⟩ := string_ok T t n k c 1 most le h ht hn xh.st (by omega) (by omega) (by omega) l1 l3
      have xh2 := xh.sb hc sw
      have hwd : Wrd 1 most w := ⟨w1, w2, fun a ha => by have := w3 a ha; omega⟩
      have b1 : ws.length ≤ 16777216 := by omega
      have b2 : ws.length + 1 ≤ 16777216 := by omega
      by_cases hm : w ∈ ws
      · have hno : ¬ ∀ x ∈ ws, ¬ x = w := fun h => h w hm rfl
        refine ⟨[some (.cell c), some (.int many), some (.int most), some (.int le), some (.cell η.length), some x, some (.str w)], h2.set η.length (.lst (ws.map .str ++ [])), ?_, some x, some (.str w), ws, rfl, ?_, by omega, nd, wd⟩
        · simp [codeBody, ew, xh2.at_, all_flat_str, hno, put, line, b1]
        · have := xh2.set (ys := ws.map .str ++ []) hc
          simpa using this
      · have hyes : ∀ x ∈ ws, ¬ x = w := fun x hx e => hm (e ▸ hx)
        refine ⟨[some (.cell c), some (.int many), some (.int most), some (.int le), some (.cell η.length), some x, some (.str w)], h2.set η.length (.lst (ws.map .str ++ [.str w])), ?_, some x, some (.str w), ws ++ [w], rfl, ?_, by simp; omega, ?_, fun u hu => ?_⟩
        · simp [codeBody, ew, xh2.at_, all_flat_str, put, line]
          rw [if_pos hyes]
          simp [b2]
        · have := xh2.set (ys := ws.map .str ++ [.str w]) hc
          simpa using this
        · rw [List.nodup_append]
          exact ⟨nd, by simp, fun a ha b hb e => hm (by rw [List.mem_singleton] at hb; rw [← hb, ← e]; exact ha)⟩
        · rcases List.mem_append.mp hu with hu | hu
          · exact wd u hu
          · rw [List.mem_singleton.mp hu]; exact hwd) [some (.cell c), some (.int many), some (.int most), some (.int le), some (.cell η.length), none, none] η2 ⟨none, none, [], rfl, x2, by simp, List.nodup_nil, by simp⟩
  obtain ⟨ρ', h', e3, y5, y6, ws, rfl, x3, l4, nd, wd⟩ := run
  rw [rangeL_len] at l4
  refine ⟨ws, h'.take η.length, ?_, by omega, nd, wd, x3.take hc⟩
  simp [codeFD, e1, line, e2, hsm, s1.len, e3, x3.at_]
  rw [closeds_all]
  simp [closed]

def Ends (C : Cfg) (ss : Ss) (ρ : Env) (η : Hp) (v : PV) : Prop := ∃ η', evSs C ss ρ η = .ret v η'
theorem Ends.step {C : Cfg} {s : S} {ss : Ss} {ρ ρ1 : Env} {η η1 : Hp} {v : PV} (h : evS C s ρ η = .next ρ1 η1) (k : Ends C ss ρ1 η1 v) : Ends C (.cons s ss) ρ η v := by
  obtain ⟨η', e⟩ := k
  exact ⟨η', by rw [evSs, h]; exact e⟩
theorem Ends.ret {C : Cfg} {s : S} {ss : Ss} {ρ : Env} {η η1 : Hp} {v : PV} (h : evS C s ρ η = .ret v η1) : Ends C (.cons s ss) ρ η v := ⟨η1, by rw [evSs, h]; rfl⟩
theorem Ends.run {T : Tb} {k f : Nat} {args : List PV} {d : FD} (hf : T.fd f = some d) (hl : args.length = d.np) {b : Bool} (h : Ends ⟨T.gv, evD T k, 0⟩ d.body (args.map some ++ List.replicate (d.ns - d.np) none) [] (.bl b)) :
    ∃ η, evD T (k + 1) f args [] = .ok (.bl b) η := by
  obtain ⟨η', e⟩ := h
  rw [evD_succ d hf hl]
  refine ⟨η'.take 0, ?_⟩
  show fin 0 d.keep (evSs ⟨T.gv, evD T k, 0⟩ d.body _ []) = _
  rw [e]
  rfl
end D
end

section
set_option linter.all false
set_option maxRecDepth 10000
namespace L
open D

/-- 0: is_number(value, low, high) -/
def f_is_number : FD := ⟨3, 3, false,
  (.cons (.ret (.bop true (.cons (.isi (.var 0) .int) (.cons (.not (.isi (.var 0) .bool)) (.cons (.chn .le .le (.var 1) (.var 0) (.var 2)) .nil)))))
  .nil)⟩
/-- 1: check_size(size) -/
def f_check_size : FD := ⟨1, 1, false,
  (.cons (.ite (.not (.call 0 (.cons (.var 0) (.cons (.con (.int 1)) (.cons (.glb 0) .nil)))))
  (.cons .nev
  .nil)
  .nil)
  .nil)⟩
/-- 2: check_counts(counts, count) -/
def f_check_counts : FD := ⟨1, 2, false,
  (.cons (.ite (.bop false (.cons (.not (.isi (.var 0) .tuple)) (.cons (.cmp .gt (.bi .len (.cons (.var 0) .nil)) (.glb 1)) .nil)))
  (.cons .nev
  .nil)
  .nil)
  (.cons (.ite (.not (.bi .all (.cons (.fz (.lc (.call 0 (.cons (.var 1) (.cons (.con (.int 0)) (.cons (.glb 2) .nil)))) (.nm 1) (.seq (.var 0)) .nil [1])) .nil)))
  (.cons .nev
  .nil)
  .nil)
  .nil))⟩
/-- 3: check_length(length) -/
def f_check_length : FD := ⟨1, 1, false,
  (.cons (.ite (.not (.call 0 (.cons (.var 0) (.cons (.con (.int 1)) (.cons (.glb 3) .nil)))))
  (.cons .nev
  .nil)
  .nil)
  .nil)⟩
/-- 4: moebius(number, found, prime) -/
def f_moebius : FD := ⟨1, 3, false,
  (.cons (.asg 1 (.con (.int 1)))
  (.cons (.loop (.nm 2) (.rng (.cons (.con (.int 2)) (.cons (.bin .add (.var 0) (.con (.int 1))) .nil)))
  (.cons (.ite (.cmp .eq (.bin .mod (.var 0) (.var 2)) (.con (.int 0)))
  (.cons (.asg 0 (.bin .fdiv (.var 0) (.var 2)))
  (.cons (.ite (.cmp .eq (.bin .mod (.var 0) (.var 2)) (.con (.int 0)))
  (.cons (.ret (.con (.int 0)))
  .nil)
  .nil)
  (.cons (.asg 1 (.neg (.var 1)))
  .nil)))
  .nil)
  .nil))
  (.cons (.ret (.var 1))
  .nil)))⟩
/-- 5: primitive_part(powers, length, divisors, d) -/
def f_primitive_part : FD := ⟨2, 4, false,
  (.cons (.asg 2 (.fz (.lc (.var 3) (.nm 3) (.rng (.cons (.con (.int 1)) (.cons (.bin .add (.var 1) (.con (.int 1))) .nil))) (.cons (.cmp .eq (.bin .mod (.var 1) (.var 3)) (.con (.int 0))) .nil) [3])))
  (.cons (.ret (.bin .fdiv (.bi .sum (.cons (.fz (.lc (.bin .mul (.call 4 (.cons (.var 3) .nil)) (.idx (.var 0) (.bin .fdiv (.var 1) (.var 3)))) (.nm 3) (.seq (.var 2)) .nil [3])) .nil)) (.var 1)))
  .nil))⟩
/-- 6: powers_of(size, most, powers, _) -/
def f_powers_of : FD := ⟨2, 4, false,
  (.cons (.own 2 (.lst (.cons (.con (.int 1)) .nil)))
  (.cons (.loop (.nm 3) (.rng (.cons (.var 1) .nil))
  (.cons (.ex (.mth .append (.var 2) (.cons (.bin .mul (.idx (.var 2) (.neg (.con (.int 1)))) (.var 0)) .nil)))
  .nil))
  (.cons (.ret (.var 2))
  .nil)))⟩
/-- 7: necklaces_of(size, length) -/
def f_necklaces_of : FD := ⟨2, 2, false,
  (.cons (.ret (.call 5 (.cons (.call 6 (.cons (.var 0) (.cons (.var 1) .nil))) (.cons (.var 1) .nil))))
  .nil)⟩
/-- 8: turns_of(counts, length, row, turns, n, i) -/
def f_turns_of : FD := ⟨2, 6, false,
  (.cons (.asg 2 (.bin .add (.var 0) (.bin .mul (.tup (.cons (.con (.int 0)) .nil)) (.var 1))))
  (.cons (.own 3 (.lst (.cons (.con (.int 0)) .nil)))
  (.cons (.loop (.nm 4) (.rng (.cons (.con (.int 1)) (.cons (.bin .add (.var 1) (.con (.int 1))) .nil)))
  (.cons (.ex (.mth .append (.var 3) (.cons (.bin .add (.bin .mul (.var 4) (.idx (.var 2) (.bin .sub (.var 4) (.con (.int 1))))) (.bi .sum (.cons (.fz (.lc (.bin .mul (.idx (.var 2) (.bin .sub (.var 5) (.con (.int 1)))) (.idx (.var 3) (.bin .sub (.var 4) (.var 5)))) (.nm 5) (.rng (.cons (.con (.int 1)) (.cons (.var 4) .nil))) .nil [5])) .nil))) .nil)))
  .nil))
  (.cons (.ret (.var 3))
  .nil))))⟩
/-- 9: word_necklaces_of(counts, length) -/
def f_word_necklaces_of : FD := ⟨2, 2, false,
  (.cons (.ret (.call 5 (.cons (.call 8 (.cons (.var 0) (.cons (.var 1) .nil))) (.cons (.var 1) .nil))))
  .nil)⟩
/-- 10: failing(size, counts, length) -/
def f_failing : FD := ⟨2, 3, false,
  (.cons (.loop (.nm 2) (.rng (.cons (.con (.int 1)) (.cons (.bin .add (.bi .len (.cons (.var 1) .nil)) (.con (.int 1))) .nil)))
  (.cons (.ite (.cmp .gt (.call 9 (.cons (.var 1) (.cons (.var 2) .nil))) (.call 7 (.cons (.var 0) (.cons (.var 2) .nil))))
  (.cons (.ret (.var 2))
  .nil)
  .nil)
  .nil))
  (.cons (.ret (.con .non))
  .nil))⟩
/-- 11: with_more(counts, length, many, row) -/
def f_with_more : FD := ⟨3, 4, false,
  (.cons (.asg 3 (.bin .add (.var 0) (.bin .mul (.tup (.cons (.con (.int 0)) .nil)) (.bin .sub (.var 1) (.bi .len (.cons (.var 0) .nil))))))
  (.cons (.ret (.bin .add (.bin .add (.slc (.var 3) .nil (.cons (.bin .sub (.var 1) (.con (.int 1))) .nil)) (.tup (.cons (.bin .add (.idx (.var 3) (.bin .sub (.var 1) (.con (.int 1)))) (.var 2)) .nil))) (.slc (.var 3) (.cons (.var 1) .nil) .nil)))
  .nil))⟩
/-- 12: more_of(size, counts, length, low, high, middle) -/
def f_more_of : FD := ⟨3, 6, false,
  (.cons (.asg 3 (.con (.int 0)))
  (.cons (.asg 4 (.bin .add (.call 7 (.cons (.var 0) (.cons (.var 2) .nil))) (.con (.int 1))))
  (.cons (.whl 100000000 (.cmp .gt (.bin .sub (.var 4) (.var 3)) (.con (.int 1)))
  (.cons (.asg 5 (.bin .fdiv (.bin .add (.var 3) (.var 4)) (.con (.int 2))))
  (.cons (.ite (.isN true (.call 10 (.cons (.var 0) (.cons (.call 11 (.cons (.var 1) (.cons (.var 2) (.cons (.var 5) .nil)))) .nil))))
  (.cons (.asg 3 (.var 5))
  .nil)
  (.cons (.asg 4 (.var 5))
  .nil))
  .nil)))
  (.cons (.ret (.var 3))
  .nil))))⟩
/-- 13: necklaces(size, length) -/
def f_necklaces : FD := ⟨2, 2, false,
  (.cons (.ex (.call 1 (.cons (.var 0) .nil)))
  (.cons (.ex (.call 3 (.cons (.var 1) .nil)))
  (.cons (.ret (.call 7 (.cons (.var 0) (.cons (.var 1) .nil))))
  .nil)))⟩
/-- 14: word_necklaces(counts, length) -/
def f_word_necklaces : FD := ⟨2, 2, false,
  (.cons (.ex (.call 2 (.cons (.var 0) .nil)))
  (.cons (.ex (.call 3 (.cons (.var 1) .nil)))
  (.cons (.ret (.call 9 (.cons (.var 0) (.cons (.var 1) .nil))))
  .nil)))⟩
/-- 15: check_both(size, counts) -/
def f_check_both : FD := ⟨2, 2, false,
  (.cons (.ex (.call 1 (.cons (.var 0) .nil)))
  (.cons (.ex (.call 2 (.cons (.var 1) .nil)))
  .nil))⟩
/-- 16: first_failing(size, counts) -/
def f_first_failing : FD := ⟨2, 2, false,
  (.cons (.ex (.call 15 (.cons (.var 0) (.cons (.var 1) .nil))))
  (.cons (.ret (.call 10 (.cons (.var 0) (.cons (.var 1) .nil))))
  .nil))⟩
/-- 17: more_words(size, counts, length) -/
def f_more_words : FD := ⟨3, 3, false,
  (.cons (.ex (.call 15 (.cons (.var 0) (.cons (.var 1) .nil))))
  (.cons (.ex (.call 3 (.cons (.var 2) .nil)))
  (.cons (.ret (.ite (.isN false (.call 10 (.cons (.var 0) (.cons (.var 1) .nil)))) (.con .non) (.call 12 (.cons (.var 0) (.cons (.var 1) (.cons (.var 2) .nil))))))
  .nil)))⟩
/-- 18: extended(size, counts, most) -/
def f_extended : FD := ⟨3, 3, false,
  (.cons (.ex (.call 15 (.cons (.var 0) (.cons (.var 1) .nil))))
  (.cons (.ite (.not (.call 0 (.cons (.var 2) (.cons (.bi .len (.cons (.var 1) .nil)) (.cons (.glb 3) .nil)))))
  (.cons .nev
  .nil)
  .nil)
  (.cons (.ite (.isN false (.call 10 (.cons (.var 0) (.cons (.var 1) .nil))))
  (.cons (.ret (.con .non))
  .nil)
  .nil)
  (.cons (.whl 100000000 (.cmp .lt (.bi .len (.cons (.var 1) .nil)) (.var 2))
  (.cons (.asg 1 (.bin .add (.var 1) (.tup (.cons (.call 12 (.cons (.var 0) (.cons (.var 1) (.cons (.bin .add (.bi .len (.cons (.var 1) .nil)) (.con (.int 1))) .nil)))) .nil))))
  .nil))
  (.cons (.ret (.var 1))
  .nil)))))⟩
/-- 19: _law_stream(_law_script) -/
def f_law_stream : FD := ⟨1, 1, true,
  (.cons (.retF (.lst (.cons (.bi .list (.cons (.var 0) .nil)) (.cons (.con (.int 0)) (.cons (.con (.int 0)) .nil)))))
  .nil)⟩
/-- 20: _law_next(_law_stream_here, _law_many, _law_digit, _law_k, _law_cell) -/
def f_law_next : FD := ⟨2, 5, false,
  (.cons (.ite (.cmp .eq (.idx (.var 0) (.con (.int 1))) (.con (.int 0)))
  (.cons (.asg 3 (.idx (.var 0) (.con (.int 2))))
  (.cons (.asg 4 (.bin .add (.con (.int 7)) (.var 3)))
  (.cons (.ite (.cmp .lt (.var 3) (.bi .len (.cons (.idx (.var 0) (.con (.int 0))) .nil)))
  (.cons (.asg 4 (.bi .abs (.cons (.idx (.idx (.var 0) (.con (.int 0))) (.var 3)) .nil)))
  .nil)
  .nil)
  (.cons (.ite (.cmp .lt (.var 4) (.bin .pow (.con (.int 10)) (.con (.int 18))))
  (.cons (.asg 4 (.bin .mod (.bi .int (.cons (.bin .add (.bin .add (.bin .mul (.var 4) (.con (.int 48271))) (.bin .mul (.var 3) (.con (.int 69621)))) (.con (.int 11))) .nil)) (.con (.int 2147483647))))
  (.cons (.asg 4 (.bin .add (.bin .mul (.bin .mod (.bi .int (.cons (.bin .add (.bin .mul (.var 4) (.con (.int 16807))) (.con (.int 13))) .nil)) (.con (.int 2147483647))) (.con (.int 65537))) (.var 4)))
  .nil))
  .nil)
  (.cons (.set (.var 0) (.con (.int 1)) (.var 4))
  (.cons (.set (.var 0) (.con (.int 2)) (.bin .add (.var 3) (.con (.int 1))))
  .nil))))))
  .nil)
  (.cons (.asg 2 (.bin .mod (.bi .int (.cons (.idx (.var 0) (.con (.int 1))) .nil)) (.var 1)))
  (.cons (.set (.var 0) (.con (.int 1)) (.bin .fdiv (.idx (.var 0) (.con (.int 1))) (.var 1)))
  (.cons (.ret (.var 2))
  .nil))))⟩
/-- 21: _law_is_integer(_law_actual) -/
def f_law_is_integer : FD := ⟨1, 1, false,
  (.cons (.ret (.bop true (.cons (.isi (.var 0) .int) (.cons (.not (.isi (.var 0) .bool)) .nil))))
  .nil)⟩
/-- 22: _law_more(_law_counts, _law_length, _law_many, _law_row) -/
def f_law_more : FD := ⟨3, 4, false,
  (.cons (.own 3 (.bin .add (.bi .list (.cons (.var 0) .nil)) (.bin .mul (.fz (.lst (.cons (.con (.int 0)) .nil))) (.bin .sub (.var 1) (.bi .len (.cons (.var 0) .nil))))))
  (.cons (.set (.var 3) (.bin .sub (.var 1) (.con (.int 1))) (.bin .add (.idx (.var 3) (.bin .sub (.var 1) (.con (.int 1)))) (.var 2)))
  (.cons (.ret (.bi .tuple (.cons (.var 3) .nil)))
  .nil)))⟩
/-- 23: _law_fails(_law_size, _law_counts, _law_n) -/
def f_law_fails : FD := ⟨2, 3, false,
  (.cons (.ret (.bi .any (.cons (.fz (.lc (.cmp .gt (.call 14 (.cons (.var 1) (.cons (.var 2) .nil))) (.call 13 (.cons (.var 0) (.cons (.var 2) .nil)))) (.nm 2) (.rng (.cons (.con (.int 1)) (.cons (.bin .add (.bi .len (.cons (.var 1) .nil)) (.con (.int 1))) .nil))) .nil [2])) .nil)))
  .nil)⟩
/-- 24: law(_law_script, _law_stream_here, _law_size, _law_counts, _law_length, _law_told, _law_most, _law_row, _law_at, _law_k) -/
def f_law : FD := ⟨1, 10, false,
  (.cons (.asg 1 (.call 19 (.cons (.var 0) .nil)))
  (.cons (.asg 2 (.bin .add (.con (.int 1)) (.call 20 (.cons (.var 1) (.cons (.con (.int 3)) .nil)))))
  (.cons (.asg 3 (.bi .tuple (.cons (.fz (.lc (.call 20 (.cons (.var 1) (.cons (.bin .add (.con (.int 2)) (.bi .int (.cons (.cmp .gt (.var 9) (.con (.int 0))) .nil))) .nil))) (.nm 9) (.rng (.cons (.call 20 (.cons (.var 1) (.cons (.con (.int 5)) .nil))) .nil)) .nil [9])) .nil)))
  (.cons (.asg 4 (.bin .add (.con (.int 1)) (.call 20 (.cons (.var 1) (.cons (.con (.int 8)) .nil)))))
  (.cons (.asg 5 (.call 17 (.cons (.var 2) (.cons (.var 3) (.cons (.var 4) .nil)))))
  (.cons (.asg 6 (.bin .add (.bi .len (.cons (.var 3) .nil)) (.call 20 (.cons (.var 1) (.cons (.con (.int 4)) .nil)))))
  (.cons (.asg 7 (.call 18 (.cons (.var 2) (.cons (.var 3) (.cons (.var 6) .nil)))))
  (.cons (.ite (.isN false (.call 16 (.cons (.var 2) (.cons (.var 3) .nil))))
  (.cons (.ret (.bop true (.cons (.isN true (.var 5)) (.cons (.isN true (.var 7)) .nil))))
  .nil)
  .nil)
  (.cons (.ite (.bop false (.cons (.not (.call 21 (.cons (.var 5) .nil))) (.cons (.cmp .lt (.var 5) (.con (.int 0))) (.cons (.not (.isi (.var 7) .tuple)) .nil))))
  (.cons (.ret (.con (.bl false)))
  .nil)
  .nil)
  (.cons (.ite (.bop false (.cons (.call 23 (.cons (.var 2) (.cons (.call 22 (.cons (.var 3) (.cons (.var 4) (.cons (.var 5) .nil)))) .nil))) (.cons (.not (.call 23 (.cons (.var 2) (.cons (.call 22 (.cons (.var 3) (.cons (.var 4) (.cons (.bin .add (.var 5) (.con (.int 1))) .nil)))) .nil)))) .nil)))
  (.cons (.ret (.con (.bl false)))
  .nil)
  .nil)
  (.cons (.ite (.bop false (.cons (.cmp .ne (.bi .len (.cons (.var 7) .nil)) (.var 6)) (.cons (.cmp .ne (.slc (.var 7) .nil (.cons (.bi .len (.cons (.var 3) .nil)) .nil)) (.var 3)) .nil)))
  (.cons (.ret (.con (.bl false)))
  .nil)
  .nil)
  (.cons (.loop (.nm 8) (.rng (.cons (.bi .len (.cons (.var 3) .nil)) (.cons (.var 6) .nil)))
  (.cons (.ite (.bop false (.cons (.cmp .ne (.idx (.var 7) (.var 8)) (.call 17 (.cons (.var 2) (.cons (.slc (.var 7) .nil (.cons (.var 8) .nil)) (.cons (.bin .add (.var 8) (.con (.int 1))) .nil))))) (.cons (.cmp .ne (.call 14 (.cons (.var 7) (.cons (.bin .add (.var 8) (.con (.int 1))) .nil))) (.call 13 (.cons (.var 2) (.cons (.bin .add (.var 8) (.con (.int 1))) .nil)))) .nil)))
  (.cons (.ret (.con (.bl false)))
  .nil)
  .nil)
  .nil))
  (.cons (.ret (.con (.bl true)))
  .nil)))))))))))))⟩

/-- the module's constants -/
def gv : Nat → Option PV
  | 0 => some (.int 3)
  | 1 => some (.int 8)
  | 2 => some (.int 1000)
  | 3 => some (.int 12)
  | _ => none
def fd : Nat → Option FD
  | 0 => some f_is_number
  | 1 => some f_check_size
  | 2 => some f_check_counts
  | 3 => some f_check_length
  | 4 => some f_moebius
  | 5 => some f_primitive_part
  | 6 => some f_powers_of
  | 7 => some f_necklaces_of
  | 8 => some f_turns_of
  | 9 => some f_word_necklaces_of
  | 10 => some f_failing
  | 11 => some f_with_more
  | 12 => some f_more_of
  | 13 => some f_necklaces
  | 14 => some f_word_necklaces
  | 15 => some f_check_both
  | 16 => some f_first_failing
  | 17 => some f_more_words
  | 18 => some f_extended
  | 19 => some f_law_stream
  | 20 => some f_law_next
  | 21 => some f_law_is_integer
  | 22 => some f_law_more
  | 23 => some f_law_fails
  | 24 => some f_law
  | _ => none
def T : Tb := ⟨gv, fd⟩
end L
end

section
set_option linter.all false
set_option Elab.async false
set_option maxRecDepth 100000
namespace M
open D

structure SS where
  ns : List Int
  v : Int
  k : Int
  hk : 0 ≤ k
  hn : ns.length ≤ 1000
def SS.ob (s : SS) : Ob := .lst [.lst (s.ns.map .int), .int s.v, .int s.k]
def scram (c k : Int) : Int :=
  if c < 10 ^ 18 then
    ((((c * 48271 + k * 69621 + 11).fmod 2147483647) * 16807 + 13).fmod 2147483647) * 65537 + (c * 48271 + k * 69621 + 11).fmod 2147483647
  else c
def SS.raw (s : SS) : Int := if h : s.k.toNat < s.ns.length then (if s.ns[s.k.toNat] < 0 then -s.ns[s.k.toNat] else s.ns[s.k.toNat]) else 7 + s.k
def SS.fill (s : SS) : SS := if s.v = 0 then ⟨s.ns, scram s.raw s.k, s.k + 1, by have := s.hk; omega, s.hn⟩ else s
def draw (s : SS) (m : Int) : Option (Int × SS) :=
  if 0 < m ∧ m < 1073741824 then some (s.fill.v.fmod m, ⟨s.ns, s.fill.v.fdiv m, s.fill.k, s.fill.hk, s.hn⟩) else none
theorem draw_some (s : SS) {m : Int} (h0 : 0 < m) (h1 : m < 1073741824) : ∃ d s', draw s m = some (d, s') ∧ 0 ≤ d ∧ d < m := by
  refine ⟨_, _, by rw [draw, if_pos ⟨h0, h1⟩], Int.fmod_nonneg_of_pos _ h0, Int.fmod_lt_of_pos _ h0⟩

inductive Sl where
  | any | val (v : PV) | own (xs : List PV) | dct (kvs : List (PV × PV)) | pin (c : Nat)
def isO : Sl → Bool
  | .own _ => true
  | .dct _ => true
  | .any => false
  | .val _ => false
  | .pin _ => false
abbrev Ctx := List Sl
def gt : Ctx → Nat → Sl
  | [], _ => .any
  | x :: _, 0 => x
  | _ :: xs, i + 1 => gt xs i
def st : Ctx → Nat → Sl → Ctx
  | [], _, _ => []
  | _ :: xs, 0, x => x :: xs
  | y :: xs, i + 1, x => y :: st xs i x
def sts : Ctx → List Nat → Ctx
  | Γ, [] => Γ
  | Γ, i :: is => st (sts Γ is) i .any
theorem st_len : ∀ (Γ : Ctx) (i : Nat) (x : Sl), (st Γ i x).length = Γ.length
  | [], _, _ => rfl
  | _ :: _, 0, _ => rfl
  | _ :: xs, i + 1, x => congrArg Nat.succ (st_len xs i x)
theorem gt_st_ne : ∀ (Γ : Ctx) (i j : Nat) (x : Sl), i ≠ j → gt (st Γ i x) j = gt Γ j
  | [], _, _, _, _ => rfl
  | _ :: _, 0, 0, _, h => absurd rfl h
  | _ :: _, 0, _ + 1, _, _ => rfl
  | _ :: _, _ + 1, 0, _, _ => rfl
  | _ :: xs, i + 1, j + 1, x, h => gt_st_ne xs i j x fun e => h (congrArg Nat.succ e)
theorem gt_st_eq : ∀ (Γ : Ctx) (i : Nat) (x : Sl), gt (st Γ i x) i = if i < Γ.length then x else .any
  | [], _, _ => rfl
  | _ :: _, 0, _ => by simp [st, gt]
  | _ :: xs, i + 1, x => by
    have := gt_st_eq xs i x
    simp only [st, gt, this, List.length_cons, Nat.add_lt_add_iff_right]
theorem gt_st {Γ : Ctx} {i j : Nat} {x y : Sl} (h : gt (st Γ i x) j = y) (hy : y ≠ .any) : (i = j ∧ i < Γ.length ∧ x = y) ∨ (i ≠ j ∧ gt Γ j = y) := by
  by_cases e : i = j
  · subst e
    rw [gt_st_eq] at h
    split at h
    · exact .inl ⟨rfl, by assumption, h⟩
    · exact absurd h.symm hy
  · rw [gt_st_ne Γ i j x e] at h
    exact .inr ⟨e, h⟩
/-- the stream: its cell, what it holds -/
abbrev Wd := Option (Nat × SS)
def nots (w : Wd) (j : Nat) : Prop := ∀ c s, w = some (c, s) → j ≠ c
theorem nots_none (j : Nat) : nots none j := fun _ _ h => by cases h
theorem nots_next {c : Nat} {s s' : SS} {j : Nat} (h : nots (some (c, s)) j) : nots (some (c, s')) j := fun d t e => by cases e; exact h _ _ rfl
/-- a value that is no cell of the def's own -/
abbrev Pr := Nat → Option Ob
def out (n : Nat) (w : Wd) (v : PV) : Prop := ∀ c, v = .cell c → c < n ∨ ¬ nots w c
structure Sat (n : Nat) (h0 : Pr) (w : Wd) (Γ : Ctx) (ρ : Env) (η : Hp) : Prop where
  ln : ρ.length = Γ.length
  hn : n ≤ η.length
  old : ∀ j o, h0 j = some o → η[j]? = some o
  stm : ∀ c s, w = some (c, s) → η[c]? = some s.ob ∧ h0 c = none
  val : ∀ i v, gt Γ i = .val v → ρ[i]? = some (some v)
  vo : ∀ i v, gt Γ i = .val v → out n w v
  own : ∀ i xs, gt Γ i = .own xs → ∃ c, ρ[i]? = some (some (.cell c)) ∧ (n ≤ c ∧ h0 c = none) ∧ nots w c ∧ η[c]? = some (.lst xs)
  dct : ∀ i xs, gt Γ i = .dct xs → ∃ c, ρ[i]? = some (some (.cell c)) ∧ (n ≤ c ∧ h0 c = none) ∧ nots w c ∧ η[c]? = some (.dct xs)
  pin : ∀ i c, gt Γ i = .pin c → ρ[i]? = some (some (.cell c))
  dis : ∀ i j c, isO (gt Γ i) = true → isO (gt Γ j) = true → i ≠ j → ρ[i]? = some (some (.cell c)) → (n ≤ c ∧ h0 c = none) → nots w c → ρ[j]? ≠ some (some (.cell c))

section
variable {n : Nat} {h0 : Pr} {η η' : Hp} {w : Wd} {Γ : Ctx} {ρ : Env}
theorem set_get {α : Type} {l : List α} {i j : Nat} {x y : α} (h : l[j]? = some y) (hij : i ≠ j) : (l.set i x)[j]? = some y := by rw [List.getElem?_set_ne hij]; exact h
theorem out_nc {v : PV} (h : noCell v = true) : out n w v := fun c e => by subst e; simp [noCell] at h
theorem Sat.setVal (s : Sat n h0 w Γ ρ η) (i : Nat) {v : PV} (hv : out n w v) : Sat n h0 w (st Γ i (.val v)) (ρ.set i (some v)) η := by
  have get : ∀ j x, gt (st Γ i (.val v)) j = x → x ≠ .any → (i = j ∧ i < Γ.length ∧ .val v = x) ∨ (i ≠ j ∧ gt Γ j = x) := fun j x h hx => gt_st h hx
  have ne : ∀ j, isO (gt (st Γ i (.val v)) j) = true → i ≠ j ∧ isO (gt Γ j) = true := fun j h => by
    rcases get j _ rfl (fun e => by rw [e] at h; cases h) with ⟨_, _, e⟩ | ⟨e1, e2⟩
    · rw [← e] at h; cases h
    · exact ⟨e1, by rw [e2]; exact h⟩
  refine ⟨by rw [List.length_set, st_len]; exact s.ln, s.hn, s.old, s.stm, fun j u h => ?_, fun j u h => ?_, fun j xs h => ?_, fun j xs h => ?_, fun j xs h => ?_, fun a b c ha hb hab e1 hn hw e2 => ?_⟩
  · rcases get j _ h (by simp) with ⟨rfl, hl, e⟩ | ⟨e1, e2⟩
    · cases e
      exact List.getElem?_set_self (by rw [s.ln]; exact hl)
    · exact set_get (s.val j u e2) e1
  · rcases get j _ h (by simp) with ⟨rfl, hl, e⟩ | ⟨e1, e2⟩
    · cases e; exact hv
    · exact s.vo j u e2
  · rcases get j _ h (by simp) with ⟨rfl, hl, e⟩ | ⟨e1, e2⟩
    · cases e
    · obtain ⟨c, e3, r⟩ := s.own j xs e2
      exact ⟨c, set_get e3 e1, r⟩
  · rcases get j _ h (by simp) with ⟨rfl, hl, e⟩ | ⟨e1, e2⟩
    · cases e
    · obtain ⟨c, e3, r⟩ := s.dct j xs e2
      exact ⟨c, set_get e3 e1, r⟩
  · rcases get j _ h (by simp) with ⟨rfl, hl, e⟩ | ⟨e1, e2⟩
    · cases e
    · exact set_get (s.pin j xs e2) e1
  · obtain ⟨ia, ga⟩ := ne a ha
    obtain ⟨ib, gb⟩ := ne b hb
    rw [List.getElem?_set_ne ia] at e1
    rw [List.getElem?_set_ne ib] at e2
    exact s.dis a b c ga gb hab e1 hn hw e2
theorem Sat.setAny (s : Sat n h0 w Γ ρ η) (i : Nat) (p : Option PV) : Sat n h0 w (st Γ i .any) (ρ.set i p) η := by
  have get : ∀ j x, gt (st Γ i .any) j = x → x ≠ .any → i ≠ j ∧ gt Γ j = x := fun j x h hx => by
    rcases gt_st h hx with ⟨rfl, hl, e⟩ | e
    · exact absurd e.symm hx
    · exact e
  have ne : ∀ j, isO (gt (st Γ i .any) j) = true → i ≠ j ∧ isO (gt Γ j) = true := fun j h => by
    obtain ⟨e1, e2⟩ := get j _ rfl (fun e => by rw [e] at h; cases h)
    exact ⟨e1, by rw [e2]; exact h⟩
  refine ⟨by rw [List.length_set, st_len]; exact s.ln, s.hn, s.old, s.stm, fun j u h => ?_, fun j u h => s.vo j u (get j _ h (by simp)).2, fun j xs h => ?_, fun j xs h => ?_, fun j xs h => ?_, fun a b c ha hb hab e1 hn hw e2 => ?_⟩
  · obtain ⟨e1, e2⟩ := get j _ h (by simp)
    exact set_get (s.val j u e2) e1
  · obtain ⟨e1, e2⟩ := get j _ h (by simp)
    obtain ⟨c, e3, r⟩ := s.own j xs e2
    exact ⟨c, set_get e3 e1, r⟩
  · obtain ⟨e1, e2⟩ := get j _ h (by simp)
    obtain ⟨c, e3, r⟩ := s.dct j xs e2
    exact ⟨c, set_get e3 e1, r⟩
  · obtain ⟨e1, e2⟩ := get j _ h (by simp)
    exact set_get (s.pin j xs e2) e1
  · obtain ⟨ia, ga⟩ := ne a ha
    obtain ⟨ib, gb⟩ := ne b hb
    rw [List.getElem?_set_ne ia] at e1
    rw [List.getElem?_set_ne ib] at e2
    exact s.dis a b c ga gb hab e1 hn hw e2
theorem Sat.drop (s : Sat n h0 w Γ ρ η) (i : Nat) : Sat n h0 w (st Γ i .any) ρ η := by
  have get : ∀ j x, gt (st Γ i .any) j = x → x ≠ .any → gt Γ j = x := fun j x h hx => by
    rcases gt_st h hx with ⟨rfl, hl, e⟩ | e
    · exact absurd e.symm hx
    · exact e.2
  have ne : ∀ j, isO (gt (st Γ i .any) j) = true → isO (gt Γ j) = true := fun j h => by
    rw [get j _ rfl (fun e => by rw [e] at h; cases h)]; exact h
  exact ⟨by rw [st_len]; exact s.ln, s.hn, s.old, s.stm, fun j u h => s.val j u (get j _ h (by simp)), fun j u h => s.vo j u (get j _ h (by simp)), fun j xs h => s.own j xs (get j _ h (by simp)), fun j xs h => s.dct j xs (get j _ h (by simp)), fun j xs h => s.pin j xs (get j _ h (by simp)),
    fun a b c ha hb => s.dis a b c (ne a ha) (ne b hb)⟩
theorem Sat.wipe (s : Sat n h0 w Γ ρ η) : ∀ is : List Nat, Sat n h0 w (sts Γ is) (D.wipe ρ is) η
  | [] => s
  | i :: is => (Sat.wipe s is).setAny i none
/-- Γ' says less than Γ -/
def Le : Ctx → Ctx → Prop
  | [], [] => True
  | x :: xs, y :: ys => (x = .any ∨ x = y) ∧ Le xs ys
  | _, _ => False
theorem Le.refl : ∀ Γ, Le Γ Γ
  | [] => trivial
  | _ :: xs => ⟨.inr rfl, Le.refl xs⟩
theorem Le.len : ∀ {Γ Γ' : Ctx}, Le Γ' Γ → Γ'.length = Γ.length
  | [], [], _ => rfl
  | _ :: _, _ :: _, h => congrArg Nat.succ (Le.len h.2)
theorem Le.get : ∀ {Γ Γ' : Ctx} {i : Nat} {x : Sl}, Le Γ' Γ → gt Γ' i = x → x ≠ .any → gt Γ i = x
  | [], [], _, _, _, h, n => absurd h.symm n
  | _ :: _, _ :: _, 0, _, h, e, n => by
    rcases h.1 with h | h
    · simp only [gt] at e; exact absurd (e.symm.trans h) n
    · simp only [gt] at e ⊢; rw [← h]; exact e
  | _ :: _, _ :: _, i + 1, _, h, e, n => Le.get (i := i) h.2 e n
theorem Sat.weak {Γ' : Ctx} (s : Sat n h0 w Γ ρ η) (h : Le Γ' Γ) : Sat n h0 w Γ' ρ η := by
  have ne : ∀ j, isO (gt Γ' j) = true → isO (gt Γ j) = true := fun j g => by
    rw [h.get rfl (fun e => by rw [e] at g; cases g)]; exact g
  exact ⟨s.ln.trans h.len.symm, s.hn, s.old, s.stm, fun j u e => s.val j u (h.get e (by simp)), fun j u e => s.vo j u (h.get e (by simp)), fun j u e => s.own j u (h.get e (by simp)), fun j u e => s.dct j u (h.get e (by simp)), fun j u e => s.pin j u (h.get e (by simp)),
    fun a b c ha hb => s.dis a b c (ne a ha) (ne b hb)⟩
/-- a new cell for slot i -/
theorem Sat.newOwn (s : Sat n h0 w Γ ρ η) (i : Nat) (o : Ob) (x : Sl) (hx : (∃ xs, o = .lst xs ∧ x = .own xs) ∨ ∃ xs, o = .dct xs ∧ x = .dct xs) : Sat n h0 w (st Γ i x) (ρ.set i (some (.cell η.length))) (η ++ [o]) := by
  have hna : x ≠ .any := by rcases hx with ⟨_, _, rfl⟩ | ⟨_, _, rfl⟩ <;> simp
  have keep : ∀ {c : Nat} {o' : Ob}, η[c]? = some o' → (η ++ [o])[c]? = some o' := fun {c o'} h => by
    rw [List.getElem?_append_left (List.getElem?_eq_some_iff.mp h).1]; exact h
  have hw : nots w η.length := fun c t e h => by
    have := (List.getElem?_eq_some_iff.mp (s.stm c t e).1).1
    omega
  have hP : h0 η.length = none := by
    cases q : h0 η.length with
    | none => rfl
    | some o => have := (List.getElem?_eq_some_iff.mp (s.old _ o q)).1; omega
  refine ⟨by rw [List.length_set, st_len]; exact s.ln, by have := s.hn; simp; omega, fun j o' hj => ?_, fun c t e => ⟨keep (s.stm c t e).1, (s.stm c t e).2⟩, fun j u h => ?_, fun j u h => ?_, fun j xs h => ?_, fun j xs h => ?_, fun j xs h => ?_, fun a b c ha hb hab e1 hn hw' e2 => ?_⟩
  · exact keep (s.old j o' hj)
  · rcases gt_st h (by simp) with ⟨rfl, hl, e⟩ | ⟨e1, e2⟩
    · rcases hx with ⟨_, _, rfl⟩ | ⟨_, _, rfl⟩ <;> cases e
    · exact set_get (s.val j u e2) e1
  · rcases gt_st h (by simp) with ⟨rfl, hl, e⟩ | ⟨e1, e2⟩
    · rcases hx with ⟨_, _, rfl⟩ | ⟨_, _, rfl⟩ <;> cases e
    · exact s.vo j u e2
  · rcases gt_st h (by simp) with ⟨rfl, hl, e⟩ | ⟨e1, e2⟩
    · rcases hx with ⟨_, rfl, rfl⟩ | ⟨_, rfl, rfl⟩
      · cases e
        exact ⟨η.length, List.getElem?_set_self (by rw [s.ln]; exact hl), ⟨s.hn, hP⟩, hw, by simp⟩
      · cases e
    · obtain ⟨c, e3, h1, h2, h3⟩ := s.own j xs e2
      exact ⟨c, set_get e3 e1, h1, h2, keep h3⟩
  · rcases gt_st h (by simp) with ⟨rfl, hl, e⟩ | ⟨e1, e2⟩
    · rcases hx with ⟨_, rfl, rfl⟩ | ⟨_, rfl, rfl⟩
      · cases e
      · cases e
        exact ⟨η.length, List.getElem?_set_self (by rw [s.ln]; exact hl), ⟨s.hn, hP⟩, hw, by simp⟩
    · obtain ⟨c, e3, h1, h2, h3⟩ := s.dct j xs e2
      exact ⟨c, set_get e3 e1, h1, h2, keep h3⟩
  · rcases gt_st h (by simp) with ⟨rfl, hl, e⟩ | ⟨e1, e2⟩
    · rcases hx with ⟨_, _, rfl⟩ | ⟨_, _, rfl⟩ <;> cases e
    · exact set_get (s.pin j xs e2) e1
  · have get : ∀ j, isO (gt (st Γ i x) j) = true → (ρ.set i (some (.cell η.length)))[j]? = some (some (.cell c)) → (i = j ∧ c = η.length) ∨ (i ≠ j ∧ isO (gt Γ j) = true ∧ ρ[j]? = some (some (.cell c))) := fun j h e => by
      rcases gt_st (y := gt (st Γ i x) j) rfl (fun e => by rw [e] at h; cases h) with ⟨rfl, hl, _⟩ | ⟨e1, e2⟩
      · rw [List.getElem?_set_self (by rw [s.ln]; exact hl)] at e
        cases e; exact .inl ⟨rfl, rfl⟩
      · rw [List.getElem?_set_ne e1] at e
        exact .inr ⟨e1, by rw [e2]; exact h, e⟩
    have lt : ∀ j, isO (gt Γ j) = true → ρ[j]? = some (some (.cell c)) → c < η.length := fun j hj e => by
      cases q : gt Γ j with
      | any => rw [q] at hj; cases hj
      | val v => rw [q] at hj; cases hj
      | pin v => rw [q] at hj; cases hj
      | own xs =>
        obtain ⟨d, e3, _, _, h3⟩ := s.own j xs q
        rw [e3] at e; cases e
        exact (List.getElem?_eq_some_iff.mp h3).1
      | dct xs =>
        obtain ⟨d, e3, _, _, h3⟩ := s.dct j xs q
        rw [e3] at e; cases e
        exact (List.getElem?_eq_some_iff.mp h3).1
    rcases get a ha e1 with ⟨ia, pa⟩ | ⟨ia, ga, pa⟩
    · rcases get b hb e2 with ⟨ib, pb⟩ | ⟨ib, gb, pb⟩
      · exact hab (ia.symm.trans ib)
      · have := lt b gb pb
        omega
    · rcases get b hb e2 with ⟨ib, pb⟩ | ⟨ib, gb, pb⟩
      · have := lt a ga pa
        omega
      · exact s.dis a b c ga gb hab pa hn hw' pb
/-- slot i's own cell gets another content -/
theorem Sat.updOwn (s : Sat n h0 w Γ ρ η) {i : Nat} {xs : List PV} (hi : gt Γ i = .own xs) :
    ∃ c, ρ[i]? = some (some (.cell c)) ∧ (n ≤ c ∧ h0 c = none) ∧ η[c]? = some (.lst xs) ∧ ∀ ys, Sat n h0 w (st Γ i (.own ys)) ρ (η.set c (.lst ys)) := by
  obtain ⟨c, e1, h1, h2, h3⟩ := s.own i xs hi
  refine ⟨c, e1, h1, h3, fun ys => ?_⟩
  have hc : c < η.length := (List.getElem?_eq_some_iff.mp h3).1
  have il : i < Γ.length := by rw [← s.ln]; exact (List.getElem?_eq_some_iff.mp e1).1
  have nan : ∀ j, isO (gt (st Γ i (.own ys)) j) = true → isO (gt Γ j) = true := fun j h => by
    by_cases e : i = j
    · subst e; rw [hi]; rfl
    · rwa [gt_st_ne _ _ _ _ e] at h
  refine ⟨by rw [st_len]; exact s.ln, by rw [List.length_set]; exact s.hn, fun j o hj => ?_, fun d t e => ?_, fun j u h => ?_, fun j u h => ?_, fun j zs h => ?_, fun j zs h => ?_, fun j zs h => ?_, fun a b d ha hb => s.dis a b d (nan a ha) (nan b hb)⟩
  · rw [List.getElem?_set_ne (fun e => by subst e; rw [h1.2] at hj; cases hj)]; exact s.old j o hj
  · rw [List.getElem?_set_ne (h2 d t e)]; exact s.stm d t e
  · rcases gt_st h (by simp) with ⟨rfl, hl, e⟩ | ⟨e3, e4⟩
    · cases e
    · exact s.val j u e4
  · rcases gt_st h (by simp) with ⟨rfl, hl, e⟩ | ⟨e3, e4⟩
    · cases e
    · exact s.vo j u e4
  · rcases gt_st h (by simp) with ⟨rfl, hl, e⟩ | ⟨e3, e4⟩
    · cases e
      exact ⟨c, e1, h1, h2, List.getElem?_set_self hc⟩
    · obtain ⟨d, e5, r1, r2, r3⟩ := s.own j zs e4
      refine ⟨d, e5, r1, r2, ?_⟩
      rw [List.getElem?_set_ne]
      · exact r3
      · intro e; subst e
        exact s.dis i j c (by rw [hi]; rfl) (by rw [e4]; rfl) e3 e1 h1 h2 e5
  · rcases gt_st h (by simp) with ⟨rfl, hl, e⟩ | ⟨e3, e4⟩
    · cases e
    · obtain ⟨d, e5, r1, r2, r3⟩ := s.dct j zs e4
      refine ⟨d, e5, r1, r2, ?_⟩
      rw [List.getElem?_set_ne]
      · exact r3
      · intro e; subst e
        exact s.dis i j c (by rw [hi]; rfl) (by rw [e4]; rfl) e3 e1 h1 h2 e5
  · rcases gt_st h (by simp) with ⟨rfl, hl, e⟩ | ⟨e3, e4⟩
    · cases e
    · exact s.pin j zs e4
/-- the cell of slot j gets another name: slot i -/
theorem Sat.move (s : Sat n h0 w Γ ρ η) {i j c : Nat} {xs : List PV} (hij : i ≠ j) (hj : gt Γ j = .own xs) (hc : ρ[j]? = some (some (.cell c))) :
    Sat n h0 w (st (st Γ j .any) i (.own xs)) (ρ.set i (some (.cell c))) η := by
  obtain ⟨c', e1, h1, h2, h3⟩ := s.own j xs hj
  rw [hc] at e1; cases e1
  have s1 := (s.drop j).setAny i (some (.cell c))
  have il : ∀ {k : Nat} {y : Sl}, i < (st Γ j .any).length → (ρ.set i (some (.cell c)))[i]? = some (some (.cell c)) := fun {k y} h => List.getElem?_set_self (by rw [s.ln, ← st_len Γ j .any]; exact h)
  have get : ∀ k x, gt (st (st Γ j .any) i (.own xs)) k = x → x ≠ .any → (i = k ∧ i < (st Γ j .any).length ∧ Sl.own xs = x) ∨ (i ≠ k ∧ gt (st (st Γ j .any) i .any) k = x) := fun k x h hx => by
    rcases gt_st h hx with h | ⟨a, b⟩
    · exact .inl h
    · exact .inr ⟨a, by rw [gt_st_ne _ _ _ _ a]; exact b⟩
  refine ⟨by rw [List.length_set, st_len, st_len]; exact s.ln, s.hn, s.old, s.stm, fun k u h => ?_, fun k u h => ?_, fun k u h => ?_, fun k u h => ?_, fun k u h => ?_, fun a b d ha hb hab e1 hn hw e2 => ?_⟩
  · rcases get k _ h (by simp) with ⟨_, _, e⟩ | ⟨_, e⟩
    · cases e
    · exact s1.val k u e
  · rcases get k _ h (by simp) with ⟨_, _, e⟩ | ⟨_, e⟩
    · cases e
    · exact s1.vo k u e
  · rcases get k _ h (by simp) with ⟨rfl, hl, e⟩ | ⟨_, e⟩
    · cases e
      exact ⟨c, il (k := 0) (y := .any) hl, h1, h2, h3⟩
    · exact s1.own k u e
  · rcases get k _ h (by simp) with ⟨_, _, e⟩ | ⟨_, e⟩
    · cases e
    · exact s1.dct k u e
  · rcases get k _ h (by simp) with ⟨_, _, e⟩ | ⟨_, e⟩
    · cases e
    · exact s1.pin k u e
  · have nn : ∀ {k : Nat}, isO (gt (st (st Γ j .any) i (.own xs)) k) = true → gt (st (st Γ j .any) i (.own xs)) k ≠ .any := fun g e => by rw [e] at g; cases g
    have only : ∀ k, i ≠ k → isO (gt (st (st Γ j .any) i .any) k) = true → (ρ.set i (some (.cell c)))[k]? = some (some (.cell d)) → d ≠ c := fun k hk hg e ed => by
      subst ed
      rw [List.getElem?_set_ne hk] at e
      rw [gt_st_ne _ _ _ _ hk] at hg
      by_cases hjk : j = k
      · subst hjk
        rw [gt_st_eq] at hg
        split at hg <;> cases hg
      · rw [gt_st_ne _ _ _ _ hjk] at hg
        exact s.dis j k d (by rw [hj]; rfl) hg hjk hc h1 h2 e
    rcases get a _ rfl (nn ha) with ⟨rfl, hl, _⟩ | ⟨ia, ga⟩
    · rcases get b _ rfl (nn hb) with ⟨rfl, _, _⟩ | ⟨ib, gb⟩
      · exact hab rfl
      · have := only b ib (by rw [gb]; exact hb) e2
        rw [il (k := 0) (y := .any) hl] at e1
        cases e1; exact this rfl
    · rcases get b _ rfl (nn hb) with ⟨rfl, hl, _⟩ | ⟨ib, gb⟩
      · have := only a ia (by rw [ga]; exact ha) e1
        rw [il (k := 0) (y := .any) hl] at e2
        cases e2; exact this rfl
      · exact s1.dis a b d (by rw [ga]; exact ha) (by rw [gb]; exact hb) hab e1 hn hw e2
/-- the stream goes on -/
theorem Sat.drawn {c : Nat} {t t' : SS} (s : Sat n h0 (some (c, t)) Γ ρ η) : Sat n h0 (some (c, t')) Γ ρ (η.set c t'.ob) := by
  have hc : c < η.length := (List.getElem?_eq_some_iff.mp (s.stm c t rfl).1).1
  have oth : ∀ {d : Nat} {o : Ob}, nots (some (c, t)) d → η[d]? = some o → (η.set c t'.ob)[d]? = some o := fun {d o} h e => by
    rw [List.getElem?_set_ne (Ne.symm (h c t rfl))]; exact e
  refine ⟨s.ln, by rw [List.length_set]; exact s.hn, fun j o hj => ?_, fun d u e => ?_, s.val, fun j u h => ?_, fun j u h => ?_, fun j u h => ?_, s.pin, fun a b d ha hb hab e1 hn hw e2 => s.dis a b d ha hb hab e1 hn (nots_next hw) e2⟩
  · rw [List.getElem?_set_ne (fun e => by subst e; rw [(s.stm _ t rfl).2] at hj; cases hj)]; exact s.old j o hj
  · cases e; exact ⟨List.getElem?_set_self hc, (s.stm c t rfl).2⟩
  · intro d e
    rcases s.vo j u h d e with h | h
    · exact .inl h
    · exact .inr fun z => h (nots_next z)
  · obtain ⟨d, e, h1, h2, h3⟩ := s.own j u h
    exact ⟨d, e, h1, nots_next h2, oth h2 h3⟩
  · obtain ⟨d, e, h1, h2, h3⟩ := s.dct j u h
    exact ⟨d, e, h1, nots_next h2, oth h2 h3⟩
/-- slot j's list is walked: it stays -/
def grd (h0 : Pr) (d : Nat) (xs : List PV) : Pr := fun j => if j = d then some (.lst xs) else h0 j
theorem Sat.guard (s : Sat n h0 w Γ ρ η) {j d : Nat} {xs : List PV} (hj : gt Γ j = .own xs) (hd : ρ[j]? = some (some (.cell d))) : Sat n (grd h0 d xs) w (st Γ j (.pin d)) ρ η := by
  obtain ⟨d', e1, h1, h2, h3⟩ := s.own j xs hj
  rw [hd] at e1; cases e1
  have hl : j < Γ.length := by rw [← s.ln]; exact (List.getElem?_eq_some_iff.mp hd).1
  have get : ∀ k x, gt (st Γ j (.pin d)) k = x → x ≠ .any → (j = k ∧ .pin d = x) ∨ (j ≠ k ∧ gt Γ k = x) := fun k x h hx => by
    rcases gt_st h hx with ⟨e, _, e2⟩ | e
    · exact .inl ⟨e, e2⟩
    · exact .inr e
  have oth : ∀ k, j ≠ k → isO (gt Γ k) = true → ∀ c, ρ[k]? = some (some (.cell c)) → n ≤ c ∧ h0 c = none → nots w c → c ≠ d := fun k hk hg c e h h' ed => by
    subst ed
    exact s.dis j k c (by rw [hj]; rfl) hg hk hd h h' e
  refine ⟨by rw [st_len]; exact s.ln, s.hn, fun k o e => ?_, fun c t e => ⟨(s.stm c t e).1, ?_⟩, fun k u h => ?_, fun k u h => ?_, fun k u h => ?_, fun k u h => ?_, fun k u h => ?_, fun a b c ha hb hab e1 hn hw e2 => ?_⟩
  · unfold grd at e
    split at e
    · rename_i e'; subst e'; cases e; exact h3
    · exact s.old k o e
  · unfold grd
    rw [if_neg (Ne.symm (h2 c t e))]; exact (s.stm c t e).2
  · rcases get k _ h (by simp) with ⟨_, e⟩ | ⟨_, e⟩
    · cases e
    · exact s.val k u e
  · rcases get k _ h (by simp) with ⟨_, e⟩ | ⟨_, e⟩
    · cases e
    · exact s.vo k u e
  · rcases get k _ h (by simp) with ⟨_, e⟩ | ⟨hk, e⟩
    · cases e
    · obtain ⟨c, e1, g1, g2, g3⟩ := s.own k u e
      refine ⟨c, e1, ⟨g1.1, ?_⟩, g2, g3⟩
      unfold grd
      rw [if_neg (oth k hk (by rw [e]; rfl) c e1 g1 g2)]; exact g1.2
  · rcases get k _ h (by simp) with ⟨_, e⟩ | ⟨hk, e⟩
    · cases e
    · obtain ⟨c, e1, g1, g2, g3⟩ := s.dct k u e
      refine ⟨c, e1, ⟨g1.1, ?_⟩, g2, g3⟩
      unfold grd
      rw [if_neg (oth k hk (by rw [e]; rfl) c e1 g1 g2)]; exact g1.2
  · rcases get k _ h (by simp) with ⟨e', e⟩ | ⟨_, e⟩
    · cases e; subst e'; exact hd
    · exact s.pin k u e
  · have ne : ∀ k, isO (gt (st Γ j (.pin d)) k) = true → isO (gt Γ k) = true := fun k h => by
      rcases get k _ rfl (fun e => by rw [e] at h; cases h) with ⟨_, e⟩ | ⟨_, e⟩
      · rw [← e] at h; cases h
      · rw [e]; exact h
    refine s.dis a b c (ne a ha) (ne b hb) hab e1 ⟨hn.1, ?_⟩ hw e2
    have := hn.2
    unfold grd at this
    split at this
    · cases this
    · exact this
theorem Sat.unguard {j d : Nat} {xs : List PV} (s : Sat n (grd h0 d xs) w Γ ρ η) (hd : n ≤ d) (h1 : h0 d = none) (h2 : nots w d) (hp : gt Γ j = .pin d) : Sat n h0 w (st Γ j (.own xs)) ρ η := by
  have hj := s.pin j d hp
  have hl : j < Γ.length := by rw [← s.ln]; exact (List.getElem?_eq_some_iff.mp hj).1
  have h3 : η[d]? = some (.lst xs) := s.old d _ (by unfold grd; rw [if_pos rfl])
  have low : ∀ c, grd h0 d xs c = none → h0 c = none ∧ c ≠ d := fun c e => by
    unfold grd at e
    split at e
    · cases e
    · exact ⟨e, by assumption⟩
  have get : ∀ k x, gt (st Γ j (.own xs)) k = x → x ≠ .any → (j = k ∧ .own xs = x) ∨ (j ≠ k ∧ gt Γ k = x) := fun k x h hx => by
    rcases gt_st h hx with ⟨e, _, e2⟩ | e
    · exact .inl ⟨e, e2⟩
    · exact .inr e
  refine ⟨by rw [st_len]; exact s.ln, s.hn, fun k o e => s.old k o ?_, fun c t e => ⟨(s.stm c t e).1, (low c (s.stm c t e).2).1⟩, fun k u h => ?_, fun k u h => ?_, fun k u h => ?_, fun k u h => ?_, fun k u h => ?_, fun a b c ha hb hab e1 hn hw e2 => ?_⟩
  · unfold grd
    rw [if_neg (fun z => by subst z; rw [h1] at e; cases e)]; exact e
  · rcases get k _ h (by simp) with ⟨_, e⟩ | ⟨_, e⟩
    · cases e
    · exact s.val k u e
  · rcases get k _ h (by simp) with ⟨_, e⟩ | ⟨_, e⟩
    · cases e
    · exact s.vo k u e
  · rcases get k _ h (by simp) with ⟨e', e⟩ | ⟨_, e⟩
    · cases e; subst e'
      exact ⟨d, hj, ⟨hd, h1⟩, h2, h3⟩
    · obtain ⟨c, e1, g1, g2, g3⟩ := s.own k u e
      exact ⟨c, e1, ⟨g1.1, (low c g1.2).1⟩, g2, g3⟩
  · rcases get k _ h (by simp) with ⟨_, e⟩ | ⟨_, e⟩
    · cases e
    · obtain ⟨c, e1, g1, g2, g3⟩ := s.dct k u e
      exact ⟨c, e1, ⟨g1.1, (low c g1.2).1⟩, g2, g3⟩
  · rcases get k _ h (by simp) with ⟨_, e⟩ | ⟨_, e⟩
    · cases e
    · exact s.pin k u e
  · have cell : ∀ k, j ≠ k → isO (gt (st Γ j (.own xs)) k) = true → ρ[k]? = some (some (.cell c)) → isO (gt Γ k) = true ∧ grd h0 d xs c = none := fun k hk h e => by
      rw [gt_st_ne _ _ _ _ hk] at h
      refine ⟨h, ?_⟩
      cases q : gt Γ k with
      | any => rw [q] at h; cases h
      | val v => rw [q] at h; cases h
      | pin v => rw [q] at h; cases h
      | own ys =>
        obtain ⟨c', e', g, _⟩ := s.own k ys q
        rw [e] at e'; cases e'; exact g.2
      | dct ys =>
        obtain ⟨c', e', g, _⟩ := s.dct k ys q
        rw [e] at e'; cases e'; exact g.2
    by_cases ja : j = a
    · subst ja
      rw [hj] at e1; cases e1
      exact (low _ (cell b hab hb e2).2).2 rfl
    · obtain ⟨ga, pa⟩ := cell a ja ha e1
      by_cases jb : j = b
      · subst jb
        rw [hj] at e2; cases e2
        exact (low _ pa).2 rfl
      · exact s.dis a b c ga (cell b jb hb e2).1 hab e1 ⟨hn.1, pa⟩ hw e2
end
end M
end

section
set_option linter.all false
set_option Elab.async false
set_option maxRecDepth 100000
namespace M
open D
universe u
@[reducible] def eL {α : Type} (f : α → PV) (xs : List α) : PV := .lst (xs.map f)
@[reducible] def eT {α : Type} (f : α → PV) (xs : List α) : PV := .tup (xs.map f)
@[reducible] def eP {α β : Type} (f : α → PV) (g : β → PV) (p : α × β) : PV := .tup [f p.1, g p.2]
@[reducible] def eP3 {α β γ : Type} (f : α → PV) (g : β → PV) (h : γ → PV) (p : α × β × γ) : PV := .tup [f p.1, g p.2.1, h p.2.2]
@[reducible] def eP4 {α β γ δ : Type} (f : α → PV) (g : β → PV) (h : γ → PV) (h' : δ → PV) (p : α × β × γ × δ) : PV := .tup [f p.1, g p.2.1, h p.2.2.1, h' p.2.2.2]
@[reducible] def eO {α : Type} (f : α → PV) : Option α → PV
  | none => .non
  | some x => f x
@[reducible] def eU : Unit → PV := fun _ => .non

section
variable (C : Cfg) {α β γ : Type}
/-- e gives the value enc a, where m = some a; nothing changes -/
def EvP (e : E) (Γ : Ctx) (enc : α → PV) (m : Option α) : Prop :=
  ∀ h0 w ρ η, Sat C.n h0 w Γ ρ η → ∀ a, m = some a → evE C e ρ η = .ok (enc a) η
/-- .. seen as a list, when it is one -/
def EvW (e : E) (Γ : Ctx) (enc : α → PV) (m : Option α) : Prop :=
  ∀ h0 w ρ η, Sat C.n h0 w Γ ρ η → ∀ a, m = some a → ∃ p, evE C e ρ η = .ok p η ∧ vw η p = enc a
/-- a list, or a cell that holds one -/
def LstAt (w : Wd) (η : Hp) (p : PV) (xs : List PV) : Prop := p = .lst xs ∨ ∃ c, p = .cell c ∧ nots w c ∧ η[c]? = some (.lst xs)
def EvV (e : E) (Γ : Ctx) (f : α → PV) (m : Option (List α)) : Prop :=
  ∀ h0 w ρ η, Sat C.n h0 w Γ ρ η → ∀ a, m = some a → ∃ p, evE C e ρ η = .ok p η ∧ LstAt w η p (a.map f)
/-- its truth -/
def EvB (e : E) (Γ : Ctx) (m : Option Bool) : Prop :=
  ∀ h0 w ρ η, Sat C.n h0 w Γ ρ η → ∀ a, m = some a → ∃ p, evE C e ρ η = .ok p η ∧ truth η p = some a
/-- arguments -/
def Args (es : Es) (Γ : Ctx) (enc : α → List PV) (m : Option α) : Prop :=
  ∀ h0 w ρ η, Sat C.n h0 w Γ ρ η → ∀ a, m = some a → evEs C es ρ η = .ok (enc a) η
/-- a new list -/
def EvF (f : F) (Γ : Ctx) (enc : α → PV) (m : Option (List α)) : Prop :=
  ∀ h0 w ρ η, Sat C.n h0 w Γ ρ η → ∀ a, m = some a → evF C f ρ η = .ok (a.map enc) η
/-- tests -/
def EvC (es : Es) (Γ : Ctx) (m : Option Bool) : Prop :=
  ∀ h0 w ρ η, Sat C.n h0 w Γ ρ η → ∀ a, m = some a → evC C es ρ η = .ok a η
/-- what is walked, no cell -/
def EvI0 (it : It) (Γ : Ctx) (enc : α → PV) (m : Option (List α)) : Prop :=
  ∀ h0 w ρ η, Sat C.n h0 w Γ ρ η → ∀ a, m = some a → evI C it ρ η = .ok (a.map enc, none) η
/-- what is walked -/
def EvI (it : It) (Γ : Ctx) (enc : α → PV) (m : Option (List α)) : Prop :=
  ∀ h0 w ρ η, Sat C.n h0 w Γ ρ η → ∀ a, m = some a → ∃ wt : Wt, evI C it ρ η = .ok (a.map enc, wt) η ∧ ∀ c xs, wt = some (c, xs) → nots w c ∧ η[c]? = some (.lst xs)
end
section
variable {C : Cfg} {α β γ δ : Type} {Γ : Ctx} {h0 : Pr} {η : Hp} {w : Wd} {ρ : Env}
theorem EvP.eq {e : E} {enc : α → PV} {m m' : Option α} (h : EvP C e Γ enc m) (q : m' = m) : EvP C e Γ enc m' := q ▸ h
theorem EvP.var (i : Nat) {v : PV} {enc : α → PV} {a : α} (h : gt Γ i = .val (enc a)) : EvP C (.var i) Γ enc (some a) :=
  fun h0 w ρ η s a' e => by
    cases e
    rw [evE, s.val i _ h]; rfl
theorem EvP.con {v : PV} {enc : α → PV} (a : α) (h : enc a = v) : EvP C (.con v) Γ enc (some a) := fun h0 w ρ η s a' e => by cases e; rw [evE, h]
theorem EvP.glb {g : Nat} {enc : α → PV} (a : α) (h : C.gv g = some (enc a)) : EvP C (.glb g) Γ enc (some a) := fun h0 w ρ η s a' e => by cases e; rw [evE, h]; rfl
theorem Args.nil : Args C .nil Γ (fun _ : Unit => []) (some ()) := fun h0 w ρ η s a' e => by cases e; rw [evEs]
theorem Args.cons {e : E} {es : Es} {f : α → PV} {g : β → List PV} {m1 : Option α} {m2 : Option β} (h1 : EvP C e Γ f m1) (h2 : Args C es Γ g m2) :
    Args C (.cons e es) Γ (fun p : α × β => f p.1 :: g p.2) (m1.bind fun x => m2.bind fun y => some (x, y)) := fun h0 w ρ η s a' e => by
  obtain ⟨x, e1, e⟩ := Option.bind_eq_some_iff.mp e
  obtain ⟨y, e2, e⟩ := Option.bind_eq_some_iff.mp e
  cases e
  rw [evEs, h1 h0 w ρ η s x e1, bind_ok, h2 h0 w ρ η s y e2, bind_ok]
theorem Args.len {es : Es} {g : β → List PV} {m : Option β} (h : Args C es Γ g m) : True := trivial
theorem EvP.tup {es : Es} {g : β → List PV} {m : Option β} {enc : α → PV} (mk : β → α) (h : Args C es Γ g m) (he : ∀ b, enc (mk b) = .tup (g b)) (hl : ∀ b, (g b).length ≤ line) :
    EvP C (.tup es) Γ enc (m.bind fun b => some (mk b)) := fun h0 w ρ η s a' e => by
  obtain ⟨x, e1, e⟩ := Option.bind_eq_some_iff.mp e
  cases e
  rw [evE, h h0 w ρ η s x e1, bind_ok, if_pos (hl x), he]
theorem EvF.lst {es : Es} {g : β → List PV} {m : Option β} {enc : α → PV} (mk : β → List α) (h : Args C es Γ g m) (he : ∀ b, (mk b).map enc = g b) (hl : ∀ b, (g b).length ≤ line) :
    EvF C (.lst es) Γ enc (m.bind fun b => some (mk b)) := fun h0 w ρ η s a' e => by
  obtain ⟨x, e1, e⟩ := Option.bind_eq_some_iff.mp e
  cases e
  rw [evF, h h0 w ρ η s x e1, bind_ok, if_pos (hl x), he]
theorem EvP.fz {f : F} {enc : α → PV} {m : Option (List α)} (h : EvF C f Γ enc m) : EvP C (.fz f) Γ (eL enc) m := fun h0 w ρ η s a' e => by
  rw [evE, h h0 w ρ η s a' e, bind_ok]
theorem EvW.ofP {e : E} {enc : α → PV} {m : Option α} (h : EvP C e Γ enc m) (hv : ∀ η a, vw η (enc a) = enc a) : EvW C e Γ enc m := fun h0 w ρ η s a q => ⟨_, h h0 w ρ η s a q, hv η a⟩
theorem EvV.own (i : Nat) {f : α → PV} {xs : List α} (h : gt Γ i = .own (xs.map f)) : EvV C (.var i) Γ f (some xs) := fun h0 w ρ η s a q => by
  cases q
  obtain ⟨c, e1, h1, h2, h3⟩ := s.own i _ h
  exact ⟨.cell c, by rw [evE, e1]; rfl, .inr ⟨c, rfl, h2, h3⟩⟩
theorem EvV.ofP {e : E} {f : α → PV} {m : Option (List α)} (h : EvP C e Γ (eL f) m) : EvV C e Γ f m := fun h0 w ρ η s a q => ⟨_, h h0 w ρ η s a q, .inl rfl⟩
theorem LstAt.vw {p : PV} {xs : List PV} (h : LstAt w η p xs) : vw η p = .lst xs := by
  rcases h with rfl | ⟨c, rfl, _, h⟩
  · rfl
  · simp [h]
theorem LstAt.seq {p : PV} {xs : List PV} (h : LstAt w η p xs) : seqOf η p = some xs := by
  rcases h with rfl | ⟨c, rfl, _, h⟩
  · rfl
  · simp [h]
theorem LstAt.lst {p : PV} {xs : List PV} (h : LstAt w η p xs) : lstO η p = some xs := by
  rcases h with rfl | ⟨c, rfl, _, h⟩
  · rfl
  · show seqO η[c]? = _; rw [h]; rfl
theorem LstAt.key {p : PV} {xs : List PV} (h : LstAt w η p xs) : keySeq η p = some xs := by
  rcases h with rfl | ⟨c, rfl, _, h⟩
  · rfl
  · simp [h]
theorem LstAt.len {p : PV} {xs : List PV} (h : LstAt w η p xs) : lenV η [p] = some (.int xs.length) := by
  rcases h with rfl | ⟨c, rfl, _, h⟩
  · rfl
  · simp [h]
theorem LstAt.idx {p : PV} {xs : List PV} (h : LstAt w η p xs) (i : Int) : idxV η p (.int i) = atI xs i := by
  rcases h with rfl | ⟨c, rfl, _, h⟩
  · rfl
  · simp [h]
theorem LstAt.truth {p : PV} {xs : List PV} (h : LstAt w η p xs) : truth η p = some (!xs.isEmpty) := by
  rcases h with rfl | ⟨c, rfl, _, h⟩
  · rfl
  · simp [h]
theorem LstAt.walk {p : PV} {xs : List PV} (h : LstAt w η p xs) : ∃ wt : Wt, walkV η p = some (xs, wt) ∧ ∀ c ys, wt = some (c, ys) → nots w c ∧ η[c]? = some (.lst ys) := by
  rcases h with rfl | ⟨c, rfl, h1, h⟩
  · exact ⟨none, rfl, by intro _ _ e; cases e⟩
  · exact ⟨some (c, xs), by simp [h, walkO], by intro _ _ e; cases e; exact ⟨h1, h⟩⟩
theorem LstAt.index {p : PV} {xs : List PV} (h : LstAt w η p xs) : rcv η .index p = true := by
  rcases h with rfl | ⟨c, rfl, h1, h⟩
  · rfl
  · show rcvO .index η[c]? = true; rw [h]; rfl
theorem EvW.ofV {e : E} {f : α → PV} {m : Option (List α)} (h : EvV C e Γ f m) : EvW C e Γ (eL f) m := fun h0 w ρ η s a q => by
  obtain ⟨p, e1, l⟩ := h h0 w ρ η s a q
  exact ⟨p, e1, l.vw⟩
theorem EvB.ofP {e : E} {enc : α → PV} {m : Option α} (tr : α → Bool) (h : EvP C e Γ enc m) (ht : ∀ η a, truth η (enc a) = some (tr a)) : EvB C e Γ (m.bind fun a => some (tr a)) := fun h0 w ρ η s a q => by
  obtain ⟨x, e1, q⟩ := Option.bind_eq_some_iff.mp q
  cases q
  exact ⟨_, h h0 w ρ η s x e1, ht η x⟩
theorem EvB.bl {e : E} {m : Option Bool} (h : EvP C e Γ PV.bl m) : EvB C e Γ m := fun h0 w ρ η s a q => ⟨_, h h0 w ρ η s a q, rfl⟩
theorem EvB.ofV {e : E} {f : α → PV} {m : Option (List α)} (h : EvV C e Γ f m) : EvB C e Γ (m.bind fun a => some (!a.isEmpty)) := fun h0 w ρ η s a q => by
  obtain ⟨x, e1, q⟩ := Option.bind_eq_some_iff.mp q
  cases q
  obtain ⟨p, e2, l⟩ := h h0 w ρ η s x e1
  exact ⟨p, e2, by rw [l.truth, List.isEmpty_map]⟩
theorem EvP.not {e : E} {m : Option Bool} (h : EvB C e Γ m) : EvP C (.not e) Γ PV.bl (m.bind fun b => some (!b)) := fun h0 w ρ η s a q => by
  obtain ⟨x, e1, q⟩ := Option.bind_eq_some_iff.mp q
  cases q
  obtain ⟨p, e2, l⟩ := h h0 w ρ η s x e1
  rw [evE, e2, bind_ok, l]; rfl
theorem EvB.one {e : E} {c : Bool} {m : Option Bool} (h : EvB C e Γ m) : EvB C (.bop c (.cons e .nil)) Γ m := fun h0 w ρ η s a q => by
  obtain ⟨p, e1, l⟩ := h h0 w ρ η s a q
  exact ⟨p, by rw [evE, evB]; exact e1, l⟩
theorem EvB.and {e e' : E} {es : Es} {m1 m2 : Option Bool} (h1 : EvB C e Γ m1) (h2 : EvB C (.bop true (.cons e' es)) Γ m2) :
    EvB C (.bop true (.cons e (.cons e' es))) Γ (m1.bind fun x => if x = true then m2 else some false) := fun h0 w ρ η s a q => by
  obtain ⟨x, e1, q⟩ := Option.bind_eq_some_iff.mp q
  obtain ⟨p, e2, l⟩ := h1 h0 w ρ η s x e1
  rw [evE, evB, e2, bind_ok, l]
  cases x with
  | true => exact h2 h0 w ρ η s a q
  | false => cases q; exact ⟨p, rfl, l⟩
theorem EvB.or {e e' : E} {es : Es} {m1 m2 : Option Bool} (h1 : EvB C e Γ m1) (h2 : EvB C (.bop false (.cons e' es)) Γ m2) :
    EvB C (.bop false (.cons e (.cons e' es))) Γ (m1.bind fun x => if x = true then some true else m2) := fun h0 w ρ η s a q => by
  obtain ⟨x, e1, q⟩ := Option.bind_eq_some_iff.mp q
  obtain ⟨p, e2, l⟩ := h1 h0 w ρ η s x e1
  rw [evE, evB, e2, bind_ok, l]
  cases x with
  | true => cases q; exact ⟨p, rfl, l⟩
  | false => exact h2 h0 w ρ η s a q
theorem EvB.andT {e e' : E} {es : Es} {x y : Bool} (h1 : EvB C e Γ (some x)) (h2 : EvB C (.bop true (.cons e' es)) Γ (some y)) : EvB C (.bop true (.cons e (.cons e' es))) Γ (some (x && y)) := fun h0 w ρ η s a q => by
  refine EvB.and h1 h2 h0 w ρ η s a ?_
  cases x <;> exact q
theorem EvB.orT {e e' : E} {es : Es} {x y : Bool} (h1 : EvB C e Γ (some x)) (h2 : EvB C (.bop false (.cons e' es)) Γ (some y)) : EvB C (.bop false (.cons e (.cons e' es))) Γ (some (x || y)) := fun h0 w ρ η s a q => by
  refine EvB.or h1 h2 h0 w ρ η s a ?_
  cases x <;> exact q
/-- and, or of bools as values -/
theorem EvP.one {e : E} {c : Bool} {m : Option Bool} (h : EvP C e Γ PV.bl m) : EvP C (.bop c (.cons e .nil)) Γ PV.bl m := fun h0 w ρ η s a q => by
  rw [evE, evB]; exact h h0 w ρ η s a q
theorem EvP.and {e e' : E} {es : Es} {m1 m2 : Option Bool} (h1 : EvP C e Γ PV.bl m1) (h2 : EvP C (.bop true (.cons e' es)) Γ PV.bl m2) :
    EvP C (.bop true (.cons e (.cons e' es))) Γ PV.bl (m1.bind fun x => if x = true then m2 else some false) := fun h0 w ρ η s a q => by
  obtain ⟨x, e1, q⟩ := Option.bind_eq_some_iff.mp q
  rw [evE, evB, h1 h0 w ρ η s x e1, bind_ok]
  cases x with
  | true => exact h2 h0 w ρ η s a q
  | false => cases q; rfl
theorem EvP.or {e e' : E} {es : Es} {m1 m2 : Option Bool} (h1 : EvP C e Γ PV.bl m1) (h2 : EvP C (.bop false (.cons e' es)) Γ PV.bl m2) :
    EvP C (.bop false (.cons e (.cons e' es))) Γ PV.bl (m1.bind fun x => if x = true then some true else m2) := fun h0 w ρ η s a q => by
  obtain ⟨x, e1, q⟩ := Option.bind_eq_some_iff.mp q
  rw [evE, evB, h1 h0 w ρ η s x e1, bind_ok]
  cases x with
  | true => cases q; rfl
  | false => exact h2 h0 w ρ η s a q
theorem EvP.andT {e e' : E} {es : Es} {x y : Bool} (h1 : EvP C e Γ PV.bl (some x)) (h2 : EvP C (.bop true (.cons e' es)) Γ PV.bl (some y)) : EvP C (.bop true (.cons e (.cons e' es))) Γ PV.bl (some (x && y)) := fun h0 w ρ η s a q => by
  refine EvP.and h1 h2 h0 w ρ η s a ?_
  cases x <;> exact q
theorem EvP.orT {e e' : E} {es : Es} {x y : Bool} (h1 : EvP C e Γ PV.bl (some x)) (h2 : EvP C (.bop false (.cons e' es)) Γ PV.bl (some y)) : EvP C (.bop false (.cons e (.cons e' es))) Γ PV.bl (some (x || y)) := fun h0 w ρ η s a q => by
  refine EvP.or h1 h2 h0 w ρ η s a ?_
  cases x <;> exact q
theorem EvP.ite {c a b : E} {enc : α → PV} {mc : Option Bool} {m1 m2 : Option α} (hc : EvB C c Γ mc) (h1 : EvP C a Γ enc m1) (h2 : EvP C b Γ enc m2) :
    EvP C (.ite c a b) Γ enc (mc.bind fun x => if x = true then m1 else m2) := fun h0 w ρ η s r q => by
  obtain ⟨x, e1, q⟩ := Option.bind_eq_some_iff.mp q
  obtain ⟨p, e2, l⟩ := hc h0 w ρ η s x e1
  rw [evE, e2, bind_ok, l, br_some]
  cases x with
  | true => exact h1 h0 w ρ η s r q
  | false => exact h2 h0 w ρ η s r q
theorem EvP.iteT {c a b : E} {enc : α → PV} {x : Bool} {y z : α} (hc : EvB C c Γ (some x)) (h1 : EvP C a Γ enc (some y)) (h2 : EvP C b Γ enc (some z)) :
    EvP C (.ite c a b) Γ enc (some (if x = true then y else z)) := fun h0 w ρ η s r q => by
  refine EvP.ite hc h1 h2 h0 w ρ η s r ?_
  cases x <;> exact q
/-- c and/or ... -- None or not -/
theorem EvP.iteN {a b c : E} {e1 : α → PV} {enc : β → PV} {m1 : Option β} {m2 : α → Option β} {o : Option α} (hc : o = none → EvB C c Γ (some true)) (hd : ∀ x, o = some x → EvB C c Γ (some false)) (h1 : o = none → EvP C a Γ enc m1) (h2 : ∀ x, o = some x → EvP C b Γ enc (m2 x)) :
    EvP C (.ite c a b) Γ enc (match o with | none => m1 | some x => m2 x) := by
  cases o with
  | none => exact fun h0 w ρ η s r q => EvP.ite (hc rfl) (h1 rfl) (m2 := none) (fun _ _ _ _ _ _ q => by cases q) h0 w ρ η s r q
  | some x => exact fun h0 w ρ η s r q => EvP.ite (hd x rfl) (m1 := none) (fun _ _ _ _ _ _ q => by cases q) (h2 x rfl) h0 w ρ η s r q
theorem EvP.bin {o : Op} {a b : E} {f : α → PV} {g : β → PV} {enc : γ → PV} {m1 : Option α} {m2 : Option β} (F : α → β → Option γ) (ho : ∀ x y z, F x y = some z → opV o (f x) (g y) = some (enc z)) (h1 : EvW C a Γ f m1) (h2 : EvW C b Γ g m2) :
    EvP C (.bin o a b) Γ enc (m1.bind fun x => m2.bind fun y => F x y) := fun h0 w ρ η s r q => by
  obtain ⟨x, e1, q⟩ := Option.bind_eq_some_iff.mp q
  obtain ⟨y, e2, q⟩ := Option.bind_eq_some_iff.mp q
  obtain ⟨p1, e3, v1⟩ := h1 h0 w ρ η s x e1
  obtain ⟨p2, e4, v2⟩ := h2 h0 w ρ η s y e2
  rw [evE, e3, bind_ok, e4, bind_ok, v1, v2, ho x y r q]; rfl
theorem EvP.cmp {o : Cm} {a b : E} {f : α → PV} {g : β → PV} {m1 : Option α} {m2 : Option β} (F : α → β → Bool) (ho : ∀ x y, cmV o (f x) (g y) = some (F x y)) (h1 : EvW C a Γ f m1) (h2 : EvW C b Γ g m2) :
    EvP C (.cmp o a b) Γ PV.bl (m1.bind fun x => m2.bind fun y => some (F x y)) := fun h0 w ρ η s r q => by
  obtain ⟨x, e1, q⟩ := Option.bind_eq_some_iff.mp q
  obtain ⟨y, e2, q⟩ := Option.bind_eq_some_iff.mp q
  cases q
  obtain ⟨p1, e3, v1⟩ := h1 h0 w ρ η s x e1
  obtain ⟨p2, e4, v2⟩ := h2 h0 w ρ η s y e2
  rw [evE, e3, bind_ok, e4, bind_ok, v1, v2, ho x y]; rfl
theorem EvP.chn {o o' : Cm} {a b c : E} {f : α → PV} {g : β → PV} {k : γ → PV} {m1 : Option α} {m2 : Option β} {m3 : Option γ} (F : α → β → Bool) (G : β → γ → Bool) (ho : ∀ x y, cmV o (f x) (g y) = some (F x y)) (ho' : ∀ x y, cmV o' (g x) (k y) = some (G x y))
    (h1 : EvW C a Γ f m1) (h2 : EvP C b Γ g m2) (hv : ∀ η a, vw η (g a) = g a) (h3 : EvW C c Γ k m3) :
    EvP C (.chn o o' a b c) Γ PV.bl (m1.bind fun x => m2.bind fun y => if F x y = true then m3.bind fun z => some (G y z) else some false) := fun h0 w ρ η s r q => by
  obtain ⟨x, e1, q⟩ := Option.bind_eq_some_iff.mp q
  obtain ⟨y, e2, q⟩ := Option.bind_eq_some_iff.mp q
  obtain ⟨p1, e3, v1⟩ := h1 h0 w ρ η s x e1
  have e4 := h2 h0 w ρ η s y e2
  rw [evE, e3, bind_ok, e4, bind_ok, v1, hv, ho x y, br_some]
  split at q
  · rename_i hF
    rw [if_pos hF]
    obtain ⟨z, e5, q⟩ := Option.bind_eq_some_iff.mp q
    cases q
    obtain ⟨p3, e6, v3⟩ := h3 h0 w ρ η s z e5
    rw [e6, bind_ok, hv, v3, ho']; rfl
  · rename_i hF
    rw [if_neg hF]
    cases q; rfl
theorem EvP.chnT {o o' : Cm} {a b c : E} {f : α → PV} {g : β → PV} {k : γ → PV} {x : α} {y : β} {z : γ} (F : α → β → Bool) (G : β → γ → Bool) (ho : ∀ x y, cmV o (f x) (g y) = some (F x y)) (ho' : ∀ x y, cmV o' (g x) (k y) = some (G x y))
    (h1 : EvW C a Γ f (some x)) (h2 : EvP C b Γ g (some y)) (hv : ∀ η a, vw η (g a) = g a) (h3 : EvW C c Γ k (some z)) :
    EvP C (.chn o o' a b c) Γ PV.bl (some (F x y && G y z)) := fun h0 w ρ η s r q => by
  refine EvP.chn F G ho ho' h1 h2 hv h3 h0 w ρ η s r ?_
  cases q
  show (if F x y = true then some (G y z) else some false) = _
  cases F x y <;> rfl
theorem EvP.neg {a : E} {m : Option Int} (h : EvP C a Γ PV.int m) : EvP C (.neg a) Γ PV.int (m.bind fun x => some (-x)) := fun h0 w ρ η s r q => by
  obtain ⟨x, e1, q⟩ := Option.bind_eq_some_iff.mp q
  cases q
  rw [evE, h h0 w ρ η s x e1]; rfl
theorem EvP.isN {k : Bool} {a : E} {f : α → PV} {m : Option α} (F : α → Bool) (hF : ∀ x, isNon k (f x) = .bl (F x)) (h : EvP C a Γ f m) : EvP C (.isN k a) Γ PV.bl (m.bind fun x => some (F x)) := fun h0 w ρ η s r q => by
  obtain ⟨x, e1, q⟩ := Option.bind_eq_some_iff.mp q
  cases q
  rw [evE, h h0 w ρ η s x e1, bind_ok, hF]
theorem EvP.isi {t : Ty} {a : E} {f : α → PV} {m : Option α} (F : α → Bool) (hF : ∀ η x, isTy η t (f x) = some (F x)) (h : EvP C a Γ f m) : EvP C (.isi a t) Γ PV.bl (m.bind fun x => some (F x)) := fun h0 w ρ η s r q => by
  obtain ⟨x, e1, q⟩ := Option.bind_eq_some_iff.mp q
  cases q
  rw [evE, h h0 w ρ η s x e1, bind_ok, hF]; rfl
theorem EvP.call {f : Nat} {es : Es} {g : α → List PV} {enc : β → PV} {m : Option α} (F : α → Option β) (hf : ∀ η t r, F t = some r → C.cf f (g t) η = .ok (enc r) η) (h : Args C es Γ g m) :
    EvP C (.call f es) Γ enc (m.bind fun t => F t) := fun h0 w ρ η s r q => by
  obtain ⟨x, e1, q⟩ := Option.bind_eq_some_iff.mp q
  rw [evE, h h0 w ρ η s x e1, bind_ok, hf η x r q]
/-- a call with an own list seen as its first argument's value is not possible; built-ins: -/
theorem EvP.bi {b : BI} {es : Es} {g : α → List PV} {enc : β → PV} {m : Option α} (F : α → Option β) (hf : ∀ η t r, F t = some r → biV η b (g t) = some (enc r)) (h : Args C es Γ g m) :
    EvP C (.bi b es) Γ enc (m.bind fun t => F t) := fun h0 w ρ η s r q => by
  obtain ⟨x, e1, q⟩ := Option.bind_eq_some_iff.mp q
  rw [evE, h h0 w ρ η s x e1, bind_ok, hf η x r q]; rfl
/-- a built-in of one list -/
theorem EvP.biV {b : BI} {a : E} {f : α → PV} {enc : β → PV} {m : Option (List α)} (F : List α → Option β) (hf : ∀ w η p t r, F t = some r → LstAt w η p (t.map f) → D.biV η b [p] = some (enc r)) (h : EvV C a Γ f m) :
    EvP C (.bi b (.cons a .nil)) Γ enc (m.bind fun t => F t) := fun h0 w ρ η s r q => by
  obtain ⟨x, e1, q⟩ := Option.bind_eq_some_iff.mp q
  obtain ⟨p, e2, l⟩ := h h0 w ρ η s x e1
  rw [evE, evEs, e2, bind_ok, evEs, bind_ok, bind_ok, hf w η p x r q l]; rfl
theorem EvF.biV {b : BI} {a : E} {f : α → PV} {enc : β → PV} {m : Option (List α)} (F : List α → Option (List β)) (hf : ∀ w η p t r, F t = some r → LstAt w η p (t.map f) → D.biV η b [p] = some (eL enc r)) (h : EvV C a Γ f m) :
    EvF C (.bi b (.cons a .nil)) Γ enc (m.bind fun t => F t) := fun h0 w ρ η s r q => by
  obtain ⟨x, e1, q⟩ := Option.bind_eq_some_iff.mp q
  obtain ⟨p, e2, l⟩ := h h0 w ρ η s x e1
  rw [evF, evEs, e2, bind_ok, evEs, bind_ok, bind_ok, hf w η p x r q l]; rfl
theorem EvF.bi {b : BI} {es : Es} {g : α → List PV} {enc : β → PV} {m : Option α} (F : α → Option (List β)) (hf : ∀ η t r, F t = some r → D.biV η b (g t) = some (eL enc r)) (h : Args C es Γ g m) :
    EvF C (.bi b es) Γ enc (m.bind fun t => F t) := fun h0 w ρ η s r q => by
  obtain ⟨x, e1, q⟩ := Option.bind_eq_some_iff.mp q
  rw [evF, h h0 w ρ η s x e1, bind_ok, hf η x r q]; rfl
theorem EvF.bin {o : Op} {a b : E} {f : α → PV} {g : β → PV} {enc : γ → PV} {m1 : Option α} {m2 : Option β} (F : α → β → Option (List γ)) (ho : ∀ x y z, F x y = some z → opV o (f x) (g y) = some (eL enc z)) (h1 : EvW C a Γ f m1) (h2 : EvW C b Γ g m2) :
    EvF C (.bin o a b) Γ enc (m1.bind fun x => m2.bind fun y => F x y) := fun h0 w ρ η s r q => by
  obtain ⟨x, e1, q⟩ := Option.bind_eq_some_iff.mp q
  obtain ⟨y, e2, q⟩ := Option.bind_eq_some_iff.mp q
  obtain ⟨p1, e3, v1⟩ := h1 h0 w ρ η s x e1
  obtain ⟨p2, e4, v2⟩ := h2 h0 w ρ η s y e2
  rw [evF, e3, bind_ok, e4, bind_ok, v1, v2, ho x y r q]; rfl
theorem EvP.idx {a i : E} {f : α → PV} {g : β → PV} {enc : γ → PV} {m1 : Option α} {m2 : Option β} (F : α → β → Option γ) (ho : ∀ η x y z, F x y = some z → idxV η (f x) (g y) = some (enc z)) (h1 : EvP C a Γ f m1) (h2 : EvP C i Γ g m2) :
    EvP C (.idx a i) Γ enc (m1.bind fun x => m2.bind fun y => F x y) := fun h0 w ρ η s r q => by
  obtain ⟨x, e1, q⟩ := Option.bind_eq_some_iff.mp q
  obtain ⟨y, e2, q⟩ := Option.bind_eq_some_iff.mp q
  rw [evE, h1 h0 w ρ η s x e1, bind_ok, h2 h0 w ρ η s y e2, bind_ok, ho η x y r q]; rfl
theorem atI_map (f : α → β) (xs : List α) (i : Int) : atI (xs.map f) i = (atI xs i).map f := by
  unfold atI
  rw [List.length_map]
  cases ixN xs.length i with
  | none => rfl
  | some j => simp
theorem EvP.idxV {a i : E} {f : α → PV} {m1 : Option (List α)} {m2 : Option Int} (h1 : EvV C a Γ f m1) (h2 : EvP C i Γ PV.int m2) :
    EvP C (.idx a i) Γ f (m1.bind fun x => m2.bind fun y => atI x y) := fun h0 w ρ η s r q => by
  obtain ⟨x, e1, q⟩ := Option.bind_eq_some_iff.mp q
  obtain ⟨y, e2, q⟩ := Option.bind_eq_some_iff.mp q
  obtain ⟨p, e3, l⟩ := h1 h0 w ρ η s x e1
  rw [evE, e3, bind_ok, h2 h0 w ρ η s y e2, bind_ok, l.idx, atI_map, q]; rfl
def EvO (C : Cfg) (es : Es) (Γ : Ctx) (m : Option (Option Int)) : Prop :=
  ∀ h0 w ρ η, Sat C.n h0 w Γ ρ η → ∀ a, m = some a → ∃ l, evEs C es ρ η = .ok l η ∧ optI l = some a
theorem EvO.nil : EvO C .nil Γ (some none) := fun h0 w ρ η s a q => by cases q; exact ⟨[], by rw [evEs], rfl⟩
theorem EvO.one {e : E} {m : Option Int} (h : EvP C e Γ PV.int m) : EvO C (.cons e .nil) Γ (m.bind fun x => some (some x)) := fun h0 w ρ η s a q => by
  obtain ⟨x, e1, q⟩ := Option.bind_eq_some_iff.mp q
  cases q
  exact ⟨[.int x], by rw [evEs, h h0 w ρ η s x e1, bind_ok, evEs, bind_ok], rfl⟩
theorem EvP.slc {a : E} {lo hi : Es} {f : α → PV} {enc : β → PV} {m : Option α} {ml mh : Option (Option Int)} (F : α → Option Int → Option Int → β) (ho : ∀ x l u, slcV l u (f x) = some (enc (F x l u))) (h : EvW C a Γ f m) (hl : EvO C lo Γ ml) (hu : EvO C hi Γ mh) :
    EvP C (.slc a lo hi) Γ enc (m.bind fun x => ml.bind fun l => mh.bind fun u => some (F x l u)) := fun h0 w ρ η s r q => by
  obtain ⟨x, e1, q⟩ := Option.bind_eq_some_iff.mp q
  obtain ⟨l, e2, q⟩ := Option.bind_eq_some_iff.mp q
  obtain ⟨u, e3, q⟩ := Option.bind_eq_some_iff.mp q
  cases q
  obtain ⟨p, e4, v⟩ := h h0 w ρ η s x e1
  obtain ⟨l', e5, o1⟩ := hl h0 w ρ η s l e2
  obtain ⟨u', e6, o2⟩ := hu h0 w ρ η s u e3
  rw [evE, e4, bind_ok, e5, bind_ok, o1, opt_some, bind_ok, e6, bind_ok, o2, opt_some, bind_ok, v, ho]; rfl
theorem EvF.slc {a : E} {lo hi : Es} {f : α → PV} {enc : β → PV} {m : Option α} {ml mh : Option (Option Int)} (F : α → Option Int → Option Int → List β) (ho : ∀ x l u, slcV l u (f x) = some (eL enc (F x l u))) (h : EvW C a Γ f m) (hl : EvO C lo Γ ml) (hu : EvO C hi Γ mh) :
    EvF C (.slc a lo hi) Γ enc (m.bind fun x => ml.bind fun l => mh.bind fun u => some (F x l u)) := fun h0 w ρ η s r q => by
  obtain ⟨x, e1, q⟩ := Option.bind_eq_some_iff.mp q
  obtain ⟨l, e2, q⟩ := Option.bind_eq_some_iff.mp q
  obtain ⟨u, e3, q⟩ := Option.bind_eq_some_iff.mp q
  cases q
  obtain ⟨p, e4, v⟩ := h h0 w ρ η s x e1
  obtain ⟨l', e5, o1⟩ := hl h0 w ρ η s l e2
  obtain ⟨u', e6, o2⟩ := hu h0 w ρ η s u e3
  rw [evF, e4, bind_ok, e5, bind_ok, o1, opt_some, bind_ok, e6, bind_ok, o2, opt_some, bind_ok, v, ho]; rfl
theorem EvP.bwd {a : E} {f : α → PV} {enc : β → PV} {m : Option α} (F : α → β) (ho : ∀ x, bwdV (f x) = some (enc (F x))) (h : EvW C a Γ f m) : EvP C (.bwd a) Γ enc (m.bind fun x => some (F x)) := fun h0 w ρ η s r q => by
  obtain ⟨x, e1, q⟩ := Option.bind_eq_some_iff.mp q
  cases q
  obtain ⟨p, e4, v⟩ := h h0 w ρ η s x e1
  rw [evE, e4, bind_ok, v, ho]; rfl
theorem EvP.mth {mt : Mt} {a : E} {es : Es} {f : α → PV} {g : β → List PV} {enc : γ → PV} {m1 : Option α} {m2 : Option β} (F : α → β → Option γ) (hr : ∀ η x, rcv η mt (f x) = true) (ho : ∀ n η x y z, F x y = some z → mtV n η mt (f x) (g y) = .ok (enc z) η)
    (h1 : EvP C a Γ f m1) (h2 : Args C es Γ g m2) : EvP C (.mth mt a es) Γ enc (m1.bind fun x => m2.bind fun y => F x y) := fun h0 w ρ η s r q => by
  obtain ⟨x, e1, q⟩ := Option.bind_eq_some_iff.mp q
  obtain ⟨y, e2, q⟩ := Option.bind_eq_some_iff.mp q
  rw [evE, h1 h0 w ρ η s x e1, bind_ok, if_pos (hr η x), h2 h0 w ρ η s y e2, bind_ok, ho C.n η x y r q]
/-- s.join of a list -/
def joinM (t : List Nat) (zs : List (List Nat)) : Option (List Nat) := if (zs.map List.length).sum + zs.length * t.length ≤ line then some (joinS t zs) else none
theorem strsV_map : ∀ zs : List (List Nat), strsV (zs.map PV.str) = some zs
  | [] => rfl
  | z :: zs => by simp [strsV, strsV_map zs]
theorem EvP.joinV {a b : E} {m1 : Option (List Nat)} {m2 : Option (List (List Nat))} (h1 : EvP C a Γ PV.str m1) (h2 : EvV C b Γ PV.str m2) : EvP C (.mth .join a (.cons b .nil)) Γ PV.str (m1.bind fun x => m2.bind fun y => joinM x y) := fun h0 w ρ η s r q => by
  obtain ⟨x, e1, q⟩ := Option.bind_eq_some_iff.mp q
  obtain ⟨y, e2, q⟩ := Option.bind_eq_some_iff.mp q
  obtain ⟨p, e3, l⟩ := h2 h0 w ρ η s y e2
  rw [evE, h1 h0 w ρ η s x e1, bind_ok, if_pos (show rcv η .join (.str x) = true from rfl), evEs, e3, bind_ok, evEs, bind_ok, bind_ok]
  show Res.opt (((seqOf η p).bind strsV).bind (joinL x)) η = _
  rw [l.seq]
  show Res.opt ((strsV (y.map PV.str)).bind (joinL x)) η = _
  rw [strsV_map]
  show Res.opt (joinL x y) η = _
  unfold joinM at q
  split at q
  · cases q
    rw [joinL, if_pos (by assumption)]; rfl
  · cases q
/-- .. of a tuple -/
theorem EvP.joinT {a b : E} {m1 : Option (List Nat)} {m2 : Option (List (List Nat))} (h1 : EvP C a Γ PV.str m1) (h2 : EvP C b Γ (eT PV.str) m2) : EvP C (.mth .join a (.cons b .nil)) Γ PV.str (m1.bind fun x => m2.bind fun y => joinM x y) := fun h0 w ρ η s r q => by
  obtain ⟨x, e1, q⟩ := Option.bind_eq_some_iff.mp q
  obtain ⟨y, e2, q⟩ := Option.bind_eq_some_iff.mp q
  have e3 := h2 h0 w ρ η s y e2
  rw [evE, h1 h0 w ρ η s x e1, bind_ok, if_pos (show rcv η .join (.str x) = true from rfl), evEs, e3, bind_ok, evEs, bind_ok, bind_ok]
  show Res.opt ((strsV (y.map PV.str)).bind (joinL x)) η = _
  rw [strsV_map]
  show Res.opt (joinL x y) η = _
  unfold joinM at q
  split at q
  · cases q
    rw [joinL, if_pos (by assumption)]; rfl
  · cases q
/-- xs.index(y) -/
def idxM [DecidableEq α] (xs : List α) (y : α) : Option Int := (xs.idxOf? y).map Int.ofNat
theorem indexOf_map [DecidableEq α] {f : α → PV} (hf : ∀ x y, eqv (f x) (f y) = decide (x = y)) (y : α) : ∀ xs : List α, indexOf (f y) (xs.map f) = xs.idxOf? y
  | [] => rfl
  | x :: xs => by
    rw [List.map_cons, indexOf, hf, indexOf_map hf y xs, List.idxOf?_cons]
    by_cases h : x = y
    · subst h; simp
    · have : ¬ (x == y) = true := by simpa using h
      simp [h, this]
theorem EvP.indexV [DecidableEq α] {a b : E} {f : α → PV} {m1 : Option (List α)} {m2 : Option α} (hf : ∀ x y, eqv (f x) (f y) = decide (x = y)) (hd : ∀ x, flat 20 (f x) = true) (h1 : EvV C a Γ f m1) (h2 : EvP C b Γ f m2) :
    EvP C (.mth .index a (.cons b .nil)) Γ PV.int (m1.bind fun x => m2.bind fun y => idxM x y) := fun h0 w ρ η s r q => by
  obtain ⟨x, e1, q⟩ := Option.bind_eq_some_iff.mp q
  obtain ⟨y, e2, q⟩ := Option.bind_eq_some_iff.mp q
  obtain ⟨p, e3, l⟩ := h1 h0 w ρ η s x e1
  rw [evE, e3, bind_ok, if_pos l.index, evEs, h2 h0 w ρ η s y e2, bind_ok, evEs, bind_ok, bind_ok]
  show Res.opt (D.indexV (f y) (vw η p)) η = _
  rw [l.vw]
  show Res.opt (indexL (f y) (x.map f)) η = _
  have hfl : (flat 20 (f y) && (x.map f).all (flat 20)) = true := by
    rw [hd, Bool.true_and, List.all_eq_true]
    intro z hz
    obtain ⟨u, _, rfl⟩ := List.mem_map.mp hz
    exact hd u
  rw [indexL, if_pos hfl, indexOf_map hf]
  unfold idxM at q
  cases e : x.idxOf? y with
  | none => rw [e] at q; cases q
  | some j => rw [e] at q; cases q; rfl
theorem EvI.seqV {e : E} {f : α → PV} {m : Option (List α)} (h : EvV C e Γ f m) : EvI C (.seq e) Γ f m := fun h0 w ρ η s a q => by
  obtain ⟨p, e1, l⟩ := h h0 w ρ η s a q
  obtain ⟨wt, e2, e3⟩ := l.walk
  exact ⟨wt, by rw [evI, e1, bind_ok, e2]; rfl, e3⟩
theorem nowt {w : Wd} {η : Hp} : ∀ c xs, (none : Wt) = some (c, xs) → nots w c ∧ η[c]? = some (.lst xs) := fun _ _ e => by cases e
theorem EvI.of0 {it : It} {f : α → PV} {m : Option (List α)} (h : EvI0 C it Γ f m) : EvI C it Γ f m := fun h0 w ρ η s a q => ⟨none, h h0 w ρ η s a q, nowt⟩
theorem EvI0.seqL {e : E} {f : α → PV} {m : Option (List α)} (h : EvP C e Γ (eL f) m) : EvI0 C (.seq e) Γ f m := fun h0 w ρ η s a q =>
  by rw [evI, h h0 w ρ η s a q, bind_ok]; rfl
theorem EvI0.seqT {e : E} {f : α → PV} {m : Option (List α)} (h : EvP C e Γ (eT f) m) : EvI0 C (.seq e) Γ f m := fun h0 w ρ η s a q =>
  by rw [evI, h h0 w ρ η s a q, bind_ok]; rfl
/-- a text, letter by letter -/
def eC (c : Nat) : PV := .str [c]
theorem EvI0.seqS {e : E} {m : Option (List Nat)} (h : EvP C e Γ PV.str m) : EvI0 C (.seq e) Γ eC m := fun h0 w ρ η s a q =>
  by rw [evI, h h0 w ρ η s a q, bind_ok]; rfl
def rng (i j : Int) : List Int := (List.range (j - i).toNat).map fun (k : Nat) => i + (k : Int)
def rngC (i j c : Int) : List Int := (List.range (if 0 < c then ((j - i + c - 1) / c).toNat else if c < 0 then ((i - j - c - 1) / (-c)).toNat else 0)).map fun (k : Nat) => i + (k : Int) * c
def rng1 (j : Int) : Option (List Int) := if small j = true then some (rng 0 j) else none
def rng2 (i j : Int) : Option (List Int) := if (small i && small j) = true then some (rng i j) else none
def rng3 (i j c : Int) : Option (List Int) := if (small i && small j && small c && decide (c ≠ 0)) = true then some (rngC i j c) else none
theorem EvI0.rng1 {e : E} {m : Option Int} (h : EvP C e Γ PV.int m) : EvI0 C (.rng (.cons e .nil)) Γ PV.int (m.bind M.rng1) := fun h0 w ρ η s a q => by
  obtain ⟨x, e1, q⟩ := Option.bind_eq_some_iff.mp q
  unfold M.rng1 at q
  split at q
  · rename_i hs
    cases q
    rw [evI, evEs, h h0 w ρ η s x e1, bind_ok, evEs, bind_ok, bind_ok]
    show Res.opt (if small x = true then some (rangeL 0 x, none) else none) η = _
    rw [if_pos hs]
    simp [rangeL, rng, Function.comp_def]
  · cases q
theorem EvI0.rng2 {e e' : E} {m m' : Option Int} (h : EvP C e Γ PV.int m) (h' : EvP C e' Γ PV.int m') : EvI0 C (.rng (.cons e (.cons e' .nil))) Γ PV.int (m.bind fun x => m'.bind fun y => M.rng2 x y) := fun h0 w ρ η s a q => by
  obtain ⟨x, e1, q⟩ := Option.bind_eq_some_iff.mp q
  obtain ⟨y, e2, q⟩ := Option.bind_eq_some_iff.mp q
  unfold M.rng2 at q
  split at q
  · rename_i hs
    cases q
    rw [evI, evEs, h h0 w ρ η s x e1, bind_ok, evEs, h' h0 w ρ η s y e2, bind_ok, evEs, bind_ok, bind_ok, bind_ok]
    show Res.opt (if (small x && small y) = true then some (rangeL x y, none) else none) η = _
    rw [if_pos hs]
    simp [rangeL, rng, Function.comp_def]
  · cases q
theorem EvI0.rng3 {e e' e'' : E} {m m' m'' : Option Int} (h : EvP C e Γ PV.int m) (h' : EvP C e' Γ PV.int m') (h'' : EvP C e'' Γ PV.int m'') :
    EvI0 C (.rng (.cons e (.cons e' (.cons e'' .nil)))) Γ PV.int (m.bind fun x => m'.bind fun y => m''.bind fun z => M.rng3 x y z) := fun h0 w ρ η s a q => by
  obtain ⟨x, e1, q⟩ := Option.bind_eq_some_iff.mp q
  obtain ⟨y, e2, q⟩ := Option.bind_eq_some_iff.mp q
  obtain ⟨z, e3, q⟩ := Option.bind_eq_some_iff.mp q
  unfold M.rng3 at q
  split at q
  · rename_i hs
    cases q
    rw [evI, evEs, h h0 w ρ η s x e1, bind_ok, evEs, h' h0 w ρ η s y e2, bind_ok, evEs, h'' h0 w ρ η s z e3, bind_ok, evEs, bind_ok, bind_ok, bind_ok, bind_ok]
    show Res.opt (if (small x && small y && small z && decide (z ≠ 0)) = true then some (rangeC x y z, none) else none) η = _
    rw [if_pos hs]
    simp [rangeC, rngC, Function.comp_def]
  · cases q
def enum (xs : List α) : List (Int × α) := xs.zipIdx.map fun p => ((p.2 : Int), p.1)
theorem enumL_enum (f : α → PV) (xs : List α) : enumL (xs.map f) = (enum xs).map (eP PV.int f) := by
  simp [enumL, enum, List.zipIdx_map, Function.comp_def]
theorem EvI0.enmL {e : E} {f : α → PV} {m : Option (List α)} (h : EvP C e Γ (eL f) m) : EvI0 C (.enm e) Γ (eP PV.int f) (m.bind fun x => some (enum x)) := fun h0 w ρ η s a q => by
  obtain ⟨x, e1, q⟩ := Option.bind_eq_some_iff.mp q
  cases q
  exact by rw [evI, h h0 w ρ η s x e1, bind_ok, ← enumL_enum]; rfl
theorem EvI0.enmT {e : E} {f : α → PV} {m : Option (List α)} (h : EvP C e Γ (eT f) m) : EvI0 C (.enm e) Γ (eP PV.int f) (m.bind fun x => some (enum x)) := fun h0 w ρ η s a q => by
  obtain ⟨x, e1, q⟩ := Option.bind_eq_some_iff.mp q
  cases q
  exact by rw [evI, h h0 w ρ η s x e1, bind_ok, ← enumL_enum]; rfl
theorem EvI0.zipL {e e' : E} {f : α → PV} {g : β → PV} {m : Option (List α)} {m' : Option (List β)} (h : EvP C e Γ (eL f) m) (h' : EvP C e' Γ (eL g) m') : EvI0 C (.zip e e') Γ (eP f g) (m.bind fun x => m'.bind fun y => some (x.zip y)) := fun h0 w ρ η s a q => by
  obtain ⟨x, e1, q⟩ := Option.bind_eq_some_iff.mp q
  obtain ⟨y, e2, q⟩ := Option.bind_eq_some_iff.mp q
  cases q
  exact by rw [evI, h h0 w ρ η s x e1, bind_ok, h' h0 w ρ η s y e2, bind_ok, ← zipL_map]; rfl
theorem EvI0.zipT {e e' : E} {f : α → PV} {g : β → PV} {m : Option (List α)} {m' : Option (List β)} (h : EvP C e Γ (eT f) m) (h' : EvP C e' Γ (eT g) m') : EvI0 C (.zip e e') Γ (eP f g) (m.bind fun x => m'.bind fun y => some (x.zip y)) := fun h0 w ρ η s a q => by
  obtain ⟨x, e1, q⟩ := Option.bind_eq_some_iff.mp q
  obtain ⟨y, e2, q⟩ := Option.bind_eq_some_iff.mp q
  cases q
  exact by rw [evI, h h0 w ρ η s x e1, bind_ok, h' h0 w ρ η s y e2, bind_ok, ← zipL_map]; rfl
/-- the slots behind a target -/
def bnd (Γ : Ctx) : Tg → PV → Ctx
  | .nm i, v => st Γ i (.val v)
  | .tup is, .tup vs => many Γ is vs
  | .tup is, .lst vs => many Γ is vs
  | _, _ => Γ
where many : Ctx → List Nat → List PV → Ctx
  | Γ, i :: is, v :: vs => many (st Γ i (.val v)) is vs
  | Γ, _, _ => Γ
def okT : Tg → PV → Bool
  | .nm _, v => noCell v
  | .tup is, .tup vs => decide (is.length = vs.length) && vs.all noCell
  | .tup is, .lst vs => decide (is.length = vs.length) && vs.all noCell
  | _, _ => false
theorem many_ok {n : Nat} : ∀ (is : List Nat) (vs : List PV) (Γ : Ctx) (ρ : Env), is.length = vs.length → vs.all noCell = true → Sat n h0 w Γ ρ η → ∃ ρ', setMany is vs ρ = some ρ' ∧ Sat n h0 w (bnd.many Γ is vs) ρ' η
  | [], [], Γ, ρ, _, _, s => ⟨ρ, rfl, s⟩
  | i :: is, v :: vs, Γ, ρ, hl, hc, s => by
    rw [List.all_cons, Bool.and_eq_true] at hc
    exact many_ok is vs _ _ (by simpa using hl) hc.2 (s.setVal i (out_nc hc.1))
  | [], _ :: _, _, _, h, _, _ => by simp at h
  | _ :: _, [], _, _, h, _, _ => by simp at h
theorem bnd_ok {n : Nat} {tg : Tg} {v : PV} (h : okT tg v = true) (s : Sat n h0 w Γ ρ η) : ∃ ρ', bindT η tg v ρ = some ρ' ∧ Sat n h0 w (bnd Γ tg v) ρ' η := by
  cases tg with
  | nm i => exact ⟨_, rfl, s.setVal i (out_nc h)⟩
  | tup is =>
    cases v with
    | tup vs =>
      simp only [okT, Bool.and_eq_true, decide_eq_true_eq] at h
      exact many_ok is vs Γ ρ h.1 h.2 s
    | lst vs =>
      simp only [okT, Bool.and_eq_true, decide_eq_true_eq] at h
      exact many_ok is vs Γ ρ h.1 h.2 s
    | _ => simp [okT] at h
/-- each turn gives something or nothing -/
def lcM (f : α → Option (Option β)) : List α → Option (List β)
  | [] => some []
  | x :: xs => (f x).bind fun o => (lcM f xs).bind fun ys => some (match o with | none => ys | some y => y :: ys)
def lcF (f : α → Option (Option β)) (xs : List α) : Option (List β) := if xs.length < line then lcM f xs else none
/-- all turns are fine -/
def lcT (g : α → β) (xs : List α) : Option (List β) := if xs.length < line then some (xs.map g) else none
def lcTF (p : α → Bool) (g : α → β) (xs : List α) : Option (List β) := if xs.length < line then some ((xs.filter p).map g) else none
/-- each turn gives one -/
def mapO (g : α → Option β) : List α → Option (List β)
  | [] => some []
  | x :: xs => (g x).bind fun y => (mapO g xs).bind fun ys => some (y :: ys)
def lcP (g : α → Option β) (xs : List α) : Option (List β) := if xs.length < line then mapO g xs else none
theorem stays_at {wt : Wt} {η : Hp} (h : ∀ c xs, wt = some (c, xs) → nots w c ∧ η[c]? = some (.lst xs)) : stays wt η = true := by
  cases wt with
  | none => rfl
  | some p => obtain ⟨c, xs⟩ := p; exact stays_iff.mpr (h c xs rfl).2
theorem lcG_ok {wt : Wt} {f : PV → Hp → Res (Option PV)} {F : α → Option (Option β)} {enc : α → PV} {enc' : β → PV} (hs : stays wt η = true) (hf : ∀ x o, F x = some o → f (enc x) η = .ok (o.map enc') η) :
    ∀ (xs : List α) (ys : List β), lcM F xs = some ys → lcG wt f (xs.map enc) η = .ok (ys.map enc') η
  | [], ys, e => by
    cases e
    simp [lcG, hs]
  | x :: xs, ys, e => by
    obtain ⟨o, e1, e⟩ := Option.bind_eq_some_iff.mp e
    obtain ⟨zs, e2, e⟩ := Option.bind_eq_some_iff.mp e
    cases e
    rw [List.map_cons, lcG, if_pos hs, hf x o e1, bind_ok, lcG_ok hs hf xs zs e2, bind_ok]
    cases o <;> rfl
theorem EvF.lc {el : E} {tg : Tg} {it : It} {cs : Es} {own : List Nat} {f : α → PV} {g : β → PV} {m : Option (List α)} {mc : α → Option Bool} {me : α → Option β} (hi : EvI C it Γ f m) (ht : ∀ x, okT tg (f x) = true)
    (hc : ∀ x, EvC C cs (bnd (sts Γ own) tg (f x)) (mc x)) (he : ∀ x, EvP C el (bnd (sts Γ own) tg (f x)) g (me x)) :
    EvF C (.lc el tg it cs own) Γ g (m.bind fun xs => lcF (fun x => (mc x).bind fun b => if b = true then (me x).map some else some none) xs) := fun h0 w ρ η s r q => by
  obtain ⟨xs, e1, q⟩ := Option.bind_eq_some_iff.mp q
  obtain ⟨wt, e2, hw⟩ := hi h0 w ρ η s xs e1
  unfold lcF at q
  split at q
  · rename_i hl
    rw [evF, e2, bind_ok, if_pos (by rw [List.length_map]; exact hl)]
    rw [lcG_ok (stays_at hw) (fun x o eo => ?_) xs r q]
    · rfl
    · obtain ⟨b, e3, eo⟩ := Option.bind_eq_some_iff.mp eo
      obtain ⟨ρ', e4, s'⟩ := bnd_ok (ht x) (s.wipe own)
      simp only [e4, opt_some, bind_ok]
      rw [hc x h0 w ρ' η s' b e3, bind_ok]
      cases b with
      | true =>
        obtain ⟨y, e5, eo⟩ := Option.map_eq_some_iff.mp eo
        cases eo
        rw [if_pos rfl, he x h0 w ρ' η s' y e5]; rfl
      | false => cases eo; rfl
  · cases q
theorem EvC.nil : EvC C .nil Γ (some true) := fun h0 w ρ η s r q => by cases q; rw [evC]
theorem EvC.one {e : E} {m : Option Bool} (h : EvB C e Γ m) : EvC C (.cons e .nil) Γ m := fun h0 w ρ η s r q => by
  obtain ⟨p, e1, l⟩ := h h0 w ρ η s r q
  rw [evC, e1, bind_ok, l, br_some]
  cases r with
  | true => rw [if_pos rfl, evC]
  | false => rfl
theorem lcM_mapO (g : α → Option β) : ∀ xs : List α, lcM (fun x => (g x).map some) xs = mapO g xs
  | [] => rfl
  | x :: xs => by
    show ((g x).map some).bind _ = (g x).bind _
    cases g x with
    | none => rfl
    | some y => rw [← lcM_mapO g xs]; rfl
theorem lcM_filter (p : α → Bool) (g : α → β) : ∀ xs : List α, lcM (fun x => if p x = true then some (some (g x)) else some none) xs = some ((xs.filter p).map g)
  | [] => rfl
  | x :: xs => by
    rw [lcM, lcM_filter p g xs]
    cases h : p x <;> simp [h]
theorem EvF.lcP {el : E} {tg : Tg} {it : It} {own : List Nat} {f : α → PV} {g : β → PV} {m : Option (List α)} {me : α → Option β} (hi : EvI C it Γ f m) (ht : ∀ x, okT tg (f x) = true)
    (he : ∀ x, EvP C el (bnd (sts Γ own) tg (f x)) g (me x)) : EvF C (.lc el tg it .nil own) Γ g (m.bind fun xs => M.lcP me xs) := by
  have := EvF.lc (mc := fun _ => some true) hi ht (fun _ => .nil) he
  simpa [M.lcP, lcF, lcM_mapO] using this
theorem EvF.lcT {el : E} {tg : Tg} {it : It} {own : List Nat} {f : α → PV} {g : β → PV} {m : Option (List α)} {me : α → β} (hi : EvI C it Γ f m) (ht : ∀ x, okT tg (f x) = true)
    (he : ∀ x, EvP C el (bnd (sts Γ own) tg (f x)) g (some (me x))) : EvF C (.lc el tg it .nil own) Γ g (m.bind fun xs => M.lcT me xs) := by
  have := EvF.lc (mc := fun _ => some true) hi ht (fun _ => .nil) he
  have e : ∀ xs, lcM (fun x => some (some (me x))) xs = some (xs.map me) := fun xs => by
    have := lcM_filter (fun _ => true) me xs
    rw [List.filter_eq_self.mpr (fun _ _ => rfl)] at this
    simpa using this
  simpa [M.lcT, lcF, e] using this
theorem EvF.lcTF {el : E} {tg : Tg} {it : It} {cs : Es} {own : List Nat} {f : α → PV} {g : β → PV} {m : Option (List α)} {mc : α → Bool} {me : α → β} (hi : EvI C it Γ f m) (ht : ∀ x, okT tg (f x) = true)
    (hc : ∀ x, EvC C cs (bnd (sts Γ own) tg (f x)) (some (mc x))) (he : ∀ x, EvP C el (bnd (sts Γ own) tg (f x)) g (some (me x))) : EvF C (.lc el tg it cs own) Γ g (m.bind fun xs => M.lcTF mc me xs) := by
  have := EvF.lc hi ht hc he
  simpa [M.lcTF, lcF, lcM_filter] using this
def lcHM (F : α → Option (List β)) : List α → Option (List β)
  | [] => some []
  | x :: xs => (F x).bind fun zs => (lcHM F xs).bind fun ys => some (zs ++ ys)
def lc2M (F : α → Option (List β)) (xs : List α) : Option (List β) := (lcHM F xs).bind fun zs => if zs.length ≤ line then some zs else none
theorem lcH_ok {wt : Wt} {f : PV → Hp → Res (List PV)} {F : α → Option (List β)} {enc : α → PV} {enc' : β → PV} (hs : stays wt η = true) (hf : ∀ x o, F x = some o → f (enc x) η = .ok (o.map enc') η) :
    ∀ (xs : List α) (ys : List β), lcHM F xs = some ys → lcH wt f (xs.map enc) η = .ok (ys.map enc') η
  | [], ys, e => by
    cases e
    simp [lcH, hs]
  | x :: xs, ys, e => by
    obtain ⟨o, e1, e⟩ := Option.bind_eq_some_iff.mp e
    obtain ⟨zs, e2, e⟩ := Option.bind_eq_some_iff.mp e
    cases e
    rw [List.map_cons, lcH, if_pos hs, hf x o e1, bind_ok, lcH_ok hs hf xs zs e2, bind_ok, List.map_append]
theorem EvF.lc2 {δ : Type} {el : E} {tg tg1 : Tg} {it it1 : It} {cs1 : Es} {own own1 : List Nat} {f : α → PV} {f1 : δ → PV} {g : β → PV} {m : Option (List α)} {m1 : α → Option (List δ)} {mc : α → δ → Option Bool} {me : α → δ → Option β} (hi : EvI C it Γ f m) (ht : ∀ x, okT tg (f x) = true)
    (hi1 : ∀ x, EvI C it1 (bnd (sts Γ own) tg (f x)) f1 (m1 x)) (ht1 : ∀ x, okT tg1 (f1 x) = true)
    (hc : ∀ x y, EvC C cs1 (bnd (sts (bnd (sts Γ own) tg (f x)) own1) tg1 (f1 y)) (mc x y)) (he : ∀ x y, EvP C el (bnd (sts (bnd (sts Γ own) tg (f x)) own1) tg1 (f1 y)) g (me x y)) :
    EvF C (.lc2 el tg it .nil tg1 it1 cs1 own own1) Γ g (m.bind fun xs => M.lc2M (fun x => (m1 x).bind fun ys => lcM (fun y => (mc x y).bind fun b => if b = true then (me x y).map some else some none) ys) xs) := fun h0 w ρ η s r q => by
  obtain ⟨xs, e1, q⟩ := Option.bind_eq_some_iff.mp q
  obtain ⟨wt, e2, hw⟩ := hi h0 w ρ η s xs e1
  obtain ⟨zs, ez, q⟩ := Option.bind_eq_some_iff.mp q
  split at q
  · rename_i hl
    cases q
    rw [evF, e2, bind_ok]
    rw [lcH_ok (enc' := g) (stays_at hw) (fun x o eo => ?_) xs r ez, bind_ok, if_pos (by rw [List.length_map]; exact hl)]
    · rfl
    · obtain ⟨xs1, e3, eo⟩ := Option.bind_eq_some_iff.mp eo
      obtain ⟨ρ', e4, s'⟩ := bnd_ok (ht x) (s.wipe own)
      simp only [e4, opt_some, bind_ok, evC, if_true]
      obtain ⟨wt1, e5, hw1⟩ := hi1 x h0 w ρ' η s' xs1 e3
      rw [e5, bind_ok]
      refine lcG_ok (stays_at hw1) (fun y o2 eo2 => ?_) xs1 o eo
      obtain ⟨b, e6, eo2⟩ := Option.bind_eq_some_iff.mp eo2
      obtain ⟨ρ2, e7, s2⟩ := bnd_ok (ht1 y) (s'.wipe own1)
      simp only [e7, opt_some, bind_ok]
      rw [hc x y h0 w ρ2 η s2 b e6, bind_ok]
      cases b with
      | true =>
        obtain ⟨z, e8, eo2⟩ := Option.map_eq_some_iff.mp eo2
        cases eo2
        rw [if_pos rfl, he x y h0 w ρ2 η s2 z e8]; rfl
      | false => cases eo2; rfl
  · cases q
theorem EvF.lc2P {δ : Type} {el : E} {tg tg1 : Tg} {it it1 : It} {own own1 : List Nat} {f : α → PV} {f1 : δ → PV} {g : β → PV} {m : Option (List α)} {m1 : α → Option (List δ)} {me : α → δ → Option β} (hi : EvI C it Γ f m) (ht : ∀ x, okT tg (f x) = true)
    (hi1 : ∀ x, EvI C it1 (bnd (sts Γ own) tg (f x)) f1 (m1 x)) (ht1 : ∀ x, okT tg1 (f1 x) = true)
    (he : ∀ x y, EvP C el (bnd (sts (bnd (sts Γ own) tg (f x)) own1) tg1 (f1 y)) g (me x y)) :
    EvF C (.lc2 el tg it .nil tg1 it1 .nil own own1) Γ g (m.bind fun xs => M.lc2M (fun x => (m1 x).bind fun ys => mapO (me x) ys) xs) := by
  have := EvF.lc2 (mc := fun _ _ => some true) hi ht hi1 ht1 (fun _ _ => .nil) he
  simpa [lcM_mapO] using this
/-- xs.count(y) -/
def cntM [DecidableEq α] (xs : List α) (y : α) : Int := (xs.countP fun x => decide (x = y) : Nat)
theorem LstAt.count {p : PV} {xs : List PV} (h : LstAt w η p xs) : rcv η .count p = true := by
  rcases h with rfl | ⟨c, rfl, h1, h⟩
  · rfl
  · show rcvO .count η[c]? = true; rw [h]; rfl
theorem EvP.countV [DecidableEq α] {a b : E} {f : α → PV} {m1 : Option (List α)} {m2 : Option α} (hf : ∀ x y, eqv (f x) (f y) = decide (x = y)) (hd : ∀ x, flat 20 (f x) = true) (h1 : EvV C a Γ f m1) (h2 : EvP C b Γ f m2) :
    EvP C (.mth .count a (.cons b .nil)) Γ PV.int (m1.bind fun x => m2.bind fun y => some (cntM x y)) := fun h0 w ρ η s r q => by
  obtain ⟨x, e1, q⟩ := Option.bind_eq_some_iff.mp q
  obtain ⟨y, e2, q⟩ := Option.bind_eq_some_iff.mp q
  cases q
  obtain ⟨p, e3, l⟩ := h1 h0 w ρ η s x e1
  rw [evE, e3, bind_ok, if_pos l.count, evEs, h2 h0 w ρ η s y e2, bind_ok, evEs, bind_ok, bind_ok]
  show Res.opt (D.countV (f y) (vw η p)) η = _
  rw [l.vw]
  show Res.opt (countL (f y) (x.map f)) η = _
  have hfl : (flat 20 (f y) && (x.map f).all (flat 20)) = true := by
    rw [hd, Bool.true_and, List.all_eq_true]
    intro z hz
    obtain ⟨u, _, rfl⟩ := List.mem_map.mp hz
    exact hd u
  rw [countL, if_pos hfl, List.countP_map]
  have : ((fun x => eqv x (f y)) ∘ f) = fun x => decide (x = y) := funext fun z => hf z y
  rw [this]
  rfl
theorem EvP.unO {e : E} {f : α → PV} {m : Option (Option α)} (h : EvP C e Γ (eO f) m) : EvP C e Γ f (m.bind fun a => a) := fun h0 w ρ η s x q => by
  obtain ⟨o, e1, q⟩ := Option.bind_eq_some_iff.mp q
  cases q
  exact h h0 w ρ η s _ e1
@[reducible] def hN : Unit → List PV := fun _ => []
@[reducible] def hC {α β : Type} (f : α → PV) (h : β → List PV) : α × β → List PV := fun p => f p.1 :: h p.2
@[reducible] def eH {α : Type} (h : α → List PV) : α → PV := fun p => .lst (h p)
theorem EvP.hl {es : Es} {g : β → List PV} {m : Option β} (h : Args C es Γ g m) (hl : ∀ b, (g b).length ≤ line) : EvP C (.fz (.lst es)) Γ (eH g) m := fun h0 w ρ η s x e => by
  rw [evE, evF, h h0 w ρ η s x e, bind_ok, if_pos (hl x), bind_ok]
end
end M
end

section
set_option linter.all false
set_option Elab.async false
set_option maxRecDepth 100000
namespace M
open D
section
variable {α β γ δ : Type}
def Nc (enc : α → PV) : Prop := ∀ a, noCell (enc a) = true
theorem nI : Nc PV.int := fun _ => rfl
theorem nB : Nc PV.bl := fun _ => rfl
theorem nS : Nc PV.str := fun _ => rfl
theorem nC : Nc eC := fun _ => rfl
theorem nU : Nc eU := fun _ => rfl
theorem noCells_map {f : α → PV} (h : Nc f) : ∀ xs : List α, noCells (xs.map f) = true
  | [] => rfl
  | x :: xs => by simp only [List.map_cons, noCells, h x, noCells_map h xs, Bool.and_self]
theorem nL {f : α → PV} (h : Nc f) : Nc (eL f) := fun xs => by simp only [eL, noCell]; exact noCells_map h xs
theorem nT {f : α → PV} (h : Nc f) : Nc (eT f) := fun xs => by simp only [eT, noCell]; exact noCells_map h xs
theorem nP {f : α → PV} {g : β → PV} (h : Nc f) (k : Nc g) : Nc (eP f g) := fun p => by simp only [eP, noCell, noCells, h p.1, k p.2, Bool.and_self]
theorem nP3 {f : α → PV} {g : β → PV} {e : γ → PV} (h : Nc f) (k : Nc g) (l : Nc e) : Nc (eP3 f g e) := fun p => by simp only [eP3, noCell, noCells, h p.1, k p.2.1, l p.2.2, Bool.and_self]
theorem nP4 {f : α → PV} {g : β → PV} {e : γ → PV} {e' : δ → PV} (h : Nc f) (k : Nc g) (l : Nc e) (l' : Nc e') : Nc (eP4 f g e e') := fun p => by simp only [eP4, noCell, noCells, h p.1, k p.2.1, l p.2.2.1, l' p.2.2.2, Bool.and_self]
theorem nhN : ∀ a, noCells (hN a) = true := fun _ => rfl
theorem nhC {f : α → PV} {g : β → List PV} (h : Nc f) (k : ∀ a, noCells (g a) = true) : ∀ a, noCells (hC f g a) = true := fun p => by simp only [noCells, h p.1, k p.2, Bool.and_self]
theorem nH {g : β → List PV} (k : ∀ a, noCells (g a) = true) : Nc (eH g) := fun p => by simp only [noCell]; exact k p
theorem nO {f : α → PV} (h : Nc f) : Nc (eO f) := fun o => by cases o with | none => rfl | some x => exact h x
theorem nc_all {f : α → PV} (h : Nc f) (xs : List α) : (xs.map f).all noCell = true := by
  rw [List.all_eq_true]; intro z hz; obtain ⟨u, _, rfl⟩ := List.mem_map.mp hz; exact h u
theorem vw_nc {f : α → PV} (h : Nc f) (η : Hp) (a : α) : vw η (f a) = f a := by
  have := h a
  cases e : f a <;> rw [e] at this <;> first | rfl | (simp [noCell] at this)
theorem flat_mono : ∀ {d d' : Nat} {v : PV}, d ≤ d' → flat d v = true → flat d' v = true := by
  intro d
  induction d with
  | zero => intro d' v _ h; cases v <;> first | (cases d' <;> rfl) | (simp [flat] at h)
  | succ d ih =>
    intro d' v hd h
    cases d' with
    | zero => omega
    | succ d' =>
      cases v with
      | tup xs => simp only [flat, List.all_eq_true] at h ⊢; exact fun x hx => ih (by omega) (h x hx)
      | lst xs => simp only [flat, List.all_eq_true] at h ⊢; exact fun x hx => ih (by omega) (h x hx)
      | cell c => simp [flat] at h
      | scr c => simp [flat] at h
      | _ => rfl
structure Dt [DecidableEq α] (enc : α → PV) (d : Nat) : Prop where
  flat : ∀ x, D.flat d (enc x) = true
  eqv : ∀ x y, D.eqv (enc x) (enc y) = decide (x = y)
theorem dtI : Dt PV.int 0 := ⟨fun _ => rfl, fun x y => by simp only [D.eqv]; rfl⟩
theorem dtB : Dt PV.bl 0 := ⟨fun _ => rfl, fun x y => by cases x <;> cases y <;> rfl⟩
theorem dtS : Dt PV.str 0 := ⟨fun _ => rfl, fun x y => by simp only [D.eqv]; exact Bool.eq_iff_iff.mpr (by simp)⟩
theorem dtC : Dt eC 0 := ⟨fun _ => rfl, fun x y => by simp only [eC, D.eqv]; exact Bool.eq_iff_iff.mpr (by simp)⟩
theorem dtU : Dt eU 0 := ⟨fun _ => rfl, fun x y => rfl⟩
theorem eqvs_map [DecidableEq α] {f : α → PV} {d : Nat} (h : Dt f d) : ∀ xs ys : List α, eqvs (xs.map f) (ys.map f) = decide (xs = ys)
  | [], [] => rfl
  | [], _ :: _ => rfl
  | _ :: _, [] => rfl
  | x :: xs, y :: ys => by
    simp only [List.map_cons, eqvs, h.eqv, eqvs_map h xs ys]
    exact Bool.eq_iff_iff.mpr (by simp)
theorem dtL [DecidableEq α] {f : α → PV} {d : Nat} (h : Dt f d) : Dt (eL f) (d + 1) :=
  ⟨fun xs => by simp only [eL, D.flat, List.all_eq_true]; intro z hz; obtain ⟨u, _, rfl⟩ := List.mem_map.mp hz; exact h.flat u, fun x y => by simp only [eL, D.eqv]; exact eqvs_map h x y⟩
theorem dtT [DecidableEq α] {f : α → PV} {d : Nat} (h : Dt f d) : Dt (eT f) (d + 1) :=
  ⟨fun xs => by simp only [eT, D.flat, List.all_eq_true]; intro z hz; obtain ⟨u, _, rfl⟩ := List.mem_map.mp hz; exact h.flat u, fun x y => by simp only [eT, D.eqv]; exact eqvs_map h x y⟩
theorem dtP [DecidableEq α] [DecidableEq β] {f : α → PV} {g : β → PV} {d d' : Nat} (h : Dt f d) (k : Dt g d') : Dt (eP f g) (max d d' + 1) :=
  ⟨fun p => by simp only [eP, D.flat, List.all_cons, List.all_nil, Bool.and_true, Bool.and_eq_true]; exact ⟨flat_mono (Nat.le_max_left ..) (h.flat _), flat_mono (Nat.le_max_right ..) (k.flat _)⟩,
   fun x y => by simp only [eP, D.eqv, eqvs, h.eqv, k.eqv, Bool.and_true]; exact Bool.eq_iff_iff.mpr (by simp [Prod.ext_iff])⟩
theorem dtP3 [DecidableEq α] [DecidableEq β] [DecidableEq γ] {f : α → PV} {g : β → PV} {e : γ → PV} {d d' d'' : Nat} (h : Dt f d) (k : Dt g d') (l : Dt e d'') : Dt (eP3 f g e) (max d (max d' d'') + 1) :=
  ⟨fun p => by
    simp only [eP3, D.flat, List.all_cons, List.all_nil, Bool.and_true, Bool.and_eq_true]
    exact ⟨flat_mono (by omega) (h.flat _), flat_mono (by omega) (k.flat _), flat_mono (by omega) (l.flat _)⟩,
   fun x y => by simp only [eP3, D.eqv, eqvs, h.eqv, k.eqv, l.eqv, Bool.and_true]; exact Bool.eq_iff_iff.mpr (by simp [Prod.ext_iff])⟩
theorem dtO [DecidableEq α] {f : α → PV} {d : Nat} (h : Dt f d) (n : ∀ x, D.isNone (f x) = false) : Dt (eO f) d := by
  refine ⟨fun o => ?_, fun x y => ?_⟩
  · cases o with
    | none => cases d <;> rfl
    | some x => exact h.flat x
  · cases x with
    | none =>
      cases y with
      | none => rfl
      | some y =>
        have := n y
        simp only [eO]
        cases e : f y <;> rw [e] at this <;> first | rfl | (simp [D.isNone] at this)
    | some x =>
      cases y with
      | none =>
        have := n x
        simp only [eO]
        cases e : f x <;> rw [e] at this <;> first | rfl | (simp [D.isNone] at this)
      | some y =>
        simp only [eO, h.eqv]
        exact Bool.eq_iff_iff.mpr (by simp)
theorem cmEq [DecidableEq α] {f : α → PV} {d : Nat} (h : Dt f d) (hd : d ≤ 50) (x y : α) : cmV .eq (f x) (f y) = some (decide (x = y)) := by
  rw [cmV_s1, flat_mono hd (h.flat x), flat_mono hd (h.flat y), h.eqv]; rfl
theorem cmNe [DecidableEq α] {f : α → PV} {d : Nat} (h : Dt f d) (hd : d ≤ 50) (x y : α) : cmV .ne (f x) (f y) = some (!decide (x = y)) := by
  rw [cmV_s2, flat_mono hd (h.flat x), flat_mono hd (h.flat y), h.eqv]; rfl
theorem all_flat [DecidableEq α] {f : α → PV} {d n : Nat} (h : Dt f d) (hd : d ≤ n) (ys : List α) : (ys.map f).all (flat n) = true := by
  rw [List.all_eq_true]; intro z hz; obtain ⟨u, _, rfl⟩ := List.mem_map.mp hz; exact flat_mono hd (h.flat u)
def inM [DecidableEq α] (x : α) (ys : List α) : Bool := decide (x ∈ ys)
@[simp] theorem inM_iff [DecidableEq α] (x : α) (ys : List α) : inM x ys = true ↔ x ∈ ys := by simp [inM]
theorem any_eqv [DecidableEq α] {f : α → PV} {d : Nat} (h : Dt f d) (x : α) (ys : List α) : ((ys.map f).any fun z => eqv z (f x)) = inM x ys := by
  unfold inM
  rw [List.any_map, Bool.eq_iff_iff, List.any_eq_true, decide_eq_true_eq]
  constructor
  · rintro ⟨z, hz, e⟩
    simp only [Function.comp, h.eqv, decide_eq_true_eq] at e
    exact e ▸ hz
  · exact fun hx => ⟨x, hx, by simp [h.eqv]⟩
theorem cmInL [DecidableEq α] {f : α → PV} {d : Nat} (h : Dt f d) (hd : d ≤ 50) (x : α) (ys : List α) : cmV .isin (f x) (eL f ys) = some (inM x ys) := by
  rw [cmV_s7, isIn_s1, flat_mono hd (h.flat x), all_flat h hd, any_eqv h]; rfl
theorem cmInT [DecidableEq α] {f : α → PV} {d : Nat} (h : Dt f d) (hd : d ≤ 50) (x : α) (ys : List α) : cmV .isin (f x) (eT f ys) = some (inM x ys) := by
  rw [cmV_s7, isIn_s2, flat_mono hd (h.flat x), all_flat h hd, any_eqv h]; rfl
theorem cmNinL [DecidableEq α] {f : α → PV} {d : Nat} (h : Dt f d) (hd : d ≤ 50) (x : α) (ys : List α) : cmV .notin (f x) (eL f ys) = some (!inM x ys) := by
  have := cmInL h hd x ys
  rw [cmV_s7] at this
  rw [cmV_s8, this]; rfl
theorem cmNinT [DecidableEq α] {f : α → PV} {d : Nat} (h : Dt f d) (hd : d ≤ 50) (x : α) (ys : List α) : cmV .notin (f x) (eT f ys) = some (!inM x ys) := by
  have := cmInT h hd x ys
  rw [cmV_s7] at this
  rw [cmV_s8, this]; rfl
theorem cmInC (c : Nat) (s : List Nat) : cmV .isin (eC c) (.str s) = some (inM c s) := by
  rw [cmV_s7, isIn_s3, eC]
  exact congrArg some (Bool.eq_iff_iff.mpr (by simp [inM]))
theorem cmNinC (c : Nat) (s : List Nat) : cmV .notin (eC c) (.str s) = some (!inM c s) := by
  have := cmInC c s
  rw [cmV_s7] at this
  rw [cmV_s8, this]; rfl
structure Od (enc : α → PV) (lt : α → α → Bool) (d : Nat) : Prop where
  flat : ∀ x, D.flat d (enc x) = true
  alk : ∀ x y, D.alk (enc x) (enc y) = true
  lt : ∀ x y, ltb (enc x) (enc y) = lt x y
  non : ∀ x, D.isNone (enc x) = false
def ltL [DecidableEq α] (lt : α → α → Bool) : List α → List α → Bool
  | [], [] => false
  | [], _ :: _ => true
  | _ :: _, [] => false
  | x :: xs, y :: ys => if x = y then ltL lt xs ys else lt x y
def ltP [DecidableEq α] [DecidableEq β] (l : α → α → Bool) (k : β → β → Bool) (x y : α × β) : Bool := if x.1 = y.1 then (if x.2 = y.2 then false else k x.2 y.2) else l x.1 y.1
def ltI (x y : Int) : Bool := decide (x < y)
theorem odI : Od PV.int ltI 0 := ⟨fun _ => rfl, fun _ _ => rfl, fun _ _ => rfl, fun _ => rfl⟩
theorem odS : Od PV.str ltS 0 := ⟨fun _ => rfl, fun _ _ => rfl, fun _ _ => rfl, fun _ => rfl⟩
def ltC (x y : Nat) : Bool := if x = y then false else decide (x < y)
theorem odC : Od eC ltC 0 := ⟨fun _ => rfl, fun _ _ => rfl, fun x y => by simp [eC, ltb, ltS, ltC], fun _ => rfl⟩
theorem alks_map {f : α → PV} {lt : α → α → Bool} {d : Nat} (h : Od f lt d) : ∀ xs ys : List α, alks (xs.map f) (ys.map f) = true
  | [], _ => by cases ‹List α› <;> rfl
  | _ :: _, [] => rfl
  | x :: xs, y :: ys => by simp only [List.map_cons, alks, h.alk, alks_map h xs ys, Bool.and_self]
theorem ltbs_map [DecidableEq α] {f : α → PV} {lt : α → α → Bool} {d d' : Nat} (h : Od f lt d) (k : Dt f d') : ∀ xs ys : List α, ltbs (xs.map f) (ys.map f) = ltL lt xs ys
  | [], [] => rfl
  | [], _ :: _ => rfl
  | _ :: _, [] => rfl
  | x :: xs, y :: ys => by
    simp only [List.map_cons, ltbs, k.eqv, h.lt, ltbs_map h k xs ys, ltL, decide_eq_true_eq]
theorem odL [DecidableEq α] {f : α → PV} {lt : α → α → Bool} {d d' : Nat} (h : Od f lt d) (k : Dt f d') : Od (eL f) (ltL lt) (d' + 1) :=
  ⟨(dtL k).flat, fun x y => by simp only [eL, D.alk]; exact alks_map h x y, fun x y => by simp only [eL, ltb]; exact ltbs_map h k x y, fun _ => rfl⟩
theorem odT [DecidableEq α] {f : α → PV} {lt : α → α → Bool} {d d' : Nat} (h : Od f lt d) (k : Dt f d') : Od (eT f) (ltL lt) (d' + 1) :=
  ⟨(dtT k).flat, fun x y => by simp only [eT, D.alk]; exact alks_map h x y, fun x y => by simp only [eT, ltb]; exact ltbs_map h k x y, fun _ => rfl⟩
theorem odP [DecidableEq α] [DecidableEq β] {f : α → PV} {g : β → PV} {l : α → α → Bool} {l' : β → β → Bool} {d d' d1 d2 : Nat} (h : Od f l d) (h' : Od g l' d') (k : Dt f d1) (k' : Dt g d2) : Od (eP f g) (ltP l l') (max d1 d2 + 1) :=
  ⟨(dtP k k').flat, fun x y => by simp only [eP, D.alk, alks, h.alk, h'.alk, Bool.and_self], fun x y => by simp only [eP, ltb, ltbs, k.eqv, k'.eqv, h.lt, h'.lt, ltP, decide_eq_true_eq], fun _ => rfl⟩
theorem ordOk_od {f : α → PV} {lt : α → α → Bool} {d : Nat} (h : Od f lt d) (hd : d ≤ 50) (x y : α) : ordOk (f x) (f y) = true := by
  simp only [ordOk, flat_mono hd (h.flat x), flat_mono hd (h.flat y), h.alk, h.non]; rfl
theorem cmLt {f : α → PV} {lt : α → α → Bool} {d : Nat} (h : Od f lt d) (hd : d ≤ 50) (x y : α) : cmV .lt (f x) (f y) = some (lt x y) := by
  rw [cmV_s3, if_pos (ordOk_od h hd x y), h.lt]
theorem cmGt {f : α → PV} {lt : α → α → Bool} {d : Nat} (h : Od f lt d) (hd : d ≤ 50) (x y : α) : cmV .gt (f x) (f y) = some (lt y x) := by
  rw [cmV_s4, if_pos (ordOk_od h hd x y), h.lt]
theorem cmLe {f : α → PV} {lt : α → α → Bool} {d : Nat} (h : Od f lt d) (hd : d ≤ 50) (x y : α) : cmV .le (f x) (f y) = some (!lt y x) := by
  rw [cmV_s5, if_pos (ordOk_od h hd x y), h.lt]
theorem cmGe {f : α → PV} {lt : α → α → Bool} {d : Nat} (h : Od f lt d) (hd : d ≤ 50) (x y : α) : cmV .ge (f x) (f y) = some (!lt x y) := by
  rw [cmV_s6, if_pos (ordOk_od h hd x y), h.lt]
theorem ciLt (x y : Int) : cmV .lt (.int x) (.int y) = some (decide (x < y)) := rfl
theorem ciGt (x y : Int) : cmV .gt (.int x) (.int y) = some (decide (y < x)) := rfl
theorem ciLe (x y : Int) : cmV .le (.int x) (.int y) = some (decide (x ≤ y)) := congrArg some (show (!decide (y < x)) = decide (x ≤ y) from Bool.eq_iff_iff.mpr (by simp))
theorem ciGe (x y : Int) : cmV .ge (.int x) (.int y) = some (decide (y ≤ x)) := congrArg some (show (!decide (x < y)) = decide (y ≤ x) from Bool.eq_iff_iff.mpr (by simp))
def sortM (lt : α → α → Bool) (xs : List α) : List α := xs.mergeSort fun a b => !lt b a
theorem alkAll_map {f : α → PV} {lt : α → α → Bool} {d : Nat} (h : Od f lt d) (xs : List α) : alkAll (xs.map f) = true := by
  simp only [alkAll, List.all_eq_true]
  intro x hx y hy
  obtain ⟨u, _, rfl⟩ := List.mem_map.mp hx
  obtain ⟨v, _, rfl⟩ := List.mem_map.mp hy
  exact h.alk u v
theorem sortV_map {f : α → PV} {lt : α → α → Bool} {d : Nat} (h : Od f lt d) (xs : List α) : sortV (xs.map f) = (sortM lt xs).map f := by
  unfold sortV sortM
  rw [List.map_mergeSort]
  intro a _ b _
  rw [h.lt]
theorem all_flatO {f : α → PV} {lt : α → α → Bool} {d n : Nat} (h : Od f lt d) (hd : d ≤ n) (xs : List α) : (xs.map f).all (flat n) = true := by
  rw [List.all_eq_true]; intro z hz; obtain ⟨u, _, rfl⟩ := List.mem_map.mp hz; exact flat_mono hd (h.flat u)
theorem sortL_map {f : α → PV} {lt : α → α → Bool} {d : Nat} (h : Od f lt d) (hd : d ≤ 20) (xs : List α) (hk : (∀ x ∈ xs, isTup1 (f x) = true) ∨ ∀ x ∈ xs, isTup (f x) = false) : sortL (xs.map f) = some (eL f (sortM lt xs)) := by
  have : sortOk (xs.map f) = true := by
    simp only [sortOk, all_flatO h hd, alkAll_map h, Bool.true_and, Bool.or_eq_true, List.all_map]
    rcases hk with hk | hk
    · exact .inl (List.all_eq_true.mpr hk)
    · exact .inr (List.all_eq_true.mpr fun x hx => by simp [h.non x, hk x hx])
  rw [sortL, if_pos this, sortV_map h]
theorem biSortN {f : α → PV} {lt : α → α → Bool} {d : Nat} (h : Od f lt d) (hd : d ≤ 20) (hk : ∀ x, isTup (f x) = false) (w : Wd) (η : Hp) (p : PV) (t r : List α) (e : some (sortM lt t) = some r) (l : LstAt w η p (t.map f)) : D.biV η .sorted [p] = some (eL f r) := by
  cases e
  show (lstO η p).bind sortL = _
  rw [l.lst]
  exact sortL_map h hd t (.inr fun x _ => hk x)
theorem biSort1 {f : α → PV} {lt : α → α → Bool} {d : Nat} (h : Od f lt d) (hd : d ≤ 20) (hk : ∀ x, isTup1 (f x) = true) (w : Wd) (η : Hp) (p : PV) (t r : List α) (e : some (sortM lt t) = some r) (l : LstAt w η p (t.map f)) : D.biV η .sorted [p] = some (eL f r) := by
  cases e
  show (lstO η p).bind sortL = _
  rw [l.lst]
  exact sortL_map h hd t (.inl fun x _ => hk x)
/-- tuples, none of them empty -/
def sortT [DecidableEq α] (lt : α → α → Bool) (xs : List (List α)) : Option (List (List α)) := if xs.all (fun x => !x.isEmpty) = true then some (sortM (ltL lt) xs) else none
theorem biSortT [DecidableEq α] {f : α → PV} {lt : α → α → Bool} {d d' : Nat} (h : Od f lt d) (k : Dt f d') (hd : d' + 1 ≤ 20) (w : Wd) (η : Hp) (p : PV) (t r : List (List α)) (e : sortT lt t = some r) (l : LstAt w η p (t.map (eT f))) : D.biV η .sorted [p] = some (eL (eT f) r) := by
  unfold sortT at e
  split at e
  · rename_i ha
    cases e
    show (lstO η p).bind sortL = _
    rw [l.lst]
    refine sortL_map (odT h k) hd t (.inl fun x hx => ?_)
    have := List.all_eq_true.mp ha x hx
    cases x with
    | nil => simp at this
    | cons => rfl
  · cases e
def minM (lt : α → α → Bool) : List α → Option α
  | [] => none
  | x :: r => some (r.foldl (fun a y => if lt y a = true then y else a) x)
def maxM (lt : α → α → Bool) : List α → Option α
  | [] => none
  | x :: r => some (r.foldl (fun a y => if lt a y = true then y else a) x)
theorem minOk_map {f : α → PV} {lt : α → α → Bool} {d : Nat} (h : Od f lt d) (hd : d ≤ 20) (xs : List α) : minOk (xs.map f) = true := by
  simp only [minOk, all_flatO h hd, alkAll_map h, Bool.true_and, List.all_map, List.all_eq_true]
  intro x _
  simp [h.non]
theorem biMin {f : α → PV} {lt : α → α → Bool} {d : Nat} (h : Od f lt d) (hd : d ≤ 20) (w : Wd) (η : Hp) (p : PV) (t : List α) (r : α) (e : minM lt t = some r) (l : LstAt w η p (t.map f)) : D.biV η .min [p] = some (f r) := by
  show (seqOf η p).bind minL = _
  rw [l.seq]
  cases t with
  | nil => cases e
  | cons x t =>
    cases e
    show minL (f x :: t.map f) = _
    have := minOk_map h hd (x :: t)
    rw [List.map_cons] at this
    rw [minL, if_pos this, minV]
    congr 1
    rw [List.foldl_map]
    have : ∀ (ys : List α) (a : α), ys.foldl (fun x y => if ltb (f y) x = true then f y else x) (f a) = f (ys.foldl (fun a y => if lt y a = true then y else a) a) := by
      intro ys
      induction ys with
      | nil => intro a; rfl
      | cons y ys ih => intro a; rw [List.foldl_cons, List.foldl_cons, h.lt]; split <;> exact ih _
    exact this t x
theorem biMax {f : α → PV} {lt : α → α → Bool} {d : Nat} (h : Od f lt d) (hd : d ≤ 20) (w : Wd) (η : Hp) (p : PV) (t : List α) (r : α) (e : maxM lt t = some r) (l : LstAt w η p (t.map f)) : D.biV η .max [p] = some (f r) := by
  show (seqOf η p).bind maxL = _
  rw [l.seq]
  cases t with
  | nil => cases e
  | cons x t =>
    cases e
    show maxL (f x :: t.map f) = _
    have := minOk_map h hd (x :: t)
    rw [List.map_cons] at this
    rw [maxL, if_pos this, maxV1]
    congr 1
    rw [List.foldl_map]
    have : ∀ (ys : List α) (a : α), ys.foldl (fun x y => if ltb x (f y) = true then f y else x) (f a) = f (ys.foldl (fun a y => if lt a y = true then y else a) a) := by
      intro ys
      induction ys with
      | nil => intro a; rfl
      | cons y ys ih => intro a; rw [List.foldl_cons, List.foldl_cons, h.lt]; split <;> exact ih _
    exact this t x
def mulM (x y : Int) : Option Int := if (cap x || cap y) = true then some (x * y) else none
def fdivM (x y : Int) : Option Int := if y ≠ 0 ∧ y.natAbs < 1073741824 then some (x.fdiv y) else none
def modM (x y : Int) : Option Int := if y ≠ 0 then some (x.fmod y) else none
def powM (x y : Int) : Option Int := if 0 ≤ y ∧ y ≤ 1000 ∧ cap x then some (x ^ y.toNat) else none
def catM (x y : List α) : Option (List α) := if x.length + y.length ≤ line then some (x ++ y) else none
def repM (x : List α) (j : Int) : Option (List α) := if j.natAbs < 1048576 ∧ x.length * j.toNat ≤ line then some (List.replicate j.toNat x).flatten else none
def repT (x : List α) (j : Int) : Option (List α) := if -1000 ≤ j ∧ j ≤ 1000 ∧ x.length ≤ 1000 then some (List.replicate j.toNat x).flatten else none
theorem opAdd (x y z : Int) (e : some (x + y) = some z) : opV .add (.int x) (.int y) = some (.int z) := by cases e; rfl
theorem opSub (x y z : Int) (e : some (x - y) = some z) : opV .sub (.int x) (.int y) = some (.int z) := by cases e; rfl
theorem opMul (x y z : Int) (e : mulM x y = some z) : opV .mul (.int x) (.int y) = some (.int z) := by
  unfold mulM at e; split at e
  · cases e; rw [opV_s6, if_pos (by assumption)]
  · cases e
theorem opFdiv (x y z : Int) (e : fdivM x y = some z) : opV .fdiv (.int x) (.int y) = some (.int z) := by
  unfold fdivM at e; split at e
  · cases e; rw [opV_s10, if_pos (by assumption)]
  · cases e
theorem opMod (x y z : Int) (e : modM x y = some z) : opV .mod (.int x) (.int y) = some (.int z) := by
  unfold modM at e; split at e
  · cases e; rw [opV_s11, if_pos (by assumption)]
  · cases e
theorem opPow (x y z : Int) (e : powM x y = some z) : opV .pow (.int x) (.int y) = some (.int z) := by
  unfold powM at e; split at e
  · cases e; rw [opV_s12, if_pos (by assumption)]
  · cases e
theorem opCatS (x y z : List Nat) (e : catM x y = some z) : opV .add (.str x) (.str y) = some (.str z) := by
  unfold catM at e; split at e
  · cases e; rw [opV_s2, if_pos (by assumption)]
  · cases e
theorem opCatL {f : α → PV} (x y z : List α) (e : catM x y = some z) : opV .add (eL f x) (eL f y) = some (eL f z) := by
  unfold catM at e; split at e
  · cases e; rw [opV_s4, if_pos (by simpa using by assumption), eL, List.map_append]
  · cases e
theorem opCatT {f : α → PV} (x y z : List α) (e : catM x y = some z) : opV .add (eT f x) (eT f y) = some (eT f z) := by
  unfold catM at e; split at e
  · cases e; rw [opV_s3, if_pos (by simpa using by assumption), eT, List.map_append]
  · cases e
theorem opRepS (x : List Nat) (y : Int) (z : List Nat) (e : repM x y = some z) : opV .mul (.str x) (.int y) = some (.str z) := by
  unfold repM at e; split at e
  · cases e; rw [opV_s9, if_pos (by assumption)]
  · cases e
theorem rep_map {f : α → PV} (x : List α) (n : Nat) : (List.replicate n (x.map f)).flatten = (List.replicate n x).flatten.map f := by
  induction n with
  | zero => rfl
  | succ n ih => rw [List.replicate_succ, List.replicate_succ, List.flatten_cons, List.flatten_cons, ih, List.map_append]
theorem opRepL {f : α → PV} (x : List α) (y : Int) (z : List α) (e : repM x y = some z) : opV .mul (eL f x) (.int y) = some (eL f z) := by
  unfold repM at e; split at e
  · rename_i h; cases e; rw [opV_s7, if_pos (by simpa using h), rep_map]
  · cases e
theorem opRepT {f : α → PV} (x : List α) (y : Int) (z : List α) (e : repT x y = some z) : opV .mul (eT f x) (.int y) = some (eT f z) := by
  unfold repT at e; split at e
  · rename_i h; cases e; rw [opV_s8, if_pos (by simpa using h), rep_map]
  · cases e
theorem slL {f : α → PV} (x : List α) (l u : Option Int) : slcV l u (eL f x) = some (eL f (cut x l u)) := by
  simp [slcV, cut, List.map_drop, List.map_take]
theorem slT {f : α → PV} (x : List α) (l u : Option Int) : slcV l u (eT f x) = some (eT f (cut x l u)) := by
  simp [slcV, cut, List.map_drop, List.map_take]
theorem slS (x : List Nat) (l u : Option Int) : slcV l u (.str x) = some (.str (cut x l u)) := rfl
theorem bwS (x : List Nat) : bwdV (.str x) = some (.str x.reverse) := rfl
theorem bwL {f : α → PV} (x : List α) : bwdV (eL f x) = some (eL f x.reverse) := by simp [bwdV, eL]
theorem ixT {f : α → PV} (η : Hp) (x : List α) (i : Int) (z : α) (e : atI x i = some z) : idxV η (eT f x) (.int i) = some (f z) := by
  rw [idxV_s2, atI_map, e]; rfl
theorem ixL {f : α → PV} (η : Hp) (x : List α) (i : Int) (z : α) (e : atI x i = some z) : idxV η (eL f x) (.int i) = some (f z) := by
  rw [idxV_s1, atI_map, e]; rfl
theorem ixS (η : Hp) (x : List Nat) (i : Int) (z : Nat) (e : atI x i = some z) : idxV η (.str x) (.int i) = some (eC z) := by
  rw [idxV_s3, e]; rfl
theorem lnV {f : α → PV} (w : Wd) (η : Hp) (p : PV) (t : List α) (r : Int) (e : some (t.length : Int) = some r) (l : LstAt w η p (t.map f)) : D.biV η .len [p] = some (.int r) := by
  cases e
  show lenV η [p] = _
  rw [l.len, List.length_map]
theorem lnT {f : α → PV} (η : Hp) (t : List α × Unit) (r : Int) (e : some (t.1.length : Int) = some r) : D.biV η .len [eT f t.1] = some (.int r) := by
  cases e
  show some (PV.int _) = _
  rw [List.length_map]
theorem lnS (η : Hp) (t : List Nat × Unit) (r : Int) (e : some (t.1.length : Int) = some r) : D.biV η .len [.str t.1] = some (.int r) := by cases e; rfl
def absI (x : Int) : Int := if x < 0 then -x else x
theorem biAbs (η : Hp) (t : Int × Unit) (r : Int) (e : some (absI t.1) = some r) : D.biV η .abs [.int t.1] = some (.int r) := by cases e; rfl
def intB (b : Bool) : Int := if b = true then 1 else 0
theorem biIntB (η : Hp) (t : Bool × Unit) (r : Int) (e : some (intB t.1) = some r) : D.biV η .int [.bl t.1] = some (.int r) := by cases e; rfl
theorem biIntI (η : Hp) (t : Int × Unit) (r : Int) (e : some t.1 = some r) : D.biV η .int [.int t.1] = some (.int r) := by cases e; rfl
theorem biTupV {f : α → PV} (w : Wd) (η : Hp) (p : PV) (t r : List α) (e : some t = some r) (l : LstAt w η p (t.map f)) : D.biV η .tuple [p] = some (eT f r) := by
  cases e
  show (seqOf η p).map PV.tup = _
  rw [l.seq]; rfl
theorem biTupT {f : α → PV} (η : Hp) (t : List α × Unit) (r : List α) (e : some t.1 = some r) : D.biV η .tuple [eT f t.1] = some (eT f r) := by cases e; rfl
theorem biLstV {f : α → PV} (w : Wd) (η : Hp) (p : PV) (t r : List α) (e : some t = some r) (l : LstAt w η p (t.map f)) : D.biV η .list [p] = some (eL f r) := by
  cases e
  show (keySeq η p).map PV.lst = _
  rw [l.key]; rfl
theorem biLstT {f : α → PV} (η : Hp) (t : List α × Unit) (r : List α) (e : some t.1 = some r) : D.biV η .list [eT f t.1] = some (eL f r) := by cases e; rfl
theorem biLstS (η : Hp) (t : List Nat × Unit) (r : List Nat) (e : some t.1 = some r) : D.biV η .list [.str t.1] = some (eL eC r) := by cases e; rfl
theorem bools_enc : ∀ xs : List Bool, bools (xs.map PV.bl) = some xs
  | [] => rfl
  | x :: xs => by simp [bools, bools_enc xs]
theorem ints_enc : ∀ xs : List Int, intsV (xs.map PV.int) = some xs
  | [] => rfl
  | x :: xs => by simp [intsV, ints_enc xs]
theorem biAll (w : Wd) (η : Hp) (p : PV) (t : List Bool) (r : Bool) (e : some (t.all id) = some r) (l : LstAt w η p (t.map PV.bl)) : D.biV η .all [p] = some (.bl r) := by
  cases e
  show (lstO η p).bind allL = _
  rw [l.lst]
  show (bools (t.map PV.bl)).map _ = _
  rw [bools_enc]; rfl
theorem biAny (w : Wd) (η : Hp) (p : PV) (t : List Bool) (r : Bool) (e : some (t.any id) = some r) (l : LstAt w η p (t.map PV.bl)) : D.biV η .any [p] = some (.bl r) := by
  cases e
  show (lstO η p).bind anyL = _
  rw [l.lst]
  show (bools (t.map PV.bl)).map _ = _
  rw [bools_enc]; rfl
theorem biSum (w : Wd) (η : Hp) (p : PV) (t : List Int) (r : Int) (e : some t.sum = some r) (l : LstAt w η p (t.map PV.int)) : D.biV η .sum [p] = some (.int r) := by
  cases e
  show (lstO η p).bind sumL = _
  rw [l.lst]
  show (intsV (t.map PV.int)).map _ = _
  rw [ints_enc]; rfl
def max2 (i j : Int) : Int := if j > i then j else i
def min2 (i j : Int) : Int := if j < i then j else i
theorem biMax2 (η : Hp) (t : Int × Int × Unit) (r : Int) (e : some (max2 t.1 t.2.1) = some r) : D.biV η .max [.int t.1, .int t.2.1] = some (.int r) := by cases e; rfl
theorem biMin2 (η : Hp) (t : Int × Int × Unit) (r : Int) (e : some (min2 t.1 t.2.1) = some r) : D.biV η .min [.int t.1, .int t.2.1] = some (.int r) := by cases e; rfl
def strM (i : Int) : Option (List Nat) := if i.natAbs < 1000000000000 then some (digs i) else none
theorem biStr (η : Hp) (t : Int × Unit) (r : List Nat) (e : strM t.1 = some r) : D.biV η .str [.int t.1] = some (.str r) := by
  unfold strM at e; split at e
  · rename_i h; cases e; show (if _ then _ else _) = _; rw [if_pos h]
  · cases e
theorem mtStarts (n : Nat) (η : Hp) (x : List Nat) (y : List Nat × Unit) (z : Bool) (e : some (y.1.isPrefixOf x) = some z) : mtV n η .starts (.str x) [.str y.1] = .ok (.bl z) η := by cases e; rfl
end
end M
end

section
set_option linter.all false
set_option Elab.async false
set_option maxRecDepth 100000
namespace M
open D
section
variable (C : Cfg) (c : Nat) {α β γ : Type}
def EvS (e : E) (Γ : Ctx) (s : SS) (enc : α → PV) (m : Option (α × SS)) : Prop :=
  ∀ h0 ρ η, Sat C.n h0 (some (c, s)) Γ ρ η → ∀ a s', m = some (a, s') → ∃ η', evE C e ρ η = .ok (enc a) η' ∧ Sat C.n h0 (some (c, s')) Γ ρ η' ∧ η' = η.set c s'.ob
def SArgs (es : Es) (Γ : Ctx) (s : SS) (enc : α → List PV) (m : Option (α × SS)) : Prop :=
  ∀ h0 ρ η, Sat C.n h0 (some (c, s)) Γ ρ η → ∀ a s', m = some (a, s') → ∃ η', evEs C es ρ η = .ok (enc a) η' ∧ Sat C.n h0 (some (c, s')) Γ ρ η' ∧ η' = η.set c s'.ob
def EvSF (f : F) (Γ : Ctx) (s : SS) (enc : α → PV) (m : Option (List α × SS)) : Prop :=
  ∀ h0 ρ η, Sat C.n h0 (some (c, s)) Γ ρ η → ∀ a s', m = some (a, s') → ∃ η', evF C f ρ η = .ok (a.map enc) η' ∧ Sat C.n h0 (some (c, s')) Γ ρ η' ∧ η' = η.set c s'.ob
def EvSB (e : E) (Γ : Ctx) (s : SS) (m : Option (Bool × SS)) : Prop :=
  ∀ h0 ρ η, Sat C.n h0 (some (c, s)) Γ ρ η → ∀ a s', m = some (a, s') → ∃ p η', evE C e ρ η = .ok p η' ∧ truth η' p = some a ∧ Sat C.n h0 (some (c, s')) Γ ρ η' ∧ η' = η.set c s'.ob
def EvSC (es : Es) (Γ : Ctx) (s : SS) (m : Option (Bool × SS)) : Prop :=
  ∀ h0 ρ η, Sat C.n h0 (some (c, s)) Γ ρ η → ∀ a s', m = some (a, s') → ∃ η', evC C es ρ η = .ok a η' ∧ Sat C.n h0 (some (c, s')) Γ ρ η' ∧ η' = η.set c s'.ob
def EvSI (it : It) (Γ : Ctx) (s : SS) (enc : α → PV) (m : Option (List α × SS)) : Prop :=
  ∀ h0 ρ η, Sat C.n h0 (some (c, s)) Γ ρ η → ∀ a s', m = some (a, s') → ∃ (wt : Wt) (η' : Hp), evI C it ρ η = .ok (a.map enc, wt) η' ∧ Sat C.n h0 (some (c, s')) Γ ρ η' ∧ η' = η.set c s'.ob ∧ wt = none
end
/-- without a draw -/
def up {α : Type} (s : SS) (m : Option α) : Option (α × SS) := m.map fun a => (a, s)
@[simp] theorem up_some {α : Type} (s : SS) (a : α) : up s (some a) = some (a, s) := rfl
@[simp] theorem up_none {α : Type} (s : SS) : up s (none : Option α) = none := rfl
theorem up_bind {α β : Type} (s : SS) (m : Option α) (f : α × SS → Option β) : (up s m).bind f = m.bind fun a => f (a, s) := by cases m <;> rfl
theorem up_def {α : Type} (s : SS) (m : Option α) : up s m = m.bind fun a => some (a, s) := by cases m <;> rfl
section
variable {C : Cfg} {c : Nat} {α β γ δ : Type} {Γ : Ctx} {s : SS}
theorem set_same {n : Nat} {h0 : Pr} {η : Hp} {ρ : Env} {c : Nat} {s : SS} (sa : Sat n h0 (some (c, s)) Γ ρ η) : η.set c s.ob = η := by
  have e := (sa.stm c s rfl).1
  have hc := (List.getElem?_eq_some_iff.mp e).1
  apply List.ext_getElem?
  intro j
  by_cases hj : c = j
  · subst hj; rw [List.getElem?_set_self hc, e]
  · rw [List.getElem?_set_ne hj]
theorem of_up {m : Option α} {a : α} {s' : SS} (h : up s m = some (a, s')) : m = some a ∧ s' = s := by
  cases m with
  | none => cases h
  | some x => cases h; exact ⟨rfl, rfl⟩
theorem EvS.ofP {e : E} {enc : α → PV} {m : Option α} (h : EvP C e Γ enc m) : EvS C c e Γ s enc (up s m) := fun h0 ρ η sa a s' q => by
  obtain ⟨q1, rfl⟩ := of_up q
  exact ⟨η, h h0 _ ρ η sa a q1, sa, (set_same sa).symm⟩
theorem EvSF.ofP {f : F} {enc : α → PV} {m : Option (List α)} (h : EvF C f Γ enc m) : EvSF C c f Γ s enc (up s m) := fun h0 ρ η sa a s' q => by
  obtain ⟨q1, rfl⟩ := of_up q
  exact ⟨η, h h0 _ ρ η sa a q1, sa, (set_same sa).symm⟩
theorem EvSB.ofP {e : E} {m : Option Bool} (h : EvB C e Γ m) : EvSB C c e Γ s (up s m) := fun h0 ρ η sa a s' q => by
  obtain ⟨q1, rfl⟩ := of_up q
  obtain ⟨p, e1, l⟩ := h h0 _ ρ η sa a q1
  exact ⟨p, η, e1, l, sa, (set_same sa).symm⟩
theorem SArgs.ofP {es : Es} {enc : α → List PV} {m : Option α} (h : Args C es Γ enc m) : SArgs C c es Γ s enc (up s m) := fun h0 ρ η sa a s' q => by
  obtain ⟨q1, rfl⟩ := of_up q
  exact ⟨η, h h0 _ ρ η sa a q1, sa, (set_same sa).symm⟩
theorem EvSI.ofP {it : It} {enc : α → PV} {m : Option (List α)} (h : EvI0 C it Γ enc m) : EvSI C c it Γ s enc (up s m) := fun h0 ρ η sa a s' q => by
  obtain ⟨q1, rfl⟩ := of_up q
  exact ⟨none, η, h h0 _ ρ η sa a q1, sa, (set_same sa).symm, rfl⟩
theorem SArgs.nil : SArgs C c .nil Γ s (fun _ : Unit => []) (some ((), s)) := fun h0 ρ η sa a s' q => by cases q; exact ⟨η, by rw [evEs], sa, (set_same sa).symm⟩
theorem SArgs.cons {e : E} {es : Es} {f : α → PV} {g : β → List PV} {m1 : Option (α × SS)} {m2 : SS → Option (β × SS)} (h1 : EvS C c e Γ s f m1) (h2 : ∀ s, SArgs C c es Γ s g (m2 s)) :
    SArgs C c (.cons e es) Γ s (fun p : α × β => f p.1 :: g p.2) (m1.bind fun x => (m2 x.2).bind fun y => some ((x.1, y.1), y.2)) := fun h0 ρ η sa a s' q => by
  obtain ⟨⟨x, s1⟩, e1, q⟩ := Option.bind_eq_some_iff.mp q
  obtain ⟨⟨y, s2⟩, e2, q⟩ := Option.bind_eq_some_iff.mp q
  cases q
  obtain ⟨η1, r1, sa1, k1⟩ := h1 h0 ρ η sa x s1 e1
  obtain ⟨η2, r2, sa2, k2⟩ := h2 s1 h0 ρ η1 sa1 y s2 e2
  exact ⟨η2, by rw [evEs, r1, bind_ok, r2, bind_ok], sa2, k2.trans (by rw [k1, List.set_set])⟩
theorem EvS.tup {es : Es} {g : β → List PV} {m : Option (β × SS)} {enc : α → PV} (mk : β → α) (h : SArgs C c es Γ s g m) (he : ∀ b, enc (mk b) = .tup (g b)) (hl : ∀ b, (g b).length ≤ line) :
    EvS C c (.tup es) Γ s enc (m.bind fun b => some (mk b.1, b.2)) := fun h0 ρ η sa a s' q => by
  obtain ⟨⟨x, s1⟩, e1, q⟩ := Option.bind_eq_some_iff.mp q
  cases q
  obtain ⟨η1, r1, sa1, k1⟩ := h h0 ρ η sa x _ e1
  exact ⟨η1, by rw [evE, r1, bind_ok, if_pos (hl x), he], sa1, k1⟩
theorem EvSF.lst {es : Es} {g : β → List PV} {m : Option (β × SS)} {enc : α → PV} (mk : β → List α) (h : SArgs C c es Γ s g m) (he : ∀ b, (mk b).map enc = g b) (hl : ∀ b, (g b).length ≤ line) :
    EvSF C c (.lst es) Γ s enc (m.bind fun b => some (mk b.1, b.2)) := fun h0 ρ η sa a s' q => by
  obtain ⟨⟨x, s1⟩, e1, q⟩ := Option.bind_eq_some_iff.mp q
  cases q
  obtain ⟨η1, r1, sa1, k1⟩ := h h0 ρ η sa x _ e1
  exact ⟨η1, by rw [evF, r1, bind_ok, if_pos (hl x), he], sa1, k1⟩
theorem EvS.hl {es : Es} {g : β → List PV} {m : Option (β × SS)} (h : SArgs C c es Γ s g m) (hl : ∀ b, (g b).length ≤ line) : EvS C c (.fz (.lst es)) Γ s (eH g) m := fun h0 ρ η sa x s' q => by
  obtain ⟨η1, r1, sa1, k1⟩ := h h0 ρ η sa x _ q
  exact ⟨η1, by rw [evE, evF, r1, bind_ok, if_pos (hl x), bind_ok], sa1, k1⟩
theorem EvS.fz {f : F} {enc : α → PV} {m : Option (List α × SS)} (h : EvSF C c f Γ s enc m) : EvS C c (.fz f) Γ s (eL enc) m := fun h0 ρ η sa a s' q => by
  obtain ⟨η1, r1, sa1, k1⟩ := h h0 ρ η sa a _ q
  exact ⟨η1, by rw [evE, r1, bind_ok], sa1, k1⟩
theorem EvS.call {f : Nat} {es : Es} {g : α → List PV} {enc : β → PV} {m : Option (α × SS)} (F : α → SS → Option (β × SS)) (hf : ∀ η t s r s', F t s = some (r, s') → η[c]? = some s.ob → C.cf f (g t) η = .ok (enc r) (η.set c s'.ob)) (h : SArgs C c es Γ s g m) :
    EvS C c (.call f es) Γ s enc (m.bind fun t => F t.1 t.2) := fun h0 ρ η sa a s' q => by
  obtain ⟨⟨x, s1⟩, e1, q⟩ := Option.bind_eq_some_iff.mp q
  obtain ⟨η1, r1, sa1, k1⟩ := h h0 ρ η sa x _ e1
  exact ⟨_, by rw [evE, r1, bind_ok, hf η1 x s1 a s' q (sa1.stm c s1 rfl).1], sa1.drawn, by rw [k1, List.set_set]⟩
theorem EvS.bin {o : Op} {a b : E} {f : α → PV} {g : β → PV} {enc : γ → PV} {m1 : Option (α × SS)} {m2 : SS → Option (β × SS)} (F : α → β → Option γ) (hf : Nc f) (hg : Nc g) (ho : ∀ x y z, F x y = some z → opV o (f x) (g y) = some (enc z)) (h1 : EvS C c a Γ s f m1) (h2 : ∀ s, EvS C c b Γ s g (m2 s)) :
    EvS C c (.bin o a b) Γ s enc (m1.bind fun x => (m2 x.2).bind fun y => (F x.1 y.1).bind fun z => some (z, y.2)) := fun h0 ρ η sa r s' q => by
  obtain ⟨⟨x, s1⟩, e1, q⟩ := Option.bind_eq_some_iff.mp q
  obtain ⟨⟨y, s2⟩, e2, q⟩ := Option.bind_eq_some_iff.mp q
  obtain ⟨z, e3, q⟩ := Option.bind_eq_some_iff.mp q
  cases q
  obtain ⟨η1, r1, sa1, k1⟩ := h1 h0 ρ η sa x s1 e1
  obtain ⟨η2, r2, sa2, k2⟩ := h2 s1 h0 ρ η1 sa1 y s2 e2
  exact ⟨η2, by rw [evE, r1, bind_ok, r2, bind_ok, vw_nc hf, vw_nc hg, ho x y r e3]; rfl, sa2, k2.trans (by rw [k1, List.set_set])⟩
theorem EvS.cmp {o : Cm} {a b : E} {f : α → PV} {g : β → PV} {m1 : Option (α × SS)} {m2 : SS → Option (β × SS)} (F : α → β → Bool) (hf : Nc f) (hg : Nc g) (ho : ∀ x y, cmV o (f x) (g y) = some (F x y)) (h1 : EvS C c a Γ s f m1) (h2 : ∀ s, EvS C c b Γ s g (m2 s)) :
    EvS C c (.cmp o a b) Γ s PV.bl (m1.bind fun x => (m2 x.2).bind fun y => some (F x.1 y.1, y.2)) := fun h0 ρ η sa r s' q => by
  obtain ⟨⟨x, s1⟩, e1, q⟩ := Option.bind_eq_some_iff.mp q
  obtain ⟨⟨y, s2⟩, e2, q⟩ := Option.bind_eq_some_iff.mp q
  cases q
  obtain ⟨η1, r1, sa1, k1⟩ := h1 h0 ρ η sa x s1 e1
  obtain ⟨η2, r2, sa2, k2⟩ := h2 s1 h0 ρ η1 sa1 y _ e2
  exact ⟨η2, by rw [evE, r1, bind_ok, r2, bind_ok, vw_nc hf, vw_nc hg, ho x y]; rfl, sa2, k2.trans (by rw [k1, List.set_set])⟩
theorem EvS.bi {b : BI} {es : Es} {g : α → List PV} {enc : β → PV} {m : Option (α × SS)} (F : α → Option β) (hf : ∀ η t r, F t = some r → biV η b (g t) = some (enc r)) (h : SArgs C c es Γ s g m) :
    EvS C c (.bi b es) Γ s enc (m.bind fun t => (F t.1).bind fun r => some (r, t.2)) := fun h0 ρ η sa r s' q => by
  obtain ⟨⟨x, s1⟩, e1, q⟩ := Option.bind_eq_some_iff.mp q
  obtain ⟨y, e2, q⟩ := Option.bind_eq_some_iff.mp q
  cases q
  obtain ⟨η1, r1, sa1, k1⟩ := h h0 ρ η sa x _ e1
  exact ⟨η1, by rw [evE, r1, bind_ok, hf η1 x r e2]; rfl, sa1, k1⟩
theorem EvSF.bi {b : BI} {es : Es} {g : α → List PV} {enc : β → PV} {m : Option (α × SS)} (F : α → Option (List β)) (hf : ∀ η t r, F t = some r → biV η b (g t) = some (eL enc r)) (h : SArgs C c es Γ s g m) :
    EvSF C c (.bi b es) Γ s enc (m.bind fun t => (F t.1).bind fun r => some (r, t.2)) := fun h0 ρ η sa r s' q => by
  obtain ⟨⟨x, s1⟩, e1, q⟩ := Option.bind_eq_some_iff.mp q
  obtain ⟨y, e2, q⟩ := Option.bind_eq_some_iff.mp q
  cases q
  obtain ⟨η1, r1, sa1, k1⟩ := h h0 ρ η sa x _ e1
  exact ⟨η1, by rw [evF, r1, bind_ok, hf η1 x r e2]; rfl, sa1, k1⟩
/-- a built-in of one list that is made with draws -/
theorem EvS.biV {b : BI} {a : E} {f : α → PV} {enc : β → PV} {m : Option (List α × SS)} (F : List α → Option β) (hf : ∀ w η p t r, F t = some r → LstAt w η p (t.map f) → D.biV η b [p] = some (enc r)) (h : EvS C c a Γ s (eL f) m) :
    EvS C c (.bi b (.cons a .nil)) Γ s enc (m.bind fun t => (F t.1).bind fun r => some (r, t.2)) := fun h0 ρ η sa r s' q => by
  obtain ⟨⟨x, s1⟩, e1, q⟩ := Option.bind_eq_some_iff.mp q
  obtain ⟨y, e2, q⟩ := Option.bind_eq_some_iff.mp q
  cases q
  obtain ⟨η1, r1, sa1, k1⟩ := h h0 ρ η sa x _ e1
  exact ⟨η1, by rw [evE, evEs, r1, bind_ok, evEs, bind_ok, bind_ok, hf none η1 _ x r e2 (.inl rfl)]; rfl, sa1, k1⟩
theorem EvS.idx {a i : E} {f : α → PV} {g : β → PV} {enc : γ → PV} {m1 : Option (α × SS)} {m2 : SS → Option (β × SS)} (F : α → β → Option γ) (ho : ∀ η x y z, F x y = some z → idxV η (f x) (g y) = some (enc z)) (h1 : EvS C c a Γ s f m1) (h2 : ∀ s, EvS C c i Γ s g (m2 s)) :
    EvS C c (.idx a i) Γ s enc (m1.bind fun x => (m2 x.2).bind fun y => (F x.1 y.1).bind fun z => some (z, y.2)) := fun h0 ρ η sa r s' q => by
  obtain ⟨⟨x, s1⟩, e1, q⟩ := Option.bind_eq_some_iff.mp q
  obtain ⟨⟨y, s2⟩, e2, q⟩ := Option.bind_eq_some_iff.mp q
  obtain ⟨z, e3, q⟩ := Option.bind_eq_some_iff.mp q
  cases q
  obtain ⟨η1, r1, sa1, k1⟩ := h1 h0 ρ η sa x s1 e1
  obtain ⟨η2, r2, sa2, k2⟩ := h2 s1 h0 ρ η1 sa1 y s2 e2
  exact ⟨η2, by rw [evE, r1, bind_ok, r2, bind_ok, ho η2 x y r e3]; rfl, sa2, k2.trans (by rw [k1, List.set_set])⟩
/-- an own list at a drawn place -/
theorem EvS.idxOwn {i : E} {j : Nat} {f : α → PV} {xs : List α} {m2 : Option (Int × SS)} (hj : gt Γ j = .own (xs.map f)) (h2 : EvS C c i Γ s PV.int m2) :
    EvS C c (.idx (.var j) i) Γ s f (m2.bind fun y => (atI xs y.1).bind fun z => some (z, y.2)) := fun h0 ρ η sa r s' q => by
  obtain ⟨⟨y, s2⟩, e2, q⟩ := Option.bind_eq_some_iff.mp q
  obtain ⟨z, e3, q⟩ := Option.bind_eq_some_iff.mp q
  cases q
  obtain ⟨d, g1, g2, g3, g4⟩ := sa.own j _ hj
  obtain ⟨η2, r2, sa2, k2⟩ := h2 h0 ρ η sa y _ e2
  obtain ⟨d', g1', _, _, g4'⟩ := sa2.own j _ hj
  rw [g1] at g1'; cases g1'
  refine ⟨η2, ?_, sa2, k2⟩
  rw [evE, evE, g1]
  show (Res.ok (PV.cell d) η).bind _ = _
  rw [bind_ok, r2, bind_ok, idxV_s4, g4', idxO_s1, atI_map, e3]; rfl
theorem EvS.ite {e a b : E} {enc : α → PV} {mc : Option (Bool × SS)} {m1 m2 : SS → Option (α × SS)} (hc : EvSB C c e Γ s mc) (h1 : ∀ s, EvS C c a Γ s enc (m1 s)) (h2 : ∀ s, EvS C c b Γ s enc (m2 s)) :
    EvS C c (.ite e a b) Γ s enc (mc.bind fun x => if x.1 = true then m1 x.2 else m2 x.2) := fun h0 ρ η sa r s' q => by
  obtain ⟨⟨x, s1⟩, e1, q⟩ := Option.bind_eq_some_iff.mp q
  obtain ⟨p, η1, r1, t1, sa1, k1⟩ := hc h0 ρ η sa x s1 e1
  cases x with
  | true =>
    obtain ⟨η2, r2, sa2, k2⟩ := h1 s1 h0 ρ η1 sa1 r s' q
    exact ⟨η2, by rw [evE, r1, bind_ok, t1, br_some, if_pos rfl, r2], sa2, k2.trans (by rw [k1, List.set_set])⟩
  | false =>
    obtain ⟨η2, r2, sa2, k2⟩ := h2 s1 h0 ρ η1 sa1 r s' q
    exact ⟨η2, by rw [evE, r1, bind_ok, t1, br_some, if_neg (by simp), r2], sa2, k2.trans (by rw [k1, List.set_set])⟩
theorem EvSB.bl {e : E} {m : Option (Bool × SS)} (h : EvS C c e Γ s PV.bl m) : EvSB C c e Γ s m := fun h0 ρ η sa a s' q => by
  obtain ⟨η1, r1, sa1, k1⟩ := h h0 ρ η sa a _ q
  exact ⟨_, η1, r1, rfl, sa1, k1⟩
theorem EvSB.one {e : E} {t : Bool} {m : Option (Bool × SS)} (h : EvSB C c e Γ s m) : EvSB C c (.bop t (.cons e .nil)) Γ s m := fun h0 ρ η sa a s' q => by
  obtain ⟨p, η1, r1, r2, sa1, k1⟩ := h h0 ρ η sa a _ q
  exact ⟨p, η1, by rw [evE, evB, r1], r2, sa1, k1⟩
theorem EvSB.and {e e' : E} {es : Es} {m1 : Option (Bool × SS)} {m2 : SS → Option (Bool × SS)} (h1 : EvSB C c e Γ s m1) (h2 : ∀ s, EvSB C c (.bop true (.cons e' es)) Γ s (m2 s)) :
    EvSB C c (.bop true (.cons e (.cons e' es))) Γ s (m1.bind fun x => if x.1 = true then m2 x.2 else some (false, x.2)) := fun h0 ρ η sa a s' q => by
  obtain ⟨⟨x, s1⟩, e1, q⟩ := Option.bind_eq_some_iff.mp q
  obtain ⟨p, η1, r1, t1, sa1, k1⟩ := h1 h0 ρ η sa x s1 e1
  cases x with
  | true =>
    obtain ⟨p2, η2, r2, t2, sa2, k2⟩ := h2 s1 h0 ρ η1 sa1 a s' q
    refine ⟨p2, η2, ?_, t2, sa2, k2.trans (by rw [k1, List.set_set])⟩
    rw [evE, evB, r1, bind_ok, t1]
    exact r2
  | false =>
    cases q
    exact ⟨p, η1, by rw [evE, evB, r1, bind_ok, t1]; rfl, t1, sa1, k1⟩
theorem EvSB.or {e e' : E} {es : Es} {m1 : Option (Bool × SS)} {m2 : SS → Option (Bool × SS)} (h1 : EvSB C c e Γ s m1) (h2 : ∀ s, EvSB C c (.bop false (.cons e' es)) Γ s (m2 s)) :
    EvSB C c (.bop false (.cons e (.cons e' es))) Γ s (m1.bind fun x => if x.1 = true then some (true, x.2) else m2 x.2) := fun h0 ρ η sa a s' q => by
  obtain ⟨⟨x, s1⟩, e1, q⟩ := Option.bind_eq_some_iff.mp q
  obtain ⟨p, η1, r1, t1, sa1, k1⟩ := h1 h0 ρ η sa x s1 e1
  cases x with
  | true =>
    cases q
    exact ⟨p, η1, by rw [evE, evB, r1, bind_ok, t1]; rfl, t1, sa1, k1⟩
  | false =>
    obtain ⟨p2, η2, r2, t2, sa2, k2⟩ := h2 s1 h0 ρ η1 sa1 a s' q
    refine ⟨p2, η2, ?_, t2, sa2, k2.trans (by rw [k1, List.set_set])⟩
    rw [evE, evB, r1, bind_ok, t1]
    exact r2
theorem EvS.not {e : E} {m : Option (Bool × SS)} (h : EvSB C c e Γ s m) : EvS C c (.not e) Γ s PV.bl (m.bind fun b => some (!b.1, b.2)) := fun h0 ρ η sa a s' q => by
  obtain ⟨⟨x, s1⟩, e1, q⟩ := Option.bind_eq_some_iff.mp q
  cases q
  obtain ⟨p, η1, r1, t1, sa1, k1⟩ := h h0 ρ η sa x _ e1
  exact ⟨η1, by rw [evE, r1, bind_ok, t1]; rfl, sa1, k1⟩
theorem EvS.joinV {a b : E} {x : List Nat} {m2 : Option (List (List Nat) × SS)} (h1 : EvP C a Γ PV.str (some x)) (h2 : EvS C c b Γ s (eL PV.str) m2) : EvS C c (.mth .join a (.cons b .nil)) Γ s PV.str (m2.bind fun y => (joinM x y.1).bind fun z => some (z, y.2)) := fun h0 ρ η sa r s' q => by
  obtain ⟨⟨y, s1⟩, e2, q⟩ := Option.bind_eq_some_iff.mp q
  obtain ⟨z, e3, q⟩ := Option.bind_eq_some_iff.mp q
  cases q
  obtain ⟨η1, r1, sa1, k1⟩ := h2 h0 ρ η sa y _ e2
  refine ⟨η1, ?_, sa1, k1⟩
  rw [evE, h1 h0 _ ρ η sa x rfl, bind_ok, if_pos (show rcv η .join (.str x) = true from rfl), evEs, r1, bind_ok, evEs, bind_ok, bind_ok]
  show Res.opt ((strsV (y.map PV.str)).bind (joinL x)) η1 = _
  rw [strsV_map]
  show Res.opt (joinL x y) η1 = _
  unfold joinM at e3
  split at e3
  · cases e3
    rw [joinL, if_pos (by assumption)]; rfl
  · cases e3
theorem EvSI.seqL {e : E} {f : α → PV} {m : Option (List α × SS)} (h : EvS C c e Γ s (eL f) m) : EvSI C c (.seq e) Γ s f m := fun h0 ρ η sa a s' q => by
  obtain ⟨η1, r1, sa1, k1⟩ := h h0 ρ η sa a _ q
  exact ⟨none, η1, by rw [evI, r1, bind_ok]; rfl, sa1, k1, rfl⟩
theorem EvSI.seqT {e : E} {f : α → PV} {m : Option (List α × SS)} (h : EvS C c e Γ s (eT f) m) : EvSI C c (.seq e) Γ s f m := fun h0 ρ η sa a s' q => by
  obtain ⟨η1, r1, sa1, k1⟩ := h h0 ρ η sa a _ q
  exact ⟨none, η1, by rw [evI, r1, bind_ok]; rfl, sa1, k1, rfl⟩
theorem EvSI.rng1 {e : E} {m : Option (Int × SS)} (h : EvS C c e Γ s PV.int m) : EvSI C c (.rng (.cons e .nil)) Γ s PV.int (m.bind fun x => (M.rng1 x.1).bind fun r => some (r, x.2)) := fun h0 ρ η sa a s' q => by
  obtain ⟨⟨x, s1⟩, e1, q⟩ := Option.bind_eq_some_iff.mp q
  obtain ⟨y, e2, q⟩ := Option.bind_eq_some_iff.mp q
  cases q
  unfold M.rng1 at e2
  split at e2
  · rename_i hs
    cases e2
    obtain ⟨η1, r1, sa1, k1⟩ := h h0 ρ η sa x _ e1
    refine ⟨none, η1, ?_, sa1, k1, rfl⟩
    rw [evI, evEs, r1, bind_ok, evEs, bind_ok, bind_ok]
    show Res.opt (if small x = true then some (rangeL 0 x, none) else none) η1 = _
    rw [if_pos hs]
    simp [rangeL, rng, Function.comp_def]
  · cases e2
theorem EvSC.nil : EvSC C c .nil Γ s (some (true, s)) := fun h0 ρ η sa a s' q => by cases q; exact ⟨η, by rw [evC], sa, (set_same sa).symm⟩
theorem EvSC.one {e : E} {m : Option (Bool × SS)} (h : EvSB C c e Γ s m) : EvSC C c (.cons e .nil) Γ s m := fun h0 ρ η sa a s' q => by
  obtain ⟨p, η1, r1, t1, sa1, k1⟩ := h h0 ρ η sa a _ q
  refine ⟨η1, ?_, sa1, k1⟩
  rw [evC, r1, bind_ok, t1, br_some]
  cases a with
  | true => rw [if_pos rfl, evC]
  | false => rfl
def lcSM (f : α → SS → Option (Option β × SS)) : List α → SS → Option (List β × SS)
  | [], s => some ([], s)
  | x :: xs, s => (f x s).bind fun o => (lcSM f xs o.2).bind fun ys => some (match o.1 with | none => ys.1 | some y => y :: ys.1, ys.2)
def lcSF (f : α → SS → Option (Option β × SS)) (xs : List α) (s : SS) : Option (List β × SS) := if xs.length < line then lcSM f xs s else none
def mapS (g : α → SS → Option (β × SS)) : List α → SS → Option (List β × SS)
  | [], s => some ([], s)
  | x :: xs, s => (g x s).bind fun y => (mapS g xs y.2).bind fun ys => some (y.1 :: ys.1, ys.2)
def lcS (g : α → SS → Option (β × SS)) (xs : List α) (s : SS) : Option (List β × SS) := if xs.length < line then mapS g xs s else none
theorem lcGS_ok {n : Nat} {h0 : Pr} {ρ : Env} {f : PV → Hp → Res (Option PV)} {F : α → SS → Option (Option β × SS)} {enc : α → PV} {enc' : β → PV}
    (hf : ∀ x s o s' η, F x s = some (o, s') → Sat n h0 (some (c, s)) Γ ρ η → f (enc x) η = .ok (o.map enc') (η.set c s'.ob)) :
    ∀ (xs : List α) (ys : List β) (s s' : SS) (η : Hp), lcSM F xs s = some (ys, s') → Sat n h0 (some (c, s)) Γ ρ η → lcG none f (xs.map enc) η = .ok (ys.map enc') (η.set c s'.ob)
  | [], ys, s, s', η, e, sa => by
    cases e
    rw [set_same sa]
    simp [lcG]
  | x :: xs, ys, s, s', η, e, sa => by
    obtain ⟨⟨o, s1⟩, e1, e⟩ := Option.bind_eq_some_iff.mp e
    obtain ⟨⟨zs, s2⟩, e2, e⟩ := Option.bind_eq_some_iff.mp e
    cases e
    have r1 := hf x s o s1 η e1 sa
    have r2 := lcGS_ok hf xs zs s1 _ _ e2 sa.drawn
    rw [List.map_cons, lcG, if_pos (stays_none η), r1, bind_ok, r2, bind_ok, List.set_set]
    cases o <;> rfl
theorem EvSF.lc {el : E} {tg : Tg} {it : It} {cs : Es} {own : List Nat} {f : α → PV} {g : β → PV} {m : Option (List α × SS)} {mc : α → SS → Option (Bool × SS)} {me : α → SS → Option (β × SS)} (hi : EvSI C c it Γ s f m) (ht : ∀ x, okT tg (f x) = true)
    (hc : ∀ x s, EvSC C c cs (bnd (sts Γ own) tg (f x)) s (mc x s)) (he : ∀ x s, EvS C c el (bnd (sts Γ own) tg (f x)) s g (me x s)) :
    EvSF C c (.lc el tg it cs own) Γ s g (m.bind fun xs => lcSF (fun x s => (mc x s).bind fun b => if b.1 = true then (me x b.2).map fun y => (some y.1, y.2) else some (none, b.2)) xs.1 xs.2) := fun h0 ρ η sa r s' q => by
  obtain ⟨⟨xs, s1⟩, e1, q⟩ := Option.bind_eq_some_iff.mp q
  obtain ⟨wt, η1, r1, sa1, k1, rfl⟩ := hi h0 ρ η sa xs s1 e1
  unfold lcSF at q
  split at q
  · rename_i hl
    refine ⟨η1.set c s'.ob, ?_, sa1.drawn, by rw [k1, List.set_set]⟩
    rw [evF, r1, bind_ok, if_pos (by rw [List.length_map]; exact hl)]
    rw [lcGS_ok (fun x s2 o s3 η2 eo sa2 => ?_) xs r s1 s' η1 q sa1]
    · rfl
    · obtain ⟨⟨b, s4⟩, e3, eo⟩ := Option.bind_eq_some_iff.mp eo
      obtain ⟨ρ', e4, sa'⟩ := bnd_ok (ht x) (sa2.wipe own)
      simp only [e4, opt_some, bind_ok]
      obtain ⟨η3, r3, sa3, k3⟩ := hc x s2 h0 ρ' η2 sa' b s4 e3
      rw [r3, bind_ok]
      cases b with
      | true =>
        obtain ⟨⟨y, s5⟩, e5, eo⟩ := Option.map_eq_some_iff.mp eo
        cases eo
        obtain ⟨η4, r4, sa4, k4⟩ := he x s4 h0 ρ' η3 sa3 y _ e5
        rw [if_pos rfl, r4, k4, k3, List.set_set]; rfl
      | false =>
        cases eo
        rw [if_neg (by simp), k3]; rfl
  · cases q
theorem lcSM_mapS (g : α → SS → Option (β × SS)) : ∀ (xs : List α) (s : SS), lcSM (fun x s => (g x s).map fun y => (some y.1, y.2)) xs s = mapS g xs s
  | [], _ => rfl
  | x :: xs, s => by
    show ((g x s).map _).bind _ = (g x s).bind _
    cases g x s with
    | none => rfl
    | some y =>
      show (lcSM _ xs y.2).bind _ = (mapS g xs y.2).bind _
      rw [lcSM_mapS g xs]
theorem EvSF.lcS {el : E} {tg : Tg} {it : It} {own : List Nat} {f : α → PV} {g : β → PV} {m : Option (List α × SS)} {me : α → SS → Option (β × SS)} (hi : EvSI C c it Γ s f m) (ht : ∀ x, okT tg (f x) = true)
    (he : ∀ x s, EvS C c el (bnd (sts Γ own) tg (f x)) s g (me x s)) :
    EvSF C c (.lc el tg it .nil own) Γ s g (m.bind fun xs => M.lcS me xs.1 xs.2) := by
  have := EvSF.lc (mc := fun _ s => some (true, s)) hi ht (fun _ _ => .nil) he
  simpa [M.lcS, lcSF, lcSM_mapS] using this
end
end M
end

section
set_option linter.all false
set_option Elab.async false
set_option maxRecDepth 100000
namespace M
open D
/-- a turn's end -/
inductive Ctl (σ ρ : Type) where
  | nx (s : σ) | br (s : σ) | rt (r : ρ)
def foldO {α σ : Type} (f : α → σ → Option σ) : List α → σ → Option σ
  | [], s => some s
  | x :: xs, s => (f x s).bind fun s => foldO f xs s
def brkO {α σ : Type} (f : α → σ → Option (Bool × σ)) : List α → σ → Option σ
  | [], s => some s
  | x :: xs, s => (f x s).bind fun p => if p.1 = true then some p.2 else brkO f xs p.2
def loopO {α σ ρ : Type} (f : α → σ → Option (Ctl σ ρ)) : List α → σ → Option (σ ⊕ ρ)
  | [], s => some (.inl s)
  | x :: xs, s => (f x s).bind fun c => match c with
    | .nx s => loopO f xs s
    | .br s => some (.inl s)
    | .rt r => some (.inr r)
def whlO {σ : Type} (c : σ → Option Bool) (f : σ → Option σ) : Nat → σ → Option σ
  | 0, _ => none
  | k + 1, s => (c s).bind fun b => if b = true then (f s).bind fun s => whlO c f k s else some s
def whlR {σ ρ : Type} (c : σ → Option Bool) (f : σ → Option (Ctl σ ρ)) : Nat → σ → Option (σ ⊕ ρ)
  | 0, _ => none
  | k + 1, s => (c s).bind fun b => if b = true then (f s).bind fun c' => (match c' with
    | .nx s => whlR c f k s
    | .br s => some (.inl s)
    | .rt r => some (.inr r)) else some (.inl s)
def app : Ss → Ss → Ss
  | .nil, ss => ss
  | .cons s r, ss => .cons s (app r ss)
theorem evSs_app (C : Cfg) : ∀ (a b : Ss) (ρ : Env) (η : Hp), evSs C (app a b) ρ η = (evSs C a ρ η).andThen fun ρ η => evSs C b ρ η
  | .nil, b, ρ, η => by rw [app, evSs]; rfl
  | .cons s r, b, ρ, η => by
    rw [app, evSs, evSs]
    cases evS C s ρ η with
    | next ρ1 η1 => exact evSs_app C r b ρ1 η1
    | _ => rfl
/-- a block's promise -/
def Run (C : Cfg) (h0 : Pr) (ss : Ss) (Γ : Ctx) (w : Wd) {ω : Type} (Post : ω → Out → Prop) (m : Option ω) : Prop :=
  ∀ ρ η, Sat C.n h0 w Γ ρ η → ∀ o, m = some o → Post o (evSs C ss ρ η)
section
variable (n : Nat) (h0 : Pr) {σ ρ' : Type}
/-- falls through -/
def PJ (G : σ → Ctx) (wf : σ → Wd) : σ → Out → Prop := fun s o => ∃ ρ η, o = .next ρ η ∧ Sat n h0 (wf s) (G s) ρ η
/-- a turn of a loop -/
def PN (G : σ → Ctx) (wf : σ → Wd) : σ → Out → Prop := fun s o => ∃ ρ η, (o = .next ρ η ∨ o = .cnt ρ η) ∧ Sat n h0 (wf s) (G s) ρ η
def PB (G : σ → Ctx) (wf : σ → Wd) : Bool × σ → Out → Prop := fun p o => ∃ ρ η, (if p.1 = true then o = .brk ρ η else (o = .next ρ η ∨ o = .cnt ρ η)) ∧ Sat n h0 (wf p.2) (G p.2) ρ η
def PL (G : σ → Ctx) (wf : σ → Wd) (PR : ρ' → Out → Prop) : Ctl σ ρ' → Out → Prop
  | .nx s, o => ∃ ρ η, (o = .next ρ η ∨ o = .cnt ρ η) ∧ Sat n h0 (wf s) (G s) ρ η
  | .br s, o => ∃ ρ η, o = .brk ρ η ∧ Sat n h0 (wf s) (G s) ρ η
  | .rt r, o => (∃ v η, o = .ret v η) ∧ PR r o
end
/-- a def's answer: a value; a value and the stream; a new list for the caller -/
def PF {α : Type} (n : Nat) (h : Hp) (keep : Bool) (enc : α → PV) : α → Out → Prop := fun a o => fin n keep o = .ok (enc a) h
def PS {α : Type} (n : Nat) (h : Hp) (c : Nat) (keep : Bool) (enc : α → PV) : α × SS → Out → Prop := fun p o => fin n keep o = .ok (enc p.1) (h.set c p.2.ob)
section
variable {C : Cfg} {h0 : Pr} {Γ : Ctx} {w : Wd} {ω : Type} {Post : ω → Out → Prop} {ss : Ss} {α β γ σ : Type} {c : Nat} {s : SS}
theorem Run.eq {m m' : Option ω} (h : Run C h0 ss Γ w Post m) (e : m' = m) : Run C h0 ss Γ w Post m' := e ▸ h
theorem Run.asg {i : Nat} {e : E} {enc : α → PV} {m1 : Option α} {k : α → Option ω} (h : EvP C e Γ enc m1) (nc : Nc enc) (hk : ∀ a, Run C h0 ss (st Γ i (.val (enc a))) w Post (k a)) :
    Run C h0 (.cons (.asg i e) ss) Γ w Post (m1.bind k) := fun ρ η sa o q => by
  obtain ⟨a, e1, q⟩ := Option.bind_eq_some_iff.mp q
  rw [evSs, evS, h h0 w ρ η sa a e1, out_ok, then_next]
  exact hk a _ η (sa.setVal i (out_nc (nc a))) o q
theorem Run.asgS {i : Nat} {e : E} {enc : α → PV} {m1 : Option (α × SS)} {k : α × SS → Option ω} (h : EvS C c e Γ s enc m1) (nc : Nc enc) (hk : ∀ p : α × SS, Run C h0 ss (st Γ i (.val (enc p.1))) (some (c, p.2)) Post (k p)) :
    Run C h0 (.cons (.asg i e) ss) Γ (some (c, s)) Post (m1.bind k) := fun ρ η sa o q => by
  obtain ⟨⟨a, s'⟩, e1, q⟩ := Option.bind_eq_some_iff.mp q
  obtain ⟨η1, r1, sa1, _⟩ := h h0 ρ η sa a s' e1
  rw [evSs, evS, r1, out_ok, then_next]
  exact hk (a, s') _ η1 (sa1.setVal i (out_nc (nc a))) o q
theorem Run.own {i : Nat} {f : F} {enc : α → PV} {m1 : Option (List α)} {k : List α → Option ω} (h : EvF C f Γ enc m1) (hk : ∀ a, Run C h0 ss (st Γ i (.own (a.map enc))) w Post (k a)) :
    Run C h0 (.cons (.own i f) ss) Γ w Post (m1.bind k) := fun ρ η sa o q => by
  obtain ⟨a, e1, q⟩ := Option.bind_eq_some_iff.mp q
  rw [evSs, evS, h h0 w ρ η sa a e1, out_ok, then_next]
  exact hk a _ _ (sa.newOwn i _ _ (.inl ⟨_, rfl, rfl⟩)) o q
theorem Run.ownS {i : Nat} {f : F} {enc : α → PV} {m1 : Option (List α × SS)} {k : List α × SS → Option ω} (h : EvSF C c f Γ s enc m1) (hk : ∀ p : List α × SS, Run C h0 ss (st Γ i (.own (p.1.map enc))) (some (c, p.2)) Post (k p)) :
    Run C h0 (.cons (.own i f) ss) Γ (some (c, s)) Post (m1.bind k) := fun ρ η sa o q => by
  obtain ⟨⟨a, s'⟩, e1, q⟩ := Option.bind_eq_some_iff.mp q
  obtain ⟨η1, r1, sa1, _⟩ := h h0 ρ η sa a s' e1
  rw [evSs, evS, r1, out_ok, then_next]
  exact hk (a, s') _ _ (sa1.newOwn i _ _ (.inl ⟨_, rfl, rfl⟩)) o q
/-- an own list gets another name -/
theorem Run.move {i j : Nat} {xs : List PV} {m : Option ω} (hj : gt Γ j = .own xs) (hij : i ≠ j) (hk : Run C h0 ss (st (st Γ j .any) i (.own xs)) w Post m) :
    Run C h0 (.cons (.asg i (.var j)) ss) Γ w Post m := fun ρ η sa o q => by
  obtain ⟨d, e1, _⟩ := sa.own j xs hj
  rw [evSs, evS, evE, e1]
  show Post o ((Out.next (ρ.set i (some (.cell d))) η).andThen _)
  rw [then_next]
  exact hk _ η (sa.move hij hj e1) o q
theorem Run.ex {e : E} {enc : α → PV} {m1 : Option α} {k : α → Option ω} (h : EvP C e Γ enc m1) (hk : ∀ a, Run C h0 ss Γ w Post (k a)) :
    Run C h0 (.cons (.ex e) ss) Γ w Post (m1.bind k) := fun ρ η sa o q => by
  obtain ⟨a, e1, q⟩ := Option.bind_eq_some_iff.mp q
  rw [evSs, evS, h h0 w ρ η sa a e1, out_ok, then_next]
  exact hk a _ η sa o q
theorem Run.exS {e : E} {enc : α → PV} {m1 : Option (α × SS)} {k : α × SS → Option ω} (h : EvS C c e Γ s enc m1) (hk : ∀ p : α × SS, Run C h0 ss Γ (some (c, p.2)) Post (k p)) :
    Run C h0 (.cons (.ex e) ss) Γ (some (c, s)) Post (m1.bind k) := fun ρ η sa o q => by
  obtain ⟨⟨a, s'⟩, e1, q⟩ := Option.bind_eq_some_iff.mp q
  obtain ⟨η1, r1, sa1, _⟩ := h h0 ρ η sa a s' e1
  rw [evSs, evS, r1, out_ok, then_next]
  exact hk (a, s') _ η1 sa1 o q
def appM (xs : List α) (a : α) : Option (List α) := if xs.length < line then some (xs ++ [a]) else none
theorem put_own {n d : Nat} {v : PV} {ob : Ob} {η : Hp} (h : n ≤ d) : put n d v ob η = some (η.set d ob) := by
  unfold put; rw [if_pos]; simp [h]
theorem appO_own {n d : Nat} {f : α → PV} {xs ys : List α} {a : α} {η : Hp} (h : n ≤ d) (q : appM xs a = some ys) : appO n d (f a) η (some (.lst (xs.map f))) = some (η.set d (.lst (ys.map f))) := by
  unfold appM at q; split at q
  · rename_i hl
    cases q
    rw [appO_s1, List.length_map, if_pos hl, put_own h, List.map_append]; rfl
  · cases q
theorem Run.app {i : Nat} {e : E} {f : α → PV} {xs : List α} {m1 : Option α} {k : List α → Option ω} (hi : gt Γ i = .own (xs.map f)) (h : EvP C e Γ f m1) (hk : ∀ ys, Run C h0 ss (st Γ i (.own (ys.map f))) w Post (k ys)) :
    Run C h0 (.cons (.ex (.mth .append (.var i) (.cons e .nil))) ss) Γ w Post (m1.bind fun a => (appM xs a).bind k) := fun ρ η sa o q => by
  obtain ⟨a, e1, q⟩ := Option.bind_eq_some_iff.mp q
  obtain ⟨ys, e2, q⟩ := Option.bind_eq_some_iff.mp q
  obtain ⟨d, g1, g2, g3, g4⟩ := sa.updOwn hi
  have ev : evE C (.mth .append (.var i) (.cons e .nil)) ρ η = .ok .non (η.set d (.lst (ys.map f))) := by
    rw [evE, evE, g1]
    show (Res.ok (PV.cell d) η).bind _ = _
    rw [bind_ok, if_pos (show rcv η .append (.cell d) = true by show rcvO .append η[d]? = true; rw [g3]; rfl), evEs, h h0 w ρ η sa a e1, bind_ok, evEs, bind_ok, bind_ok]
    show wrote η (appO C.n d (f a) η η[d]?) = _
    rw [g3, appO_own g2.1 e2]; rfl
  rw [evSs, evS, ev, out_ok, then_next]
  exact hk ys _ _ (g4 _) o q
theorem Run.appS {i : Nat} {e : E} {f : α → PV} {xs : List α} {m1 : Option (α × SS)} {k : List α → SS → Option ω} (hi : gt Γ i = .own (xs.map f)) (h : EvS C c e Γ s f m1) (hk : ∀ ys s', Run C h0 ss (st Γ i (.own (ys.map f))) (some (c, s')) Post (k ys s')) :
    Run C h0 (.cons (.ex (.mth .append (.var i) (.cons e .nil))) ss) Γ (some (c, s)) Post (m1.bind fun a => (appM xs a.1).bind fun ys => k ys a.2) := fun ρ η sa o q => by
  obtain ⟨⟨a, s1⟩, e1, q⟩ := Option.bind_eq_some_iff.mp q
  obtain ⟨ys, e2, q⟩ := Option.bind_eq_some_iff.mp q
  obtain ⟨d0, f1, f2, f3, f4⟩ := sa.own i _ hi
  obtain ⟨η1, r1, sa1, k1⟩ := h h0 ρ η sa a s1 e1
  obtain ⟨d, g1, g2, g3, g4⟩ := sa1.updOwn hi
  rw [f1] at g1; cases g1
  have ev : evE C (.mth .append (.var i) (.cons e .nil)) ρ η = .ok .non (η1.set d0 (.lst (ys.map f))) := by
    rw [evE, evE, f1]
    show (Res.ok (PV.cell d0) η).bind _ = _
    rw [bind_ok, if_pos (show rcv η .append (.cell d0) = true by show rcvO .append η[d0]? = true; rw [f4]; rfl), evEs, r1, bind_ok, evEs, bind_ok, bind_ok]
    show wrote η1 (appO C.n d0 (f a) η1 η1[d0]?) = _
    rw [g3, appO_own g2.1 e2]; rfl
  rw [evSs, evS, ev, out_ok, then_next]
  exact hk ys s1 _ _ (g4 _) o q
def extM (xs zs : List α) : Option (List α) := if xs.length + zs.length ≤ line then some (xs ++ zs) else none
theorem extO_own {n d : Nat} {f : α → PV} {xs ys zs : List α} {η : Hp} (h : n ≤ d) (q : extM xs zs = some ys) : extO n d (zs.map f) η (some (.lst (xs.map f))) = some (η.set d (.lst (ys.map f))) := by
  unfold extM at q; split at q
  · rename_i hl
    cases q
    rw [extO_s1, List.length_map, List.length_map, if_pos hl, put_own h, List.map_append]
  · cases q
theorem Run.ext {i : Nat} {e : E} {f : α → PV} {xs : List α} {m1 : Option (List α)} {k : List α → Option ω} (hi : gt Γ i = .own (xs.map f)) (h : EvV C e Γ f m1) (hk : ∀ ys, Run C h0 ss (st Γ i (.own (ys.map f))) w Post (k ys)) :
    Run C h0 (.cons (.ex (.mth .extend (.var i) (.cons e .nil))) ss) Γ w Post (m1.bind fun a => (extM xs a).bind k) := fun ρ η sa o q => by
  obtain ⟨a, e1, q⟩ := Option.bind_eq_some_iff.mp q
  obtain ⟨ys, e2, q⟩ := Option.bind_eq_some_iff.mp q
  obtain ⟨d, g1, g2, g3, g4⟩ := sa.updOwn hi
  obtain ⟨p, r1, l⟩ := h h0 w ρ η sa a e1
  have ev : evE C (.mth .extend (.var i) (.cons e .nil)) ρ η = .ok .non (η.set d (.lst (ys.map f))) := by
    rw [evE, evE, g1]
    show (Res.ok (PV.cell d) η).bind _ = _
    rw [bind_ok, if_pos (show rcv η .extend (.cell d) = true by show rcvO .extend η[d]? = true; rw [g3]; rfl), evEs, r1, bind_ok, evEs, bind_ok, bind_ok]
    show wrote η ((lstO η p).bind fun zs => extO C.n d zs η η[d]?) = _
    rw [l.lst]
    show wrote η (extO C.n d (a.map f) η η[d]?) = _
    rw [g3, extO_own g2.1 e2]; rfl
  rw [evSs, evS, ev, out_ok, then_next]
  exact hk ys _ _ (g4 _) o q
theorem Run.extS {i : Nat} {e : E} {f : α → PV} {xs : List α} {m1 : Option (List α × SS)} {k : List α → SS → Option ω} (hi : gt Γ i = .own (xs.map f)) (h : EvS C c e Γ s (eL f) m1) (hk : ∀ ys s', Run C h0 ss (st Γ i (.own (ys.map f))) (some (c, s')) Post (k ys s')) :
    Run C h0 (.cons (.ex (.mth .extend (.var i) (.cons e .nil))) ss) Γ (some (c, s)) Post (m1.bind fun a => (extM xs a.1).bind fun ys => k ys a.2) := fun ρ η sa o q => by
  obtain ⟨⟨a, s1⟩, e1, q⟩ := Option.bind_eq_some_iff.mp q
  obtain ⟨ys, e2, q⟩ := Option.bind_eq_some_iff.mp q
  obtain ⟨d0, f1, f2, f3, f4⟩ := sa.own i _ hi
  obtain ⟨η1, r1, sa1, k1⟩ := h h0 ρ η sa a s1 e1
  obtain ⟨d, g1, g2, g3, g4⟩ := sa1.updOwn hi
  rw [f1] at g1; cases g1
  have ev : evE C (.mth .extend (.var i) (.cons e .nil)) ρ η = .ok .non (η1.set d0 (.lst (ys.map f))) := by
    rw [evE, evE, f1]
    show (Res.ok (PV.cell d0) η).bind _ = _
    rw [bind_ok, if_pos (show rcv η .extend (.cell d0) = true by show rcvO .extend η[d0]? = true; rw [f4]; rfl), evEs, r1, bind_ok, evEs, bind_ok, bind_ok]
    show wrote η1 (extO C.n d0 (a.map f) η1 η1[d0]?) = _
    rw [g3, extO_own g2.1 e2]; rfl
  rw [evSs, evS, ev, out_ok, then_next]
  exact hk ys s1 _ _ (g4 _) o q
def popM (xs : List α) : Option (α × List α) := xs.getLast?.map fun a => (a, xs.dropLast)
theorem Run.pop {i j : Nat} {f : α → PV} {xs : List α} {k : α × List α → Option ω} (hi : gt Γ i = .own (xs.map f)) (nc : Nc f) (hk : ∀ p : α × List α, Run C h0 ss (st (st Γ i (.own (p.2.map f))) j (.val (f p.1))) w Post (k p)) :
    Run C h0 (.cons (.asg j (.mth .pop (.var i) .nil)) ss) Γ w Post ((popM xs).bind k) := fun ρ η sa o q => by
  obtain ⟨⟨a, ys⟩, e1, q⟩ := Option.bind_eq_some_iff.mp q
  obtain ⟨a', e2, e3⟩ := Option.map_eq_some_iff.mp e1
  cases e3
  obtain ⟨d, g1, g2, g3, g4⟩ := sa.updOwn hi
  have ev : evE C (.mth .pop (.var i) .nil) ρ η = .ok (f a) (η.set d (.lst (xs.dropLast.map f))) := by
    rw [evE, evE, g1]
    show (Res.ok (PV.cell d) η).bind _ = _
    rw [bind_ok, if_pos (show rcv η .pop (.cell d) = true by show rcvO .pop η[d]? = true; rw [g3]; rfl), evEs, bind_ok]
    show popO d η η[d]? = _
    rw [g3]
    show (Res.opt (xs.map f).getLast? η).bind _ = _
    rw [List.getLast?_map, e2]
    show Res.ok (f a) (η.set d (.lst (xs.map f).dropLast)) = _
    rw [List.map_dropLast]
  rw [evSs, evS, ev, out_ok, then_next]
  exact hk (a, xs.dropLast) _ _ ((g4 _).setVal j (out_nc (nc a))) o q
/-- x.pop(k) -/
def popAtM (xs : List α) (i : Int) : Option (α × List α) := (ixN xs.length i).bind fun k => xs[k]?.map fun a => (a, xs.eraseIdx k)
theorem map_eraseIdx (f : α → β) : ∀ (xs : List α) (k : Nat), (xs.eraseIdx k).map f = (xs.map f).eraseIdx k
  | [], _ => rfl
  | _ :: _, 0 => rfl
  | x :: xs, k + 1 => by simp [map_eraseIdx f xs k]
theorem Run.popAt {i j : Nat} {e : E} {f : α → PV} {xs : List α} {m1 : Option Int} {k : α × List α → Option ω} (hi : gt Γ i = .own (xs.map f)) (nc : Nc f) (h : EvP C e Γ PV.int m1) (hk : ∀ p : α × List α, Run C h0 ss (st (st Γ i (.own (p.2.map f))) j (.val (f p.1))) w Post (k p)) :
    Run C h0 (.cons (.asg j (.mth .popAt (.var i) (.cons e .nil))) ss) Γ w Post (m1.bind fun n => (popAtM xs n).bind k) := fun ρ η sa o q => by
  obtain ⟨n, e0, q⟩ := Option.bind_eq_some_iff.mp q
  obtain ⟨⟨a, ys⟩, e1, q⟩ := Option.bind_eq_some_iff.mp q
  obtain ⟨l, e2, e3⟩ := Option.bind_eq_some_iff.mp e1
  obtain ⟨a', e4, e5⟩ := Option.map_eq_some_iff.mp e3
  cases e5
  obtain ⟨d, g1, g2, g3, g4⟩ := sa.updOwn hi
  have ev : evE C (.mth .popAt (.var i) (.cons e .nil)) ρ η = .ok (f a) (η.set d (.lst ((xs.eraseIdx l).map f))) := by
    rw [evE, evE, g1]
    show (Res.ok (PV.cell d) η).bind _ = _
    rw [bind_ok, if_pos (show rcv η .popAt (.cell d) = true by show rcvO .popAt η[d]? = true; rw [g3]; rfl), evEs, h h0 w ρ η sa n e0, bind_ok, evEs, bind_ok, bind_ok]
    show popAtO d n η η[d]? = _
    rw [g3]
    show (Res.opt (ixN (xs.map f).length n) η).bind _ = _
    rw [List.length_map, e2]
    show (Res.opt (xs.map f)[l]? η).bind _ = _
    rw [List.getElem?_map, e4]
    show Res.ok (f a) (η.set d (.lst ((xs.map f).eraseIdx l))) = _
    rw [map_eraseIdx]
  rw [evSs, evS, ev, out_ok, then_next]
  exact hk (a, xs.eraseIdx l) _ _ ((g4 _).setVal j (out_nc (nc a))) o q
/-- x[i] = e -/
def setM (xs : List α) (i : Int) (a : α) : Option (List α) := (ixN xs.length i).map fun j => xs.set j a
theorem Run.set {i : Nat} {ei ev : E} {f : α → PV} {xs : List α} {m1 : Option α} {m2 : Option Int} {k : List α → Option ω} (hi : gt Γ i = .own (xs.map f)) (h1 : EvP C ev Γ f m1) (h2 : EvP C ei Γ PV.int m2) (hk : ∀ ys, Run C h0 ss (st Γ i (.own (ys.map f))) w Post (k ys)) :
    Run C h0 (.cons (.set (.var i) ei ev) ss) Γ w Post (m1.bind fun a => m2.bind fun j => (setM xs j a).bind k) := fun ρ η sa o q => by
  obtain ⟨a, e1, q⟩ := Option.bind_eq_some_iff.mp q
  obtain ⟨n, e2, q⟩ := Option.bind_eq_some_iff.mp q
  obtain ⟨ys, e3, q⟩ := Option.bind_eq_some_iff.mp q
  obtain ⟨l, e4, e5⟩ := Option.map_eq_some_iff.mp e3
  cases e5
  obtain ⟨d, g1, g2, g3, g4⟩ := sa.updOwn hi
  have e : evS C (.set (.var i) ei ev) ρ η = .next ρ (η.set d (.lst ((xs.set l a).map f))) := by
    rw [evS, h1 h0 w ρ η sa a e1, out_ok, evE, g1]
    show (Res.ok (PV.cell d) η).out ρ _ = _
    rw [out_ok, h2 h0 w ρ η sa n e2, out_ok]
    show Out.opt (setO C.n d (f a) η η[d]? (.int n)) _ = _
    rw [g3]
    show Out.opt ((ixN (xs.map f).length n).bind _) _ = _
    rw [List.length_map, e4]
    show Out.opt (put C.n d (f a) (.lst ((xs.map f).set l (f a))) η) _ = _
    rw [put_own g2.1, List.map_set]; rfl
  rw [evSs, e, then_next]
  exact hk _ _ _ (g4 _) o q
theorem Run.unp {is : List Nat} {e : E} {enc : α → PV} {m1 : Option α} {k : α → Option ω} (h : EvP C e Γ enc m1) (ht : ∀ a, okT (.tup is) (enc a) = true) (hk : ∀ a, Run C h0 ss (bnd Γ (.tup is) (enc a)) w Post (k a)) :
    Run C h0 (.cons (.unp is e) ss) Γ w Post (m1.bind k) := fun ρ η sa o q => by
  obtain ⟨a, e1, q⟩ := Option.bind_eq_some_iff.mp q
  obtain ⟨ρ1, e2, sa1⟩ := bnd_ok (ht a) sa
  rw [evSs, evS, h h0 w ρ η sa a e1, out_ok, e2, oopt_some, then_next]
  exact hk a _ η sa1 o q
theorem evSs_ite {c : E} {a b : Ss} {p : PV} {t : Bool} {ρ : Env} {η η1 : Hp} (h : evE C c ρ η = .ok p η1) (ht : truth η1 p = some t) : evSs C (.cons (.ite c a b) ss) ρ η = if t = true then evSs C (M.app a ss) ρ η1 else evSs C (M.app b ss) ρ η1 := by
  rw [evSs, evS, h, out_ok, ht, obr_some]
  cases t
  · rw [if_neg (by simp), if_neg (by simp), evSs_app]
  · rw [if_pos rfl, if_pos rfl, evSs_app]
theorem Run.ite {e : E} {a b : Ss} {mc : Option Bool} {m1 m2 : Option ω} (hc : EvB C e Γ mc) (h1 : Run C h0 (M.app a ss) Γ w Post m1) (h2 : Run C h0 (M.app b ss) Γ w Post m2) :
    Run C h0 (.cons (.ite e a b) ss) Γ w Post (mc.bind fun x => if x = true then m1 else m2) := fun ρ η sa o q => by
  obtain ⟨x, e1, q⟩ := Option.bind_eq_some_iff.mp q
  obtain ⟨p, e2, t⟩ := hc h0 w ρ η sa x e1
  rw [evSs_ite e2 t]
  cases x with
  | true => rw [if_pos rfl]; exact h1 ρ η sa o q
  | false => rw [if_neg (by simp)]; exact h2 ρ η sa o q
theorem Run.iteS {e : E} {a b : Ss} {mc : Option (Bool × SS)} {m1 m2 : SS → Option ω} (hc : EvSB C c e Γ s mc) (h1 : ∀ s, Run C h0 (M.app a ss) Γ (some (c, s)) Post (m1 s)) (h2 : ∀ s, Run C h0 (M.app b ss) Γ (some (c, s)) Post (m2 s)) :
    Run C h0 (.cons (.ite e a b) ss) Γ (some (c, s)) Post (mc.bind fun x => if x.1 = true then m1 x.2 else m2 x.2) := fun ρ η sa o q => by
  obtain ⟨⟨x, s1⟩, e1, q⟩ := Option.bind_eq_some_iff.mp q
  obtain ⟨p, η1, e2, t, sa1, _⟩ := hc h0 ρ η sa x s1 e1
  rw [evSs_ite e2 t]
  cases x with
  | true => rw [if_pos rfl]; exact h1 s1 ρ η1 sa1 o q
  | false => rw [if_neg (by simp)]; exact h2 s1 ρ η1 sa1 o q
/-- both sides fall through to one state -/
theorem Run.seqJ {st1 : S} {G : σ → Ctx} {wf : σ → Wd} {m : Option σ} {k : σ → Option ω} (h : Run C h0 (.cons st1 .nil) Γ w (PJ C.n h0 G wf) m) (hk : ∀ s, Run C h0 ss (G s) (wf s) Post (k s)) :
    Run C h0 (.cons st1 ss) Γ w Post (m.bind k) := fun ρ η sa o q => by
  obtain ⟨t, e1, q⟩ := Option.bind_eq_some_iff.mp q
  obtain ⟨ρ1, η1, e2, sa1⟩ := h ρ η sa t e1
  rw [evSs] at e2 ⊢
  cases e3 : evS C st1 ρ η with
  | next ρ2 η2 =>
    rw [e3, then_next, evSs] at e2
    cases e2
    exact hk t ρ1 η1 sa1 o q
  | _ => rw [e3] at e2; cases e2
theorem Run.iteT {e : E} {a b : Ss} {m : Option ω} (hc : EvB C e Γ (some true)) (h1 : Run C h0 (M.app a ss) Γ w Post m) : Run C h0 (.cons (.ite e a b) ss) Γ w Post m := fun ρ η sa o q => by
  obtain ⟨p, e2, t⟩ := hc h0 w ρ η sa true rfl
  rw [evSs_ite e2 t, if_pos rfl]; exact h1 ρ η sa o q
theorem Run.iteF {e : E} {a b : Ss} {m : Option ω} (hc : EvB C e Γ (some false)) (h1 : Run C h0 (M.app b ss) Γ w Post m) : Run C h0 (.cons (.ite e a b) ss) Γ w Post m := fun ρ η sa o q => by
  obtain ⟨p, e2, t⟩ := hc h0 w ρ η sa false rfl
  rw [evSs_ite e2 t, if_neg (by simp)]; exact h1 ρ η sa o q
theorem Run.nilJ {G : σ → Ctx} {wf : σ → Wd} {t : σ} (h : Le (G t) Γ) (hw : wf t = w) : Run C h0 .nil Γ w (PJ C.n h0 G wf) (some t) := fun ρ η sa o q => by
  cases q
  exact ⟨ρ, η, by rw [evSs], by rw [hw]; exact sa.weak h⟩
theorem Run.nilN {G : σ → Ctx} {wf : σ → Wd} {t : σ} (h : Le (G t) Γ) (hw : wf t = w) : Run C h0 .nil Γ w (PN C.n h0 G wf) (some t) := fun ρ η sa o q => by
  cases q
  exact ⟨ρ, η, .inl (by rw [evSs]), by rw [hw]; exact sa.weak h⟩
theorem Run.cntN {G : σ → Ctx} {wf : σ → Wd} {t : σ} (h : Le (G t) Γ) (hw : wf t = w) : Run C h0 (.cons .cnt ss) Γ w (PN C.n h0 G wf) (some t) := fun ρ η sa o q => by
  cases q
  exact ⟨ρ, η, .inr (by rw [evSs, evS]; rfl), by rw [hw]; exact sa.weak h⟩
theorem Run.nilB {G : σ → Ctx} {wf : σ → Wd} {t : σ} (h : Le (G t) Γ) (hw : wf t = w) : Run C h0 .nil Γ w (PB C.n h0 G wf) (some (false, t)) := fun ρ η sa o q => by
  cases q
  exact ⟨ρ, η, by rw [if_neg (by simp)]; exact .inl (by rw [evSs]), by rw [hw]; exact sa.weak h⟩
theorem Run.cntB {G : σ → Ctx} {wf : σ → Wd} {t : σ} (h : Le (G t) Γ) (hw : wf t = w) : Run C h0 (.cons .cnt ss) Γ w (PB C.n h0 G wf) (some (false, t)) := fun ρ η sa o q => by
  cases q
  exact ⟨ρ, η, by rw [if_neg (by simp)]; exact .inr (by rw [evSs, evS]; rfl), by rw [hw]; exact sa.weak h⟩
theorem Run.brkB {G : σ → Ctx} {wf : σ → Wd} {t : σ} (h : Le (G t) Γ) (hw : wf t = w) : Run C h0 (.cons .brk ss) Γ w (PB C.n h0 G wf) (some (true, t)) := fun ρ η sa o q => by
  cases q
  exact ⟨ρ, η, by rw [if_pos rfl]; rw [evSs, evS]; rfl, by rw [hw]; exact sa.weak h⟩
theorem Run.nilL {ρ' : Type} {G : σ → Ctx} {wf : σ → Wd} {PR : ρ' → Out → Prop} {t : σ} (h : Le (G t) Γ) (hw : wf t = w) : Run C h0 .nil Γ w (PL C.n h0 G wf PR) (some (.nx t)) := fun ρ η sa o q => by
  cases q
  exact ⟨ρ, η, .inl (by rw [evSs]), by rw [hw]; exact sa.weak h⟩
theorem Run.cntL {ρ' : Type} {G : σ → Ctx} {wf : σ → Wd} {PR : ρ' → Out → Prop} {t : σ} (h : Le (G t) Γ) (hw : wf t = w) : Run C h0 (.cons .cnt ss) Γ w (PL C.n h0 G wf PR) (some (.nx t)) := fun ρ η sa o q => by
  cases q
  exact ⟨ρ, η, .inr (by rw [evSs, evS]; rfl), by rw [hw]; exact sa.weak h⟩
theorem Run.brkL {ρ' : Type} {G : σ → Ctx} {wf : σ → Wd} {PR : ρ' → Out → Prop} {t : σ} (h : Le (G t) Γ) (hw : wf t = w) : Run C h0 (.cons .brk ss) Γ w (PL C.n h0 G wf PR) (some (.br t)) := fun ρ η sa o q => by
  cases q
  exact ⟨ρ, η, by rw [evSs, evS]; rfl, by rw [hw]; exact sa.weak h⟩
theorem out_ret {ρ' : Type} {PR : ρ' → Out → Prop} {r : ρ'} (hx : ∀ r, (∀ c fs ρ η, ¬ PR r (.exc c fs ρ η)) ∧ ¬ PR r .err) {e : E} {ρ : Env} {η : Hp} (h : PR r (evSs C (.cons (.ret e) ss) ρ η)) : ∃ v η1, evSs C (.cons (.ret e) ss) ρ η = .ret v η1 := by
  rw [evSs, evS] at h ⊢
  cases q : evE C e ρ η with
  | ok a η1 => exact ⟨a, η1, rfl⟩
  | exc c fs η1 => rw [q] at h; exact absurd h ((hx r).1 c fs ρ η1)
  | err => rw [q] at h; exact absurd h (hx r).2
theorem Run.rtL {ρ' : Type} {G : σ → Ctx} {wf : σ → Wd} {PR : ρ' → Out → Prop} {e : E} {m : Option ρ'} (hx : ∀ r, (∀ c fs ρ η, ¬ PR r (.exc c fs ρ η)) ∧ ¬ PR r .err) (h : Run C h0 (.cons (.ret e) ss) Γ w PR m) :
    Run C h0 (.cons (.ret e) ss) Γ w (PL C.n h0 G wf PR) (m.bind fun r => some (.rt r)) := fun ρ η sa o q => by
  obtain ⟨r, e1, q⟩ := Option.bind_eq_some_iff.mp q
  cases q
  exact ⟨out_ret hx (h ρ η sa r e1), h ρ η sa r e1⟩
theorem pf_x {enc : α → PV} {n : Nat} {h : Hp} {keep : Bool} : ∀ r, (∀ c fs ρ η, ¬ PF n h keep enc r (.exc c fs ρ η)) ∧ ¬ PF n h keep enc r .err := fun r => by
  refine ⟨fun c fs ρ η e => ?_, fun e => ?_⟩
  · have e' : (if closeds n fs = true then Res.exc c fs (η.take n) else Res.err) = Res.ok (enc r) h := e
    split at e' <;> cases e'
  · have e' : (Res.err : Res PV) = Res.ok (enc r) h := e
    cases e'
theorem ps_x {enc : α → PV} {n : Nat} {h : Hp} {keep : Bool} : ∀ r, (∀ c' fs ρ η, ¬ PS n h c keep enc r (.exc c' fs ρ η)) ∧ ¬ PS n h c keep enc r .err := fun r => by
  refine ⟨fun c' fs ρ η e => ?_, fun e => ?_⟩
  · have e' : (if closeds n fs = true then Res.exc c' fs (η.take n) else Res.err) = Res.ok (enc r.1) (h.set c r.2.ob) := e
    split at e' <;> cases e'
  · have e' : (Res.err : Res PV) = Res.ok (enc r.1) (h.set c r.2.ob) := e
    cases e'
theorem pl_x {ρ' : Type} {G : σ → Ctx} {wf : σ → Wd} {PR : ρ' → Out → Prop} {n : Nat} : ∀ r, (∀ c fs ρ η, ¬ PL n h0 G wf PR r (.exc c fs ρ η)) ∧ ¬ PL n h0 G wf PR r .err := fun r => by
  refine ⟨fun c fs ρ η e => ?_, fun e => ?_⟩
  · cases r with
    | nx s => obtain ⟨_, _, e | e, _⟩ := e <;> cases e
    | br s => obtain ⟨_, _, e, _⟩ := e; cases e
    | rt r => obtain ⟨⟨_, _, e⟩, _⟩ := e; cases e
  · cases r with
    | nx s => obtain ⟨_, _, e | e, _⟩ := e <;> cases e
    | br s => obtain ⟨_, _, e, _⟩ := e; cases e
    | rt r => obtain ⟨⟨_, _, e⟩, _⟩ := e; cases e
/-- the caller's heap: without, with the stream -/
def pr (h : Hp) : Pr := fun j => h[j]?
def prS (h : Hp) (c : Nat) : Pr := fun j => if j = c then none else h[j]?
theorem take_pr {n : Nat} {h η : Hp} {ρ : Env} (sa : Sat n (pr h) w Γ ρ η) (hn : h.length = n) : η.take n = h := by
  apply List.ext_getElem?
  intro j
  rw [List.getElem?_take]
  split
  · rename_i hj
    have e : h[j]? = some h[j] := List.getElem?_eq_getElem (by omega)
    rw [e]; exact sa.old j _ e
  · rw [List.getElem?_eq_none (by omega)]
theorem take_prS {n : Nat} {h η : Hp} {ρ : Env} (sa : Sat n (prS h c) (some (c, s)) Γ ρ η) (hn : h.length = n) (hc : c < n) : η.take n = h.set c s.ob := by
  apply List.ext_getElem?
  intro j
  rw [List.getElem?_take]
  by_cases hjc : c = j
  · subst hjc
    rw [if_pos hc, List.getElem?_set_self (by omega)]
    exact (sa.stm c s rfl).1
  · rw [List.getElem?_set_ne hjc]
    split
    · rename_i hj
      have e : h[j]? = some h[j] := List.getElem?_eq_getElem (by omega)
      rw [e]; exact sa.old j _ (by unfold prS; rw [if_neg (Ne.symm hjc)]; exact e)
    · rw [List.getElem?_eq_none (by omega)]
theorem fin_nc {n : Nat} {keep : Bool} {v : PV} {η : Hp} (h : noCell v = true) : fin n keep (.ret v η) = .ok v (η.take n) := by
  have h2 := closed_of n v h
  cases v <;> simp_all [fin, finV, closed, noCell]
theorem fin_own {n d : Nat} {xs : List PV} {η : Hp} (hd : n ≤ d) (e : η[d]? = some (.lst xs)) (h : noCells xs = true) : fin n false (.ret (.cell d) η) = .ok (.lst xs) (η.take n) := by
  show finV n false η (.cell d) = _
  rw [finV_s1, if_neg (by omega), e, finO_s1, if_pos (closeds_of n xs h)]; rfl
theorem fin_keep {n d : Nat} {xs : List PV} {η : Hp} (hd : n ≤ d) (e : η[d]? = some (.lst xs)) (h : noCells xs = true) : fin n true (.ret (.cell d) η) = .ok (.cell n) (η.take n ++ [.lst xs]) := by
  show finV n true η (.cell d) = _
  rw [finV_s1, if_neg (by omega), e, finO_s1, if_pos (closeds_of n xs h)]; rfl
section
variable {h : Hp} {keep : Bool}
theorem Run.ret {e : E} {enc : α → PV} {m : Option α} (hn : h.length = C.n) (nc : Nc enc) (he : EvP C e Γ enc m) : Run C (pr h) (.cons (.ret e) ss) Γ w (PF C.n h keep enc) m := fun ρ η sa o q => by
  rw [evSs, evS, he _ w ρ η sa o q, out_ok, then_ret]
  show fin C.n keep (.ret (enc o) η) = _
  rw [fin_nc (nc o), take_pr sa hn]
theorem Run.retS {e : E} {enc : α → PV} {m : Option (α × SS)} (hn : h.length = C.n) (hc : c < C.n) (nc : Nc enc) (he : EvS C c e Γ s enc m) : Run C (prS h c) (.cons (.ret e) ss) Γ (some (c, s)) (PS C.n h c keep enc) m := fun ρ η sa o q => by
  obtain ⟨η1, r1, sa1, _⟩ := he _ ρ η sa o.1 o.2 q
  rw [evSs, evS, r1, out_ok, then_ret]
  show fin C.n keep (.ret (enc o.1) η1) = _
  rw [fin_nc (nc o.1), take_prS sa1 hn hc]
theorem Run.retO {i : Nat} {f : α → PV} {xs : List α} (hn : h.length = C.n) (nc : Nc f) (hi : gt Γ i = .own (xs.map f)) : Run C (pr h) (.cons (.ret (.var i)) ss) Γ w (PF C.n h false (eL f)) (some xs) := fun ρ η sa o q => by
  cases q
  obtain ⟨d, e1, h1, h2, h3⟩ := sa.own i _ hi
  rw [evSs, evS, evE, e1]
  show fin C.n false (.ret (.cell d) η) = _
  rw [fin_own h1.1 h3 (noCells_map nc xs), take_pr sa hn]
theorem Run.retOS {i : Nat} {f : α → PV} {xs : List α} (hn : h.length = C.n) (hc : c < C.n) (nc : Nc f) (hi : gt Γ i = .own (xs.map f)) : Run C (prS h c) (.cons (.ret (.var i)) ss) Γ (some (c, s)) (PS C.n h c false (eL f)) (some (xs, s)) := fun ρ η sa o q => by
  cases q
  obtain ⟨d, e1, h1, h2, h3⟩ := sa.own i _ hi
  rw [evSs, evS, evE, e1]
  show fin C.n false (.ret (.cell d) η) = _
  rw [fin_own h1.1 h3 (noCells_map nc xs), take_prS sa hn hc]
/-- the end of a def that gives nothing -/
theorem Run.nilF (hn : h.length = C.n) : Run C (pr h) .nil Γ w (PF C.n h keep eU) (some ()) := fun ρ η sa o q => by
  rw [evSs]
  show Res.ok PV.non (η.take C.n) = _
  rw [take_pr sa hn]
end
theorem forL_fold {n : Nat} {P : Pr} {wt : Wt} {f : α → PV} {G : σ → Ctx} {wf : σ → Wd} {F : α → σ → Option σ} {fv : PV → Env → Hp → Out} (hs : ∀ s ρ η, Sat n P (wf s) (G s) ρ η → stays wt η = true)
    (hf : ∀ x s ρ η s', Sat n P (wf s) (G s) ρ η → F x s = some s' → PN n P G wf s' (fv (f x) ρ η)) :
    ∀ (xs : List α) (s s' : σ) (ρ : Env) (η : Hp), Sat n P (wf s) (G s) ρ η → foldO F xs s = some s' → ∃ ρ' η', forL wt fv (xs.map f) ρ η = .next ρ' η' ∧ Sat n P (wf s') (G s') ρ' η'
  | [], s, s', ρ, η, sa, e => by
    cases e
    exact ⟨ρ, η, by rw [List.map_nil, forL, if_pos (hs s ρ η sa)], sa⟩
  | x :: xs, s, s', ρ, η, sa, e => by
    obtain ⟨t, e1, e⟩ := Option.bind_eq_some_iff.mp e
    obtain ⟨ρ1, η1, e2, sa1⟩ := hf x s ρ η t sa e1
    obtain ⟨ρ2, η2, e3, sa2⟩ := forL_fold hs hf xs t s' ρ1 η1 sa1 e
    refine ⟨ρ2, η2, ?_, sa2⟩
    rw [List.map_cons, forL, if_pos (hs s ρ η sa)]
    rcases e2 with e2 | e2 <;> rw [e2] <;> exact e3
theorem forL_brk {n : Nat} {P : Pr} {wt : Wt} {f : α → PV} {G : σ → Ctx} {wf : σ → Wd} {F : α → σ → Option (Bool × σ)} {fv : PV → Env → Hp → Out} (hs : ∀ s ρ η, Sat n P (wf s) (G s) ρ η → stays wt η = true)
    (hf : ∀ x s ρ η s', Sat n P (wf s) (G s) ρ η → F x s = some s' → PB n P G wf s' (fv (f x) ρ η)) :
    ∀ (xs : List α) (s s' : σ) (ρ : Env) (η : Hp), Sat n P (wf s) (G s) ρ η → brkO F xs s = some s' → ∃ ρ' η', forL wt fv (xs.map f) ρ η = .next ρ' η' ∧ Sat n P (wf s') (G s') ρ' η'
  | [], s, s', ρ, η, sa, e => by
    cases e
    exact ⟨ρ, η, by rw [List.map_nil, forL, if_pos (hs s ρ η sa)], sa⟩
  | x :: xs, s, s', ρ, η, sa, e => by
    obtain ⟨⟨b, t⟩, e1, e⟩ := Option.bind_eq_some_iff.mp e
    obtain ⟨ρ1, η1, e2, sa1⟩ := hf x s ρ η _ sa e1
    rw [List.map_cons, forL, if_pos (hs s ρ η sa)]
    cases b with
    | true =>
      cases e
      rw [if_pos rfl] at e2
      exact ⟨ρ1, η1, by rw [e2]; rfl, sa1⟩
    | false =>
      rw [if_neg (by simp)] at e2
      obtain ⟨ρ2, η2, e3, sa2⟩ := forL_brk hs hf xs t s' ρ1 η1 sa1 e
      refine ⟨ρ2, η2, ?_, sa2⟩
      rcases e2 with e2 | e2 <;> rw [e2] <;> exact e3
theorem forL_ctl {n : Nat} {P : Pr} {wt : Wt} {f : α → PV} {G : σ → Ctx} {wf : σ → Wd} {ρ' : Type} {PR : ρ' → Out → Prop} {F : α → σ → Option (Ctl σ ρ')} {fv : PV → Env → Hp → Out} (hs : ∀ s ρ η, Sat n P (wf s) (G s) ρ η → stays wt η = true)
    (hf : ∀ x s ρ η s', Sat n P (wf s) (G s) ρ η → F x s = some s' → PL n P G wf PR s' (fv (f x) ρ η)) :
    ∀ (xs : List α) (s : σ) (s' : σ ⊕ ρ') (ρ : Env) (η : Hp), Sat n P (wf s) (G s) ρ η → loopO F xs s = some s' → match s' with
      | .inl s' => ∃ ρ' η', forL wt fv (xs.map f) ρ η = .next ρ' η' ∧ Sat n P (wf s') (G s') ρ' η'
      | .inr r => ∃ v η', forL wt fv (xs.map f) ρ η = .ret v η' ∧ PR r (.ret v η')
  | [], s, s', ρ, η, sa, e => by
    cases e
    exact ⟨ρ, η, by rw [List.map_nil, forL, if_pos (hs s ρ η sa)], sa⟩
  | x :: xs, s, s', ρ, η, sa, e => by
    obtain ⟨t, e1, e⟩ := Option.bind_eq_some_iff.mp e
    have p := hf x s ρ η t sa e1
    rw [List.map_cons, forL, if_pos (hs s ρ η sa)]
    cases t with
    | nx t =>
      obtain ⟨ρ1, η1, e2, sa1⟩ := p
      have r := forL_ctl hs hf xs t s' ρ1 η1 sa1 e
      have q : (fv (f x) ρ η).turn (fun ρ1 η1 => forL wt fv (xs.map f) ρ1 η1) = forL wt fv (xs.map f) ρ1 η1 := by rcases e2 with e2 | e2 <;> rw [e2] <;> rfl
      rw [q]; exact r
    | br t =>
      cases e
      obtain ⟨ρ1, η1, e2, sa1⟩ := p
      exact ⟨ρ1, η1, by rw [e2]; rfl, sa1⟩
    | rt r =>
      cases e
      obtain ⟨⟨v, η1, e2⟩, p⟩ := p
      rw [e2] at p
      exact ⟨v, η1, by rw [e2]; rfl, p⟩
section
variable {tg : Tg} {it : It} {b : Ss} {f : α → PV} {G : σ → Ctx} {wf : σ → Wd} {F : α → σ → Option σ} {FB : α → σ → Option (Bool × σ)} {s0 : σ} {mxs : Option (List α)} {k : σ → Option ω}
theorem body_ok {n : Nat} {P : Pr} {ζ : Type} {PP : ζ → Out → Prop} {FF : α → σ → Option ζ} (ht : ∀ x, okT tg (f x) = true) (hb : ∀ x s, Run C P b (bnd (G s) tg (f x)) (wf s) PP (FF x s)) (x : α) (s : σ) (ρ : Env) (η : Hp) (z : ζ) (sa : Sat C.n P (wf s) (G s) ρ η) (e : FF x s = some z) :
    PP z ((fun x ρ η => Out.opt (bindT η tg x ρ) fun ρ' => evSs C b ρ' η) (f x) ρ η) := by
  obtain ⟨ρ1, e1, sa1⟩ := bnd_ok (ht x) sa
  show PP z (Out.opt (bindT η tg (f x) ρ) _)
  rw [e1]
  exact hb x s ρ1 η sa1 z e
theorem Run.loop (hi : EvI0 C it Γ f mxs) (ht : ∀ x, okT tg (f x) = true) (hl : Le (G s0) Γ) (hw : wf s0 = w) (hb : ∀ x s, Run C h0 b (bnd (G s) tg (f x)) (wf s) (PN C.n h0 G wf) (F x s)) (hk : ∀ s, Run C h0 ss (G s) (wf s) Post (k s)) :
    Run C h0 (.cons (.loop tg it b) ss) Γ w Post (mxs.bind fun xs => (foldO F xs s0).bind k) := fun ρ η sa o q => by
  obtain ⟨xs, e1, q⟩ := Option.bind_eq_some_iff.mp q
  obtain ⟨s', e2, q⟩ := Option.bind_eq_some_iff.mp q
  rw [evSs, evS, hi _ w ρ η sa xs e1, out_ok]
  obtain ⟨ρ1, η1, e3, sa1⟩ := forL_fold (n := C.n) (P := h0) (G := G) (wf := wf) (F := F) (f := f) (fv := fun x ρ η => Out.opt (bindT η tg x ρ) fun ρ' => evSs C b ρ' η) (wt := none) (fun _ _ _ _ => rfl) (body_ok (n := C.n) ht hb) xs s0 s' ρ η (by rw [hw]; exact sa.weak hl) e2
  rw [e3, then_next]
  exact hk s' ρ1 η1 sa1 o q
theorem Run.loopB (hi : EvI0 C it Γ f mxs) (ht : ∀ x, okT tg (f x) = true) (hl : Le (G s0) Γ) (hw : wf s0 = w) (hb : ∀ x s, Run C h0 b (bnd (G s) tg (f x)) (wf s) (PB C.n h0 G wf) (FB x s)) (hk : ∀ s, Run C h0 ss (G s) (wf s) Post (k s)) :
    Run C h0 (.cons (.loop tg it b) ss) Γ w Post (mxs.bind fun xs => (brkO FB xs s0).bind k) := fun ρ η sa o q => by
  obtain ⟨xs, e1, q⟩ := Option.bind_eq_some_iff.mp q
  obtain ⟨s', e2, q⟩ := Option.bind_eq_some_iff.mp q
  rw [evSs, evS, hi _ w ρ η sa xs e1, out_ok]
  obtain ⟨ρ1, η1, e3, sa1⟩ := forL_brk (n := C.n) (P := h0) (G := G) (wf := wf) (F := FB) (f := f) (fv := fun x ρ η => Out.opt (bindT η tg x ρ) fun ρ' => evSs C b ρ' η) (wt := none) (fun _ _ _ _ => rfl) (body_ok (n := C.n) ht hb) xs s0 s' ρ η (by rw [hw]; exact sa.weak hl) e2
  rw [e3, then_next]
  exact hk s' ρ1 η1 sa1 o q
/-- .. with return in the turn -/
theorem Run.loopR {ρ' : Type} {PR : ρ' → Out → Prop} {FR : α → σ → Option (Ctl σ ρ')} {kr : ρ' → ω} (hi : EvI0 C it Γ f mxs) (ht : ∀ x, okT tg (f x) = true) (hl : Le (G s0) Γ) (hw : wf s0 = w) (hr : ∀ r v η, PR r (.ret v η) → Post (kr r) (.ret v η)) (hb : ∀ x s, Run C h0 b (bnd (G s) tg (f x)) (wf s) (PL C.n h0 G wf PR) (FR x s)) (hk : ∀ s, Run C h0 ss (G s) (wf s) Post (k s)) :
    Run C h0 (.cons (.loop tg it b) ss) Γ w Post (mxs.bind fun xs => (loopO FR xs s0).bind fun e => match e with | .inl s => k s | .inr r => some (kr r)) := fun ρ η sa o q => by
  obtain ⟨xs, e1, q⟩ := Option.bind_eq_some_iff.mp q
  obtain ⟨s', e2, q⟩ := Option.bind_eq_some_iff.mp q
  rw [evSs, evS, hi _ w ρ η sa xs e1, out_ok]
  have r := forL_ctl (n := C.n) (P := h0) (G := G) (wf := wf) (F := FR) (f := f) (PR := PR) (fv := fun x ρ η => Out.opt (bindT η tg x ρ) fun ρ' => evSs C b ρ' η) (wt := none) (fun _ _ _ _ => rfl) (body_ok (n := C.n) ht hb) xs s0 s' ρ η (by rw [hw]; exact sa.weak hl) e2
  cases s' with
  | inl s' =>
    obtain ⟨ρ1, η1, e3, sa1⟩ := r
    rw [e3, then_next]
    exact hk s' ρ1 η1 sa1 o q
  | inr r' =>
    cases q
    obtain ⟨v, η1, e3, p⟩ := r
    rw [e3, then_ret]
    exact hr r' v η1 p
/-- the turns are drawn -/
theorem Run.loopS {mS : Option (List α × SS)} {sS : SS → σ} (hi : EvSI C c it Γ s f mS) (ht : ∀ x, okT tg (f x) = true) (hl : ∀ t, Le (G (sS t)) Γ) (hw : ∀ t, wf (sS t) = some (c, t)) (hb : ∀ x s, Run C h0 b (bnd (G s) tg (f x)) (wf s) (PN C.n h0 G wf) (F x s)) (hk : ∀ s, Run C h0 ss (G s) (wf s) Post (k s)) :
    Run C h0 (.cons (.loop tg it b) ss) Γ (some (c, s)) Post (mS.bind fun xs => (foldO F xs.1 (sS xs.2)).bind k) := fun ρ η sa o q => by
  obtain ⟨⟨xs, t⟩, e1, q⟩ := Option.bind_eq_some_iff.mp q
  obtain ⟨s', e2, q⟩ := Option.bind_eq_some_iff.mp q
  obtain ⟨wt, η1, r1, sa1, _, rfl⟩ := hi _ ρ η sa xs t e1
  rw [evSs, evS, r1, out_ok]
  obtain ⟨ρ1, η2, e3, sa2⟩ := forL_fold (n := C.n) (P := h0) (G := G) (wf := wf) (F := F) (f := f) (fv := fun x ρ η => Out.opt (bindT η tg x ρ) fun ρ' => evSs C b ρ' η) (wt := none) (fun _ _ _ _ => rfl) (body_ok (n := C.n) ht hb) xs (sS t) s' ρ η1 (by rw [hw]; exact sa1.weak (hl t)) e2
  rw [e3, then_next]
  exact hk s' ρ1 η2 sa2 o q
/-- an own list is walked -/
theorem walk_own {n : Nat} {j d : Nat} {xs : List PV} {ρ : Env} {η : Hp} (sa : Sat n h0 w Γ ρ η) (hj : gt Γ j = .own xs) (hd : ρ[j]? = some (some (.cell d))) (hh : η[d]? = some (.lst xs)) : evI C (.seq (.var j)) ρ η = .ok (xs, some (d, xs)) η := by
  rw [evI, evE, hd]
  show (Res.ok (PV.cell d) η).bind _ = _
  rw [bind_ok]
  show Res.opt (walkO d η[d]?) η = _
  rw [hh]; rfl
theorem Run.loopO {j : Nat} {xs : List α} (hj : gt Γ j = .own (xs.map f)) (hG : ∀ s, gt (G s) j = .own (xs.map f)) (ht : ∀ x, okT tg (f x) = true) (hl : Le (G s0) Γ) (hw : wf s0 = w) (hn : ∀ s c t, wf s = some (c, t) → ∃ t', w = some (c, t'))
    (hb : ∀ d x s, Run C (grd h0 d (xs.map f)) b (bnd (st (G s) j (.pin d)) tg (f x)) (wf s) (PN C.n (grd h0 d (xs.map f)) (fun s => st (G s) j (.pin d)) wf) (F x s)) (hk : ∀ s, Run C h0 ss (G s) (wf s) Post (k s)) :
    Run C h0 (.cons (.loop tg (.seq (.var j)) b) ss) Γ w Post ((foldO F xs s0).bind k) := fun ρ η sa o q => by
  obtain ⟨s', e2, q⟩ := Option.bind_eq_some_iff.mp q
  obtain ⟨d, e1, h1, h2, h3⟩ := sa.own j _ hj
  rw [evSs, evS, walk_own sa hj e1 h3, out_ok]
  have sg := (sa.weak hl).guard (hG s0) e1
  obtain ⟨ρ1, η1, e3, sa1⟩ := forL_fold (n := C.n) (wf := wf) (F := F) (f := f) (fv := fun x ρ η => Out.opt (bindT η tg x ρ) fun ρ' => evSs C b ρ' η) (wt := some (d, xs.map f)) (G := fun s => st (G s) j (.pin d)) (P := grd h0 d (xs.map f)) (fun s ρ η sa => stays_iff.mpr (sa.old d _ (by unfold grd; rw [if_pos rfl]))) (body_ok (n := C.n) (G := fun s => st (G s) j (.pin d)) ht (hb d)) xs s0 s' ρ η (by rw [hw]; exact sg) e2
  rw [e3, then_next]
  have hw' : nots (wf s') d := fun c t e => by
    obtain ⟨t', e'⟩ := hn s' c t e
    exact h2 c t' e'
  have hl' : j < (G s').length := by
    have := hG s'
    rcases Nat.lt_or_ge j (G s').length with h | h
    · exact h
    · exfalso
      have : ∀ (Γ : Ctx) (i : Nat), Γ.length ≤ i → gt Γ i = .any := by
        intro Γ
        induction Γ with
        | nil => intro i _; rfl
        | cons x xs ih => intro i hi; cases i with
          | zero => simp at hi
          | succ i => exact ih i (by simpa using hi)
      have z := hG s'
      rw [this _ _ h] at z
      cases z
  have sb := sa1.unguard h1.1 h1.2 hw' (by rw [gt_st_eq, if_pos hl'])
  refine hk s' ρ1 η1 (sb.weak ?_) o q
  have : ∀ (Γ : Ctx) (i : Nat) (x y : Sl), gt Γ i = y → i < Γ.length → st (st Γ i x) i y = Γ := by
    intro Γ
    induction Γ with
    | nil => intro i x y _ h; simp at h
    | cons z zs ih =>
      intro i x y e h
      cases i with
      | zero => simp only [gt] at e; subst e; rfl
      | succ i => exact congrArg (z :: ·) (ih i x y e (by simpa using h))
  show Le (G s') (st (st (G s') j (.pin d)) j (.own (xs.map f)))
  rw [this _ _ _ _ (hG s') hl']
  exact Le.refl _
theorem whlL_ok {n : Nat} {P : Pr} {cv : Env → Hp → Res PV} {bv : Env → Hp → Out} {cf : σ → Option Bool} {F : σ → Option σ} (hc : ∀ s ρ η b, Sat n P (wf s) (G s) ρ η → cf s = some b → ∃ p, cv ρ η = .ok p η ∧ truth η p = some b)
    (hf : ∀ s ρ η s', Sat n P (wf s) (G s) ρ η → F s = some s' → PN n P G wf s' (bv ρ η)) : ∀ (k : Nat) (s s' : σ) (ρ : Env) (η : Hp), Sat n P (wf s) (G s) ρ η → whlO cf F k s = some s' → ∃ ρ' η', whlL cv bv k ρ η = .next ρ' η' ∧ Sat n P (wf s') (G s') ρ' η'
  | 0, _, _, _, _, _, e => by cases e
  | k + 1, s, s', ρ, η, sa, e => by
    obtain ⟨t, e1, e⟩ := Option.bind_eq_some_iff.mp e
    obtain ⟨p, e2, ht⟩ := hc s ρ η t sa e1
    rw [whlL, e2, out_ok, ht, obr_some]
    cases t with
    | false => cases e; exact ⟨ρ, η, by rw [if_neg (by simp)], sa⟩
    | true =>
      obtain ⟨s1, e3, e⟩ := Option.bind_eq_some_iff.mp e
      obtain ⟨ρ1, η1, e4, sa1⟩ := hf s ρ η s1 sa e3
      obtain ⟨ρ2, η2, e5, sa2⟩ := whlL_ok hc hf k s1 s' ρ1 η1 sa1 e
      refine ⟨ρ2, η2, ?_, sa2⟩
      rw [if_pos rfl]
      rcases e4 with e4 | e4 <;> rw [e4] <;> exact e5
theorem Run.whl {kk : Nat} {e : E} {cf : σ → Option Bool} {FW : σ → Option σ} (hl : Le (G s0) Γ) (hw : wf s0 = w) (hc : ∀ s, EvB C e (G s) (cf s)) (hb : ∀ s, Run C h0 b (G s) (wf s) (PN C.n h0 G wf) (FW s)) (hk : ∀ s, Run C h0 ss (G s) (wf s) Post (k s)) :
    Run C h0 (.cons (.whl kk e b) ss) Γ w Post ((whlO cf FW kk s0).bind k) := fun ρ η sa o q => by
  obtain ⟨s', e2, q⟩ := Option.bind_eq_some_iff.mp q
  rw [evSs, evS]
  obtain ⟨ρ1, η1, e3, sa1⟩ := whlL_ok (fun s ρ η b sa q => hc s _ _ ρ η sa b q) (fun s ρ η s' sa q => hb s ρ η sa s' q) kk s0 s' ρ η (by rw [hw]; exact sa.weak hl) e2
  rw [e3, then_next]
  exact hk s' ρ1 η1 sa1 o q
theorem whlR_ok {ρ' : Type} {PR : ρ' → Out → Prop} {n : Nat} {P : Pr} {cv : Env → Hp → Res PV} {bv : Env → Hp → Out} {cf : σ → Option Bool} {F : σ → Option (Ctl σ ρ')} (hc : ∀ s ρ η b, Sat n P (wf s) (G s) ρ η → cf s = some b → ∃ p, cv ρ η = .ok p η ∧ truth η p = some b)
    (hf : ∀ s ρ η s', Sat n P (wf s) (G s) ρ η → F s = some s' → PL n P G wf PR s' (bv ρ η)) : ∀ (k : Nat) (s : σ) (s' : σ ⊕ ρ') (ρ : Env) (η : Hp), Sat n P (wf s) (G s) ρ η → whlR cf F k s = some s' → match s' with
      | .inl s' => ∃ ρ' η', whlL cv bv k ρ η = .next ρ' η' ∧ Sat n P (wf s') (G s') ρ' η'
      | .inr r => ∃ v η', whlL cv bv k ρ η = .ret v η' ∧ PR r (.ret v η')
  | 0, _, _, _, _, _, e => by cases e
  | k + 1, s, s', ρ, η, sa, e => by
    obtain ⟨t, e1, e⟩ := Option.bind_eq_some_iff.mp e
    obtain ⟨p, e2, ht⟩ := hc s ρ η t sa e1
    rw [whlL, e2, out_ok, ht, obr_some]
    cases t with
    | false => cases e; exact ⟨ρ, η, by rw [if_neg (by simp)], sa⟩
    | true =>
      obtain ⟨s1, e3, e⟩ := Option.bind_eq_some_iff.mp e
      have p := hf s ρ η s1 sa e3
      rw [if_pos rfl]
      cases s1 with
      | nx t =>
        obtain ⟨ρ1, η1, e4, sa1⟩ := p
        have r := whlR_ok hc hf k t s' ρ1 η1 sa1 e
        have q : (bv ρ η).turn (fun ρ1 η2 => whlL cv bv k ρ1 η2) = whlL cv bv k ρ1 η1 := by rcases e4 with e4 | e4 <;> rw [e4] <;> rfl
        rw [q]; exact r
      | br t =>
        cases e
        obtain ⟨ρ1, η1, e4, sa1⟩ := p
        exact ⟨ρ1, η1, by rw [e4]; rfl, sa1⟩
      | rt r =>
        cases e
        obtain ⟨⟨v, η1, e4⟩, p⟩ := p
        rw [e4] at p
        exact ⟨v, η1, by rw [e4]; rfl, p⟩
theorem Run.whlR {ρ' : Type} {PR : ρ' → Out → Prop} {kr : ρ' → ω} {kk : Nat} {e : E} {cf : σ → Option Bool} {FW : σ → Option (Ctl σ ρ')} (hl : Le (G s0) Γ) (hw : wf s0 = w) (hr : ∀ r v η, PR r (.ret v η) → Post (kr r) (.ret v η)) (hc : ∀ s, EvB C e (G s) (cf s)) (hb : ∀ s, Run C h0 b (G s) (wf s) (PL C.n h0 G wf PR) (FW s)) (hk : ∀ s, Run C h0 ss (G s) (wf s) Post (k s)) :
    Run C h0 (.cons (.whl kk e b) ss) Γ w Post ((M.whlR cf FW kk s0).bind fun e => match e with | .inl s => k s | .inr r => some (kr r)) := fun ρ η sa o q => by
  obtain ⟨s', e2, q⟩ := Option.bind_eq_some_iff.mp q
  rw [evSs, evS]
  have r := whlR_ok (PR := PR) (fun s ρ η b sa q => hc s _ _ ρ η sa b q) (fun s ρ η s' sa q => hb s ρ η sa s' q) kk s0 s' ρ η (by rw [hw]; exact sa.weak hl) e2
  cases s' with
  | inl s' =>
    obtain ⟨ρ1, η1, e3, sa1⟩ := r
    rw [e3, then_next]
    exact hk s' ρ1 η1 sa1 o q
  | inr r' =>
    cases q
    obtain ⟨v, η1, e3, p⟩ := r
    rw [e3, then_ret]
    exact hr r' v η1 p
end
end
section
variable {T : Tb} {k f : Nat} {args : List PV} {d : FD} {α : Type} {enc : α → PV}
/-- the slots at a def's entry -/
def ent (d : FD) (args : List PV) : Ctx := args.map .val ++ List.replicate (d.ns - d.np) .any
theorem gt_ent : ∀ (args : List PV) (m i : Nat) (x : Sl), gt (args.map Sl.val ++ List.replicate m .any) i = x → x ≠ .any → ∃ v, args[i]? = some v ∧ x = .val v
  | [], m, i, x, h, hx => by
    exfalso
    apply hx
    rw [← h]
    clear h hx
    induction m generalizing i with
    | zero => rfl
    | succ m ih => cases i with
      | zero => rfl
      | succ i => exact ih i
  | v :: args, m, 0, x, h, hx => ⟨v, rfl, h.symm⟩
  | v :: args, m, i + 1, x, h, hx => gt_ent args m i x h hx
theorem start_sat {n : Nat} {P : Pr} {w : Wd} {η : Hp} (hl : args.length = d.np) (hn : n ≤ η.length) (h1 : ∀ j o, P j = some o → η[j]? = some o) (h2 : ∀ c s, w = some (c, s) → η[c]? = some s.ob ∧ P c = none) (ha : ∀ v ∈ args, out n w v) :
    Sat n P w (ent d args) (args.map some ++ List.replicate (d.ns - d.np) none) η := by
  have no : ∀ i, isO (gt (ent d args) i) = true → False := fun i h => by
    obtain ⟨v, _, e⟩ := gt_ent args _ i _ rfl (fun e => by
      have h' : isO (gt (ent d args) i) = true := h
      unfold ent at h'
      rw [e] at h'; cases h')
    unfold ent at h
    rw [e] at h; cases h
  refine ⟨by simp [ent], hn, h1, h2, fun i v h => ?_, fun i v h => ?_, fun i v h => ?_, fun i v h => ?_, fun i v h => ?_, fun a b c ha _ _ _ _ _ => (no a ha).elim⟩
  · obtain ⟨u, e1, e2⟩ := gt_ent args _ i _ h (by simp)
    cases e2
    have hi := (List.getElem?_eq_some_iff.mp e1).1
    rw [List.getElem?_append_left (by simpa using hi), List.getElem?_map, e1]; rfl
  · obtain ⟨u, e1, e2⟩ := gt_ent args _ i _ h (by simp)
    cases e2
    exact ha _ (List.mem_of_getElem? e1)
  · obtain ⟨u, e1, e2⟩ := gt_ent args _ i _ h (by simp)
    cases e2
  · obtain ⟨u, e1, e2⟩ := gt_ent args _ i _ h (by simp)
    cases e2
  · obtain ⟨u, e1, e2⟩ := gt_ent args _ i _ h (by simp)
    cases e2
theorem def_ok {m : Option α} (hf : T.fd f = some d) (hl : args.length = d.np) (ha : ∀ v ∈ args, noCell v = true) (h : ∀ η, Run ⟨T.gv, evD T k, η.length⟩ (pr η) d.body (ent d args) none (PF η.length η d.keep enc) m) (η : Hp) (r : α) (e : m = some r) :
    evD T (k + 1) f args η = .ok (enc r) η := by
  rw [evD_succ d hf hl]
  exact h η _ η (start_sat (n := η.length) hl (Nat.le_refl _) (fun j o e => e) (fun c s e => by cases e) fun v hv => out_nc (ha v hv)) r e
theorem def_okS {m : Option (α × SS)} {c : Nat} {s : SS} {η : Hp} (hf : T.fd f = some d) (hl : args.length = d.np) (ha : ∀ v ∈ args, v = .cell c ∨ noCell v = true) (hc : η[c]? = some s.ob) (h : c < η.length → Run ⟨T.gv, evD T k, η.length⟩ (prS η c) d.body (ent d args) (some (c, s)) (PS η.length η c d.keep enc) m) (r : α) (s' : SS) (e : m = some (r, s')) :
    evD T (k + 1) f args η = .ok (enc r) (η.set c s'.ob) := by
  rw [evD_succ d hf hl]
  have hlt := (List.getElem?_eq_some_iff.mp hc).1
  refine h hlt _ η (start_sat (n := η.length) hl (Nat.le_refl _) (fun j o e => ?_) (fun d t e => ?_) fun v hv => ?_) (r, s') e
  · unfold prS at e; split at e
    · cases e
    · exact e
  · cases e; exact ⟨hc, by unfold prS; rw [if_pos rfl]⟩
  · rcases ha v hv with rfl | h
    · intro d e; cases e; exact .inl hlt
    · exact out_nc h
end
end M
end

section
set_option linter.all false
set_option Elab.async false
set_option maxRecDepth 100000
namespace M
open D
theorem raw_lt (s : SS) (h : s.k < s.ns.length) : ∃ h' : s.k.toNat < s.ns.length, s.raw = (if s.ns[s.k.toNat] < 0 then -s.ns[s.k.toNat] else s.ns[s.k.toNat]) := by
  have := s.hk
  have h' : s.k.toNat < s.ns.length := by omega
  exact ⟨h', by unfold SS.raw; rw [dif_pos h']⟩
theorem raw_ge (s : SS) (h : ¬ s.k < s.ns.length) : s.raw = 7 + s.k := by
  have := s.hk
  unfold SS.raw; rw [dif_neg (by omega)]
theorem fill_eq (C : Cfg) (c : Nat) (m : Int) (s : SS) (x2 x3 x4 : Option PV) (η : Hp) (e : η[c]? = some s.ob) :
    ∃ (y3 y4 : Option PV), evS C (.ite (.cmp .eq (.idx (.var 0) (.con (.int 1))) (.con (.int 0)))
  (.cons (.asg 3 (.idx (.var 0) (.con (.int 2))))
  (.cons (.asg 4 (.bin .add (.con (.int 7)) (.var 3)))
  (.cons (.ite (.cmp .lt (.var 3) (.bi .len (.cons (.idx (.var 0) (.con (.int 0))) .nil)))
  (.cons (.asg 4 (.bi .abs (.cons (.idx (.idx (.var 0) (.con (.int 0))) (.var 3)) .nil)))
  .nil)
  .nil)
  (.cons (.ite (.cmp .lt (.var 4) (.bin .pow (.con (.int 10)) (.con (.int 18))))
  (.cons (.asg 4 (.bin .mod (.bi .int (.cons (.bin .add (.bin .add (.bin .mul (.var 4) (.con (.int 48271))) (.bin .mul (.var 3) (.con (.int 69621)))) (.con (.int 11))) .nil)) (.con (.int 2147483647))))
  (.cons (.asg 4 (.bin .add (.bin .mul (.bin .mod (.bi .int (.cons (.bin .add (.bin .mul (.var 4) (.con (.int 16807))) (.con (.int 13))) .nil)) (.con (.int 2147483647))) (.con (.int 65537))) (.var 4)))
  .nil))
  .nil)
  (.cons (.set (.var 0) (.con (.int 1)) (.var 4))
  (.cons (.set (.var 0) (.con (.int 2)) (.bin .add (.var 3) (.con (.int 1))))
  .nil))))))
  .nil) [some (.cell c), some (.int m), x2, x3, x4] η = .next [some (.cell c), some (.int m), x2, y3, y4] (η.set c s.fill.ob) := by
  have hc := (List.getElem?_eq_some_iff.mp e).1
  have hc2 : c < C.n ∨ C.n ≤ c := by omega
  have hset : ∀ (o : Ob), (η.set c o)[c]? = some o := fun o => by rw [List.getElem?_set_self hc]
  have hk := s.hk
  have p18 : (10 : Int) ^ 18 = 1000000000000000000 := by decide
  unfold SS.ob at e
  by_cases hv : s.v = 0
  · by_cases hl : s.k < s.ns.length
    · obtain ⟨hlt, hr⟩ := raw_lt s hl
      have hf : s.fill = ⟨s.ns, scram s.raw s.k, s.k + 1, by omega, s.hn⟩ := by unfold SS.fill; rw [if_pos hv]
      by_cases h18 : (if s.ns[s.k.toNat] < 0 then -s.ns[s.k.toNat] else s.ns[s.k.toNat]) < 1000000000000000000
      · simp [e, atI, ixN, hv, hk, hl, put, noCell, cap, h18, hset, hf, SS.ob, hr, scram, p18]
      · simp [e, atI, ixN, hv, hk, hl, put, noCell, cap, h18, hset, hf, SS.ob, hr, scram, p18]
    · have hr := raw_ge s hl
      have hf : s.fill = ⟨s.ns, scram s.raw s.k, s.k + 1, by omega, s.hn⟩ := by unfold SS.fill; rw [if_pos hv]
      by_cases h18 : 7 + s.k < 1000000000000000000
      · simp [e, atI, ixN, hv, hk, hl, put, noCell, cap, h18, hset, hf, SS.ob, hr, scram, p18]
      · simp [e, atI, ixN, hv, hk, hl, put, noCell, cap, h18, hset, hf, SS.ob, hr, scram, p18]
  · refine ⟨x3, x4, ?_⟩
    have hf : s.fill = s := by unfold SS.fill; rw [if_neg hv]
    have hs : η.set c s.ob = η := by
      apply List.ext_getElem?
      intro j
      by_cases hj : c = j
      · subst hj; rw [hset, e]; rfl
      · rw [List.getElem?_set_ne hj]
    rw [hf, hs]
    simp [e, atI, ixN, hv]
theorem next_eq (T : Tb) (f k c : Nat) (hf : T.fd f = some nextFD) (η : Hp) (m : Int) (s : SS) (r : Int) (s' : SS) (q : draw s m = some (r, s')) (e : η[c]? = some s.ob) :
    evD T (k + 1) f [.cell c, .int m] η = .ok (.int r) (η.set c s'.ob) := by
  unfold draw at q
  split at q
  · rename_i hm
    cases q
    have hc := (List.getElem?_eq_some_iff.mp e).1
    rw [evD_succ nextFD hf rfl]
    obtain ⟨y3, y4, e1⟩ := fill_eq ⟨T.gv, evD T k, η.length⟩ c m s none none none η e
    have e2 : (η.set c s.fill.ob)[c]? = some (.lst [.lst (s.fill.ns.map .int), .int s.fill.v, .int s.fill.k]) := by rw [List.getElem?_set_self hc]; rfl
    have e3 := tail_ok ⟨T.gv, evD T k, η.length⟩ c m s.fill.v s.fill.k s.fill.ns none y3 y4 _ e2 hm.1 hm.2
    have hns : s.fill.ns = s.ns := by unfold SS.fill; split <;> rfl
    show fin η.length false (evSs _ (.cons _ _) [some (.cell c), some (.int m), none, none, none] η) = _
    rw [evSs, e1, then_next, e3, List.set_set, fin_nc rfl, List.take_of_length_le (by simp)]
    rw [hns]; rfl
  · cases q
/-- the stream at the law's beginning -/
def ini (ns : List Int) (h : ns.length ≤ 63) : SS := ⟨ns, 0, 0, Int.le_refl _, by omega⟩
theorem gt_law : ∀ (m i : Nat) (x : Sl), gt (.any :: .val (.cell 0) :: List.replicate m .any) i = x → x ≠ .any → i = 1 ∧ x = .val (.cell 0) := fun m i x h hx => by
  cases i with
  | zero => exact absurd h.symm hx
  | succ i => cases i with
    | zero => exact ⟨rfl, h.symm⟩
    | succ i =>
      exfalso
      have h' : gt (List.replicate m Sl.any) i = x := h
      clear h
      induction m generalizing i with
      | zero => exact hx h'.symm
      | succ m ih => cases i with
        | zero => exact hx h'.symm
        | succ i => exact ih i h'
/-- the law's promise -/
def PW (keep : Bool) (p : Bool × SS) (o : Out) : Prop := fin 0 keep o = .ok (PV.bl p.1) []
abbrev noP : Pr := fun _ => none
theorem law_ok {T : Tb} {k f fs m0 : Nat} {d : FD} {ss : Ss} {ns : List Int} (h : ns.length ≤ 63) {m : Option (Bool × SS)} (hf : T.fd f = some d) (h1 : d.np = 1) (h2 : d.ns = m0 + 2) (hb : d.body = .cons (.asg 1 (.call fs (.cons (.var 0) .nil))) ss) (hs : T.fd fs = some streamFD)
    (hr : Run ⟨T.gv, evD T (k + 1), 0⟩ noP ss (.any :: .val (.cell 0) :: List.replicate m0 .any) (some (0, ini ns h)) (PW d.keep) m) (s' : SS) (e : m = some (true, s')) :
    ∃ η, evD T (k + 2) f [.scr ns] [] = .ok (.bl true) η := by
  refine ⟨[], ?_⟩
  rw [evD_succ d hf (by rw [h1]; rfl), hb, h1, h2]
  have e1 := stream_ok T fs k ns [] hs
  rw [evSs, evS, evE, evEs, evE]
  show fin 0 d.keep (Out.andThen (((evD T (k + 1) fs [.scr ns] []).out _ _)) _) = _
  rw [e1, out_ok, then_next]
  refine hr _ _ ?_ (true, s') e
  have no : ∀ i, isO (gt (.any :: .val (.cell 0) :: List.replicate m0 .any) i) = true → False := fun i g => by
    obtain ⟨_, e⟩ := gt_law m0 i _ rfl (fun e => by rw [e] at g; cases g)
    rw [e] at g; cases g
  refine ⟨by simp, Nat.zero_le _, fun j o e => (by cases e), fun c s e => ?_, fun i v g => ?_, fun i v g => ?_, fun i v g => ?_, fun i v g => ?_, fun i v g => ?_, fun a b c ha => (no a ha).elim⟩
  · cases e; exact ⟨rfl, rfl⟩
  · obtain ⟨rfl, e⟩ := gt_law m0 i _ g (by simp)
    cases e; rfl
  · obtain ⟨rfl, e⟩ := gt_law m0 i _ g (by simp)
    cases e
    intro c e
    cases e
    exact .inr fun z => z 0 _ rfl rfl
  · exact ((no i) (by rw [g]; rfl)).elim
  · exact ((no i) (by rw [g]; rfl)).elim
  · obtain ⟨_, e⟩ := gt_law m0 i _ g (by simp)
    cases e
theorem Run.retW {C : Cfg} {P : Pr} {Γ : Ctx} {c : Nat} {s : SS} {keep : Bool} {e : E} {ss : Ss} {m : Option (Bool × SS)} (he : EvS C c e Γ s PV.bl m) : Run C P (.cons (.ret e) ss) Γ (some (c, s)) (PW keep) m := fun ρ η sa o q => by
  obtain ⟨η1, r1, sa1, _⟩ := he _ ρ η sa o.1 o.2 q
  rw [evSs, evS, r1, out_ok, then_ret]
  show fin 0 keep (.ret (PV.bl o.1) η1) = _
  rw [fin_nc rfl]; rfl
theorem pw_x {keep : Bool} : ∀ r, (∀ c fs ρ η, ¬ PW keep r (.exc c fs ρ η)) ∧ ¬ PW keep r .err := fun r => by
  refine ⟨fun c fs ρ η e => ?_, fun e => ?_⟩
  · have e' : (if closeds 0 fs = true then Res.exc c fs (η.take 0) else Res.err) = Res.ok (PV.bl r.1) [] := e
    split at e' <;> cases e'
  · have e' : (Res.err : Res PV) = Res.ok (PV.bl r.1) [] := e
    cases e'
end M
end

section
set_option linter.all false
set_option Elab.async false
set_option maxRecDepth 100000
namespace M
open D
def isI : PV → Bool
  | .int _ => true
  | .non => false
  | .bl _ => false
  | .str _ => false
  | .tup _ => false
  | .lst _ => false
  | .cell _ => false
  | .scr _ => false
theorem isint_gen (T : Tb) (f k : Nat) (v : PV) (η : Hp) (hf : T.fd f = some isintFD) (h : noCell v = true) : evD T (k + 1) f [v] η = .ok (.bl (isI v)) η := by
  rw [evD_succ isintFD hf rfl]
  cases v with
  | cell => simp [noCell] at h
  | scr => simp [noCell] at h
  | _ => simp [isintFD, isI]
theorem flat_nc : ∀ {n : Nat} {v : PV}, flat n v = true → noCell v = true := by
  have all : ∀ (n : Nat), (∀ v, flat n v = true → noCell v = true) → ∀ xs : List PV, (∀ x ∈ xs, flat n x = true) → noCells xs = true := by
    intro n h xs
    induction xs with
    | nil => intro _; rfl
    | cons x xs ih => intro g; simp only [noCells, h x (g x List.mem_cons_self), ih fun y hy => g y (List.mem_cons_of_mem _ hy), Bool.and_self]
  intro n
  induction n with
  | zero => intro v h; cases v <;> simp_all [flat, noCell]
  | succ n ih =>
    intro v h
    cases v with
    | tup xs => simp only [flat, List.all_eq_true] at h; simp only [noCell]; exact all n (fun v => ih) xs h
    | lst xs => simp only [flat, List.all_eq_true] at h; simp only [noCell]; exact all n (fun v => ih) xs h
    | cell => simp [flat] at h
    | scr => simp [flat] at h
    | _ => rfl
theorem sames_len : ∀ {xs ys : List PV}, sames xs ys = true → xs.length = ys.length
  | [], [], _ => rfl
  | x :: xs, y :: ys, h => by
    simp only [sames, Bool.and_eq_true] at h
    simp [sames_len h.2]
  | [], _ :: _, h => by simp [sames] at h
  | _ :: _, [], h => by simp [sames] at h
/-- item by item -/
theorem all_same {f : PV → Hp → Res (Option PV)} {η : Hp} : ∀ (xs ys : List PV) (i : Int), xs.length = ys.length → (∀ j : Nat, (h1 : j < xs.length) → (h2 : j < ys.length) → f (.int (i + j)) η = .ok (some (.bl (same xs[j] ys[j]))) η) →
    ∃ bs : List Bool, lcG none f ((List.range xs.length).map fun (k : Nat) => PV.int (i + (k : Int))) η = .ok (bs.map PV.bl) η ∧ bs.all id = sames xs ys
  | [], [], i, _, h => ⟨[], by simp [lcG], by simp [sames]⟩
  | x :: xs, y :: ys, i, hl, h => by
    obtain ⟨bs, e1, e2⟩ := all_same (f := f) (η := η) xs ys (i + 1) (by simpa using hl) fun j h1 h2 => by
      have := h (j + 1) (by simp; omega) (by simp; omega)
      simp only [List.getElem_cons_succ] at this
      rw [← this]
      congr 2
      omega
    refine ⟨same x y :: bs, ?_, by simp [sames, ← e2]⟩
    have h0 := h 0 (by simp) (by simp)
    simp only [List.getElem_cons_zero] at h0
    have h0' : f (.int i) η = .ok (some (.bl (same x y))) η := by simpa using h0
    rw [List.length_cons, List.range_succ_eq_map, List.map_cons, List.map_map, lcG]
    simp only [stays_none, if_true]
    have hz : PV.int (i + ((0 : Nat) : Int)) = PV.int i := by simp
    rw [hz, h0', bind_ok]
    have : ((fun (k : Nat) => PV.int (i + (k : Int))) ∘ Nat.succ) = fun (k : Nat) => PV.int (i + 1 + (k : Int)) := by
      funext k
      show PV.int _ = PV.int _
      congr 1
      omega
    rw [this, e1]
    rfl
  | [], _ :: _, _, hl, _ => by simp at hl
  | _ :: _, [], _, hl, _ => by simp at hl
theorem equal_gen (T : Tb) (f i : Nat) (hf : T.fd f = some (equalFD i f)) (hi : T.fd i = some isintFD) : ∀ (n k : Nat) (a b : PV) (η : Hp), n ≤ 40 → flat n b = true → slim 16777215 n b = true → flat n a = true → evD T (k + n + 2) f [a, b] η = .ok (.bl (same a b)) η := by
  intro n
  induction n with
  | zero =>
    intro k a b η hn hb hs ha
    rw [show k + 0 + 2 = (k + 1) + 1 from rfl, evD_succ (equalFD i f) hf rfl]
    have hi' := isint_gen T i k a η hi (flat_nc ha)
    cases b <;> first | (simp [flat] at hb; done) | (cases a <;> first | (simp [flat] at ha; done) | simp [equalFD, eqv, same, hi', isI])
  | succ n ih =>
    intro k a b η hn hb hs ha
    rw [show k + (n + 1) + 2 = (k + n + 2) + 1 from by omega, evD_succ (equalFD i f) hf rfl]
    have hi' := isint_gen T i (k + n + 1) a η hi (flat_nc ha)
    have hi' : evD T (k + n + 2) i [a] η = .ok (.bl (isI a)) η := hi'
    have seq : ∀ (xs ys : List PV) (wr : List PV → PV), (∀ (η : Hp) (us : List PV) (j : Int), idxV η (wr us) (.int j) = atI us j) → (∀ x ∈ xs, flat n x = true) → (∀ x ∈ ys, flat n x = true) → (∀ x ∈ ys, slim 16777215 n x = true) → xs.length = ys.length → 
        ∃ bs : List Bool, lcG none (fun (x : PV) η => ((Res.opt (idxV η (wr xs) x) η).bind fun u η => (Res.opt (idxV η (wr ys) x) η).bind fun v η => evD T (k + n + 2) f [u, v] η).bind fun y η2 => .ok (some y) η2) (rangeL 0 ys.length) η = .ok (bs.map PV.bl) η ∧ bs.all id = sames xs ys := by
      intro xs ys wr hw hx hy hsl hlen
      obtain ⟨bs, e1, e2⟩ := all_same (f := fun (x : PV) η => ((Res.opt (idxV η (wr xs) x) η).bind fun u η => (Res.opt (idxV η (wr ys) x) η).bind fun v η => evD T (k + n + 2) f [u, v] η).bind fun y η2 => .ok (some y) η2) (η := η) xs ys 0 hlen fun j h1 h2 => by
        simp only [Int.zero_add, hw]
        rw [atI_nat xs j (by omega) (by omega), atI_nat ys j (by omega) (by omega)]
        simp only [opt_some, bind_ok, Int.toNat_natCast]
        rw [ih k _ _ η (by omega) (hy _ (List.getElem_mem h2)) (hsl _ (List.getElem_mem h2)) (hx _ (List.getElem_mem h1))]
        rfl
      refine ⟨bs, ?_, e2⟩
      rw [← e1, rangeL, hlen]
      simp
    have nosame : ∀ xs ys : List PV, xs.length ≠ ys.length → sames xs ys = false := fun xs ys h => by
      cases e : sames xs ys with
      | false => rfl
      | true => exact absurd (sames_len e) h
    cases b with
    | cell => simp [flat] at hb
    | scr => simp [flat] at hb
    | tup ys =>
      simp only [flat, List.all_eq_true] at hb
      simp only [slim, Bool.and_eq_true, decide_eq_true_eq, List.all_eq_true] at hs
      have hln : (rangeL 0 (ys.length : Int)).length < line := by rw [rangeL_len]; simp [line]; omega
      have hsm : small (ys.length : Int) = true := by simp [small]; omega
      cases a with
      | cell => simp [flat] at ha
      | scr => simp [flat] at ha
      | tup xs =>
        simp only [flat, List.all_eq_true] at ha
        by_cases hl : xs.length = ys.length
        · obtain ⟨bs, e1, e2⟩ := seq xs ys PV.tup (fun _ _ _ => rfl) ha hb hs.2 hl
          have hl' : eqv (.int (xs.length : Int)) (.int (ys.length : Int)) = true := by simp [hl]
          have e3 : lcG none (fun (x : PV) η => (((Res.opt (idxV η (.tup xs) x) η).bind fun y η1 => ((Res.opt (idxV η1 (.tup ys) x) η1).bind fun x η1 => Res.ok [x] η1).bind fun xs η2 => Res.ok (y :: xs) η2).bind fun xs η1 => evD T (k + n + 2) f xs η1).bind fun y η2 => Res.ok (some y) η2) (rangeL 0 ys.length) η = .ok (bs.map PV.bl) η := by
            rw [← e1]; congr 1; funext x η; cases Res.opt (idxV η (.tup xs) x) η <;> simp [Res.bind]; rename_i h; cases Res.opt (idxV h (.tup ys) x) h <;> simp [Res.bind]
          simp [equalFD, hl, hsm, hln, same, eqv]
          rw [e3]
          simp [one_s1, lstO, allL, bools_enc, e2]
        · have hl2 : ¬ ((xs.length : Int) = ys.length) := by omega
          simp [equalFD, same, nosame xs ys hl, eqv, hl2]
      | _ => simp [equalFD, same]
    | lst ys =>
      simp only [flat, List.all_eq_true] at hb
      simp only [slim, Bool.and_eq_true, decide_eq_true_eq, List.all_eq_true] at hs
      have hln : (rangeL 0 (ys.length : Int)).length < line := by rw [rangeL_len]; simp [line]; omega
      have hsm : small (ys.length : Int) = true := by simp [small]; omega
      cases a with
      | cell => simp [flat] at ha
      | scr => simp [flat] at ha
      | lst xs =>
        simp only [flat, List.all_eq_true] at ha
        by_cases hl : xs.length = ys.length
        · obtain ⟨bs, e1, e2⟩ := seq xs ys PV.lst (fun _ _ _ => rfl) ha hb hs.2 hl
          have hl' : eqv (.int (xs.length : Int)) (.int (ys.length : Int)) = true := by simp [hl]
          have e3 : lcG none (fun (x : PV) η => (((Res.opt (idxV η (.lst xs) x) η).bind fun y η1 => ((Res.opt (idxV η1 (.lst ys) x) η1).bind fun x η1 => Res.ok [x] η1).bind fun xs η2 => Res.ok (y :: xs) η2).bind fun xs η1 => evD T (k + n + 2) f xs η1).bind fun y η2 => Res.ok (some y) η2) (rangeL 0 ys.length) η = .ok (bs.map PV.bl) η := by
            rw [← e1]; congr 1; funext x η; cases Res.opt (idxV η (.lst xs) x) η <;> simp [Res.bind]; rename_i h; cases Res.opt (idxV h (.lst ys) x) h <;> simp [Res.bind]
          simp [equalFD, hl, hsm, hln, same, eqv]
          rw [e3]
          simp [one_s1, lstO, allL, bools_enc, e2]
        · have hl2 : ¬ ((xs.length : Int) = ys.length) := by omega
          simp [equalFD, same, nosame xs ys hl, eqv, hl2]
      | _ => simp [equalFD, same]
    | _ => cases a <;> first | (simp [flat] at ha; done) | simp [equalFD, eqv, same, hi', isI]
/-- short enough to be compared by _law_equal -/
structure Kq {α : Type} [DecidableEq α] (enc : α → PV) (ok : α → Bool) (d : Nat) : Prop where
  flat : ∀ x, D.flat d (enc x) = true
  same : ∀ x y, D.same (enc x) (enc y) = decide (x = y)
  slim : ∀ x, ok x = true → D.slim 16777215 d (enc x) = true
def okT' {α : Type} : α → Bool := fun _ => true
def okL {α : Type} (f : α → Bool) (xs : List α) : Bool := decide (xs.length ≤ 16777215) && xs.all f
def okP {α β : Type} (f : α → Bool) (g : β → Bool) (p : α × β) : Bool := f p.1 && g p.2
def okP3 {α β γ : Type} (f : α → Bool) (g : β → Bool) (h : γ → Bool) (p : α × β × γ) : Bool := f p.1 && g p.2.1 && h p.2.2
def okO {α : Type} (f : α → Bool) : Option α → Bool
  | none => true
  | some x => f x
section
variable {α β γ : Type} [DecidableEq α] [DecidableEq β] [DecidableEq γ]
theorem beq_dec {α : Type} [DecidableEq α] [BEq α] [LawfulBEq α] (x y : α) : (x == y) = decide (x = y) := Bool.eq_iff_iff.mpr (by simp)
theorem kqI : Kq PV.int okT' 0 := ⟨fun _ => rfl, fun x y => by simp only [D.same]; exact beq_dec x y, fun _ _ => rfl⟩
theorem kqB : Kq PV.bl okT' 0 := ⟨fun _ => rfl, fun x y => by simp only [D.same]; exact beq_dec x y, fun _ _ => rfl⟩
theorem kqS : Kq PV.str okT' 0 := ⟨fun _ => rfl, fun x y => by simp only [D.same]; exact beq_dec x y, fun _ _ => rfl⟩
theorem kqC : Kq eC okT' 0 := ⟨fun _ => rfl, fun x y => by simp only [eC, D.same]; exact Bool.eq_iff_iff.mpr (by simp), fun _ _ => rfl⟩
theorem kqU : Kq eU okT' 0 := ⟨fun _ => rfl, fun x y => rfl, fun _ _ => rfl⟩
theorem slim_mono {m : Nat} : ∀ {d d' : Nat} {v : PV}, d ≤ d' → flat d v = true → slim m d v = true → slim m d' v = true := by
  intro d
  induction d with
  | zero => intro d' v _ h hs; cases v <;> first | (simp [flat] at h; done) | (cases d' <;> rfl)
  | succ d ih =>
    intro d' v hd h hs
    cases d' with
    | zero => omega
    | succ d' =>
      cases v with
      | tup xs =>
        simp only [flat, List.all_eq_true] at h
        simp only [slim, Bool.and_eq_true, List.all_eq_true] at hs ⊢
        exact ⟨hs.1, fun x hx => ih (by omega) (h x hx) (hs.2 x hx)⟩
      | lst xs =>
        simp only [flat, List.all_eq_true] at h
        simp only [slim, Bool.and_eq_true, List.all_eq_true] at hs ⊢
        exact ⟨hs.1, fun x hx => ih (by omega) (h x hx) (hs.2 x hx)⟩
      | _ => rfl
theorem Kq.mono {f : α → PV} {ok : α → Bool} {d d' : Nat} (h : Kq f ok d) (hd : d ≤ d') : Kq f ok d' := ⟨fun x => flat_mono hd (h.flat x), h.same, fun x hx => slim_mono hd (h.flat x) (h.slim x hx)⟩
theorem sames_map {f : α → PV} {ok : α → Bool} {d : Nat} (h : Kq f ok d) : ∀ xs ys : List α, sames (xs.map f) (ys.map f) = decide (xs = ys)
  | [], [] => by simp [sames]
  | [], _ :: _ => by simp [sames]
  | _ :: _, [] => by simp [sames]
  | x :: xs, y :: ys => by
    simp only [List.map_cons, sames, h.same, sames_map h xs ys]
    exact Bool.eq_iff_iff.mpr (by simp)
theorem slims_map {f : α → PV} {ok : α → Bool} {d : Nat} (h : Kq f ok d) (xs : List α) (hx : okL ok xs = true) : (decide ((xs.map f).length ≤ 16777215) && (xs.map f).all (slim 16777215 d)) = true := by
  simp only [okL, Bool.and_eq_true, decide_eq_true_eq, List.all_eq_true] at hx
  simp only [Bool.and_eq_true, decide_eq_true_eq, List.length_map, List.all_eq_true]
  refine ⟨hx.1, fun z hz => ?_⟩
  obtain ⟨u, hu, rfl⟩ := List.mem_map.mp hz
  exact h.slim u (hx.2 u hu)
theorem kqL {f : α → PV} {ok : α → Bool} {d : Nat} (h : Kq f ok d) : Kq (eL f) (okL ok) (d + 1) :=
  ⟨fun xs => by simp only [eL, D.flat, List.all_eq_true]; intro z hz; obtain ⟨u, _, rfl⟩ := List.mem_map.mp hz; exact h.flat u, fun x y => by simp only [eL, D.same]; exact sames_map h x y, fun x hx => by simp only [eL, slim]; exact slims_map h x hx⟩
theorem kqT {f : α → PV} {ok : α → Bool} {d : Nat} (h : Kq f ok d) : Kq (eT f) (okL ok) (d + 1) :=
  ⟨fun xs => by simp only [eT, D.flat, List.all_eq_true]; intro z hz; obtain ⟨u, _, rfl⟩ := List.mem_map.mp hz; exact h.flat u, fun x y => by simp only [eT, D.same]; exact sames_map h x y, fun x hx => by simp only [eT, slim]; exact slims_map h x hx⟩
theorem kqP {f : α → PV} {g : β → PV} {o : α → Bool} {o' : β → Bool} {d : Nat} (h : Kq f o d) (k : Kq g o' d) : Kq (eP f g) (okP o o') (d + 1) :=
  ⟨fun p => by simp only [eP, D.flat, List.all_cons, List.all_nil, h.flat, k.flat, Bool.and_self], fun x y => by simp only [eP, D.same, sames, h.same, k.same, Bool.and_true]; exact Bool.eq_iff_iff.mpr (by simp [Prod.ext_iff]),
   fun x hx => by
    simp only [okP, Bool.and_eq_true] at hx
    simp only [eP, slim, List.all_cons, List.all_nil, h.slim _ hx.1, k.slim _ hx.2, List.length_cons, List.length_nil]; rfl⟩
theorem kqP3 {f : α → PV} {g : β → PV} {e : γ → PV} {o : α → Bool} {o' : β → Bool} {o'' : γ → Bool} {d : Nat} (h : Kq f o d) (k : Kq g o' d) (l : Kq e o'' d) : Kq (eP3 f g e) (okP3 o o' o'') (d + 1) :=
  ⟨fun p => by simp only [eP3, D.flat, List.all_cons, List.all_nil, h.flat, k.flat, l.flat, Bool.and_self], fun x y => by simp only [eP3, D.same, sames, h.same, k.same, l.same, Bool.and_true]; exact Bool.eq_iff_iff.mpr (by simp [Prod.ext_iff]),
   fun x hx => by
    simp only [okP3, Bool.and_eq_true] at hx
    simp only [eP3, slim, List.all_cons, List.all_nil, h.slim _ hx.1.1, k.slim _ hx.1.2, l.slim _ hx.2, List.length_cons, List.length_nil]; rfl⟩
structure KqH {α : Type} [DecidableEq α] (h : α → List PV) (ok : α → Bool) (d k : Nat) : Prop where
  flat : ∀ x, (h x).all (D.flat d) = true
  same : ∀ x y, D.sames (h x) (h y) = decide (x = y)
  slim : ∀ x, ok x = true → (h x).all (D.slim 16777215 d) = true
  len : ∀ x, (h x).length = k
theorem khN {d : Nat} : KqH hN okT' d 0 := ⟨fun _ => rfl, fun _ _ => rfl, fun _ _ => rfl, fun _ => rfl⟩
theorem khC {f : α → PV} {h : β → List PV} {o : α → Bool} {o' : β → Bool} {d k : Nat} (a : Kq f o d) (b : KqH h o' d k) : KqH (hC f h) (okP o o') d (k + 1) :=
  ⟨fun p => by simp only [List.all_cons, a.flat, b.flat, Bool.and_self], fun x y => by simp only [D.sames, a.same, b.same]; exact Bool.eq_iff_iff.mpr (by simp [Prod.ext_iff]),
   fun x hx => by
    simp only [okP, Bool.and_eq_true] at hx
    simp only [List.all_cons, a.slim _ hx.1, b.slim _ hx.2, Bool.and_self], fun x => by simp only [List.length_cons, b.len]⟩
theorem kqH {h : α → List PV} {o : α → Bool} {d k : Nat} (a : KqH h o d k) (hk : k ≤ 1000) : Kq (eH h) o (d + 1) :=
  ⟨fun p => by simp only [D.flat]; exact a.flat p, fun x y => by simp only [D.same]; exact a.same x y, fun x hx => by simp only [slim, Bool.and_eq_true, decide_eq_true_eq]; exact ⟨by rw [a.len]; omega, a.slim x hx⟩⟩
theorem kqO {f : α → PV} {ok : α → Bool} {d : Nat} (h : Kq f ok d) (n : ∀ x, D.isNone (f x) = false) : Kq (eO f) (okO ok) d := by
  refine ⟨fun o => ?_, fun x y => ?_, fun o ho => ?_⟩
  · cases o with
    | none => cases d <;> rfl
    | some x => exact h.flat x
  · cases x with
    | none =>
      cases y with
      | none => rfl
      | some y =>
        have := n y
        simp only [eO]
        cases e : f y <;> rw [e] at this <;> first | rfl | (simp [D.isNone] at this)
    | some x =>
      cases y with
      | none =>
        have := n x
        simp only [eO]
        cases e : f x <;> rw [e] at this <;> first | rfl | (simp [D.isNone] at this)
      | some y =>
        simp only [eO, h.same]
        exact Bool.eq_iff_iff.mpr (by simp)
  · cases o with
    | none => cases d <;> rfl
    | some x => exact h.slim x ho
/-- any datum -/
structure Dm where
  v : PV
  h : flat 20 v = true
/-- _law_equal -/
def eqM (ok : α → Bool) (x y : α) : Option Bool := if ok y = true then some (decide (x = y)) else none
theorem equal_eq {T : Tb} {f i : Nat} (hf : T.fd f = some (equalFD i f)) (hi : T.fd i = some isintFD) {enc : α → PV} {ok : α → Bool} {d : Nat} (h : Kq enc ok d) (hd : d ≤ 10) (k : Nat) (η : Hp) (t : α × α × Unit) (r : Bool) (e : eqM ok t.1 t.2.1 = some r) :
    evD T (k + 12) f [enc t.1, enc t.2.1] η = .ok (.bl r) η := by
  unfold eqM at e
  split at e
  · rename_i ho
    cases e
    have := equal_gen T f i hf hi 10 k (enc t.1) (enc t.2.1) η (by omega) (flat_mono hd (h.flat _)) (slim_mono hd (h.flat _) (h.slim _ ho)) (flat_mono hd (h.flat _))
    rw [show k + 12 = k + 10 + 2 from rfl, this, h.same]
  · cases e
@[simp] theorem eqM_ok (x y : α) : eqM okT' x y = some (decide (x = y)) := rfl
@[simp] theorem eqM_okO (x y : Option α) : eqM (okO okT') x y = some (decide (x = y)) := by cases y <;> rfl
end
def pickM {α : Type} (w : SS) (xs : List α) : Option (α × SS) := (draw w xs.length).bind fun p => (atI xs p.1).bind fun x => some (x, p.2)
theorem pickM_some {α : Type} (w : SS) {xs : List α} (h0 : xs ≠ []) (h1 : xs.length < 1073741824) : ∃ x w', pickM w xs = some (x, w') ∧ x ∈ xs := by
  have hp : 0 < xs.length := List.length_pos_iff.mpr h0
  obtain ⟨d, w', e, d0, d1⟩ := draw_some w (m := xs.length) (by omega) (by omega)
  have hd : d.toNat < xs.length := by omega
  refine ⟨xs[d.toNat], w', ?_, List.getElem_mem hd⟩
  rw [pickM, e]
  show (atI xs d).bind _ = _
  rw [atI_nat xs d d0 d1]; rfl
theorem pick_ev {T : Tb} {f n k c : Nat} (hf : T.fd f = some (pickFD n)) (hn : T.fd n = some nextFD) {α : Type} {enc : α → PV} (nc : Nc enc) (η : Hp) (xs : List α) (s s' : SS) (r : α) (e : pickM s xs = some (r, s')) (hc : η[c]? = some s.ob) (p : PV)
    (hl : lenV η [p] = some (.int xs.length)) (hx : ∀ (i : Int) (s' : SS), idxV (η.set c s'.ob) p (.int i) = (atI xs i).map enc) : evD T (k + 2) f [.cell c, p] η = .ok (enc r) (η.set c s'.ob) := by
  obtain ⟨⟨d, s1⟩, e1, e⟩ := Option.bind_eq_some_iff.mp e
  obtain ⟨x, e2, e⟩ := Option.bind_eq_some_iff.mp e
  cases e
  rw [evD_succ (pickFD n) hf rfl]
  have en := next_eq T n k c hn η xs.length s d _ e1 hc
  have iv := hx d s1
  have e2' : atI xs d = some r := e2
  rw [e2'] at iv
  have ev : evSs ⟨T.gv, evD T (k + 1), η.length⟩ (pickFD n).body [some (.cell c), some p] η = .ret (enc r) (η.set c s1.ob) := by
    simp [pickFD, biV, hl, en, iv]
  show fin _ _ (evSs _ _ ([some (.cell c), some p] ++ []) η) = _
  rw [List.append_nil, ev, fin_nc (nc r), List.take_of_length_le (by simp)]
section
variable {T : Tb} {f n k c : Nat} {α : Type} {enc : α → PV}
theorem pick_L (hf : T.fd f = some (pickFD n)) (hn : T.fd n = some nextFD) (nc : Nc enc) (η : Hp) (t : Unit × List α × Unit) (s : SS) (r : α) (s' : SS) (e : pickM s t.2.1 = some (r, s')) (hc : η[c]? = some s.ob) : evD T (k + 2) f [.cell c, eL enc t.2.1] η = .ok (enc r) (η.set c s'.ob) :=
  pick_ev hf hn nc η t.2.1 s s' r e hc _ (by show some (PV.int _) = _; rw [List.length_map]) fun i s' => by rw [idxV_s1, atI_map]
theorem pick_T (hf : T.fd f = some (pickFD n)) (hn : T.fd n = some nextFD) (nc : Nc enc) (η : Hp) (t : Unit × List α × Unit) (s : SS) (r : α) (s' : SS) (e : pickM s t.2.1 = some (r, s')) (hc : η[c]? = some s.ob) : evD T (k + 2) f [.cell c, eT enc t.2.1] η = .ok (enc r) (η.set c s'.ob) :=
  pick_ev hf hn nc η t.2.1 s s' r e hc _ (by show some (PV.int _) = _; rw [List.length_map]) fun i s' => by rw [idxV_s2, atI_map]
/-- a text's letters -/
theorem pick_S (hf : T.fd f = some (pickFD n)) (hn : T.fd n = some nextFD) (η : Hp) (t : Unit × List Nat × Unit) (s : SS) (r : Nat) (s' : SS) (e : pickM s t.2.1 = some (r, s')) (hc : η[c]? = some s.ob) : evD T (k + 2) f [.cell c, .str t.2.1] η = .ok (eC r) (η.set c s'.ob) :=
  pick_ev hf hn nC η t.2.1 s s' r e hc _ rfl fun i s' => by rw [idxV_s3]; rfl
/-- .. from an own list -/
theorem EvS.pickO {C : Cfg} {Γ : Ctx} {s : SS} {v j : Nat} {xs : List α} (hC : C.cf = evD T (k + 2)) (hf : T.fd f = some (pickFD n)) (hn : T.fd n = some nextFD) (nc : Nc enc) (hv : gt Γ v = .val (.cell c)) (hj : gt Γ j = .own (xs.map enc)) :
    EvS C c (.call f (.cons (.var v) (.cons (.var j) .nil))) Γ s enc (pickM s xs) := fun h0 ρ η sa a s' q => by
  obtain ⟨d, g1, g2, g3, g4⟩ := sa.own j _ hj
  have e1 := sa.val v _ hv
  refine ⟨_, ?_, sa.drawn, rfl⟩
  rw [evE, evEs, evE, e1]
  show (Res.bind (Res.bind (Res.ok (PV.cell c) η) _) _) = _
  rw [bind_ok, evEs, evE, g1]
  show (Res.bind (Res.bind (Res.bind (Res.ok (PV.cell d) η) _) _) _) = _
  rw [bind_ok, evEs, bind_ok, bind_ok, bind_ok, hC]
  refine pick_ev hf hn nc η xs s s' a q (sa.stm c s rfl).1 _ (by simp [g4]) fun i s' => ?_
  rw [idxV_s4, List.getElem?_set_ne (Ne.symm (g3 c s rfl)), g4, idxO_s1, atI_map]
end
end M
end

section
set_option linter.all false
set_option Elab.async false
set_option maxRecDepth 100000
namespace M
open D
def bindS {α ω : Type} (m : Option (α × SS)) (k : α → SS → Option ω) : Option ω := m.bind fun p => k p.1 p.2
@[simp] theorem bindS_some {α ω : Type} (a : α) (s : SS) (k : α → SS → Option ω) : bindS (some (a, s)) k = k a s := rfl
@[simp] theorem bindS_none {α ω : Type} (k : α → SS → Option ω) : bindS none k = none := rfl
theorem bindS_up {α ω : Type} (m : Option α) (s : SS) (k : α → SS → Option ω) : bindS (up s m) k = m.bind fun a => k a s := by cases m <;> rfl
section
variable {C : Cfg} {α β γ σ ω : Type} {Γ : Ctx} {c : Nat} {s : SS} {h0 : Pr} {w : Wd} {Post : ω → Out → Prop} {ss : Ss}
theorem EvP.conv {e : E} {enc : α → PV} {enc' : β → PV} {m : Option α} (g : α → β) (h : EvP C e Γ enc m) (he : ∀ a, enc' (g a) = enc a) : EvP C e Γ enc' (m.bind fun a => some (g a)) := fun h0 w ρ η sa r q => by
  obtain ⟨x, e1, q⟩ := Option.bind_eq_some_iff.mp q
  cases q
  rw [h h0 w ρ η sa x e1, he]
theorem EvS.conv {e : E} {enc : α → PV} {enc' : β → PV} {m : Option (α × SS)} (g : α → β) (h : EvS C c e Γ s enc m) (he : ∀ a, enc' (g a) = enc a) : EvS C c e Γ s enc' (m.bind fun a => some (g a.1, a.2)) := fun h0 ρ η sa r s' q => by
  obtain ⟨⟨x, s1⟩, e1, q⟩ := Option.bind_eq_some_iff.mp q
  cases q
  obtain ⟨η1, r1, sa1, k1⟩ := h h0 ρ η sa x _ e1
  exact ⟨η1, by rw [r1, he], sa1, k1⟩
theorem EvW.eq {e : E} {enc : α → PV} {m m' : Option α} (h : EvW C e Γ enc m) (q : m' = m) : EvW C e Γ enc m' := q ▸ h
theorem EvV.eq {e : E} {f : α → PV} {m m' : Option (List α)} (h : EvV C e Γ f m) (q : m' = m) : EvV C e Γ f m' := q ▸ h
theorem EvB.eq {e : E} {m m' : Option Bool} (h : EvB C e Γ m) (q : m' = m) : EvB C e Γ m' := q ▸ h
theorem EvC.eq {e : Es} {m m' : Option Bool} (h : EvC C e Γ m) (q : m' = m) : EvC C e Γ m' := q ▸ h
theorem EvF.eq {f : F} {enc : α → PV} {m m' : Option (List α)} (h : EvF C f Γ enc m) (q : m' = m) : EvF C f Γ enc m' := q ▸ h
theorem EvI.eq {it : It} {f : α → PV} {m m' : Option (List α)} (h : EvI C it Γ f m) (q : m' = m) : EvI C it Γ f m' := q ▸ h
theorem EvI0.eq {it : It} {f : α → PV} {m m' : Option (List α)} (h : EvI0 C it Γ f m) (q : m' = m) : EvI0 C it Γ f m' := q ▸ h
theorem EvO.eq {es : Es} {m m' : Option (Option Int)} (h : EvO C es Γ m) (q : m' = m) : EvO C es Γ m' := q ▸ h
theorem Args.eq {es : Es} {enc : α → List PV} {m m' : Option α} (h : Args C es Γ enc m) (q : m' = m) : Args C es Γ enc m' := q ▸ h
theorem EvS.eq {e : E} {enc : α → PV} {m m' : Option (α × SS)} (h : EvS C c e Γ s enc m) (q : m' = m) : EvS C c e Γ s enc m' := q ▸ h
theorem EvSF.eq {e : F} {enc : α → PV} {m m' : Option (List α × SS)} (h : EvSF C c e Γ s enc m) (q : m' = m) : EvSF C c e Γ s enc m' := q ▸ h
theorem EvSB.eq {e : E} {m m' : Option (Bool × SS)} (h : EvSB C c e Γ s m) (q : m' = m) : EvSB C c e Γ s m' := q ▸ h
theorem EvSC.eq {e : Es} {m m' : Option (Bool × SS)} (h : EvSC C c e Γ s m) (q : m' = m) : EvSC C c e Γ s m' := q ▸ h
theorem EvSI.eq {it : It} {f : α → PV} {m m' : Option (List α × SS)} (h : EvSI C c it Γ s f m) (q : m' = m) : EvSI C c it Γ s f m' := q ▸ h
theorem EvSC.ofP {es : Es} {m : Option Bool} (h : EvC C es Γ m) : EvSC C c es Γ s (up s m) := fun h0 ρ η sa a s' q => by
  obtain ⟨q1, rfl⟩ := of_up q
  exact ⟨η, h h0 _ ρ η sa a q1, sa, (set_same sa).symm⟩
theorem set_at {η : Hp} (h : η[c]? = some s.ob) : η.set c s.ob = η := by
  have hc := (List.getElem?_eq_some_iff.mp h).1
  apply List.ext_getElem?
  intro j
  by_cases hj : c = j
  · subst hj; rw [List.getElem?_set_self hc, h]
  · rw [List.getElem?_set_ne hj]
theorem Run.asgS' {i : Nat} {e : E} {enc : α → PV} {m1 : Option (α × SS)} {k : α → SS → Option ω} (h : EvS C c e Γ s enc m1) (nc : Nc enc) (hk : ∀ a s', Run C h0 ss (st Γ i (.val (enc a))) (some (c, s')) Post (k a s')) :
    Run C h0 (.cons (.asg i e) ss) Γ (some (c, s)) Post (bindS m1 k) := Run.asgS h nc fun p => hk p.1 p.2
theorem Run.ownS' {i : Nat} {f : F} {enc : α → PV} {m1 : Option (List α × SS)} {k : List α → SS → Option ω} (h : EvSF C c f Γ s enc m1) (hk : ∀ a s', Run C h0 ss (st Γ i (.own (a.map enc))) (some (c, s')) Post (k a s')) :
    Run C h0 (.cons (.own i f) ss) Γ (some (c, s)) Post (bindS m1 k) := Run.ownS h fun p => hk p.1 p.2
theorem Run.exS' {e : E} {enc : α → PV} {m1 : Option (α × SS)} {k : α → SS → Option ω} (h : EvS C c e Γ s enc m1) (hk : ∀ a s', Run C h0 ss Γ (some (c, s')) Post (k a s')) :
    Run C h0 (.cons (.ex e) ss) Γ (some (c, s)) Post (bindS m1 k) := Run.exS h fun p => hk p.1 p.2
theorem Run.appS' {i : Nat} {e : E} {f : α → PV} {xs : List α} {m1 : Option (α × SS)} {k : List α → SS → Option ω} (hi : gt Γ i = .own (xs.map f)) (h : EvS C c e Γ s f m1) (hk : ∀ ys s', Run C h0 ss (st Γ i (.own (ys.map f))) (some (c, s')) Post (k ys s')) :
    Run C h0 (.cons (.ex (.mth .append (.var i) (.cons e .nil))) ss) Γ (some (c, s)) Post (bindS m1 fun a s' => (appM xs a).bind fun ys => k ys s') := Run.appS hi h hk
theorem Run.extS' {i : Nat} {e : E} {f : α → PV} {xs : List α} {m1 : Option (List α × SS)} {k : List α → SS → Option ω} (hi : gt Γ i = .own (xs.map f)) (h : EvS C c e Γ s (eL f) m1) (hk : ∀ ys s', Run C h0 ss (st Γ i (.own (ys.map f))) (some (c, s')) Post (k ys s')) :
    Run C h0 (.cons (.ex (.mth .extend (.var i) (.cons e .nil))) ss) Γ (some (c, s)) Post (bindS m1 fun a s' => (extM xs a).bind fun ys => k ys s') := Run.extS hi h hk
theorem Run.iteS' {e : E} {a b : Ss} {mc : Option (Bool × SS)} {m1 m2 : SS → Option ω} (hc : EvSB C c e Γ s mc) (h1 : ∀ s, Run C h0 (M.app a ss) Γ (some (c, s)) Post (m1 s)) (h2 : ∀ s, Run C h0 (M.app b ss) Γ (some (c, s)) Post (m2 s)) :
    Run C h0 (.cons (.ite e a b) ss) Γ (some (c, s)) Post (bindS mc fun x s' => if x = true then m1 s' else m2 s') := Run.iteS hc h1 h2
theorem Run.iteP {e : E} {a b : Ss} {x : Bool} {m1 m2 : Option ω} (hc : EvB C e Γ (some x)) (h1 : Run C h0 (M.app a ss) Γ w Post m1) (h2 : Run C h0 (M.app b ss) Γ w Post m2) :
    Run C h0 (.cons (.ite e a b) ss) Γ w Post (if x = true then m1 else m2) := Run.ite hc h1 h2
theorem Run.unpS {is : List Nat} {e : E} {enc : α → PV} {m1 : Option (α × SS)} {k : α → SS → Option ω} (h : EvS C c e Γ s enc m1) (ht : ∀ a, okT (.tup is) (enc a) = true) (hk : ∀ a s', Run C h0 ss (bnd Γ (.tup is) (enc a)) (some (c, s')) Post (k a s')) :
    Run C h0 (.cons (.unp is e) ss) Γ (some (c, s)) Post (bindS m1 k) := fun ρ η sa o q => by
  obtain ⟨⟨a, s'⟩, e1, q⟩ := Option.bind_eq_some_iff.mp q
  obtain ⟨η1, r1, sa1, _⟩ := h h0 ρ η sa a s' e1
  obtain ⟨ρ1, e2, sa2⟩ := bnd_ok (ht a) sa1
  rw [evSs, evS, r1, out_ok, e2, oopt_some, then_next]
  exact hk a s' _ η1 sa2 o q
/-- what is never reached, or may not be -/
theorem Run.no {m : Option ω} (h : m = none) : Run C h0 ss Γ w Post m := fun ρ η sa o q => by rw [h] at q; cases q
/-- None, or not -/
theorem Run.opt {Γf : Option α → Ctx} {o : Option α} {m1 : Option ω} {m2 : α → Option ω} (h1 : Run C h0 ss (Γf none) w Post m1) (h2 : ∀ x, Run C h0 ss (Γf (some x)) w Post (m2 x)) : Run C h0 ss (Γf o) w Post (o.elim m1 m2) := by
  cases o with
  | none => exact h1
  | some x => exact h2 x
theorem EvP.opt {e : E} {enc : β → PV} {Γf : Option α → Ctx} {o : Option α} {m1 : Option β} {m2 : α → Option β} (h1 : EvP C e (Γf none) enc m1) (h2 : ∀ x, EvP C e (Γf (some x)) enc (m2 x)) : EvP C e (Γf o) enc (o.elim m1 m2) := by
  cases o with
  | none => exact h1
  | some x => exact h2 x
theorem EvP.iteTrue {a b d : E} {enc : β → PV} {m : Option β} (hc : EvB C d Γ (some true)) (h : EvP C a Γ enc m) : EvP C (.ite d a b) Γ enc m := fun h0 w ρ η sa r q => by
  obtain ⟨p, e2, l⟩ := hc h0 w ρ η sa true rfl
  rw [evE, e2, bind_ok, l, br_some, if_pos rfl]; exact h h0 w ρ η sa r q
theorem EvP.iteFalse {a b d : E} {enc : β → PV} {m : Option β} (hc : EvB C d Γ (some false)) (h : EvP C b Γ enc m) : EvP C (.ite d a b) Γ enc m := fun h0 w ρ η sa r q => by
  obtain ⟨p, e2, l⟩ := hc h0 w ρ η sa false rfl
  rw [evE, e2, bind_ok, l, br_some, if_neg (by simp)]; exact h h0 w ρ η sa r q
theorem tgt2 {f : α → PV} {g : β → PV} {i j : Nat} (h : Nc f) (k : Nc g) : ∀ p : α × β, okT (.tup [i, j]) (eP f g p) = true := fun p => by
  simp only [okT, eP, List.all_cons, List.all_nil, h p.1, k p.2, List.length_cons, List.length_nil]; rfl
theorem noCells_all' : ∀ xs : List PV, noCells xs = xs.all noCell
  | [] => by simp [noCells]
  | x :: xs => by simp only [noCells, noCells_all' xs, List.all_cons]
theorem tgtH {h : α → List PV} {is : List Nat} (n : ∀ a, noCells (h a) = true) (l : ∀ a, is.length = (h a).length) : ∀ p : α, okT (.tup is) (eH h p) = true := fun p => by
  simp only [okT, Bool.and_eq_true, decide_eq_true_eq]
  exact ⟨l p, by rw [← noCells_all']; exact n p⟩
theorem tgt3 {f : α → PV} {g : β → PV} {e : γ → PV} {i j l : Nat} (h : Nc f) (k : Nc g) (m : Nc e) : ∀ p : α × β × γ, okT (.tup [i, j, l]) (eP3 f g e p) = true := fun p => by
  simp only [okT, eP3, List.all_cons, List.all_nil, h p.1, k p.2.1, m p.2.2, List.length_cons, List.length_nil]; rfl
theorem tgt4 {δ : Type} {f : α → PV} {g : β → PV} {e : γ → PV} {e' : δ → PV} {i j l l' : Nat} (h : Nc f) (k : Nc g) (m : Nc e) (m' : Nc e') : ∀ p : α × β × γ × δ, okT (.tup [i, j, l, l']) (eP4 f g e e' p) = true := fun p => by
  simp only [okT, eP4, List.all_cons, List.all_nil, h p.1, k p.2.1, m p.2.2.1, m' p.2.2.2, List.length_cons, List.length_nil]; rfl
/-- a fixed tuple's part -/
theorem ix2a {f : α → PV} {g : β → PV} (η : Hp) (x : α × β) (i : Int) (z : α) (e : (if i = 0 then some x.1 else none) = some z) : idxV η (eP f g x) (.int i) = some (f z) := by
  split at e
  · rename_i h; cases e; subst h; rfl
  · cases e
theorem ix2b {f : α → PV} {g : β → PV} (η : Hp) (x : α × β) (i : Int) (z : β) (e : (if i = 1 then some x.2 else none) = some z) : idxV η (eP f g x) (.int i) = some (g z) := by
  split at e
  · rename_i h; cases e; subst h; rfl
  · cases e
theorem EvP.ixc {a i : E} {f : α → PV} {enc : β → PV} {m : Option α} (k : Int) (F : α → β) (hF : ∀ η x, D.idxV η (f x) (PV.int k) = some (enc (F x))) (h : EvP C a Γ f m) (hi : EvP C i Γ PV.int (some k)) : EvP C (.idx a i) Γ enc (m.bind fun x => some (F x)) := fun h0 w ρ η sa r q => by
  obtain ⟨x, e1, q⟩ := Option.bind_eq_some_iff.mp q
  cases q
  rw [evE, h h0 w ρ η sa x e1, bind_ok, hi h0 w ρ η sa k rfl, bind_ok, hF]; rfl
theorem EvS.ixc {a i : E} {f : α → PV} {enc : β → PV} {m : Option (α × SS)} (k : Int) (F : α → β) (hF : ∀ η x, D.idxV η (f x) (PV.int k) = some (enc (F x))) (h : EvS C c a Γ s f m) (hi : EvP C i Γ PV.int (some k)) : EvS C c (.idx a i) Γ s enc (m.bind fun x => some (F x.1, x.2)) := fun h0 ρ η sa r s' q => by
  obtain ⟨⟨x, s1⟩, e1, q⟩ := Option.bind_eq_some_iff.mp q
  cases q
  obtain ⟨η1, r1, sa1, k1⟩ := h h0 ρ η sa x _ e1
  exact ⟨η1, by rw [evE, r1, bind_ok, hi h0 _ ρ η1 sa1 k rfl, bind_ok, hF]; rfl, sa1, k1⟩
end
end M
namespace M
open D
theorem pl_rt {n : Nat} {h0 : Pr} {σ ρ' : Type} {G : σ → Ctx} {wf : σ → Wd} {PR : ρ' → Out → Prop} {r : ρ'} {v : PV} {η : Hp} (h : PR r (.ret v η)) : PL n h0 G wf PR (.rt r) (.ret v η) := ⟨⟨v, η, rfl⟩, h⟩
def thenR {σ ρ ω : Type} (m : Option (σ ⊕ ρ)) (k : σ → Option ω) (r : ρ → Option ω) : Option ω := m.bind fun e => match e with | .inl s => k s | .inr x => r x
@[simp] theorem thenR_l {σ ρ ω : Type} (s : σ) (k : σ → Option ω) (r : ρ → Option ω) : thenR (some (.inl s)) k r = k s := rfl
@[simp] theorem thenR_r {σ ρ ω : Type} (s : ρ) (k : σ → Option ω) (r : ρ → Option ω) : thenR (some (.inr s)) k r = r s := rfl
section
variable {C : Cfg} {α β γ σ ω : Type} {Γ : Ctx} {h0 : Pr} {w : Wd} {Post : ω → Out → Prop} {ss : Ss} {tg : Tg} {it : It} {b : Ss} {f : α → PV} {G : σ → Ctx} {wf : σ → Wd} {s0 : σ} {mxs : Option (List α)} {k : σ → Option ω}
theorem Run.loopR' {ρ' : Type} {PR : ρ' → Out → Prop} {FR : α → σ → Option (Ctl σ ρ')} {kr : ρ' → ω} (hi : EvI0 C it Γ f mxs) (ht : ∀ x, okT tg (f x) = true) (hl : Le (G s0) Γ) (hw : wf s0 = w) (hr : ∀ r v η, PR r (.ret v η) → Post (kr r) (.ret v η)) (hb : ∀ x s, Run C h0 b (bnd (G s) tg (f x)) (wf s) (PL C.n h0 G wf PR) (FR x s)) (hk : ∀ s, Run C h0 ss (G s) (wf s) Post (k s)) :
    Run C h0 (.cons (.loop tg it b) ss) Γ w Post (mxs.bind fun xs => thenR (M.loopO FR xs s0) k fun r => some (kr r)) := Run.eq (Run.loopR hi ht hl hw hr hb hk) (by
  rfl)
theorem Run.loopRS {c : Nat} {s : SS} {ρ' : Type} {PR : ρ' → Out → Prop} {FR : α → σ → Option (Ctl σ ρ')} {kr : ρ' → ω} {mS : Option (List α × SS)} {sS : SS → σ} (hi : EvSI C c it Γ s f mS) (ht : ∀ x, okT tg (f x) = true) (hl : ∀ t, Le (G (sS t)) Γ) (hw : ∀ t, wf (sS t) = some (c, t)) (hr : ∀ r v η, PR r (.ret v η) → Post (kr r) (.ret v η)) (hb : ∀ x s, Run C h0 b (bnd (G s) tg (f x)) (wf s) (PL C.n h0 G wf PR) (FR x s)) (hk : ∀ s, Run C h0 ss (G s) (wf s) Post (k s)) :
    Run C h0 (.cons (.loop tg it b) ss) Γ (some (c, s)) Post (mS.bind fun xs => thenR (M.loopO FR xs.1 (sS xs.2)) k fun r => some (kr r)) := fun ρ η sa o q => by
  obtain ⟨⟨xs, t⟩, e1, q⟩ := Option.bind_eq_some_iff.mp q
  obtain ⟨s', e2, q⟩ := Option.bind_eq_some_iff.mp q
  obtain ⟨wt, η1, r1, sa1, _, rfl⟩ := hi _ ρ η sa xs t e1
  rw [evSs, evS, r1, out_ok]
  have r := forL_ctl (n := C.n) (P := h0) (G := G) (wf := wf) (F := FR) (f := f) (PR := PR) (fv := fun x ρ η => Out.opt (bindT η tg x ρ) fun ρ' => evSs C b ρ' η) (wt := none) (fun _ _ _ _ => rfl) (body_ok (n := C.n) ht hb) xs (sS t) s' ρ η1 (by rw [hw]; exact sa1.weak (hl t)) e2
  cases s' with
  | inl s' =>
    obtain ⟨ρ1, η2, e3, sa2⟩ := r
    rw [e3, then_next]
    exact hk s' ρ1 η2 sa2 o q
  | inr r' =>
    cases q
    obtain ⟨v, η2, e3, p⟩ := r
    rw [e3, then_ret]
    exact hr r' v η2 p
theorem Run.whlR' {ρ' : Type} {PR : ρ' → Out → Prop} {kr : ρ' → ω} {kk : Nat} {e : E} {cf : σ → Option Bool} {FW : σ → Option (Ctl σ ρ')} (hl : Le (G s0) Γ) (hw : wf s0 = w) (hr : ∀ r v η, PR r (.ret v η) → Post (kr r) (.ret v η)) (hc : ∀ s, EvB C e (G s) (cf s)) (hb : ∀ s, Run C h0 b (G s) (wf s) (PL C.n h0 G wf PR) (FW s)) (hk : ∀ s, Run C h0 ss (G s) (wf s) Post (k s)) :
    Run C h0 (.cons (.whl kk e b) ss) Γ w Post (thenR (M.whlR cf FW kk s0) k fun r => some (kr r)) := Run.eq (Run.whlR hl hw hr hc hb hk) (by
  rfl)
end
end M
namespace M
open D
@[irreducible] def dv (T : Tb) (k : Nat) : Nat → List PV → Hp → Res PV := evD T k
theorem dv_eq (T : Tb) (k : Nat) : dv T k = evD T k := by delta dv; rfl
section
variable {T : Tb} {k f : Nat} {args : List PV} {d : FD} {α : Type} {enc : α → PV}
theorem def_okD {m : Option α} (hf : T.fd f = some d) (hl : args.length = d.np) (ha : ∀ v ∈ args, noCell v = true) (h : ∀ η, Run ⟨T.gv, dv T k, η.length⟩ (pr η) d.body (ent d args) none (PF η.length η d.keep enc) m) (η : Hp) (r : α) (e : m = some r) :
    dv T (k + 1) f args η = .ok (enc r) η := by
  rw [dv_eq]
  refine def_ok hf hl ha (fun η => ?_) η r e
  rw [← dv_eq]; exact h η
theorem def_okSD {m : Option (α × SS)} {c : Nat} {s : SS} {η : Hp} (hf : T.fd f = some d) (hl : args.length = d.np) (ha : ∀ v ∈ args, v = .cell c ∨ noCell v = true) (hc : η[c]? = some s.ob) (h : c < η.length → Run ⟨T.gv, dv T k, η.length⟩ (prS η c) d.body (ent d args) (some (c, s)) (PS η.length η c d.keep enc) m) (r : α) (s' : SS) (e : m = some (r, s')) :
    dv T (k + 1) f args η = .ok (enc r) (η.set c s'.ob) := by
  rw [dv_eq]
  refine def_okS hf hl ha hc (fun hl => ?_) r s' e
  rw [← dv_eq]; exact h hl
theorem law_okD {fs m0 : Nat} {ss : Ss} {ns : List Int} (h : ns.length ≤ 63) {m : Option (Bool × SS)} (hf : T.fd f = some d) (h1 : d.np = 1) (h2 : d.ns = m0 + 2) (hb : d.body = .cons (.asg 1 (.call fs (.cons (.var 0) .nil))) ss) (hs : T.fd fs = some streamFD)
    (hr : Run ⟨T.gv, dv T (k + 1), 0⟩ noP ss (.any :: .val (.cell 0) :: List.replicate m0 .any) (some (0, ini ns h)) (PW d.keep) m) (s' : SS) (e : m = some (true, s')) :
    ∃ η, evD T (k + 2) f [.scr ns] [] = .ok (.bl true) η := by
  rw [dv_eq] at hr
  exact law_ok h hf h1 h2 hb hs hr s' e
theorem next_dv (T : Tb) (f k c : Nat) (hf : T.fd f = some nextFD) (η : Hp) (m : Int) (s : SS) (r : Int) (s' : SS) (q : draw s m = some (r, s')) (e : η[c]? = some s.ob) :
    dv T (k + 1) f [.cell c, .int m] η = .ok (.int r) (η.set c s'.ob) := by rw [dv_eq]; exact next_eq T f k c hf η m s r s' q e
theorem equal_dv [DecidableEq α] {i : Nat} (hf : T.fd f = some (equalFD i f)) (hi : T.fd i = some isintFD) {ok : α → Bool} {d : Nat} (h : Kq enc ok d) (hd : d ≤ 10) (k : Nat) (η : Hp) (t : α × α × Unit) (r : Bool) (e : eqM ok t.1 t.2.1 = some r) :
    dv T (k + 12) f [enc t.1, enc t.2.1] η = .ok (.bl r) η := by rw [dv_eq]; exact equal_eq hf hi h hd k η t r e
section
variable {n c : Nat}
theorem pick_dL (hf : T.fd f = some (pickFD n)) (hn : T.fd n = some nextFD) (nc : Nc enc) (η : Hp) (t : Unit × List α × Unit) (s : SS) (r : α) (s' : SS) (e : pickM s t.2.1 = some (r, s')) (hc : η[c]? = some s.ob) : dv T (k + 2) f [.cell c, eL enc t.2.1] η = .ok (enc r) (η.set c s'.ob) := by
  rw [dv_eq]; exact pick_L hf hn nc η t s r s' e hc
theorem pick_dT (hf : T.fd f = some (pickFD n)) (hn : T.fd n = some nextFD) (nc : Nc enc) (η : Hp) (t : Unit × List α × Unit) (s : SS) (r : α) (s' : SS) (e : pickM s t.2.1 = some (r, s')) (hc : η[c]? = some s.ob) : dv T (k + 2) f [.cell c, eT enc t.2.1] η = .ok (enc r) (η.set c s'.ob) := by
  rw [dv_eq]; exact pick_T hf hn nc η t s r s' e hc
theorem pick_dS (hf : T.fd f = some (pickFD n)) (hn : T.fd n = some nextFD) (η : Hp) (t : Unit × List Nat × Unit) (s : SS) (r : Nat) (s' : SS) (e : pickM s t.2.1 = some (r, s')) (hc : η[c]? = some s.ob) : dv T (k + 2) f [.cell c, .str t.2.1] η = .ok (eC r) (η.set c s'.ob) := by
  rw [dv_eq]; exact pick_S hf hn η t s r s' e hc
theorem EvS.pickD {C : Cfg} {Γ : Ctx} {s : SS} {v j : Nat} {xs : List α} (hC : C.cf = dv T (k + 2)) (hf : T.fd f = some (pickFD n)) (hn : T.fd n = some nextFD) (nc : Nc enc) (hv : gt Γ v = .val (.cell c)) (hj : gt Γ j = .own (xs.map enc)) :
    EvS C c (.call f (.cons (.var v) (.cons (.var j) .nil))) Γ s enc (pickM s xs) := by
  rw [dv_eq] at hC; exact EvS.pickO hC hf hn nc hv hj
end
end
end M
end

section
set_option linter.all false
set_option Elab.async false
set_option maxRecDepth 100000
namespace M
open D
section
variable {α β γ σ ρ : Type}
theorem foldO_inv {f : α → σ → Option σ} {I : List α → σ → Prop} : ∀ (xs : List α) (s : σ), I xs s → (∀ x xs s, I (x :: xs) s → ∃ s', f x s = some s' ∧ I xs s') → ∃ s', foldO f xs s = some s' ∧ I [] s'
  | [], s, h, _ => ⟨s, rfl, h⟩
  | x :: xs, s, h, hf => by
    obtain ⟨s1, e1, h1⟩ := hf x xs s h
    obtain ⟨s2, e2, h2⟩ := foldO_inv xs s1 h1 hf
    exact ⟨s2, by rw [foldO, e1]; exact e2, h2⟩
theorem foldO_eq {f : α → σ → Option σ} {g : σ → α → σ} : ∀ (xs : List α) (s : σ), (∀ x ∈ xs, ∀ s, f x s = some (g s x)) → foldO f xs s = some (xs.foldl g s)
  | [], _, _ => rfl
  | x :: xs, s, h => by
    rw [foldO, h x List.mem_cons_self]
    exact foldO_eq xs _ fun y hy => h y (List.mem_cons_of_mem _ hy)
theorem loopO_nx {f : α → σ → Option (Ctl σ ρ)} {s : σ} : ∀ (xs : List α), (∀ x ∈ xs, f x s = some (.nx s)) → loopO f xs s = some (.inl s)
  | [], _ => rfl
  | x :: xs, h => by
    rw [loopO, h x List.mem_cons_self]
    exact loopO_nx xs fun y hy => h y (List.mem_cons_of_mem _ hy)
theorem loopO_inv {f : α → σ → Option (Ctl σ ρ)} {I : List α → σ → Prop} : ∀ (xs : List α) (s : σ), I xs s → (∀ x xs s, I (x :: xs) s → ∃ s', f x s = some (.nx s') ∧ I xs s') → ∃ s', loopO f xs s = some (.inl s') ∧ I [] s'
  | [], s, h, _ => ⟨s, rfl, h⟩
  | x :: xs, s, h, hf => by
    obtain ⟨s1, e1, h1⟩ := hf x xs s h
    obtain ⟨s2, e2, h2⟩ := loopO_inv xs s1 h1 hf
    exact ⟨s2, by rw [loopO, e1]; exact e2, h2⟩
theorem whlO_inv {c : σ → Option Bool} {f : σ → Option σ} {I : σ → Prop} {μ : σ → Nat} (hc : ∀ s, I s → ∃ b, c s = some b) (hf : ∀ s, I s → c s = some true → ∃ s', f s = some s' ∧ I s' ∧ μ s' < μ s) :
    ∀ (k : Nat) (s : σ), I s → μ s < k → ∃ s', whlO c f k s = some s' ∧ I s' ∧ c s' = some false
  | 0, _, _, h => by omega
  | k + 1, s, hi, hk => by
    obtain ⟨b, e⟩ := hc s hi
    cases b with
    | false => exact ⟨s, by rw [whlO, e]; rfl, hi, e⟩
    | true =>
      obtain ⟨s1, e1, h1, h2⟩ := hf s hi e
      obtain ⟨s2, e2, h3⟩ := whlO_inv hc hf k s1 h1 (by omega)
      exact ⟨s2, by rw [whlO, e]; show (f s).bind _ = _; rw [e1]; exact e2, h3⟩
theorem line_eq : line = 16777216 := rfl
theorem catM_some {x y : List α} (h : x.length + y.length ≤ 16777216) : catM x y = some (x ++ y) := if_pos h
theorem appM_some {x : List α} {a : α} (h : x.length < 16777216) : appM x a = some (x ++ [a]) := if_pos h
theorem extM_some {x y : List α} (h : x.length + y.length ≤ 16777216) : extM x y = some (x ++ y) := if_pos h
theorem small_of {i : Int} (h0 : -1000000 ≤ i) (h1 : i ≤ 1000000) : small i = true := decide_eq_true (by omega)
theorem rng1_some {j : Int} (h0 : -1000000 ≤ j) (h1 : j ≤ 1000000) : rng1 j = some (rng 0 j) := if_pos (small_of h0 h1)
theorem rng2_some {i j : Int} (h0 : -1000000 ≤ i) (h1 : i ≤ 1000000) (h2 : -1000000 ≤ j) (h3 : j ≤ 1000000) : rng2 i j = some (rng i j) := if_pos (by rw [small_of h0 h1, small_of h2 h3]; rfl)
theorem mem_rng {i j x : Int} : x ∈ rng i j ↔ i ≤ x ∧ x < j := by
  unfold rng
  rw [List.mem_map]
  constructor
  · rintro ⟨k, hk, rfl⟩
    have := List.mem_range.mp hk
    omega
  · rintro ⟨h1, h2⟩
    exact ⟨(x - i).toNat, List.mem_range.mpr (by omega), by omega⟩
theorem rng_length (i j : Int) : (rng i j).length = (j - i).toNat := by simp [rng]
theorem nodup_map {f : α → β} (hf : ∀ a b, f a = f b → a = b) {xs : List α} (h : xs.Nodup) : (xs.map f).Nodup := by
  unfold List.Nodup at h ⊢
  rw [List.pairwise_map]
  exact h.imp fun h e => h (hf _ _ e)
theorem rng_nodup (i j : Int) : (rng i j).Nodup := by
  unfold rng
  exact nodup_map (fun a b h => by omega) List.nodup_range
theorem rng_nil {i j : Int} (h : j ≤ i) : rng i j = [] := by
  unfold rng
  rw [show (j - i).toNat = 0 by omega]; rfl
theorem rng_cons {i j : Int} (h : i < j) : rng i j = i :: rng (i + 1) j := by
  unfold rng
  rw [show (j - i).toNat = (j - (i + 1)).toNat + 1 by omega, List.range_succ_eq_map]
  simp only [List.map_cons, List.map_map]
  congr 1
  · simp
  · apply List.map_congr_left
    intro k _
    simp only [Function.comp]
    omega
theorem lcT_some {g : α → β} {xs : List α} (h : xs.length < 16777216) : lcT g xs = some (xs.map g) := if_pos h
theorem lcTF_some {p : α → Bool} {g : α → β} {xs : List α} (h : xs.length < 16777216) : lcTF p g xs = some ((xs.filter p).map g) := if_pos h
theorem mapO_some {f : α → Option β} {g : α → β} : ∀ (xs : List α), (∀ x ∈ xs, f x = some (g x)) → mapO f xs = some (xs.map g)
  | [], _ => rfl
  | x :: xs, h => by
    rw [mapO, h x List.mem_cons_self, mapO_some xs fun y hy => h y (List.mem_cons_of_mem _ hy)]; rfl
theorem lcP_some {f : α → Option β} {xs : List α} (g : α → β) (h : xs.length < 16777216) (hf : ∀ x ∈ xs, f x = some (g x)) : lcP f xs = some (xs.map g) := by
  rw [lcP, if_pos (by rw [line_eq]; exact h), mapO_some xs hf]
theorem atI_get {xs : List α} {i : Int} (h0 : 0 ≤ i) (h1 : i < xs.length) : atI xs i = some (xs[i.toNat]'(by omega)) := D.atI_nat xs i h0 h1
theorem atI_last {xs : List α} (h : xs ≠ []) : atI xs (-1) = some (xs.getLast h) := by
  have hp := List.length_pos_iff.mpr h
  unfold atI ixN
  rw [if_neg (by decide), if_pos (by omega)]
  show xs[((-1 : Int) + xs.length).toNat]? = _
  rw [List.getLast_eq_getElem, show ((-1 : Int) + xs.length).toNat = xs.length - 1 by omega, List.getElem?_eq_getElem]
/-- all items by their places -/
theorem map_at (xs : List α) (f : Int → Option α) (hf : ∀ (i : Nat) (h : i < xs.length), f i = some xs[i]) : mapO f (rng 0 xs.length) = some xs := by
  have : ∀ (ys zs : List α) (f : Int → Option α), (∀ (i : Nat) (h : i < ys.length), f (zs.length + i) = some ys[i]) → mapO f (rng zs.length (zs.length + ys.length)) = some ys := by
    intro ys
    induction ys with
    | nil => intro zs f _; rw [rng_nil (by simp)]; rfl
    | cons y ys ih =>
      intro zs f h
      rw [rng_cons (by simp; omega), mapO]
      have h0 := h 0 (by simp)
      simp only [List.getElem_cons_zero] at h0
      have h0' : f (zs.length : Int) = some y := by simpa using h0
      rw [h0']
      have := ih (zs ++ [y]) f (fun i hi => by
        have := h (i + 1) (by simp; omega)
        simp only [List.getElem_cons_succ] at this
        rw [← this]
        congr 1
        simp; omega)
      rw [show (((zs ++ [y]).length : Nat) : Int) = (zs.length : Int) + 1 by simp] at this
      rw [show (zs.length : Int) + ((y :: ys).length : Nat) = (zs.length : Int) + 1 + (ys.length : Nat) by simp; omega]
      show (mapO f _).bind _ = _
      rw [this]; rfl
  have := this xs [] f (fun i h => by simpa using hf i h)
  simpa using this
theorem sIx_none (n d : Nat) : sIx n d none = d := rfl
theorem sIx_some {n d : Nat} {v : Int} (h : 0 ≤ v) : sIx n d (some v) = min v.toNat n := by
  show (if v < 0 then _ else _) = _
  rw [if_neg (by omega)]
theorem cut_lo {xs : List α} {a : Int} (h : 0 ≤ a) : cut xs (some a) none = xs.drop a.toNat := by
  unfold cut
  rw [sIx_some h, sIx_none]
  rcases Nat.le_total a.toNat xs.length with h1 | h1
  · rw [Nat.min_eq_left h1, List.take_of_length_le (by simp)]
  · rw [Nat.min_eq_right h1, List.drop_eq_nil_of_le h1]; simp
theorem cut_hi {xs : List α} {a : Int} (h : 0 ≤ a) : cut xs none (some a) = xs.take a.toNat := by
  unfold cut
  rw [sIx_some h, sIx_none]
  simp only [List.drop_zero, Nat.sub_zero]
  rcases Nat.le_total a.toNat xs.length with h1 | h1
  · rw [Nat.min_eq_left h1]
  · rw [Nat.min_eq_right h1, List.take_of_length_le (Nat.le_refl _), List.take_of_length_le h1]
theorem cut_lh {xs : List α} {a b : Int} (h : 0 ≤ a) (hb : 0 ≤ b) : cut xs (some a) (some b) = (xs.take b.toNat).drop a.toNat := by
  unfold cut
  rw [sIx_some h, sIx_some hb, List.drop_take]
  rcases Nat.le_total a.toNat xs.length with h1 | h1
  · rw [Nat.min_eq_left h1]
    rcases Nat.le_total b.toNat xs.length with h2 | h2
    · rw [Nat.min_eq_left h2]
    · rw [Nat.min_eq_right h2, List.take_of_length_le (by simp), List.take_of_length_le (by simp; omega)]
  · rw [Nat.min_eq_right h1, List.drop_eq_nil_of_le (Nat.le_refl _), List.drop_eq_nil_of_le h1]; simp
theorem cut_mem {xs : List α} {lo hi : Option Int} {x : α} (h : x ∈ cut xs lo hi) : x ∈ xs := List.mem_of_mem_drop (List.mem_of_mem_take h)
theorem cut_len (xs : List α) (lo hi : Option Int) : (cut xs lo hi).length ≤ xs.length := by
  unfold cut; rw [List.length_take, List.length_drop]; omega
structure Lto (lt : α → α → Bool) : Prop where
  irr : ∀ a, lt a a = false
  tr : ∀ a b c, lt a b = true → lt b c = true → lt a c = true
  tot : ∀ a b, lt a b = false → lt b a = false → a = b
theorem Lto.asym {lt : α → α → Bool} (h : Lto lt) {a b : α} (e : lt a b = true) : lt b a = false := by
  cases q : lt b a with
  | false => rfl
  | true => have := h.tr a b a e q; rw [h.irr] at this; cases this
theorem sortM_perm (lt : α → α → Bool) (xs : List α) : (sortM lt xs).Perm xs := List.mergeSort_perm _ _
theorem sortM_sorted {lt : α → α → Bool} (h : Lto lt) (xs : List α) : (sortM lt xs).Pairwise fun a b => lt b a = false := by
  have := List.pairwise_mergeSort (le := fun a b => !lt b a) (fun a b c h1 h2 => by
    simp only [Bool.not_eq_true'] at h1 h2 ⊢
    cases q : lt c a with
    | false => rfl
    | true =>
      cases q2 : lt a b with
      | true => have := h.tr c a b q q2; rw [h2] at this; cases this
      | false =>
        have := h.tot a b q2 h1
        subst this
        rw [h2] at q; cases q) (fun a b => by
    simp only [Bool.or_eq_true, Bool.not_eq_true']
    cases q : lt b a with
    | false => exact .inl rfl
    | true => exact .inr (h.asym q)) xs
  exact this.imp fun h => by simpa using h
theorem sorted_eq {lt : α → α → Bool} (h : Lto lt) {xs ys : List α} (p : xs.Perm ys) (h1 : xs.Pairwise fun a b => lt b a = false) (h2 : ys.Pairwise fun a b => lt b a = false) : xs = ys :=
  p.eq_of_pairwise (fun a b _ _ h3 h4 => h.tot a b h4 h3) h1 h2
theorem sortM_congr {lt : α → α → Bool} (h : Lto lt) {xs ys : List α} (p : xs.Perm ys) : sortM lt xs = sortM lt ys :=
  sorted_eq h ((sortM_perm lt xs).trans (p.trans (sortM_perm lt ys).symm)) (sortM_sorted h xs) (sortM_sorted h ys)
theorem sortM_of {lt : α → α → Bool} (h : Lto lt) {xs ys : List α} (p : xs.Perm ys) (h2 : ys.Pairwise fun a b => lt b a = false) : sortM lt xs = ys :=
  sorted_eq h ((sortM_perm lt xs).trans p) (sortM_sorted h xs) h2
theorem ltoI : Lto ltI := ⟨fun a => by simp [ltI], fun a b c h1 h2 => by simp [ltI] at *; omega, fun a b h1 h2 => by simp [ltI] at *; omega⟩
theorem ltoL [DecidableEq α] {lt : α → α → Bool} (h : Lto lt) : Lto (ltL lt) := by
  refine ⟨fun a => ?_, fun a => ?_, fun a => ?_⟩
  · induction a with
    | nil => rfl
    | cons x xs ih => simp [ltL, ih]
  · induction a with
    | nil =>
      intro b c h1 h2
      cases b with
      | nil => simp [ltL] at h1
      | cons y ys => cases c with
        | nil => simp [ltL] at h2
        | cons => rfl
    | cons x xs ih =>
      intro b c h1 h2
      cases b with
      | nil => simp [ltL] at h1
      | cons y ys =>
        cases c with
        | nil => simp [ltL] at h2
        | cons z zs =>
          simp only [ltL] at h1 h2 ⊢
          by_cases e1 : x = y
          · subst e1
            by_cases e2 : x = z
            · subst e2
              rw [if_pos rfl] at h1 h2 ⊢
              exact ih ys zs h1 h2
            · rw [if_neg e2] at h2 ⊢; exact h2
          · rw [if_neg e1] at h1
            by_cases e2 : y = z
            · subst e2; rw [if_neg e1]; exact h1
            · rw [if_neg e2] at h2
              by_cases e3 : x = z
              · subst e3
                have := h.asym h1
                rw [this] at h2; cases h2
              · rw [if_neg e3]; exact h.tr x y z h1 h2
  · induction a with
    | nil =>
      intro b h1 h2
      cases b with
      | nil => rfl
      | cons => simp [ltL] at h1
    | cons x xs ih =>
      intro b h1 h2
      cases b with
      | nil => simp [ltL] at h2
      | cons y ys =>
        simp only [ltL] at h1 h2
        by_cases e1 : x = y
        · subst e1
          rw [if_pos rfl] at h1 h2
          rw [ih ys h1 h2]
        · rw [if_neg e1] at h1
          rw [if_neg (Ne.symm e1)] at h2
          exact absurd (h.tot x y h1 h2) e1
theorem modM_pos {x y : Int} (h : 0 < y) : modM x y = some (x % y) := by
  rw [modM, if_pos (by omega), Int.fmod_eq_emod_of_nonneg _ (by omega)]
end
end M
end

section
set_option linter.all false
set_option Elab.async false
set_option maxRecDepth 100000
namespace M
open D
/-- the letters of a ring from a place up to another -/
def pc (ring : List Nat) (p q : Int) : List Nat := cut (ring ++ ring) (some p) (some q)
/-- .. make a word -/
def okp (code : List (List Nat)) (ring : List Nat) (p q : Int) : Bool := inM (pc ring p q) code
/-- places, one behind another, to an end -/
def Ch (ok : Int → Int → Bool) (e : Int) : List Int → Prop
  | [] => True
  | p :: ps => p < (ps.head?).getD e ∧ ok p ((ps.head?).getD e) = true ∧ Ch ok e ps
/-- a cut of a ring with n letters -/
def IsCut (ok : Int → Int → Bool) (n : Int) (P : List Int) : Prop := ∃ p ps, P = p :: ps ∧ 0 ≤ p ∧ (∀ x ∈ P, x < n) ∧ Ch ok (p + n) P
theorem Ch.lt {ok : Int → Int → Bool} {e : Int} : ∀ {P : List Int}, Ch ok e P → ∀ x ∈ P, x < e
  | [p], h, x, hx => by
    rw [List.mem_singleton] at hx; subst hx; exact h.1
  | p :: q :: ps, h, x, hx => by
    have := Ch.lt h.2.2
    rcases List.mem_cons.mp hx with rfl | hx
    · have h1 : x < q := h.1
      have h2 := this q List.mem_cons_self
      omega
    · exact this x hx
theorem Ch.head_le {ok : Int → Int → Bool} {e : Int} : ∀ {p : Int} {ps : List Int}, Ch ok e (p :: ps) → ∀ x ∈ ps, p < x
  | p, [], _, x, hx => by cases hx
  | p, q :: ps, h, x, hx => by
    have h1 : p < q := h.1
    rcases List.mem_cons.mp hx with rfl | hx
    · exact h1
    · have := Ch.head_le h.2.2 x hx
      omega
theorem Ch.sorted {ok : Int → Int → Bool} {e : Int} : ∀ {P : List Int}, Ch ok e P → P.Pairwise (· < ·)
  | [], _ => List.Pairwise.nil
  | p :: ps, h => List.pairwise_cons.mpr ⟨fun x hx => Ch.head_le h x hx, Ch.sorted h.2.2⟩
theorem Ch_append {ok : Int → Int → Bool} {e : Int} {b : Int} {B : List Int} : ∀ {A : List Int}, Ch ok e (A ++ b :: B) ↔ Ch ok b A ∧ Ch ok e (b :: B)
  | [] => by simp [Ch]
  | a :: A => by
    have ih := Ch_append (ok := ok) (e := e) (b := b) (B := B) (A := A)
    simp only [List.cons_append, Ch] at ih ⊢
    rw [ih]
    have : ((A ++ b :: B).head?).getD e = (A.head?).getD b := by cases A <;> rfl
    rw [this]
    constructor
    · rintro ⟨h1, h2, h3, h4⟩; exact ⟨⟨h1, h2, h3⟩, h4⟩
    · rintro ⟨⟨h1, h2, h3⟩, h4⟩; exact ⟨h1, h2, h3, h4⟩
/-- all ways on from the places P, whose last one is l: the mirror's search, by fuel -/
def comp (ok : Int → Int → Bool) (first n : Int) : Nat → List Int → Int → List (List Int)
  | 0, _, _ => []
  | k + 1, P, l => (rng (l + 1) (first + n + 1)).flatMap fun e => if ok l e = true then (if e = first + n then [P] else if e < n then comp ok first n k (P ++ [e]) e else []) else []
theorem flatMap_congr' {α β : Type} {f g : α → List β} : ∀ {xs : List α}, (∀ x ∈ xs, f x = g x) → xs.flatMap f = xs.flatMap g
  | [], _ => rfl
  | x :: xs, h => by rw [List.flatMap_cons, List.flatMap_cons, h x List.mem_cons_self, flatMap_congr' fun y hy => h y (List.mem_cons_of_mem _ hy)]
theorem nodup_flatMap' {α β : Type} {f : α → List β} : ∀ {xs : List α}, xs.Nodup → (∀ x ∈ xs, (f x).Nodup) → (∀ x ∈ xs, ∀ y ∈ xs, ∀ z, z ∈ f x → z ∈ f y → x = y) → (xs.flatMap f).Nodup
  | [], _, _, _ => List.nodup_nil
  | x :: xs, hn, h1, h2 => by
    rw [List.flatMap_cons, List.nodup_append]
    have hn' := List.nodup_cons.mp hn
    refine ⟨h1 x List.mem_cons_self, nodup_flatMap' hn'.2 (fun y hy => h1 y (List.mem_cons_of_mem _ hy)) (fun y hy z hz => h2 y (List.mem_cons_of_mem _ hy) z (List.mem_cons_of_mem _ hz)), fun a ha b hb e => ?_⟩
    subst e
    obtain ⟨y, hy, hb⟩ := List.mem_flatMap.mp hb
    have := h2 x List.mem_cons_self y (List.mem_cons_of_mem _ hy) a ha hb
    subst this
    exact hn'.1 hy
section
variable {ok : Int → Int → Bool} {first n : Int}
theorem comp_fuel : ∀ (k k' : Nat) (P : List Int) (l : Int), (n - l).toNat ≤ k → (n - l).toNat ≤ k' → l < n → comp ok first n k P l = comp ok first n k' P l
  | 0, k', P, l, h, _, hl => by omega
  | k + 1, 0, P, l, _, h, hl => by omega
  | k + 1, k' + 1, P, l, h, h', hl => by
    simp only [comp]
    refine flatMap_congr' fun e he => ?_
    have := mem_rng.mp he
    split
    · split
      · rfl
      · split
        · exact comp_fuel k k' _ _ (by omega) (by omega) (by omega)
        · rfl
    · rfl
theorem comp_pre : ∀ (k : Nat) (P : List Int) (l : Int) (Q : List Int), Q ∈ comp ok first n k P l → ∃ ts, Q = P ++ ts
  | 0, _, _, _, h => by cases h
  | k + 1, P, l, Q, h => by
    simp only [comp] at h
    obtain ⟨e, _, h⟩ := List.mem_flatMap.mp h
    split at h
    · split at h
      · rw [List.mem_singleton] at h; exact ⟨[], by simp [h]⟩
      · split at h
        · obtain ⟨ts, rfl⟩ := comp_pre k _ _ _ h
          exact ⟨e :: ts, by simp⟩
        · cases h
    · cases h
theorem comp_nodup (hf : 0 ≤ first) : ∀ (k : Nat) (P : List Int) (l : Int), (comp ok first n k P l).Nodup
  | 0, _, _ => List.nodup_nil
  | k + 1, P, l => by
    simp only [comp]
    have pre : ∀ e Q, Q ∈ (if ok l e = true then (if e = first + n then [P] else if e < n then comp ok first n k (P ++ [e]) e else []) else []) → (e = first + n ∧ Q = P) ∨ (e ≠ first + n ∧ ∃ ts, Q = P ++ e :: ts) := fun e Q h => by
      split at h
      · split at h
        · rename_i h1; rw [List.mem_singleton] at h; exact .inl ⟨h1, h⟩
        · rename_i h1
          split at h
          · obtain ⟨ts, rfl⟩ := comp_pre k _ _ _ h
            exact .inr ⟨h1, ts, by simp⟩
          · cases h
      · cases h
    refine nodup_flatMap' (rng_nodup _ _) (fun e _ => ?_) fun x _ y _ z h1 h2 => ?_
    · split
      · split
        · simp
        · split
          · exact comp_nodup hf k _ _
          · exact List.nodup_nil
      · exact List.nodup_nil
    · rcases pre x z h1 with ⟨a1, a2⟩ | ⟨a1, ts, a2⟩
      · rcases pre y z h2 with ⟨b1, b2⟩ | ⟨b1, us, b2⟩
        · omega
        · rw [a2] at b2
          have := congrArg List.length b2
          simp at this
      · rcases pre y z h2 with ⟨b1, b2⟩ | ⟨b1, us, b2⟩
        · rw [b2] at a2
          have := congrArg List.length a2
          simp at this
        · rw [a2] at b2
          have := List.append_cancel_left b2
          cases this; rfl
theorem comp_mem (hf : 0 ≤ first) : ∀ (k : Nat) (P : List Int) (l : Int) (Q : List Int), (n - l).toNat ≤ k → l < n → (Q ∈ comp ok first n k P l ↔ ∃ ts, Q = P ++ ts ∧ (∀ x ∈ ts, x < n) ∧ Ch ok (first + n) (l :: ts))
  | 0, P, l, Q, h, hl => by omega
  | k + 1, P, l, Q, h, hl => by
    simp only [comp]
    rw [List.mem_flatMap]
    constructor
    · rintro ⟨e, he, hq⟩
      have := mem_rng.mp he
      split at hq
      · rename_i hok
        split at hq
        · rename_i h1
          rw [List.mem_singleton] at hq
          subst h1
          exact ⟨[], by simp [hq], by simp, by show l < first + n; omega, hok, trivial⟩
        · split at hq
          · rename_i h1 h2
            obtain ⟨ts, rfl, h3, h4⟩ := (comp_mem hf k (P ++ [e]) e Q (by omega) h2).mp hq
            refine ⟨e :: ts, by simp, fun x hx => ?_, by show l < e; omega, hok, h4⟩
            rcases List.mem_cons.mp hx with rfl | hx
            · exact h2
            · exact h3 x hx
          · cases hq
      · cases hq
    · rintro ⟨ts, rfl, h1, h2⟩
      cases ts with
      | nil =>
        have h3 : l < first + n := h2.1
        have h4 : ok l (first + n) = true := h2.2.1
        refine ⟨first + n, mem_rng.mpr (by omega), ?_⟩
        rw [if_pos h4, if_pos rfl]; simp
      | cons e ts =>
        have h3 : l < e := h2.1
        have h4 : ok l e = true := h2.2.1
        have h5 := h1 e List.mem_cons_self
        refine ⟨e, mem_rng.mpr (by omega), ?_⟩
        rw [if_pos h4, if_neg (by omega), if_pos h5]
        exact (comp_mem hf k (P ++ [e]) e _ (by omega) h5).mpr ⟨ts, by simp, fun x hx => h1 x (List.mem_cons_of_mem _ hx), h2.2.2⟩
end
/-- all cuts, by their first places -/
def allCuts (ok : Int → Int → Bool) (n : Int) : List (List Int) := (rng 0 n).flatMap fun f => comp ok f n n.toNat [f] f
theorem allCuts_mem {ok : Int → Int → Bool} {n : Int} (Q : List Int) : Q ∈ allCuts ok n ↔ IsCut ok n Q := by
  unfold allCuts IsCut
  rw [List.mem_flatMap]
  constructor
  · rintro ⟨f, hf, hq⟩
    have := mem_rng.mp hf
    obtain ⟨ts, rfl, h1, h2⟩ := (comp_mem this.1 _ [f] f Q (by omega) this.2).mp hq
    refine ⟨f, ts, rfl, this.1, fun x hx => ?_, h2⟩
    rcases List.mem_cons.mp hx with rfl | hx
    · exact this.2
    · exact h1 x hx
  · rintro ⟨p, ps, rfl, h0, h1, h2⟩
    have hp := h1 p List.mem_cons_self
    refine ⟨p, mem_rng.mpr ⟨h0, hp⟩, (comp_mem h0 _ [p] p _ (by omega) hp).mpr ⟨ps, rfl, fun x hx => h1 x (List.mem_cons_of_mem _ hx), h2⟩⟩
theorem allCuts_nodup (ok : Int → Int → Bool) (n : Int) : (allCuts ok n).Nodup := by
  unfold allCuts
  refine nodup_flatMap' (rng_nodup _ _) (fun f hf => comp_nodup (mem_rng.mp hf).1 _ _ _) fun x _ y _ z h1 h2 => ?_
  obtain ⟨ts, e1⟩ := comp_pre _ _ _ _ h1
  obtain ⟨us, e2⟩ := comp_pre _ _ _ _ h2
  rw [e1] at e2
  cases e2; rfl
/-- in their order -/
def cutsOf (code : List (List Nat)) (ring : List Nat) : List (List Int) := sortM (ltL ltI) (allCuts (okp code ring) ring.length)
theorem cutsOf_mem {code : List (List Nat)} {ring : List Nat} {P : List Int} : P ∈ cutsOf code ring ↔ IsCut (okp code ring) ring.length P := by
  unfold cutsOf
  rw [(sortM_perm _ _).mem_iff, allCuts_mem]
theorem cutsOf_nodup (code : List (List Nat)) (ring : List Nat) : (cutsOf code ring).Nodup := (sortM_perm _ _).nodup_iff.mpr (allCuts_nodup _ _)
end M
end

section
set_option linter.all false
set_option Elab.async false
set_option maxRecDepth 100000
namespace M
open D
/-- rotated by m letters -/
def rot (r : List Nat) (m : Int) : List Nat := r.drop m.toNat ++ r.take m.toNat
theorem rot_length (r : List Nat) (m : Int) : (rot r m).length = r.length := by
  unfold rot; rw [List.length_append, List.length_drop, List.length_take]; omega
theorem dbl_get (r : List Nat) (i : Nat) (h : i < 2 * r.length) : (r ++ r)[i]? = r[i % r.length]? := by
  rcases Nat.lt_or_ge i r.length with h1 | h1
  · rw [List.getElem?_append_left h1, Nat.mod_eq_of_lt h1]
  · rw [List.getElem?_append_right h1]
    congr 1
    rw [Nat.mod_eq_sub_mod h1, Nat.mod_eq_of_lt (by omega)]
theorem rot_get (r : List Nat) (m : Nat) (hm : m ≤ r.length) (i : Nat) (h : i < r.length) : (rot r m)[i]? = r[(i + m) % r.length]? := by
  unfold rot
  rw [Int.toNat_natCast]
  rcases Nat.lt_or_ge (i + m) r.length with h1 | h1
  · rw [List.getElem?_append_left (by rw [List.length_drop]; omega), List.getElem?_drop, Nat.mod_eq_of_lt h1]
    congr 1; omega
  · rw [List.getElem?_append_right (by rw [List.length_drop]; omega), List.length_drop, List.getElem?_take, if_pos (by omega)]
    congr 1
    rw [Nat.mod_eq_sub_mod h1, Nat.mod_eq_of_lt (by omega)]; omega
theorem pc_get (r : List Nat) (p q : Nat) (hq : q ≤ 2 * r.length) (j : Nat) : (pc r p q)[j]? = if p + j < q then r[(p + j) % r.length]? else none := by
  unfold pc
  rw [cut_lh (by omega) (by omega), Int.toNat_natCast, Int.toNat_natCast, List.getElem?_drop, List.getElem?_take]
  split
  · rw [dbl_get r _ (by omega)]
  · rfl
theorem pc_rot (r : List Nat) (m p q p' q' : Nat) (hm : m ≤ r.length) (hq : q ≤ 2 * r.length) (hq' : q' ≤ 2 * r.length) (hd : p' + q = p + q') (he : (p' : Int) % r.length = (p + m : Nat) % r.length) : pc (rot r m) p q = pc r p' q' := by
  apply List.ext_getElem?
  intro j
  rw [pc_get _ _ _ (by rw [rot_length]; exact hq), pc_get _ _ _ hq', rot_length]
  by_cases h : p + j < q
  · rw [if_pos h, if_pos (by omega)]
    have hn : 0 < r.length := by omega
    rw [rot_get r m hm _ (Nat.mod_lt _ hn)]
    congr 1
    have he' : p' % r.length = (p + m) % r.length := by
      have := he
      omega
    rw [Nat.mod_add_mod, Nat.add_mod p' j, he', ← Nat.add_mod]
    congr 1; omega
  · rw [if_neg h, if_neg (by omega)]
section
variable {code : List (List Nat)} {r : List Nat} {m : Nat}
theorem okp_hi {p q : Int} (hm : m ≤ r.length) (h0 : 0 ≤ p) (h1 : p + m < r.length) (h2 : 0 ≤ q) (h3 : q ≤ p + r.length) : okp code (rot r m) p q = okp code r (p + m) (q + m) := by
  unfold okp
  have := pc_rot r m p.toNat q.toNat (p.toNat + m) (q.toNat + m) hm (by omega) (by omega) (by omega) (by simp)
  rw [Int.toNat_of_nonneg h0, Int.toNat_of_nonneg h2] at this
  rw [this]
  congr 2 <;> omega
theorem okp_lo {p q : Int} (hm : m ≤ r.length) (h0 : 0 ≤ p) (h1 : p < r.length) (h2 : r.length ≤ p + m) (h3 : p ≤ q) (h4 : q ≤ p + r.length) : okp code (rot r m) p q = okp code r (p + m - r.length) (q + m - r.length) := by
  unfold okp
  have := pc_rot r m p.toNat q.toNat (p.toNat + m - r.length) (q.toNat + m - r.length) hm (by omega) (by omega) (by omega) (by
    have : (p.toNat + m - r.length) % r.length = (p.toNat + m) % r.length := (Nat.mod_eq_sub_mod (by omega)).symm
    omega)
  rw [Int.toNat_of_nonneg h0, Int.toNat_of_nonneg (by omega)] at this
  rw [this]
  congr 2 <;> omega
theorem Ch_hi (hm : m ≤ r.length) : ∀ (B : List Int) (e : Int), (∀ x ∈ B, m ≤ x ∧ x < r.length ∧ e ≤ x + r.length) → Ch (okp code r) e B → Ch (okp code (rot r m)) (e - m) (B.map (· - (m : Int)))
  | [], _, _, _ => trivial
  | [x], e, h, c => by
    obtain ⟨h1, h2, h3⟩ := h x List.mem_cons_self
    have c1 : x < e := c.1
    have c2 : okp code r x e = true := c.2.1
    refine ⟨by show x - m < e - m; omega, ?_, trivial⟩
    show okp code (rot r m) (x - m) (e - m) = true
    rw [okp_hi hm (by omega) (by omega) (by omega) (by omega), show x - (m : Int) + m = x by omega, show e - (m : Int) + m = e by omega, c2]
  | x :: y :: B, e, h, c => by
    obtain ⟨h1, h2, h3⟩ := h x List.mem_cons_self
    obtain ⟨g1, g2, g3⟩ := h y (List.mem_cons_of_mem _ List.mem_cons_self)
    have c1 : x < y := c.1
    have c2 : okp code r x y = true := c.2.1
    refine ⟨by show x - m < y - m; omega, ?_, Ch_hi hm (y :: B) e (fun z hz => h z (List.mem_cons_of_mem _ hz)) c.2.2⟩
    show okp code (rot r m) (x - m) (y - m) = true
    rw [okp_hi hm (by omega) (by omega) (by omega) (by omega), show x - (m : Int) + m = x by omega, show y - (m : Int) + m = y by omega, c2]
theorem Ch_lo (hm : m ≤ r.length) : ∀ (A : List Int) (e : Int), (∀ x ∈ A, 0 ≤ x ∧ x < m ∧ e ≤ x + r.length) → Ch (okp code r) e A → Ch (okp code (rot r m)) (e + r.length - m) (A.map (· + (r.length : Int) - (m : Int)))
  | [], _, _, _ => trivial
  | [x], e, h, c => by
    obtain ⟨h1, h2, h3⟩ := h x List.mem_cons_self
    have c1 : x < e := c.1
    have c2 : okp code r x e = true := c.2.1
    refine ⟨by show x + r.length - m < e + r.length - m; omega, ?_, trivial⟩
    show okp code (rot r m) (x + r.length - m) (e + r.length - m) = true
    rw [okp_lo hm (by omega) (by omega) (by omega) (by omega) (by omega), show x + (r.length : Int) - m + m - r.length = x by omega, show e + (r.length : Int) - m + m - r.length = e by omega, c2]
  | x :: y :: A, e, h, c => by
    obtain ⟨h1, h2, h3⟩ := h x List.mem_cons_self
    obtain ⟨g1, g2, g3⟩ := h y (List.mem_cons_of_mem _ List.mem_cons_self)
    have c1 : x < y := c.1
    have c2 : okp code r x y = true := c.2.1
    refine ⟨by show x + r.length - m < y + r.length - m; omega, ?_, Ch_lo hm (y :: A) e (fun z hz => h z (List.mem_cons_of_mem _ hz)) c.2.2⟩
    show okp code (rot r m) (x + r.length - m) (y + r.length - m) = true
    rw [okp_lo hm (by omega) (by omega) (by omega) (by omega) (by omega), show x + (r.length : Int) - m + m - r.length = x by omega, show y + (r.length : Int) - m + m - r.length = y by omega, c2]
/-- the places of a rotated ring -/
def sh (n m : Int) (P : List Int) : List Int := (P.filter fun x => decide (m ≤ x)).map (· - m) ++ (P.filter fun x => decide (x < m)).map (· + n - m)
theorem split_at (m : Int) : ∀ {P : List Int}, P.Pairwise (· < ·) → P = (P.filter fun x => decide (x < m)) ++ (P.filter fun x => decide (m ≤ x))
  | [], _ => rfl
  | p :: ps, h => by
    obtain ⟨h1, h2⟩ := List.pairwise_cons.mp h
    by_cases hp : p < m
    · have : ¬ m ≤ p := by omega
      rw [List.filter_cons, List.filter_cons]
      simp only [hp, this, decide_true, decide_false, if_true]
      exact congrArg (p :: ·) (split_at m h2)
    · have h3 : (ps.filter fun x => decide (x < m)) = [] := List.filter_eq_nil_iff.mpr fun x hx => by have := h1 x hx; simp; omega
      have h4 : (ps.filter fun x => decide (m ≤ x)) = ps := List.filter_eq_self.mpr fun x hx => by have := h1 x hx; simp; omega
      have : m ≤ p := by omega
      rw [List.filter_cons, List.filter_cons, h3, h4]
      simp [hp, this]
theorem IsCut.sorted {ok : Int → Int → Bool} {n : Int} {P : List Int} (h : IsCut ok n P) : P.Pairwise (· < ·) := by
  obtain ⟨p, ps, rfl, _, _, c⟩ := h
  exact c.sorted
theorem IsCut.low {ok : Int → Int → Bool} {n : Int} {P : List Int} (h : IsCut ok n P) : ∀ x ∈ P, 0 ≤ x ∧ x < n := by
  obtain ⟨p, ps, rfl, h0, h1, c⟩ := h
  intro x hx
  refine ⟨?_, h1 x hx⟩
  rcases List.mem_cons.mp hx with rfl | hx
  · exact h0
  · have := c.head_le x hx; omega
theorem IsCut_rot (hm : m < r.length) {P : List Int} (h : IsCut (okp code r) r.length P) : IsCut (okp code (rot r m)) (rot r m).length (sh r.length m P) := by
  have hs := h.sorted
  have hl := h.low
  obtain ⟨p, ps, hP, h0, h1, c⟩ := h
  have sp := split_at (m : Int) hs
  unfold sh
  generalize hA : (P.filter fun x => decide (x < (m : Int))) = A at sp ⊢
  generalize hB : (P.filter fun x => decide ((m : Int) ≤ x)) = B at sp ⊢
  have lA : ∀ x ∈ A, 0 ≤ x ∧ x < m := fun x hx => by
    rw [← hA] at hx
    obtain ⟨h2, h3⟩ := List.mem_filter.mp hx
    exact ⟨(hl x h2).1, by simpa using h3⟩
  have lB : ∀ x ∈ B, m ≤ x ∧ x < r.length := fun x hx => by
    rw [← hB] at hx
    obtain ⟨h2, h3⟩ := List.mem_filter.mp hx
    exact ⟨by simpa using h3, (hl x h2).2⟩
  rw [rot_length]
  have hp : ∀ x ∈ P, p ≤ x := fun x hx => by
    rw [hP] at hx c
    rcases List.mem_cons.mp hx with rfl | hx
    · omega
    · have := c.head_le x hx; omega
  cases B with
  | nil =>
    cases A with
    | nil => rw [sp] at hP; cases hP
    | cons a A =>
      rw [List.append_nil] at sp
      rw [sp] at hP
      cases hP
      refine ⟨p + r.length - m, ps.map (· + (r.length : Int) - m), rfl, by have := lA p List.mem_cons_self; omega, fun x hx => ?_, ?_⟩
      · simp only [List.map_nil, List.nil_append] at hx
        obtain ⟨y, hy, rfl⟩ := List.mem_map.mp hx
        have := lA y hy; omega
      · have := Ch_lo (code := code) (r := r) (m := m) (by omega) (p :: ps) (p + r.length) (fun x hx => ⟨(lA x hx).1, (lA x hx).2, by have := hp x (by rw [sp]; exact hx); omega⟩) (by rw [← sp]; exact c)
        simp only [List.map_nil, List.nil_append]
        rw [show p + (r.length : Int) - m + r.length = p + r.length + r.length - m by omega]
        exact this
  | cons b B =>
    cases A with
    | nil =>
      rw [List.nil_append] at sp
      rw [sp] at hP
      cases hP
      refine ⟨p - m, ps.map (· - (m : Int)), by simp, by have := lB p List.mem_cons_self; omega, fun x hx => ?_, ?_⟩
      · simp only [List.map_nil, List.append_nil] at hx
        obtain ⟨y, hy, rfl⟩ := List.mem_map.mp hx
        have := lB y hy; omega
      · have := Ch_hi (code := code) (r := r) (m := m) (by omega) (p :: ps) (p + r.length) (fun x hx => ⟨(lB x hx).1, (lB x hx).2, by have := hp x (by rw [sp]; exact hx); omega⟩) (by rw [← sp]; exact c)
        simp only [List.map_nil, List.append_nil]
        rw [show p - (m : Int) + r.length = p + r.length - m by omega]
        exact this
    | cons a A =>
      have hap : a = p := by rw [sp] at hP; cases hP; rfl
      subst hap
      rw [sp, Ch_append] at c
      have hb := lB b List.mem_cons_self
      have c1 := Ch_lo (code := code) (r := r) (m := m) (by omega) (a :: A) b (fun x hx => ⟨(lA x hx).1, (lA x hx).2, by have := lA x hx; omega⟩) c.1
      have c2 := Ch_hi (code := code) (r := r) (m := m) (by omega) (b :: B) (a + r.length) (fun x hx => ⟨(lB x hx).1, (lB x hx).2, by have := hp x (by rw [sp]; exact List.mem_append_right _ hx); omega⟩) c.2
      refine ⟨b - m, B.map (· - (m : Int)) ++ (a :: A).map (· + (r.length : Int) - m), rfl, by omega, fun x hx => ?_, ?_⟩
      · rcases List.mem_append.mp hx with hx | hx
        · obtain ⟨y, hy, rfl⟩ := List.mem_map.mp hx
          have := lB y hy; omega
        · obtain ⟨y, hy, rfl⟩ := List.mem_map.mp hx
          have := lA y hy; omega
      · rw [List.map_cons (f := fun x : Int => x + (r.length : Int) - m), Ch_append]
        refine ⟨by rw [show a + (r.length : Int) - m = a + r.length - m from rfl]; exact c2, ?_⟩
        rw [show b - (m : Int) + r.length = b + r.length - m by omega]
        exact c1
theorem sh_back {n m : Int} (h0 : 0 ≤ m) (h1 : m ≤ n) {P : List Int} (hs : P.Pairwise (· < ·)) (hl : ∀ x ∈ P, 0 ≤ x ∧ x < n) : sh n (n - m) (sh n m P) = P := by
  have sp := split_at m hs
  unfold sh
  rw [List.filter_append, List.filter_append]
  have e1 : (((P.filter fun x => decide (m ≤ x)).map (· - m)).filter fun x => decide (n - m ≤ x)) = [] := List.filter_eq_nil_iff.mpr fun x hx => by
    obtain ⟨y, hy, rfl⟩ := List.mem_map.mp hx
    have := hl y ((List.mem_filter.mp hy).1)
    simp; omega
  have e2 : (((P.filter fun x => decide (x < m)).map (· + n - m)).filter fun x => decide (n - m ≤ x)) = (P.filter fun x => decide (x < m)).map (· + n - m) := List.filter_eq_self.mpr fun x hx => by
    obtain ⟨y, hy, rfl⟩ := List.mem_map.mp hx
    have := hl y ((List.mem_filter.mp hy).1)
    simp; omega
  have e3 : (((P.filter fun x => decide (m ≤ x)).map (· - m)).filter fun x => decide (x < n - m)) = (P.filter fun x => decide (m ≤ x)).map (· - m) := List.filter_eq_self.mpr fun x hx => by
    obtain ⟨y, hy, rfl⟩ := List.mem_map.mp hx
    have := hl y ((List.mem_filter.mp hy).1)
    simp; omega
  have e4 : (((P.filter fun x => decide (x < m)).map (· + n - m)).filter fun x => decide (x < n - m)) = [] := List.filter_eq_nil_iff.mpr fun x hx => by
    obtain ⟨y, hy, rfl⟩ := List.mem_map.mp hx
    have := hl y ((List.mem_filter.mp hy).1)
    simp; omega
  rw [e1, e2, e3, e4, List.nil_append, List.append_nil, List.map_map, List.map_map]
  have f1 : ∀ xs : List Int, xs.map ((fun x => x - (n - m)) ∘ fun x => x + n - m) = xs := fun xs => by
    rw [List.map_congr_left (g := id) (fun x _ => by simp only [Function.comp, id]; omega), List.map_id]
  have f2 : ∀ xs : List Int, xs.map ((fun x => x + n - (n - m)) ∘ fun x => x - m) = xs := fun xs => by
    rw [List.map_congr_left (g := id) (fun x _ => by simp only [Function.comp, id]; omega), List.map_id]
  rw [f1, f2]
  exact sp.symm
theorem rot_back (hm : m ≤ r.length) : rot (rot r m) ((r.length : Int) - m) = r := by
  unfold rot
  rw [Int.toNat_natCast, show ((r.length : Int) - m).toNat = r.length - m by omega]
  have : (r.drop m).length = r.length - m := List.length_drop
  rw [← this, List.drop_left, List.take_left, List.take_append_drop]
/-- the law's way to write the same -/
theorem sort_sh {n m : Int} (h0 : 0 ≤ m) (h1 : m < n) {P : List Int} (hs : P.Pairwise (· < ·)) (hl : ∀ x ∈ P, 0 ≤ x ∧ x < n) : sortM ltI (P.map fun x => (x + n - m) % n) = sh n m P := by
  have sp := split_at m hs
  refine sortM_of ltoI ?_ ?_
  · unfold sh
    have : (P.map fun x => (x + n - m) % n) = (P.filter fun x => decide (x < m)).map (· + n - m) ++ (P.filter fun x => decide (m ≤ x)).map (· - m) := by
      conv => lhs; rw [sp]
      rw [List.map_append]
      congr 1
      · apply List.map_congr_left
        intro x hx
        obtain ⟨h2, h3⟩ := List.mem_filter.mp hx
        have h3' : x < m := by simpa using h3
        have := hl x h2
        exact Int.emod_eq_of_lt (by omega) (by omega)
      · apply List.map_congr_left
        intro x hx
        obtain ⟨h2, h3⟩ := List.mem_filter.mp hx
        have h3' : m ≤ x := by simpa using h3
        have := hl x h2
        rw [show x + n - m = x - m + n by omega, Int.add_emod_right]
        exact Int.emod_eq_of_lt (by omega) (by omega)
    rw [this]
    exact List.perm_append_comm
  · unfold sh
    rw [List.pairwise_append]
    refine ⟨?_, ?_, fun a ha b hb => ?_⟩
    · rw [List.pairwise_map]
      exact (hs.filter _).imp fun h => by simp [ltI]; omega
    · rw [List.pairwise_map]
      exact (hs.filter _).imp fun h => by simp [ltI]; omega
    · obtain ⟨x, hx, rfl⟩ := List.mem_map.mp ha
      obtain ⟨y, hy, rfl⟩ := List.mem_map.mp hb
      obtain ⟨h2, h3⟩ := List.mem_filter.mp hx
      obtain ⟨h4, h5⟩ := List.mem_filter.mp hy
      have := hl x h2
      have := hl y h4
      simp at h3 h5
      simp [ltI]; omega
theorem IsCut_sh (hm : m < r.length) (hn : 0 < r.length) {Q : List Int} : IsCut (okp code (rot r m)) (rot r m).length Q ↔ ∃ P, IsCut (okp code r) r.length P ∧ sh r.length m P = Q := by
  constructor
  · intro h
    have hb : sh r.length m (sh r.length ((r.length : Int) - m) Q) = Q := by
      have := sh_back (n := r.length) (m := (r.length : Int) - m) (by omega) (by omega) h.sorted (by have := h.low; rw [rot_length] at this; exact this)
      rw [show (r.length : Int) - ((r.length : Int) - m) = m by omega] at this
      exact this
    refine ⟨sh r.length ((r.length : Int) - m) Q, ?_, hb⟩
    by_cases h0 : m = 0
    · subst h0
      have e1 : rot r ((0 : Nat) : Int) = r := by simp [rot]
      rw [e1] at h
      have : sh r.length ((r.length : Int) - (0 : Nat)) Q = Q := by
        unfold sh
        have g1 : (Q.filter fun x => decide ((r.length : Int) - (0 : Nat) ≤ x)) = [] := List.filter_eq_nil_iff.mpr fun x hx => by have := h.low x hx; simp; omega
        have g2 : (Q.filter fun x => decide (x < (r.length : Int) - (0 : Nat))) = Q := List.filter_eq_self.mpr fun x hx => by have := h.low x hx; simp; omega
        rw [g1, g2, List.map_nil, List.nil_append, List.map_congr_left (g := id) (fun x _ => by simp only [id]; omega), List.map_id]
      rw [this]; exact h
    · have := IsCut_rot (code := code) (r := rot r m) (m := r.length - m) (by rw [rot_length]; omega) h
      simp only [rot_length] at this
      rw [show (((r.length - m : Nat)) : Int) = (r.length : Int) - m by omega, rot_back (by omega)] at this
      exact this
  · rintro ⟨P, h, rfl⟩
    exact IsCut_rot hm h
theorem sh_inj {n m : Int} (h0 : 0 ≤ m) (h1 : m ≤ n) {P Q : List Int} (hp : P.Pairwise (· < ·)) (lp : ∀ x ∈ P, 0 ≤ x ∧ x < n) (hq : Q.Pairwise (· < ·)) (lq : ∀ x ∈ Q, 0 ≤ x ∧ x < n) (e : sh n m P = sh n m Q) : P = Q := by
  rw [← sh_back h0 h1 hp lp, ← sh_back h0 h1 hq lq, e]
/-- THE LAW OF ROTATED RINGS -/
theorem cuts_rot (hm : m < r.length) : sortM (ltL ltI) ((cutsOf code r).map (sh r.length m)) = cutsOf code (rot r m) := by
  have hp : ((cutsOf code r).map (sh r.length m)).Perm (cutsOf code (rot r m)) := by
    refine (List.perm_ext_iff_of_nodup ?_ (cutsOf_nodup _ _)).mpr fun Q => ?_
    · have : ∀ xs : List (List Int), xs.Nodup → (∀ P ∈ xs, IsCut (okp code r) r.length P) → (xs.map (sh r.length m)).Nodup := by
        intro xs
        induction xs with
        | nil => intro _ _; exact List.nodup_nil
        | cons x xs ih =>
          intro hn hc
          have hn' := List.nodup_cons.mp hn
          rw [List.map_cons, List.nodup_cons]
          refine ⟨fun h => ?_, ih hn'.2 fun P hP => hc P (List.mem_cons_of_mem _ hP)⟩
          obtain ⟨y, hy, e⟩ := List.mem_map.mp h
          have c1 := hc x List.mem_cons_self
          have c2 := hc y (List.mem_cons_of_mem _ hy)
          have := sh_inj (n := r.length) (m := m) (by omega) (by omega) c2.sorted c2.low c1.sorted c1.low e
          exact hn'.1 (this ▸ hy)
      exact this _ (cutsOf_nodup _ _) fun P hP => cutsOf_mem.mp hP
    · rw [cutsOf_mem, IsCut_sh hm (by omega), List.mem_map]
      constructor
      · rintro ⟨P, hP, e⟩; exact ⟨P, cutsOf_mem.mp hP, e⟩
      · rintro ⟨P, hP, e⟩; exact ⟨P, cutsOf_mem.mpr hP, e⟩
  exact sortM_of (ltoL ltoI) hp (sortM_sorted (ltoL ltoI) _)
end
end M
end

section
set_option linter.all false
set_option Elab.async false
set_option maxRecDepth 100000
namespace M
open D
section
variable {α β γ σ : Type}
theorem mapS_inv {g : α → SS → Option (β × SS)} {P : β → Prop} : ∀ (xs : List α) (w : SS), (∀ x ∈ xs, ∀ w, ∃ y w', g x w = some (y, w') ∧ P y) → ∃ ys w', mapS g xs w = some (ys, w') ∧ ys.length = xs.length ∧ ∀ y ∈ ys, P y
  | [], w, _ => ⟨[], w, rfl, rfl, fun y hy => by cases hy⟩
  | x :: xs, w, h => by
    obtain ⟨y, w1, e1, p1⟩ := h x List.mem_cons_self w
    obtain ⟨ys, w2, e2, l2, p2⟩ := mapS_inv xs w1 fun z hz => h z (List.mem_cons_of_mem _ hz)
    refine ⟨y :: ys, w2, ?_, by simp [l2], fun z hz => ?_⟩
    · rw [mapS, e1]
      show (mapS g xs w1).bind _ = _
      rw [e2]; rfl
    · rcases List.mem_cons.mp hz with rfl | hz
      · exact p1
      · exact p2 z hz
theorem lcS_inv {g : α → SS → Option (β × SS)} {P : β → Prop} {xs : List α} {w : SS} (hl : xs.length < 16777216) (h : ∀ x ∈ xs, ∀ w, ∃ y w', g x w = some (y, w') ∧ P y) : ∃ ys w', lcS g xs w = some (ys, w') ∧ ys.length = xs.length ∧ ∀ y ∈ ys, P y := by
  rw [lcS, if_pos (by rw [line_eq]; exact hl)]
  exact mapS_inv xs w h
theorem joinS_nil : ∀ zs : List (List Nat), joinS [] zs = zs.flatten
  | [] => rfl
  | [z] => by simp [joinS]
  | z :: y :: zs => by
    have := joinS_nil (y :: zs)
    show z ++ [] ++ joinS [] (y :: zs) = _
    rw [this]; simp
theorem joinM_nil {zs : List (List Nat)} (h : zs.flatten.length ≤ 16777216) : joinM [] zs = some zs.flatten := by
  rw [joinM, if_pos, joinS_nil]
  rw [line_eq, ← List.length_flatten]; simpa using h
theorem flat_ones {L : List Nat} : ∀ {zs : List (List Nat)}, (∀ z ∈ zs, ∃ c ∈ L, z = [c]) → zs.flatten.length = zs.length ∧ ∀ c ∈ zs.flatten, c ∈ L
  | [], _ => ⟨rfl, fun c h => by cases h⟩
  | z :: zs, h => by
    obtain ⟨c, hc, rfl⟩ := h z List.mem_cons_self
    obtain ⟨h1, h2⟩ := flat_ones fun y hy => h y (List.mem_cons_of_mem _ hy)
    refine ⟨by simp [h1], fun d hd => ?_⟩
    rw [List.flatten_cons] at hd
    rcases List.mem_append.mp hd with hd | hd
    · rw [List.mem_singleton] at hd; exact hd ▸ hc
    · exact h2 d hd
/-- drawn turns -/
theorem draw_at (w : SS) {L : List α} (h0 : L ≠ []) (h1 : L.length < 1073741824) : ∃ d w' x, draw w (L.length : Int) = some (d, w') ∧ atI L d = some x ∧ x ∈ L := by
  have hp : 0 < L.length := List.length_pos_iff.mpr h0
  obtain ⟨d, w', e, d0, d1⟩ := draw_some w (m := L.length) (by omega) (by omega)
  exact ⟨d, w', _, e, atI_get d0 d1, List.getElem_mem _⟩
end
end M
end

section
set_option linter.all false
set_option Elab.async false
set_option maxRecDepth 100000
namespace L
open D M
section
variable {r : List Nat}
theorem rot_cat {m : Int} (h0 : 0 ≤ m) (h1 : r.length ≤ 1000) : catM (cut r (some m) none) (cut r none (some m)) = some (rot r m) := by
  rw [cut_lo h0, cut_hi h0, catM_some (by rw [List.length_drop, List.length_take]; omega)]; rfl
end
theorem rot_rot {r : List Nat} {a b : Nat} (ha : a < r.length) (hb : b < r.length) : rot (rot r a) b = rot r (((a + b) % r.length : Nat) : Int) := by
  have hn : 0 < r.length := by omega
  have hm := Nat.mod_lt (a + b) hn
  apply List.ext_getElem?
  intro i
  by_cases hi : i < r.length
  · rw [rot_get (rot r a) b (by rw [rot_length]; omega) i (by rw [rot_length]; exact hi), rot_length, rot_get r a (by omega) _ (Nat.mod_lt _ hn), rot_get r _ (by omega) i hi]
    congr 1
    rw [Nat.mod_add_mod, Nat.add_mod_mod]
    congr 1; omega
  · rw [List.getElem?_eq_none (by rw [rot_length, rot_length]; omega), List.getElem?_eq_none (by rw [rot_length]; omega)]
def turnsOf (r : List Nat) : List (List Nat) := (List.range r.length).map fun (k : Nat) => rot r k
theorem mem_turns {r x : List Nat} : x ∈ turnsOf r ↔ ∃ k : Nat, k < r.length ∧ x = rot r k := by
  unfold turnsOf
  rw [List.mem_map]
  constructor
  · rintro ⟨k, hk, rfl⟩; exact ⟨k, List.mem_range.mp hk, rfl⟩
  · rintro ⟨k, hk, rfl⟩; exact ⟨k, List.mem_range.mpr hk, rfl⟩
theorem turns_length (r : List Nat) : (turnsOf r).length = r.length := by simp [turnsOf]
theorem rot_zero (r : List Nat) : rot r 0 = r := by simp [rot]
theorem turns_sub {r x y : List Nat} (hx : x ∈ turnsOf r) (hy : y ∈ turnsOf x) : y ∈ turnsOf r := by
  obtain ⟨a, ha, rfl⟩ := mem_turns.mp hx
  obtain ⟨b, hb, rfl⟩ := mem_turns.mp hy
  rw [rot_length] at hb
  exact mem_turns.mpr ⟨(a + b) % r.length, Nat.mod_lt _ (by omega), rot_rot ha hb⟩
theorem turns_sym {r x : List Nat} (hx : x ∈ turnsOf r) : r ∈ turnsOf x := by
  obtain ⟨a, ha, rfl⟩ := mem_turns.mp hx
  refine mem_turns.mpr ⟨(r.length - a) % r.length, by rw [rot_length]; exact Nat.mod_lt _ (by omega), ?_⟩
  rw [rot_rot ha (Nat.mod_lt _ (by omega)), Nat.add_mod_mod, show a + (r.length - a) = r.length by omega, Nat.mod_self]
  exact (rot_zero r).symm
theorem turns_self {r : List Nat} (h : 0 < r.length) : r ∈ turnsOf r := mem_turns.mpr ⟨0, h, (rot_zero r).symm⟩
theorem turns_iff {r x : List Nat} (hx : x ∈ turnsOf r) (y : List Nat) : y ∈ turnsOf x ↔ y ∈ turnsOf r := ⟨turns_sub hx, turns_sub (turns_sym hx)⟩
theorem minM_spec {α : Type} {lt : α → α → Bool} (h : Lto lt) : ∀ (x : α) (xs : List α), ∃ m, minM lt (x :: xs) = some m ∧ m ∈ x :: xs ∧ ∀ y ∈ x :: xs, lt y m = false := by
  intro x xs
  refine ⟨_, rfl, ?_⟩
  induction xs generalizing x with
  | nil => exact ⟨List.mem_singleton.mpr rfl, fun y hy => by rw [List.mem_singleton] at hy; subst hy; exact h.irr y⟩
  | cons z zs ih =>
    rw [List.foldl_cons]
    obtain ⟨h1, h2⟩ := ih (if lt z x = true then z else x)
    refine ⟨?_, fun y hy => ?_⟩
    · rcases List.mem_cons.mp h1 with e | e
      · rw [e]; split <;> simp
      · exact List.mem_cons_of_mem _ (List.mem_cons_of_mem _ e)
    · have hh := h2 _ List.mem_cons_self
      generalize List.foldl (fun a y => if lt y a = true then y else a) (if lt z x = true then z else x) zs = m at h1 h2 hh
      have key : ∀ y, lt y (if lt z x = true then z else x) = false → lt y m = false := fun y hy => by
        cases e : lt y m with
        | false => rfl
        | true =>
          exfalso
          -- y < m, not (first < m): then y < first, unless first = m
          have h3 : lt m (if lt z x = true then z else x) = false → False := fun h3 => by
            have := h.tot _ _ h3 hh
            rw [this] at e; rw [e] at hy; cases hy
          cases e2 : lt m (if lt z x = true then z else x) with
          | false => exact h3 e2
          | true => rw [h.tr _ _ _ e e2] at hy; cases hy
      rcases List.mem_cons.mp hy with rfl | hy
      · apply key
        split
        · rename_i e; exact h.asym e
        · exact h.irr _
      · rcases List.mem_cons.mp hy with rfl | hy
        · apply key
          split
          · exact h.irr _
          · rename_i e; simpa using e
        · exact h2 y (List.mem_cons_of_mem _ hy)
theorem minM_of {α : Type} {lt : α → α → Bool} (h : Lto lt) {xs : List α} {m : α} (hm : m ∈ xs) (hl : ∀ y ∈ xs, lt y m = false) : minM lt xs = some m := by
  cases xs with
  | nil => cases hm
  | cons x xs =>
    obtain ⟨m', e, h1, h2⟩ := minM_spec h x xs
    rw [e, h.tot m' m (hl m' h1) (h2 m hm)]
theorem ltoS : Lto ltS := by
  refine ⟨fun a => ?_, fun a => ?_, fun a => ?_⟩
  · induction a with
    | nil => rfl
    | cons x xs ih => simp [ltS, ih]
  · induction a with
    | nil =>
      intro b c h1 h2
      cases b with
      | nil => simp [ltS] at h1
      | cons y ys => cases c with
        | nil => simp [ltS] at h2
        | cons => rfl
    | cons x xs ih =>
      intro b c h1 h2
      cases b with
      | nil => simp [ltS] at h1
      | cons y ys =>
        cases c with
        | nil => simp [ltS] at h2
        | cons z zs =>
          simp only [ltS] at h1 h2 ⊢
          by_cases e1 : x = y
          · subst e1
            by_cases e2 : x = z
            · subst e2
              rw [if_pos rfl] at h1 h2 ⊢
              exact ih ys zs h1 h2
            · rw [if_neg e2] at h2 ⊢; exact h2
          · rw [if_neg e1] at h1
            by_cases e2 : y = z
            · subst e2; rw [if_neg e1]; exact h1
            · rw [if_neg e2] at h2
              simp only [decide_eq_true_eq] at h1 h2
              rw [if_neg (by omega)]
              simp; omega
  · induction a with
    | nil =>
      intro b h1 h2
      cases b with
      | nil => rfl
      | cons => simp [ltS] at h1
    | cons x xs ih =>
      intro b h1 h2
      cases b with
      | nil => simp [ltS] at h2
      | cons y ys =>
        simp only [ltS] at h1 h2
        by_cases e1 : x = y
        · subst e1
          rw [if_pos rfl] at h1 h2
          rw [ih ys h1 h2]
        · rw [if_neg e1] at h1
          rw [if_neg (Ne.symm e1)] at h2
          simp at h1 h2
          omega
theorem ltoP {α β : Type} [DecidableEq α] [DecidableEq β] {l : α → α → Bool} {k : β → β → Bool} (h : Lto l) (g : Lto k) : Lto (ltP l k) := by
  refine ⟨fun a => by simp [ltP], fun a b c h1 h2 => ?_, fun a b h1 h2 => ?_⟩
  · obtain ⟨a1, a2⟩ := a
    obtain ⟨b1, b2⟩ := b
    obtain ⟨c1, c2⟩ := c
    simp only [ltP] at *
    by_cases e1 : a1 = b1
    · subst e1
      rw [if_pos rfl] at h1
      by_cases e2 : a1 = c1
      · subst e2
        rw [if_pos rfl] at h2 ⊢
        split at h1
        · cases h1
        · split at h2
          · cases h2
          · have := g.tr _ _ _ h1 h2
            rw [if_neg (fun e => by subst e; rw [g.irr] at this; cases this)]
            exact this
      · rw [if_neg e2] at h2 ⊢; exact h2
    · rw [if_neg e1] at h1
      by_cases e2 : b1 = c1
      · subst e2; rw [if_neg e1]; exact h1
      · rw [if_neg e2] at h2
        have := h.tr _ _ _ h1 h2
        rw [if_neg (fun e => by subst e; rw [h.irr] at this; cases this)]
        exact this
  · obtain ⟨a1, a2⟩ := a
    obtain ⟨b1, b2⟩ := b
    simp only [ltP] at h1 h2
    by_cases e1 : a1 = b1
    · subst e1
      rw [if_pos rfl] at h1 h2
      by_cases e2 : a2 = b2
      · rw [e2]
      · rw [if_neg e2] at h1
        rw [if_neg (Ne.symm e2)] at h2
        rw [g.tot _ _ h1 h2]
    · rw [if_neg e1] at h1
      rw [if_neg (Ne.symm e1)] at h2
      exact absurd (h.tot _ _ h1 h2) e1
def pw (u : List Nat) (k : Nat) : List Nat := (List.replicate k u).flatten
theorem pw_succ (u : List Nat) (k : Nat) : pw u (k + 1) = u ++ pw u k := by simp [pw, List.replicate_succ]
theorem pw_len (u : List Nat) (k : Nat) : (pw u k).length = k * u.length := by
  induction k with
  | zero => simp [pw]
  | succ k ih => rw [pw_succ, List.length_append, ih, Nat.succ_mul]; omega
theorem pw_comm (u : List Nat) (k : Nat) : pw u k ++ u = u ++ pw u k := by
  induction k with
  | zero => simp [pw]
  | succ k ih => rw [pw_succ, List.append_assoc, ih]
theorem comm_pw {u : List Nat} : ∀ (k : Nat) (v : List Nat), v.length = k * u.length → v ++ u = u ++ v → v = pw u k
  | 0, v, h, _ => by
    have : v.length = 0 := by simpa using h
    rw [List.eq_nil_of_length_eq_zero this]; rfl
  | k + 1, v, h, e => by
    have hl : u.length ≤ v.length := by rw [h, Nat.succ_mul]; omega
    have h1 : v.take u.length = u := by
      have := congrArg (List.take u.length) e
      rw [List.take_append_of_le_length hl, List.take_append_of_le_length (Nat.le_refl _), List.take_length] at this
      exact this
    have h2 : v = u ++ v.drop u.length := by
      conv => lhs; rw [← List.take_append_drop u.length v, h1]
    rw [pw_succ, h2]
    congr 1
    refine comm_pw k _ (by rw [List.length_drop, h, Nat.succ_mul]; omega) ?_
    rw [h2, List.append_assoc] at e
    have := List.append_cancel_left e
    rw [← h2] at this
    rw [this]
    exact h2
def isPw (r : List Nat) (s : Nat) : Bool := decide (pw (r.take s) (r.length / s) = r)
theorem pw_rot {r : List Nat} {s : Nat} (h0 : 1 ≤ s) (h1 : s < r.length) : (r.length % s = 0 ∧ rot r s = r) ↔ isPw r s = true := by
  have hu : (r.take s).length = s := by rw [List.length_take]; omega
  unfold isPw
  rw [decide_eq_true_eq]
  constructor
  · rintro ⟨hd, hr⟩
    obtain ⟨k, hk⟩ : ∃ k, r.length = (k + 1) * s := by
      obtain ⟨q, hq⟩ := Nat.dvd_of_mod_eq_zero hd
      cases q with
      | zero => omega
      | succ q => exact ⟨q, by rw [hq, Nat.mul_comm]⟩
    have hq : r.length / s = k + 1 := by rw [hk, Nat.mul_div_cancel _ (by omega)]
    rw [hq, pw_succ]
    have hr' : r.drop s ++ r.take s = r := by have := hr; unfold rot at this; rw [Int.toNat_natCast] at this; exact this
    have hv : r.drop s = pw (r.take s) k := by
      refine comm_pw k _ (by rw [List.length_drop, hu, hk, Nat.succ_mul]; omega) ?_
      rw [hr', List.take_append_drop]
    rw [← hv, List.take_append_drop]
  · intro h
    have hl := congrArg List.length h
    rw [pw_len, hu] at hl
    refine ⟨by rw [← hl]; exact Nat.mul_mod_left _ _, ?_⟩
    obtain ⟨k, hk⟩ : ∃ k, r.length / s = k + 1 := ⟨r.length / s - 1, by
      have : 0 < r.length / s := Nat.div_pos (by omega) (by omega)
      omega⟩
    rw [hk, pw_succ] at h
    have hd : r.drop s = pw (r.take s) k := by
      conv => lhs; rw [← h]
      rw [List.drop_left' hu]
    unfold rot
    rw [Int.toNat_natCast, hd, pw_comm]; exact h
theorem pw_only {r : List Nat} {s m : Nat} (h0 : 1 ≤ s) (h1 : s ≤ r.length) (h : pw (r.take s) m = r) : m = r.length / s ∧ isPw r s = true := by
  have hu : (r.take s).length = s := by rw [List.length_take]; omega
  have hl := congrArg List.length h
  rw [pw_len, hu] at hl
  have : m = r.length / s := by rw [← hl, Nat.mul_div_cancel _ (by omega)]
  exact ⟨this, by unfold isPw; rw [← this, h]; simp⟩
theorem isPw_self {r : List Nat} (h : 0 < r.length) : isPw r r.length = true := by
  unfold isPw
  rw [Nat.div_self h, List.take_length, decide_eq_true_eq]; simp [pw]
theorem loopO_find {α ρ : Type} {f : α → Unit → Option (Ctl Unit ρ)} {p : α → Bool} {g : α → ρ} : ∀ (xs : List α), (∀ x ∈ xs, f x () = if p x = true then some (.rt (g x)) else some (.nx ())) → loopO f xs () = some (match xs.find? p with | some x => .inr (g x) | none => .inl ())
  | [], _ => rfl
  | x :: xs, h => by
    rw [loopO, h x List.mem_cons_self, List.find?_cons]
    cases e : p x with
    | true => rfl
    | false => exact loopO_find xs fun y hy => h y (List.mem_cons_of_mem _ hy)
theorem lcF_filter {α β : Type} {f : α → Option (Option β)} {p : α → Bool} {g : α → β} {xs : List α} (hl : xs.length < 16777216) (h : ∀ x ∈ xs, f x = if p x = true then some (some (g x)) else some none) : lcF f xs = some ((xs.filter p).map g) := by
  rw [lcF, if_pos (by rw [line_eq]; exact hl)]
  clear hl
  induction xs with
  | nil => rfl
  | cons x xs ih =>
    rw [lcM, h x List.mem_cons_self, ih fun y hy => h y (List.mem_cons_of_mem _ hy), List.filter_cons]
    cases p x <;> simp
theorem filter_one {α : Type} [DecidableEq α] {p : α → Bool} {a : α} : ∀ {xs : List α}, xs.Nodup → a ∈ xs → (∀ x ∈ xs, p x = true ↔ x = a) → xs.filter p = [a]
  | [], _, h, _ => by cases h
  | x :: xs, hn, h, hp => by
    have hn' := List.nodup_cons.mp hn
    rw [List.filter_cons]
    by_cases e : x = a
    · subst e
      rw [if_pos ((hp x List.mem_cons_self).mpr rfl)]
      congr 1
      exact List.filter_eq_nil_iff.mpr fun y hy hpy => by
        have := (hp y (List.mem_cons_of_mem _ hy)).mp hpy
        subst this; exact hn'.1 hy
    · rw [if_neg (fun z => e ((hp x List.mem_cons_self).mp z))]
      rcases List.mem_cons.mp h with h | h
      · exact absurd h.symm e
      · exact filter_one hn'.2 h fun y hy => hp y (List.mem_cons_of_mem _ hy)
theorem rng_split {a b c : Int} (h1 : a ≤ b) (h2 : b ≤ c) : rng a c = rng a b ++ rng b c := by
  obtain ⟨k, hk⟩ : ∃ k : Nat, b = a + k := ⟨(b - a).toNat, by omega⟩
  induction k generalizing a with
  | zero =>
    have : b = a := by omega
    subst this
    rw [rng_nil (Int.le_refl _)]; rfl
  | succ k ih =>
    rw [rng_cons (by omega), rng_cons (show a < b by omega), ih (a := a + 1) (by omega) (by omega)]; rfl
theorem idxM_none {α : Type} [DecidableEq α] {xs : List α} {y : α} (h : y ∉ xs) : idxM xs y = none := by
  unfold idxM
  have : ∀ xs : List α, y ∉ xs → xs.idxOf? y = none := by
    intro xs
    induction xs with
    | nil => intro _; rfl
    | cons x xs ih =>
      intro h
      rw [List.idxOf?_cons, ih fun z => h (List.mem_cons_of_mem _ z)]
      have : ¬ (x == y) = true := by
        have hn : ¬ x = y := fun e => h (e ▸ List.mem_cons_self)
        simpa using hn
      simp [this]
  rw [this xs h]; rfl
theorem idxM_some {α : Type} [DecidableEq α] {xs : List α} {y : α} (h : y ∈ xs) : ∃ i : Nat, ∃ hi : i < xs.length, idxM xs y = some (i : Int) ∧ xs[i] = y ∧ ∀ j, (hj : j < i) → xs[j]'(by omega) ≠ y := by
  have : ∀ xs : List α, y ∈ xs → ∃ i : Nat, ∃ hi : i < xs.length, xs.idxOf? y = some i ∧ xs[i] = y ∧ ∀ j, (hj : j < i) → xs[j]'(by omega) ≠ y := by
    intro xs
    induction xs with
    | nil => intro h; cases h
    | cons x xs ih =>
      intro h
      by_cases e : x = y
      · subst e
        exact ⟨0, by simp, by simp [List.idxOf?_cons], rfl, fun j hj => by omega⟩
      · obtain ⟨i, hi, h1, h2, h3⟩ := ih (by rcases List.mem_cons.mp h with h | h; exact absurd h.symm e; exact h)
        refine ⟨i + 1, by simp; omega, ?_, by simpa using h2, fun j hj => ?_⟩
        · have : ¬ (x == y) = true := by simpa using e
          rw [List.idxOf?_cons, h1]; simp [this]
        · cases j with
          | zero => simpa using e
          | succ j => simpa using h3 j (by omega)
  obtain ⟨i, hi, h1, h2, h3⟩ := this xs h
  exact ⟨i, hi, by unfold idxM; rw [h1]; rfl, h2, h3⟩
section
variable {r : List Nat}
theorem rng_map (r : List Nat) : (rng 0 r.length).map (fun k => rot r k) = turnsOf r := by
  unfold turnsOf rng
  rw [List.map_map, Int.sub_zero, Int.toNat_natCast]
  apply List.map_congr_left
  intro k _
  simp
theorem atI_zero {α : Type} (x : α) (xs : List α) : atI (x :: xs) 0 = some x := by
  rw [atI_get (by omega) (by simp)]; rfl
/-- the least length of a root -/
def rootN (r : List Nat) : Int := ((rng 1 (r.length + 1)).find? fun s => isPw r s.toNat).getD 0
def rootV (r : List Nat) : List Nat × Int := (r.take (rootN r).toNat, (r.length : Int) / rootN r)
theorem find_split (h : 0 < r.length) : (rng 1 (r.length + 1)).find? (fun s => isPw r s.toNat) = some (((rng 1 r.length).find? fun s => isPw r s.toNat).getD r.length) := by
  rw [rng_split (b := r.length) (by omega) (by omega), List.find?_append, rng_cons (show (r.length : Int) < r.length + 1 by omega), rng_nil (Int.le_refl _)]
  have : isPw r r.length = true := isPw_self h
  cases (rng 1 r.length).find? fun s => isPw r s.toNat <;> simp [this]
structure Least (r m : List Nat) : Prop where
  min : minM ltS (turnsOf r) = some m
  mem : m ∈ turnsOf r
  le : ∀ y ∈ turnsOf r, ltS y m = false
theorem least_ex (h : 0 < r.length) : ∃ m, Least r m := by
  have : turnsOf r ≠ [] := by
    intro e
    have := turns_length r
    rw [e] at this; simp at this; omega
  cases e : turnsOf r with
  | nil => exact absurd e this
  | cons x xs =>
    obtain ⟨m, h1, h2, h3⟩ := minM_spec ltoS x xs
    exact ⟨m, by rw [e]; exact h1, by rw [e]; exact h2, by rw [e]; exact h3⟩
/-- the least turn with its place -/
theorem least_pair {m : List Nat} (h : Least r m) : ∃ i : Nat, minM (ltP ltS ltI) ((rng 0 r.length).map fun k => (rot r k, k)) = some (m, (i : Int)) ∧ idxM (turnsOf r) m = some (i : Int) ∧ i < r.length ∧ rot r i = m := by
  obtain ⟨i, hi, e1, e2, e3⟩ := idxM_some h.mem
  rw [turns_length] at hi
  have gt : ∀ (j : Nat) (hj : j < (turnsOf r).length), (turnsOf r)[j] = rot r j := fun j hj => by simp [turnsOf]
  have hmr : m = rot r i := by rw [← e2, gt]
  refine ⟨i, ?_, e1, hi, hmr.symm⟩
  refine minM_of (ltoP ltoS ltoI) (List.mem_map.mpr ⟨(i : Int), mem_rng.mpr (by omega), by rw [hmr]⟩) fun y hy => ?_
  obtain ⟨k, hk, rfl⟩ := List.mem_map.mp hy
  obtain ⟨k0, k1⟩ := mem_rng.mp hk
  obtain ⟨j, rfl⟩ : ∃ j : Nat, k = j := ⟨k.toNat, by omega⟩
  unfold ltP
  by_cases he : rot r j = m
  · rw [if_pos he]
    split
    · rfl
    · rename_i hne
      have : ¬ j < i := fun hj => e3 j hj (by rw [gt]; exact he)
      simp [ltI]; omega
  · rw [if_neg he]
    exact h.le _ (mem_turns.mpr ⟨j, by omega, rfl⟩)
/-- places that bring the ring back -/
def back (r : List Nat) (k : Nat) : Prop := rot r k = r
theorem back_sub {a b : Nat} (ha : a < r.length) (hb : b ≤ a) (h1 : back r a) (h2 : back r b) : back r (a - b) := by
  unfold back at *
  by_cases h0 : b = 0
  · subst h0; exact h1
  have e1 := rot_rot (r := r) (a := b) (b := a - b) (by omega) (by omega)
  rw [h2, show b + (a - b) = a by omega, Nat.mod_eq_of_lt ha, h1] at e1
  exact e1
theorem back_neg {a : Nat} (ha : a < r.length) (h0 : 0 < a) (h1 : back r a) : back r (r.length - a) := by
  unfold back at *
  have e1 := rot_rot (r := r) (a := a) (b := r.length - a) (by omega) (by omega)
  rw [h1, show a + (r.length - a) = r.length by omega, Nat.mod_self] at e1
  rw [e1]; exact rot_zero r
theorem back_mod {a : Nat} (h0 : 0 < a) (h1 : back r a) : ∀ (k b : Nat), b ≤ k → b < r.length → back r b → back r (b % a)
  | 0, b, h, hb, hk => by
    have : b = 0 := by omega
    subst this; simpa using hk
  | k + 1, b, h, hb, hk => by
    by_cases hl : b < a
    · rw [Nat.mod_eq_of_lt hl]; exact hk
    · rw [Nat.mod_eq_sub_mod (by omega)]
      exact back_mod h0 h1 k (b - a) (by omega) (by omega) (back_sub hb (by omega) hk h1)
/-- if some turn is the ring, then one by a divisor -/
theorem back_div {k : Nat} (h0 : 0 < k) (hk : k < r.length) (h : back r k) : ∃ s, 0 < s ∧ s < r.length ∧ r.length % s = 0 ∧ back r s := by
  have key : ∀ n k : Nat, k ≤ n → 0 < k → k < r.length → back r k → ∃ s, 0 < s ∧ s < r.length ∧ r.length % s = 0 ∧ back r s := by
    intro n
    induction n with
    | zero => intro k hn h0 hk h; omega
    | succ n ih =>
      intro k hn h0 hk h
      by_cases hm : r.length % k = 0
      · exact ⟨k, h0, hk, hm, h⟩
      · have hlt := Nat.mod_lt r.length h0
        refine ih (r.length % k) (by omega) (by omega) (by omega) ?_
        have := back_mod h0 h (r.length - k) (r.length - k) (Nat.le_refl _) (by omega) (back_neg hk h0 h)
        rw [← Nat.mod_eq_sub_mod (by omega)] at this
        exact this
  exact key k k (Nat.le_refl _) h0 hk h
theorem cnt_turns (h : 0 < r.length) : cntM (turnsOf r) r = 1 ↔ ∀ k, 0 < k → k < r.length → rot r k ≠ r := by
  obtain ⟨n, hn⟩ : ∃ n, r.length = n + 1 := ⟨r.length - 1, by omega⟩
  have e : cntM (turnsOf r) r = 1 + (((List.range n).countP fun k => decide (rot r ((k + 1 : Nat) : Int) = r) : Nat) : Int) := by
    unfold cntM turnsOf
    rw [hn, List.range_succ_eq_map, List.map_cons, List.countP_cons, List.map_map, List.countP_map]
    have : decide (rot r ((0 : Nat) : Int) = r) = true := decide_eq_true (rot_zero r)
    rw [if_pos this]
    have e2 : ((fun x => decide (x = r)) ∘ ((fun k : Nat => rot r (k : Int)) ∘ Nat.succ)) = fun k : Nat => decide (rot r ((k + 1 : Nat) : Int) = r) := rfl
    rw [e2]
    omega
  rw [e]
  constructor
  · intro h1 k hk hl hb
    have h2 : (List.range n).countP (fun k => decide (rot r ((k + 1 : Nat) : Int) = r)) = 0 := by omega
    rw [List.countP_eq_zero] at h2
    have := h2 (k - 1) (List.mem_range.mpr (by omega))
    rw [show k - 1 + 1 = k by omega] at this
    exact this (decide_eq_true hb)
  · intro h1
    have h2 : (List.range n).countP (fun k => decide (rot r ((k + 1 : Nat) : Int) = r)) = 0 := by
      rw [List.countP_eq_zero]
      intro k hk
      have := h1 (k + 1) (by omega) (by have := List.mem_range.mp hk; omega)
      simpa using this
    omega
theorem rootV_one (h : 0 < r.length) : (rootV r).2 = 1 ↔ ∀ k, 0 < k → k < r.length → rot r k ≠ r := by
  have hf := find_split h
  unfold rootV rootN
  rw [hf]
  cases e : (rng 1 r.length).find? fun s => isPw r s.toNat with
  | none =>
    show (r.length : Int) / (r.length : Int) = 1 ↔ _
    rw [Int.ediv_self (by omega)]
    refine ⟨fun _ k h0 hk hb => ?_, fun _ => rfl⟩
    obtain ⟨s, s0, s1, s2, s3⟩ := back_div h0 hk hb
    have := List.find?_eq_none.mp e (s : Int) (mem_rng.mpr (by omega))
    rw [Int.toNat_natCast] at this
    exact this ((pw_rot (by omega) s1).mp ⟨s2, s3⟩)
  | some s =>
    show (r.length : Int) / s = 1 ↔ _
    have hs := List.mem_of_find?_eq_some e
    have hp := List.find?_some e
    obtain ⟨s0, s1⟩ := mem_rng.mp hs
    obtain ⟨k, rfl⟩ : ∃ k : Nat, s = k := ⟨s.toNat, by omega⟩
    rw [Int.toNat_natCast] at hp
    obtain ⟨h1, h2⟩ := (pw_rot (r := r) (s := k) (by omega) (by omega)).mpr hp
    constructor
    · intro h3
      exfalso
      have h4 : k * (r.length / k) = r.length := by
        have := Nat.div_add_mod r.length k
        omega
      have h5 : r.length / k = 1 := by
        have : ((r.length / k : Nat) : Int) = 1 := by rw [Int.natCast_ediv]; exact h3
        omega
      rw [h5] at h4
      omega
    · intro h3
      exact absurd h2 (h3 k (by omega) (by omega))
end
end L
end

section
set_option linter.all false
set_option Elab.async false
set_option maxRecDepth 100000
namespace LP
open D M
section
variable {α : Type} [DecidableEq α]
def rot (r : List α) (m : Int) : List α := r.drop m.toNat ++ r.take m.toNat
theorem rot_length (r : List α) (m : Int) : (rot r m).length = r.length := by
  unfold rot; rw [List.length_append, List.length_drop, List.length_take]; omega

theorem rot_get (r : List α) (m : Nat) (hm : m ≤ r.length) (i : Nat) (h : i < r.length) : (rot r m)[i]? = r[(i + m) % r.length]? := by
  unfold rot
  rw [Int.toNat_natCast]
  rcases Nat.lt_or_ge (i + m) r.length with h1 | h1
  · rw [List.getElem?_append_left (by rw [List.length_drop]; omega), List.getElem?_drop, Nat.mod_eq_of_lt h1]
    congr 1; omega
  · rw [List.getElem?_append_right (by rw [List.length_drop]; omega), List.length_drop, List.getElem?_take, if_pos (by omega)]
    congr 1
    rw [Nat.mod_eq_sub_mod h1, Nat.mod_eq_of_lt (by omega)]; omega

theorem rot_rot {r : List α} {a b : Nat} (ha : a < r.length) (hb : b < r.length) : rot (rot r a) b = rot r (((a + b) % r.length : Nat) : Int) := by
  have hn : 0 < r.length := by omega
  have hm := Nat.mod_lt (a + b) hn
  apply List.ext_getElem?
  intro i
  by_cases hi : i < r.length
  · rw [rot_get (rot r a) b (by rw [rot_length]; omega) i (by rw [rot_length]; exact hi), rot_length, rot_get r a (by omega) _ (Nat.mod_lt _ hn), rot_get r _ (by omega) i hi]
    congr 1
    rw [Nat.mod_add_mod, Nat.add_mod_mod]
    congr 1; omega
  · rw [List.getElem?_eq_none (by rw [rot_length, rot_length]; omega), List.getElem?_eq_none (by rw [rot_length]; omega)]
def turnsOf (r : List α) : List (List α) := (List.range r.length).map fun (k : Nat) => rot r k
theorem mem_turns {r x : List α} : x ∈ turnsOf r ↔ ∃ k : Nat, k < r.length ∧ x = rot r k := by
  unfold turnsOf
  rw [List.mem_map]
  constructor
  · rintro ⟨k, hk, rfl⟩; exact ⟨k, List.mem_range.mp hk, rfl⟩
  · rintro ⟨k, hk, rfl⟩; exact ⟨k, List.mem_range.mpr hk, rfl⟩
theorem turns_length (r : List α) : (turnsOf r).length = r.length := by simp [turnsOf]
theorem rot_zero (r : List α) : rot r 0 = r := by simp [rot]
theorem turns_sub {r x y : List α} (hx : x ∈ turnsOf r) (hy : y ∈ turnsOf x) : y ∈ turnsOf r := by
  obtain ⟨a, ha, rfl⟩ := mem_turns.mp hx
  obtain ⟨b, hb, rfl⟩ := mem_turns.mp hy
  rw [rot_length] at hb
  exact mem_turns.mpr ⟨(a + b) % r.length, Nat.mod_lt _ (by omega), rot_rot ha hb⟩
theorem turns_sym {r x : List α} (hx : x ∈ turnsOf r) : r ∈ turnsOf x := by
  obtain ⟨a, ha, rfl⟩ := mem_turns.mp hx
  refine mem_turns.mpr ⟨(r.length - a) % r.length, by rw [rot_length]; exact Nat.mod_lt _ (by omega), ?_⟩
  rw [rot_rot ha (Nat.mod_lt _ (by omega)), Nat.add_mod_mod, show a + (r.length - a) = r.length by omega, Nat.mod_self]
  exact (rot_zero r).symm
theorem turns_self {r : List α} (h : 0 < r.length) : r ∈ turnsOf r := mem_turns.mpr ⟨0, h, (rot_zero r).symm⟩
theorem turns_iff {r x : List α} (hx : x ∈ turnsOf r) (y : List α) : y ∈ turnsOf x ↔ y ∈ turnsOf r := ⟨turns_sub hx, turns_sub (turns_sym hx)⟩

def pw (u : List α) (k : Nat) : List α := (List.replicate k u).flatten
theorem pw_succ (u : List α) (k : Nat) : pw u (k + 1) = u ++ pw u k := by simp [pw, List.replicate_succ]
theorem pw_len (u : List α) (k : Nat) : (pw u k).length = k * u.length := by
  induction k with
  | zero => simp [pw]
  | succ k ih => rw [pw_succ, List.length_append, ih, Nat.succ_mul]; omega
theorem pw_comm (u : List α) (k : Nat) : pw u k ++ u = u ++ pw u k := by
  induction k with
  | zero => simp [pw]
  | succ k ih => rw [pw_succ, List.append_assoc, ih]
theorem comm_pw {u : List α} : ∀ (k : Nat) (v : List α), v.length = k * u.length → v ++ u = u ++ v → v = pw u k
  | 0, v, h, _ => by
    have : v.length = 0 := by simpa using h
    rw [List.eq_nil_of_length_eq_zero this]; rfl
  | k + 1, v, h, e => by
    have hl : u.length ≤ v.length := by rw [h, Nat.succ_mul]; omega
    have h1 : v.take u.length = u := by
      have := congrArg (List.take u.length) e
      rw [List.take_append_of_le_length hl, List.take_append_of_le_length (Nat.le_refl _), List.take_length] at this
      exact this
    have h2 : v = u ++ v.drop u.length := by
      conv => lhs; rw [← List.take_append_drop u.length v, h1]
    rw [pw_succ, h2]
    congr 1
    refine comm_pw k _ (by rw [List.length_drop, h, Nat.succ_mul]; omega) ?_
    rw [h2, List.append_assoc] at e
    have := List.append_cancel_left e
    rw [← h2] at this
    rw [this]
    exact h2
def isPw (r : List α) (s : Nat) : Bool := decide (pw (r.take s) (r.length / s) = r)
theorem pw_rot {r : List α} {s : Nat} (h0 : 1 ≤ s) (h1 : s < r.length) : (r.length % s = 0 ∧ rot r s = r) ↔ isPw r s = true := by
  have hu : (r.take s).length = s := by rw [List.length_take]; omega
  unfold isPw
  rw [decide_eq_true_eq]
  constructor
  · rintro ⟨hd, hr⟩
    obtain ⟨k, hk⟩ : ∃ k, r.length = (k + 1) * s := by
      obtain ⟨q, hq⟩ := Nat.dvd_of_mod_eq_zero hd
      cases q with
      | zero => omega
      | succ q => exact ⟨q, by rw [hq, Nat.mul_comm]⟩
    have hq : r.length / s = k + 1 := by rw [hk, Nat.mul_div_cancel _ (by omega)]
    rw [hq, pw_succ]
    have hr' : r.drop s ++ r.take s = r := by have := hr; unfold rot at this; rw [Int.toNat_natCast] at this; exact this
    have hv : r.drop s = pw (r.take s) k := by
      refine comm_pw k _ (by rw [List.length_drop, hu, hk, Nat.succ_mul]; omega) ?_
      rw [hr', List.take_append_drop]
    rw [← hv, List.take_append_drop]
  · intro h
    have hl := congrArg List.length h
    rw [pw_len, hu] at hl
    refine ⟨by rw [← hl]; exact Nat.mul_mod_left _ _, ?_⟩
    obtain ⟨k, hk⟩ : ∃ k, r.length / s = k + 1 := ⟨r.length / s - 1, by
      have : 0 < r.length / s := Nat.div_pos (by omega) (by omega)
      omega⟩
    rw [hk, pw_succ] at h
    have hd : r.drop s = pw (r.take s) k := by
      conv => lhs; rw [← h]
      rw [List.drop_left' hu]
    unfold rot
    rw [Int.toNat_natCast, hd, pw_comm]; exact h
theorem pw_only {r : List α} {s m : Nat} (h0 : 1 ≤ s) (h1 : s ≤ r.length) (h : pw (r.take s) m = r) : m = r.length / s ∧ isPw r s = true := by
  have hu : (r.take s).length = s := by rw [List.length_take]; omega
  have hl := congrArg List.length h
  rw [pw_len, hu] at hl
  have : m = r.length / s := by rw [← hl, Nat.mul_div_cancel _ (by omega)]
  exact ⟨this, by unfold isPw; rw [← this, h]; simp⟩
theorem isPw_self {r : List α} (h : 0 < r.length) : isPw r r.length = true := by
  unfold isPw
  rw [Nat.div_self h, List.take_length, decide_eq_true_eq]; simp [pw]
section
variable {r : List α}
/-- places that bring the ring back -/
def back (r : List α) (k : Nat) : Prop := rot r k = r
theorem back_sub {a b : Nat} (ha : a < r.length) (hb : b ≤ a) (h1 : back r a) (h2 : back r b) : back r (a - b) := by
  unfold back at *
  by_cases h0 : b = 0
  · subst h0; exact h1
  have e1 := rot_rot (r := r) (a := b) (b := a - b) (by omega) (by omega)
  rw [h2, show b + (a - b) = a by omega, Nat.mod_eq_of_lt ha, h1] at e1
  exact e1
theorem back_neg {a : Nat} (ha : a < r.length) (h0 : 0 < a) (h1 : back r a) : back r (r.length - a) := by
  unfold back at *
  have e1 := rot_rot (r := r) (a := a) (b := r.length - a) (by omega) (by omega)
  rw [h1, show a + (r.length - a) = r.length by omega, Nat.mod_self] at e1
  rw [e1]; exact rot_zero r
theorem back_mod {a : Nat} (h0 : 0 < a) (h1 : back r a) : ∀ (k b : Nat), b ≤ k → b < r.length → back r b → back r (b % a)
  | 0, b, h, hb, hk => by
    have : b = 0 := by omega
    subst this; simpa using hk
  | k + 1, b, h, hb, hk => by
    by_cases hl : b < a
    · rw [Nat.mod_eq_of_lt hl]; exact hk
    · rw [Nat.mod_eq_sub_mod (by omega)]
      exact back_mod h0 h1 k (b - a) (by omega) (by omega) (back_sub hb (by omega) hk h1)
/-- if some turn is the ring, then one by a divisor -/
theorem back_div {k : Nat} (h0 : 0 < k) (hk : k < r.length) (h : back r k) : ∃ s, 0 < s ∧ s < r.length ∧ r.length % s = 0 ∧ back r s := by
  have key : ∀ n k : Nat, k ≤ n → 0 < k → k < r.length → back r k → ∃ s, 0 < s ∧ s < r.length ∧ r.length % s = 0 ∧ back r s := by
    intro n
    induction n with
    | zero => intro k hn h0 hk h; omega
    | succ n ih =>
      intro k hn h0 hk h
      by_cases hm : r.length % k = 0
      · exact ⟨k, h0, hk, hm, h⟩
      · have hlt := Nat.mod_lt r.length h0
        refine ih (r.length % k) (by omega) (by omega) (by omega) ?_
        have := back_mod h0 h (r.length - k) (r.length - k) (Nat.le_refl _) (by omega) (back_neg hk h0 h)
        rw [← Nat.mod_eq_sub_mod (by omega)] at this
        exact this
  exact key k k (Nat.le_refl _) h0 hk h
end
end
end LP
end

section
set_option linter.all false
set_option Elab.async false
set_option maxRecDepth 100000
namespace LP
open D M
section
variable {α : Type} [DecidableEq α] {r u : List α}
/-- no turn but the first is the sequence -/
def prim (u : List α) : Prop := u ≠ [] ∧ ∀ k : Nat, 0 < k → k < u.length → ¬ back u k
theorem pw_one (u : List α) : pw u 1 = u := by simp [pw]
theorem pw_add (u : List α) (a b : Nat) : pw u (a + b) = pw u a ++ pw u b := by
  induction a with
  | zero => simp [pw]
  | succ a ih => rw [show a + 1 + b = (a + b) + 1 by omega, pw_succ, pw_succ, ih, List.append_assoc]
theorem pw_back {u : List α} {k : Nat} (hk : 1 < k) (hu : u ≠ []) : back (pw u k) u.length := by
  unfold back rot
  rw [Int.toNat_natCast]
  obtain ⟨j, rfl⟩ : ∃ j, k = j + 1 := ⟨k - 1, by omega⟩
  rw [pw_succ, List.drop_left, List.take_left, pw_comm]
/-- a sequence with a short period is not primitive -/
theorem pw_take {u : List α} {k s : Nat} (hs : s ∣ u.length) (h0 : 0 < s) (hk : 0 < k) (hl : s < u.length) (h : isPw (pw u k) s = true) : back u s := by
  obtain ⟨q, hq⟩ := hs
  have h1 : pw ((pw u k).take s) ((pw u k).length / s) = pw u k := by simpa [isPw] using h
  obtain ⟨j, rfl⟩ : ∃ j, k = j + 1 := ⟨k - 1, by omega⟩
  have hts : (pw u (j + 1)).take s = u.take s := by rw [pw_succ, List.take_append_of_le_length (by omega)]
  rw [hts, pw_len, hq] at h1
  have e : (j + 1) * (s * q) / s = q + j * q := by
    rw [show (j + 1) * (s * q) = s * ((j + 1) * q) by rw [Nat.mul_left_comm], Nat.mul_div_cancel_left _ h0, Nat.succ_mul, Nat.add_comm]
  rw [e, pw_add] at h1
  have hl2 : (pw (u.take s) q).length = u.length := by rw [pw_len, List.length_take, Nat.min_eq_left (Nat.le_of_lt hl), Nat.mul_comm, hq]
  have h2 : pw (u.take s) q = u := by
    have a1 := congrArg (List.take u.length) h1
    have a2 : List.take u.length (pw u (j + 1)) = u := by rw [pw_succ, List.take_left]
    have a3 : List.take u.length (pw (u.take s) q ++ pw (u.take s) (j * q)) = pw (u.take s) q := by
      rw [← hl2, List.take_left]
    rw [a2, a3] at a1
    exact a1
  have hq1 : 1 < q := by
    rcases Nat.lt_or_ge 1 q with h | h
    · exact h
    · have : s * q ≤ s * 1 := Nat.mul_le_mul_left _ h
      omega
  have h3 := pw_back (u := u.take s) hq1 (by
    intro e
    have h4 : (u.take s).length = s := by rw [List.length_take, Nat.min_eq_left (Nat.le_of_lt hl)]
    rw [e] at h4
    have : 0 = s := h4
    omega)
  rw [h2, List.length_take, Nat.min_eq_left (by omega)] at h3
  exact h3
/-- the root -/
theorem root_ex (hr : r ≠ []) : ∃ u k, 0 < k ∧ prim u ∧ r = pw u k ∧ ∀ v j, 0 < j → prim v → r = pw v j → v = u := by
  have hn := List.length_pos_iff.mpr hr
  -- the least place that brings it back
  have hmin : ∃ s, 0 < s ∧ s ≤ r.length ∧ r.length % s = 0 ∧ isPw r s = true ∧ ∀ t, 0 < t → t < r.length → back r t → t % s = 0 := by
    by_cases h : ∃ t, 0 < t ∧ t < r.length ∧ back r t
    · have hw : ∃ s, (0 < s ∧ s < r.length ∧ back r s) ∧ ∀ t, 0 < t → t < s → ¬ back r t := by
        obtain ⟨t, ht⟩ := h
        have key : ∀ n t, t ≤ n → (0 < t ∧ t < r.length ∧ back r t) → ∃ s, (0 < s ∧ s < r.length ∧ back r s) ∧ ∀ t, 0 < t → t < s → ¬ back r t := by
          intro n
          induction n with
          | zero => intro t hn ht; omega
          | succ n ih =>
            intro t hn ht
            by_cases h2 : ∃ z, 0 < z ∧ z < t ∧ back r z
            · obtain ⟨z, z0, z1, z2⟩ := h2
              exact ih z (by omega) ⟨z0, by omega, z2⟩
            · exact ⟨t, ht, fun z z0 z1 z2 => h2 ⟨z, z0, z1, z2⟩⟩
        exact key t t (Nat.le_refl _) ht
      obtain ⟨s, ⟨s0, s1, s2⟩, s3⟩ := hw
      have hall : ∀ t, 0 < t → t < r.length → back r t → t % s = 0 := fun t t0 t1 t2 => by
        have := back_mod s0 s2 t t (Nat.le_refl _) t1 t2
        rcases Nat.eq_zero_or_pos (t % s) with h | h
        · exact h
        · exact absurd this (s3 _ h (Nat.mod_lt _ s0))
      have hd : r.length % s = 0 := by
        have h1 := hall (r.length - s) (by omega) (by omega) (back_neg s1 s0 s2)
        rw [← Nat.mod_eq_sub_mod (by omega)] at h1
        exact h1
      exact ⟨s, s0, by omega, hd, (pw_rot (by omega) s1).mp ⟨hd, s2⟩, hall⟩
    · exact ⟨r.length, hn, Nat.le_refl _, Nat.mod_self _, isPw_self hn, fun t t0 t1 t2 => absurd ⟨t, t0, t1, t2⟩ h⟩
  obtain ⟨s, s0, s1, s2, s3, s4⟩ := hmin
  have e : r = pw (r.take s) (r.length / s) := by
    have : pw (r.take s) (r.length / s) = r := by simpa [isPw] using s3
    exact this.symm
  have hk : 0 < r.length / s := Nat.div_pos s1 s0
  have hts : (r.take s).length = s := by rw [List.length_take, Nat.min_eq_left s1]
  have hdiv : s * (r.length / s) = r.length := by have := Nat.div_add_mod r.length s; omega
  refine ⟨r.take s, r.length / s, hk, ⟨fun z => by rw [z] at hts; have : 0 = s := hts; omega, fun k k0 k1 hb => ?_⟩, e, fun v j hj hv hp => ?_⟩
  · -- a period of the root is one of the whole
    rw [hts] at k1
    obtain ⟨t, t0, t1, t2, t3⟩ := back_div (r := r.take s) k0 (by rw [hts]; exact k1) hb
    rw [hts] at t1 t2
    have h1 := (pw_rot (r := r.take s) (s := t) (by omega) (by rw [hts]; exact t1)).mp ⟨by rw [hts]; exact t2, t3⟩
    have h2 : pw ((r.take s).take t) (s / t) = r.take s := by simpa [isPw, hts] using h1
    have h3 : back r t := by
      have h4 : ∀ m, pw (pw ((r.take s).take t) (s / t)) m = pw ((r.take s).take t) (m * (s / t)) := fun m => by
        induction m with
        | zero => simp [pw]
        | succ m ih => rw [pw_succ, ih, Nat.succ_mul, Nat.add_comm, pw_add]
      have h5 := h4 (r.length / s)
      rw [h2, ← e] at h5
      have hlt : ((r.take s).take t).length = t := by rw [List.length_take, hts, Nat.min_eq_left (by omega)]
      have hgt : 1 < r.length / s * (s / t) := by
        have h6 : t * (s / t) = s := by have := Nat.div_add_mod s t; omega
        have h7 : 1 < s / t := by
          rcases Nat.lt_or_ge 1 (s / t) with h | h
          · exact h
          · have : t * (s / t) ≤ t * 1 := Nat.mul_le_mul_left _ h
            omega
        calc 1 < s / t := h7
          _ = 1 * (s / t) := by rw [Nat.one_mul]
          _ ≤ r.length / s * (s / t) := Nat.mul_le_mul_right _ hk
      have := pw_back (u := (r.take s).take t) hgt (fun z => by rw [z] at hlt; have : 0 = t := hlt; omega)
      rw [← h5, hlt] at this
      exact this
    have := s4 t t0 (by omega) h3
    rw [Nat.mod_eq_of_lt t1] at this
    omega
  · have hvl : r.length = j * v.length := by rw [hp, pw_len]
    have hv0 := List.length_pos_iff.mpr hv.1
    have hsv : s ∣ v.length := by
      rcases Nat.lt_or_ge 1 j with h | h
      · have hb : back r v.length := by rw [hp]; exact pw_back h hv.1
        have hlt : v.length < r.length := by
          rw [hvl]
          calc v.length = 1 * v.length := by rw [Nat.one_mul]
            _ < j * v.length := Nat.mul_lt_mul_of_pos_right h hv0
        exact Nat.dvd_of_mod_eq_zero (s4 _ hv0 hlt hb)
      · have : j = 1 := by omega
        subst this
        rw [Nat.one_mul] at hvl
        rw [← hvl]
        exact Nat.dvd_of_mod_eq_zero s2
    have hle : s ≤ v.length := Nat.le_of_dvd hv0 hsv
    have hvs : v.length = s := by
      rcases Nat.lt_or_ge s v.length with h | h
      · exact absurd (pw_take hsv s0 hj h (by rw [← hp]; exact s3)) (hv.2 s s0 h)
      · omega
    obtain ⟨i, rfl⟩ : ∃ i, j = i + 1 := ⟨j - 1, by omega⟩
    rw [hp, pw_succ, ← hvs, List.take_left]
end
end LP
end

section
set_option linter.all false
set_option Elab.async false
set_option maxRecDepth 100000
namespace LP
open D M L
section
variable {α : Type} [DecidableEq α] {r u v : List α}
theorem back_rot {u : List α} {j k : Nat} (hj : j < u.length) (hk : k < u.length) (h : back (rot u j) k) : back u k := by
  unfold back at *
  have h1 := rot_rot (r := u) (a := j) (b := k) hj hk
  have h2 := rot_rot (r := u) (a := k) (b := j) hk hj
  rw [h, Nat.add_comm j k] at h1
  rw [← h1] at h2
  -- rot (rot u k) j = rot u j
  have h3 : rot (rot (rot u k) j) ((u.length - j : Nat) : Int) = rot (rot u j) ((u.length - j : Nat) : Int) := by rw [h2]
  by_cases h0 : j = 0
  · subst h0
    rw [show ((0 : Nat) : Int) = 0 from rfl, rot_zero, rot_zero] at h2
    exact h2
  · have e1 := rot_rot (r := rot u k) (a := j) (b := u.length - j) (by rw [rot_length]; exact hj) (by rw [rot_length]; omega)
    have e2 := rot_rot (r := u) (a := j) (b := u.length - j) hj (by omega)
    rw [e1, e2, rot_length, show j + (u.length - j) = u.length by omega, Nat.mod_self, show ((0 : Nat) : Int) = 0 from rfl, rot_zero, rot_zero] at h3
    exact h3
theorem prim_rot {u : List α} {j : Nat} (hj : j < u.length) (h : prim u) : prim (rot u j) := by
  refine ⟨fun e => ?_, fun k h0 h1 hb => ?_⟩
  · have := rot_length u j
    rw [e] at this; have : 0 = u.length := this; omega
  · rw [rot_length] at h1
    exact h.2 k h0 h1 (back_rot hj h1 hb)
/-- turns of a primitive one are all different -/
theorem rot_inj {u : List α} (h : prim u) {i j : Nat} (hi : i < u.length) (hj : j < u.length) (e : rot u i = rot u j) : i = j := by
  have key : ∀ i j : Nat, i < j → j < u.length → rot u i = rot u j → False := fun i j hij hj e => by
    have h1 := rot_rot (r := u) (a := i) (b := u.length - i - (j - i)) (by omega)
    have hb : back (rot u i) (j - i) := by
      unfold back
      rw [rot_rot (by omega) (by omega), show i + (j - i) = j by omega, Nat.mod_eq_of_lt hj, ← e]
    exact h.2 (j - i) (by omega) (by omega) (back_rot (by omega) (by omega) hb)
  rcases Nat.lt_trichotomy i j with hlt | he | hgt
  · exact (key i j hlt hj e).elim
  · exact he
  · exact (key j i hgt hi e.symm).elim
/-- a necklace: primitive, the least of its turns -/
def neck (lt : List α → List α → Bool) (u : List α) : Prop := prim u ∧ ∀ y ∈ turnsOf u, lt y u = false
theorem neck_ex {lt : List α → List α → Bool} (hl : Lto lt) (h : prim u) : ∃ v j, neck lt v ∧ j < v.length ∧ u = rot v j ∧ v ∈ turnsOf u := by
  have hn := List.length_pos_iff.mpr h.1
  have : turnsOf u ≠ [] := by
    intro e
    have := turns_length u
    rw [e] at this; have : 0 = u.length := this; omega
  obtain ⟨x, xs, e⟩ : ∃ x xs, turnsOf u = x :: xs := List.exists_cons_of_ne_nil this
  obtain ⟨v, _, h2, h3⟩ := minM_spec hl x xs
  rw [← e] at h2 h3
  obtain ⟨k, hk, rfl⟩ := mem_turns.mp h2
  obtain ⟨j, hj, ej⟩ := mem_turns.mp (turns_sym h2)
  exact ⟨rot u k, j, ⟨prim_rot hk h, fun y hy => h3 y ((turns_iff h2 y).mp hy)⟩, hj, ej, h2⟩
theorem neck_uniq {lt : List α → List α → Bool} (hl : Lto lt) {v w : List α} (hv : neck lt v) (hw : neck lt w) (h : w ∈ turnsOf v) : v = w := by
  have a := hv.2 w h
  have b := hw.2 v (turns_sym h)
  exact hl.tot v w b a
end
end LP
end

section
set_option linter.all false
set_option Elab.async false
set_option maxRecDepth 100000
namespace LP
open D M L
section
variable {α : Type} [DecidableEq α] {r u v : List α}
theorem pw_ne {u : List α} {k : Nat} (hk : 0 < k) (hu : u ≠ []) : pw u k ≠ [] := by
  obtain ⟨j, rfl⟩ : ∃ j, k = j + 1 := ⟨k - 1, by omega⟩
  rw [pw_succ]; simp [hu]
theorem pw_uniq {u v : List α} {k j : Nat} (hu : prim u) (hv : prim v) (hk : 0 < k) (hj : 0 < j) (e : pw u k = pw v j) : u = v := by
  obtain ⟨w, i, h1, h2, h3, h4⟩ := root_ex (pw_ne hk hu.1)
  rw [h4 u k hk hu rfl, h4 v j hj hv e]
/-- the weight -/
def wgt (wt : α → Nat) (u : List α) : Nat := (u.map wt).sum
theorem wgt_app (wt : α → Nat) (u v : List α) : wgt wt (u ++ v) = wgt wt u + wgt wt v := by simp [wgt]
theorem wgt_pw (wt : α → Nat) (u : List α) (k : Nat) : wgt wt (pw u k) = k * wgt wt u := by
  induction k with
  | zero => simp [pw, wgt]
  | succ k ih => rw [pw_succ, wgt_app, ih, Nat.succ_mul, Nat.add_comm]
theorem wgt_rot (wt : α → Nat) (u : List α) (m : Int) : wgt wt (rot u m) = wgt wt u := by
  unfold rot
  rw [wgt_app, Nat.add_comm, ← wgt_app, List.take_append_drop]
theorem sum_flatMap {β γ : Type} (g : γ → Nat) (f : β → List γ) : ∀ xs : List β, ((xs.flatMap f).map g).sum = (xs.map fun x => ((f x).map g).sum).sum
  | [] => rfl
  | x :: xs => by
    rw [List.flatMap_cons, List.map_append, List.sum_append, sum_flatMap g f xs]; rfl
theorem sum_range_get (wt : α → Nat) : ∀ v : List α, ((List.range v.length).map fun j => ((v[j]?).map wt).getD 0).sum = wgt wt v
  | [] => rfl
  | x :: xs => by
    rw [List.length_cons, List.range_succ_eq_map, List.map_cons, List.map_map, List.sum_cons]
    have : ((fun j => (((x :: xs)[j]?).map wt).getD 0) ∘ Nat.succ) = fun j => ((xs[j]?).map wt).getD 0 := funext fun j => by simp
    rw [this, sum_range_get wt xs]
    simp [wgt]
/-- the first token's weight -/
def fst (wt : α → Nat) (u : List α) : Nat := (u.head?.map wt).getD 0
theorem fst_pw (wt : α → Nat) {v : List α} {j k : Nat} (hj : j < v.length) (hk : 0 < k) : fst wt (pw (rot v j) k) = ((v[j]?).map wt).getD 0 := by
  obtain ⟨i, rfl⟩ : ∃ i, k = i + 1 := ⟨k - 1, by omega⟩
  unfold fst
  have h1 := rot_get v j (by omega) 0 (by omega)
  rw [pw_succ, List.head?_append, List.head?_eq_getElem?, h1, Nat.zero_add, Nat.mod_eq_of_lt hj]
  rw [List.getElem?_eq_getElem hj]
  rfl
theorem nodup_map_on {β γ : Type} {f : β → γ} : ∀ {xs : List β}, (∀ x ∈ xs, ∀ y ∈ xs, f x = f y → x = y) → xs.Nodup → (xs.map f).Nodup
  | [], _, _ => List.nodup_nil
  | x :: xs, h, n => by
    obtain ⟨n1, n2⟩ := List.nodup_cons.mp n
    rw [List.map_cons, List.nodup_cons]
    refine ⟨fun hm => ?_, nodup_map_on (fun a ha b hb => h a (List.mem_cons_of_mem _ ha) b (List.mem_cons_of_mem _ hb)) n2⟩
    obtain ⟨y, hy, e⟩ := List.mem_map.mp hm
    have := h y (List.mem_cons_of_mem _ hy) x List.mem_cons_self e
    subst this
    exact n1 hy
theorem perm_sum {xs ys : List Nat} (h : xs.Perm ys) : xs.sum = ys.sum := by
  induction h with
  | nil => rfl
  | cons x _ ih => rw [List.sum_cons, List.sum_cons, ih]
  | swap x y l => simp only [List.sum_cons]; omega
  | trans _ _ a b => exact a.trans b
def divs (n : Nat) : List Nat := (List.range (n + 1)).filter fun d => decide (0 < d ∧ n % d = 0)
theorem mem_divs {n d : Nat} (hn : 0 < n) : d ∈ divs n ↔ 0 < d ∧ n % d = 0 := by
  unfold divs
  rw [List.mem_filter, List.mem_range, decide_eq_true_eq]
  refine ⟨fun h => h.2, fun h => ⟨?_, h⟩⟩
  have := Nat.le_of_dvd hn (Nat.dvd_of_mod_eq_zero h.2)
  omega
theorem divs_nodup (n : Nat) : (divs n).Nodup := List.nodup_range.filter _
structure RowsOf (wt : α → Nat) (ok : α → Prop) (R : Nat → List (List α)) : Prop where
  nd : ∀ n, (R n).Nodup
  mem : ∀ n r, r ∈ R n ↔ (∀ t ∈ r, ok t) ∧ wgt wt r = n
  pos : ∀ t, ok t → 0 < wt t
variable {wt : α → Nat} {ok : α → Prop} {R : Nat → List (List α)} {lt : List α → List α → Bool} {p : List α → Bool}
theorem ok_rot {u : List α} {m : Int} : (∀ t ∈ rot u m, ok t) ↔ ∀ t ∈ u, ok t := by
  constructor
  · intro h t ht
    refine h t ?_
    unfold rot
    rw [List.mem_append]
    rcases List.mem_append.mp ((List.take_append_drop m.toNat u).symm ▸ ht) with a | a
    · exact .inr a
    · exact .inl a
  · intro h t ht
    unfold rot at ht
    rcases List.mem_append.mp ht with a | a
    · exact h t (List.mem_of_mem_drop a)
    · exact h t (List.mem_of_mem_take a)
theorem ok_pw {u : List α} {k : Nat} (hk : 0 < k) : (∀ t ∈ pw u k, ok t) ↔ ∀ t ∈ u, ok t := by
  obtain ⟨j, rfl⟩ : ∃ j, k = j + 1 := ⟨k - 1, by omega⟩
  constructor
  · intro h t ht
    exact h t (by rw [pw_succ]; exact List.mem_append_left _ ht)
  · intro h t ht
    obtain ⟨x, hx, ht⟩ := List.mem_flatten.mp ht
    rw [List.eq_of_mem_replicate hx] at ht
    exact h t ht
def fibre (R : Nat → List (List α)) (p : List α → Bool) (n : Nat) : List (List α) :=
  (divs n).flatMap fun d => ((R d).filter p).flatMap fun v => (List.range v.length).map fun j => pw (rot v (j : Nat)) (n / d)
theorem fibre_perm (hR : RowsOf wt ok R) (hl : Lto lt) (hp : ∀ u, p u = true ↔ neck lt u) {n : Nat} (hn : 0 < n) : (R n).Perm (fibre R p n) := by
  have hk : ∀ d ∈ divs n, 0 < n / d ∧ d * (n / d) = n := fun d hd => by
    obtain ⟨h0, h1⟩ := (mem_divs hn).mp hd
    have h2 := Nat.le_of_dvd hn (Nat.dvd_of_mod_eq_zero h1)
    have h3 := Nat.div_add_mod n d
    exact ⟨Nat.div_pos h2 h0, by omega⟩
  refine (List.perm_ext_iff_of_nodup (hR.nd n) ?_).mpr fun r => ?_
  · refine nodup_flatMap' (divs_nodup n) (fun d hd => ?_) fun d hd d' hd' z hz hz' => ?_
    · refine nodup_flatMap' ((hR.nd d).filter _) (fun v hv => ?_) fun v hv w hw z hz hz' => ?_
      · refine nodup_map_on ?_ List.nodup_range
        intro i hi j hj e
        have hv2 := (hp v).mp (List.mem_filter.mp hv).2
        have hi := List.mem_range.mp hi
        have hj := List.mem_range.mp hj
        exact rot_inj hv2.1 hi hj (pw_uniq (prim_rot hi hv2.1) (prim_rot hj hv2.1) (hk d hd).1 (hk d hd).1 e)
      · obtain ⟨i, hi, rfl⟩ := List.mem_map.mp hz
        obtain ⟨j, hj, e⟩ := List.mem_map.mp hz'
        have hi := List.mem_range.mp hi
        have hj := List.mem_range.mp hj
        have hv2 := (hp v).mp (List.mem_filter.mp hv).2
        have hw2 := (hp w).mp (List.mem_filter.mp hw).2
        have e2 := pw_uniq (prim_rot hj hw2.1) (prim_rot hi hv2.1) (hk d hd).1 (hk d hd).1 e
        have h1 : rot v i ∈ turnsOf v := mem_turns.mpr ⟨i, hi, rfl⟩
        have h2 : rot w j ∈ turnsOf w := mem_turns.mpr ⟨j, hj, rfl⟩
        rw [e2] at h2
        exact neck_uniq hl hv2 hw2 ((turns_iff h1 w).mp (turns_sym h2))
    · obtain ⟨v, hv, hz⟩ := List.mem_flatMap.mp hz
      obtain ⟨w, hw, hz'⟩ := List.mem_flatMap.mp hz'
      obtain ⟨i, hi, rfl⟩ := List.mem_map.mp hz
      obtain ⟨j, hj, e⟩ := List.mem_map.mp hz'
      have hi := List.mem_range.mp hi
      have hj := List.mem_range.mp hj
      obtain ⟨hv1, hv2⟩ := List.mem_filter.mp hv
      obtain ⟨hw1, hw2⟩ := List.mem_filter.mp hw
      have hv2 := (hp v).mp hv2
      have hw2 := (hp w).mp hw2
      have e2 := pw_uniq (prim_rot hj hw2.1) (prim_rot hi hv2.1) (hk d' hd').1 (hk d hd).1 e
      have e3 := congrArg (wgt wt) e2
      rw [wgt_rot, wgt_rot, ((hR.mem d' w).mp hw1).2, ((hR.mem d v).mp hv1).2] at e3
      exact e3.symm
  · constructor
    · intro hr
      obtain ⟨o, w⟩ := (hR.mem n r).mp hr
      have hne : r ≠ [] := fun e => by rw [e] at w; have : 0 = n := w; omega
      obtain ⟨u, k, k0, hu, e, _⟩ := root_ex hne
      obtain ⟨v, j, hv, hj, ej, hvm⟩ := neck_ex hl hu
      have ho : ∀ t ∈ u, ok t := (ok_pw k0).mp (by rw [← e]; exact o)
      have hw : k * wgt wt u = n := by rw [← w, e, wgt_pw]
      have hv0 : wgt wt v = wgt wt u := by rw [ej, wgt_rot]
      have hov : ∀ t ∈ v, ok t := ok_rot.mp (by rw [← ej]; exact ho)
      have hpos : 0 < wgt wt u := by
        rcases Nat.eq_zero_or_pos (wgt wt u) with h | h
        · rw [h] at hw; omega
        · exact h
      have hd : wgt wt u ∈ divs n := (mem_divs hn).mpr ⟨hpos, by rw [← hw]; exact Nat.mul_mod_left _ _⟩
      refine List.mem_flatMap.mpr ⟨wgt wt u, hd, List.mem_flatMap.mpr ⟨v, List.mem_filter.mpr ⟨(hR.mem _ _).mpr ⟨hov, hv0⟩, (hp v).mpr hv⟩, List.mem_map.mpr ⟨j, List.mem_range.mpr hj, ?_⟩⟩⟩
      rw [← hw, Nat.mul_div_cancel _ hpos, ← ej]
      exact e.symm
    · intro hr
      obtain ⟨d, hd, hr⟩ := List.mem_flatMap.mp hr
      obtain ⟨v, hv, hr⟩ := List.mem_flatMap.mp hr
      obtain ⟨j, hj, rfl⟩ := List.mem_map.mp hr
      obtain ⟨hv1, _⟩ := List.mem_filter.mp hv
      obtain ⟨o, w⟩ := (hR.mem d v).mp hv1
      obtain ⟨k0, k1⟩ := hk d hd
      refine (hR.mem _ _).mpr ⟨(ok_pw k0).mpr (ok_rot.mpr o), ?_⟩
      rw [wgt_pw, wgt_rot, w, Nat.mul_comm]
      exact k1
/-- rows counted by their first tokens' weights, and by necklaces -/
theorem count_rows (hR : RowsOf wt ok R) (hl : Lto lt) (hp : ∀ u, p u = true ↔ neck lt u) {n : Nat} (hn : 0 < n) :
    ((R n).map (fst wt)).sum = ((divs n).map fun d => d * ((R d).filter p).length).sum := by
  rw [perm_sum ((fibre_perm hR hl hp hn).map (fst wt))]
  unfold fibre
  rw [sum_flatMap]
  congr 1
  refine List.map_congr_left fun d hd => ?_
  rw [sum_flatMap]
  have h : ((R d).filter p).map (fun v => (((List.range v.length).map fun j => pw (rot v (j : Nat)) (n / d)).map (fst wt)).sum) = ((R d).filter p).map fun _ => d := by
    refine List.map_congr_left fun v hv => ?_
    obtain ⟨hv1, _⟩ := List.mem_filter.mp hv
    obtain ⟨h0, h1⟩ := (mem_divs hn).mp hd
    have hk : 0 < n / d := Nat.div_pos (Nat.le_of_dvd hn (Nat.dvd_of_mod_eq_zero h1)) h0
    have hsum := sum_range_get wt v
    rw [((hR.mem d v).mp hv1).2] at hsum
    rw [List.map_map, ← hsum]
    congr 1
    refine List.map_congr_left fun j hj => ?_
    rw [hsum]
    exact fst_pw wt (List.mem_range.mp hj) hk
  rw [h, List.map_const', List.sum_replicate_nat, Nat.mul_comm]
end
end LP
end

section
set_option linter.all false
set_option Elab.async false
set_option maxRecDepth 100000
namespace LP
open D M L
def sm : Nat → (Nat → Nat) → Nat
  | 0, _ => 0
  | n + 1, f => sm n f + f n
theorem sm_range (f : Nat → Nat) : ∀ n, ((List.range n).map f).sum = sm n f
  | 0 => rfl
  | n + 1 => by rw [List.range_succ, List.map_append, List.sum_append, sm_range f n]; simp [sm]
theorem sm_congr {f g : Nat → Nat} : ∀ n, (∀ i, i < n → f i = g i) → sm n f = sm n g
  | 0, _ => rfl
  | n + 1, h => by rw [sm, sm, sm_congr n fun i hi => h i (by omega), h n (by omega)]
theorem sm_zero : ∀ n, sm n (fun _ => 0) = 0
  | 0 => rfl
  | n + 1 => by rw [sm, sm_zero n]
theorem sm_add (f g : Nat → Nat) : ∀ n, sm n (fun i => f i + g i) = sm n f + sm n g
  | 0 => rfl
  | n + 1 => by rw [sm, sm, sm, sm_add f g n]; omega
theorem sm_mul (c : Nat) (f : Nat → Nat) : ∀ n, sm n (fun i => c * f i) = c * sm n f
  | 0 => rfl
  | n + 1 => by rw [sm, sm, sm_mul c f n, Nat.mul_add]
theorem sm_comm (f : Nat → Nat → Nat) (m : Nat) : ∀ n, sm n (fun i => sm m fun k => f i k) = sm m fun k => sm n fun i => f i k
  | 0 => (sm_zero m).symm
  | n + 1 => by
    show sm n (fun i => sm m fun k => f i k) + sm m (fun k => f n k) = sm m fun k => sm n (fun i => f i k) + f n k
    rw [sm_comm f m n, ← sm_add]
theorem sm_if (g : Nat → Nat) {a : Nat} : ∀ m, a ≤ m → sm a g = sm m fun k => if k < a then g k else 0
  | 0, h => by
    have : a = 0 := by omega
    subst this; rfl
  | m + 1, h => by
    rcases Nat.lt_or_ge m a with h1 | h1
    · have : a = m + 1 := by omega
      subst this
      exact sm_congr _ fun i hi => by rw [if_pos hi]
    · rw [sm, ← sm_if g m h1, if_neg (by omega)]; rfl
theorem sm_tri (f : Nat → Nat → Nat) (m : Nat) : sm m (fun i => sm (m - i) fun k => f i k) = sm m fun k => sm (m - k) fun i => f i k := by
  have h1 : sm m (fun i => sm (m - i) fun k => f i k) = sm m fun i => sm m fun k => if i + k < m then f i k else 0 := sm_congr m fun i hi => by
    rw [sm_if _ m (by omega)]
    exact sm_congr m fun k hk => by
      by_cases h : k < m - i
      · rw [if_pos h, if_pos (by omega)]
      · rw [if_neg h, if_neg (by omega)]
  have h2 : sm m (fun k => sm (m - k) fun i => f i k) = sm m fun k => sm m fun i => if i + k < m then f i k else 0 := sm_congr m fun k hk => by
    rw [sm_if _ m (by omega)]
    exact sm_congr m fun i hi => by
      by_cases h : i < m - k
      · rw [if_pos h, if_pos (by omega)]
      · rw [if_neg h, if_neg (by omega)]
  rw [h1, h2, sm_comm]
abbrev Tok := Int × Int
def tw (t : Tok) : Nat := t.1.toNat
def tok (c : Nat → Nat) (t : Tok) : Prop := 1 ≤ t.1 ∧ 0 ≤ t.2 ∧ t.2 < c t.1.toNat
def rowsF (c : Nat → Nat) : Nat → Nat → List (List Tok)
  | 0, n => if n = 0 then [[]] else []
  | f + 1, n => if n = 0 then [[]] else (List.range n).flatMap fun i => (List.range (c (i + 1))).flatMap fun j => (rowsF c f (n - (i + 1))).map fun r => (((i + 1 : Nat) : Int), ((j : Nat) : Int)) :: r
def rows (c : Nat → Nat) (n : Nat) : List (List Tok) := rowsF c n n
theorem rowsF_eq (c : Nat → Nat) : ∀ f g n, n ≤ f → n ≤ g → rowsF c f n = rowsF c g n
  | 0, 0, _, _, _ => rfl
  | 0, g + 1, n, h, _ => by
    have : n = 0 := by omega
    subst this; rfl
  | f + 1, 0, n, _, h => by
    have : n = 0 := by omega
    subst this; rfl
  | f + 1, g + 1, n, h1, h2 => by
    unfold rowsF
    by_cases h : n = 0
    · rw [if_pos h, if_pos h]
    · rw [if_neg h, if_neg h]
      refine flatMap_congr' fun i hi => flatMap_congr' fun j _ => ?_
      have := List.mem_range.mp hi
      rw [rowsF_eq c f g (n - (i + 1)) (by omega) (by omega)]
theorem rows_step (c : Nat → Nat) {n : Nat} (h : 0 < n) : rows c n = (List.range n).flatMap fun i => (List.range (c (i + 1))).flatMap fun j => (rows c (n - (i + 1))).map fun r => (((i + 1 : Nat) : Int), ((j : Nat) : Int)) :: r := by
  obtain ⟨m, rfl⟩ : ∃ m, n = m + 1 := ⟨n - 1, by omega⟩
  unfold rows
  rw [rowsF, if_neg (by omega)]
  refine flatMap_congr' fun i hi => flatMap_congr' fun j _ => ?_
  have := List.mem_range.mp hi
  rw [rowsF_eq c m (m + 1 - (i + 1)) (m + 1 - (i + 1)) (by omega) (by omega)]
theorem rows_zero (c : Nat → Nat) : rows c 0 = [[]] := rfl
theorem rows_mem (c : Nat → Nat) : ∀ (m n : Nat) (r : List Tok), n ≤ m → (r ∈ rows c n ↔ (∀ t ∈ r, tok c t) ∧ wgt tw r = n) := by
  intro m
  induction m with
  | zero =>
    intro n r h
    have : n = 0 := by omega
    subst this
    rw [rows_zero, List.mem_singleton]
    constructor
    · rintro rfl; exact ⟨fun t ht => (List.not_mem_nil ht).elim, rfl⟩
    · rintro ⟨h1, h2⟩
      cases r with
      | nil => rfl
      | cons t r =>
        have := h1 t List.mem_cons_self
        have h3 : t.1.toNat + wgt tw r = 0 := h2
        unfold tok at this
        omega
  | succ m ih =>
    intro n r h
    by_cases h0 : n = 0
    · exact ih n r (by omega)
    · rw [rows_step c (by omega)]
      constructor
      · intro hr
        obtain ⟨i, hi, hr⟩ := List.mem_flatMap.mp hr
        obtain ⟨j, hj, hr⟩ := List.mem_flatMap.mp hr
        obtain ⟨s, hs, rfl⟩ := List.mem_map.mp hr
        have hi := List.mem_range.mp hi
        have hj := List.mem_range.mp hj
        obtain ⟨h1, h2⟩ := (ih _ s (by omega)).mp hs
        refine ⟨fun t ht => ?_, ?_⟩
        · rcases List.mem_cons.mp ht with rfl | ht
          · refine ⟨by show (1 : Int) ≤ ((i + 1 : Nat) : Int); omega, by show (0 : Int) ≤ ((j : Nat) : Int); omega, ?_⟩
            show ((j : Nat) : Int) < c (((i + 1 : Nat) : Int).toNat)
            rw [Int.toNat_natCast]; omega
          · exact h1 t ht
        · have : wgt tw ((((i + 1 : Nat) : Int), ((j : Nat) : Int)) :: s) = (i + 1) + wgt tw s := by simp [wgt, tw]
          rw [this, h2]; omega
      · rintro ⟨h1, h2⟩
        cases r with
        | nil => have : 0 = n := h2; omega
        | cons t s =>
          obtain ⟨a, b, d⟩ := h1 t List.mem_cons_self
          have h3 : t.1.toNat + wgt tw s = n := h2
          refine List.mem_flatMap.mpr ⟨t.1.toNat - 1, List.mem_range.mpr (by omega), List.mem_flatMap.mpr ⟨t.2.toNat, List.mem_range.mpr ?_, List.mem_map.mpr ⟨s, ?_, ?_⟩⟩⟩
          · rw [show t.1.toNat - 1 + 1 = t.1.toNat by omega]; omega
          · refine (ih _ s (by omega)).mpr ⟨fun x hx => h1 x (List.mem_cons_of_mem _ hx), ?_⟩
            omega
          · have e1 : ((t.1.toNat - 1 + 1 : Nat) : Int) = t.1 := by omega
            have e2 : ((t.2.toNat : Nat) : Int) = t.2 := by omega
            rw [e1, e2]
theorem rows_nodup (c : Nat → Nat) : ∀ (m n : Nat), n ≤ m → (rows c n).Nodup := by
  intro m
  induction m with
  | zero =>
    intro n h
    have : n = 0 := by omega
    subst this
    rw [rows_zero]; simp
  | succ m ih =>
    intro n h
    by_cases h0 : n = 0
    · exact ih n (by omega)
    · rw [rows_step c (by omega)]
      refine nodup_flatMap' List.nodup_range (fun i hi => ?_) fun i hi i' hi' z hz hz' => ?_
      · have hi := List.mem_range.mp hi
        refine nodup_flatMap' List.nodup_range (fun j hj => ?_) fun j hj j' hj' z hz hz' => ?_
        · exact nodup_map_on (fun x _ y _ e => (List.cons.inj e).2) (ih _ (by omega))
        · obtain ⟨s, _, rfl⟩ := List.mem_map.mp hz
          obtain ⟨s', _, e⟩ := List.mem_map.mp hz'
          have := (Prod.mk.inj (List.cons.inj e).1).2
          omega
      · obtain ⟨j, _, hz⟩ := List.mem_flatMap.mp hz
        obtain ⟨j', _, hz'⟩ := List.mem_flatMap.mp hz'
        obtain ⟨s, _, rfl⟩ := List.mem_map.mp hz
        obtain ⟨s', _, e⟩ := List.mem_map.mp hz'
        have := (Prod.mk.inj (List.cons.inj e).1).1
        omega
theorem rows_of (c : Nat → Nat) : RowsOf tw (tok c) (rows c) := ⟨fun n => rows_nodup c n n (Nat.le_refl _), fun n r => rows_mem c n n r (Nat.le_refl _), fun t h => by unfold tok at h; unfold tw; omega⟩
def S (c : Nat → Nat) (n : Nat) : Nat := ((rows c n).map (fst tw)).sum
def Lc (c : Nat → Nat) (n : Nat) : Nat := (rows c n).length
theorem Lc_zero (c : Nat → Nat) : Lc c 0 = 1 := rfl
theorem Lc_step (c : Nat → Nat) {n : Nat} (h : 0 < n) : Lc c n = sm n fun i => c (i + 1) * Lc c (n - (i + 1)) := by
  unfold Lc
  rw [rows_step c h, List.length_flatMap, ← sm_range]
  congr 1
  refine List.map_congr_left fun i _ => ?_
  rw [List.length_flatMap]
  have : (List.range (c (i + 1))).map (fun j => ((rows c (n - (i + 1))).map fun r => (((i + 1 : Nat) : Int), ((j : Nat) : Int)) :: r).length) = (List.range (c (i + 1))).map fun _ => (rows c (n - (i + 1))).length := List.map_congr_left fun j _ => List.length_map _
  rw [this, List.map_const', List.sum_replicate_nat, List.length_range]
theorem S_eq (c : Nat → Nat) {n : Nat} (h : 0 < n) : S c n = sm n fun i => c (i + 1) * ((i + 1) * Lc c (n - (i + 1))) := by
  unfold S
  rw [rows_step c h, sum_flatMap, ← sm_range]
  congr 1
  refine List.map_congr_left fun i _ => ?_
  rw [sum_flatMap]
  have : (List.range (c (i + 1))).map (fun j => (((rows c (n - (i + 1))).map fun r => (((i + 1 : Nat) : Int), ((j : Nat) : Int)) :: r).map (fst tw)).sum) = (List.range (c (i + 1))).map fun _ => (i + 1) * Lc c (n - (i + 1)) := List.map_congr_left fun j _ => by
    rw [List.map_map]
    have : (rows c (n - (i + 1))).map (fst tw ∘ fun r => (((i + 1 : Nat) : Int), ((j : Nat) : Int)) :: r) = (rows c (n - (i + 1))).map fun _ => i + 1 := List.map_congr_left fun r _ => by
      show fst tw ((((i + 1 : Nat) : Int), ((j : Nat) : Int)) :: r) = i + 1
      simp [fst, tw]
    rw [this, List.map_const', List.sum_replicate_nat, Nat.mul_comm]
    rfl
  rw [this, List.map_const', List.sum_replicate_nat, List.length_range]
theorem S_step (c : Nat → Nat) {n : Nat} (h : 0 < n) : S c n = n * c n + sm (n - 1) fun i => c (i + 1) * S c (n - (i + 1)) := by
  obtain ⟨m, rfl⟩ : ∃ m, n = m + 1 := ⟨n - 1, by omega⟩
  rw [S_eq c h, sm, Nat.add_comm, Nat.sub_self, Lc_zero, Nat.mul_one, Nat.mul_comm (c (m + 1)), Nat.add_sub_cancel]
  congr 1
  have e1 : sm m (fun i => c (i + 1) * ((i + 1) * Lc c (m + 1 - (i + 1)))) = sm m fun k => sm (m - k) fun i => c (k + 1) * ((k + 1) * (c (i + 1) * Lc c (m - k - (i + 1)))) := sm_congr m fun k hk => by
    rw [show m + 1 - (k + 1) = m - k by omega, Lc_step c (by omega), ← sm_mul, ← sm_mul]
  have e2 : sm m (fun i => c (i + 1) * S c (m + 1 - (i + 1))) = sm m fun i => sm (m - i) fun k => c (k + 1) * ((k + 1) * (c (i + 1) * Lc c (m - k - (i + 1)))) := sm_congr m fun i hi => by
    rw [show m + 1 - (i + 1) = m - i by omega, S_eq c (by omega), ← sm_mul]
    refine sm_congr _ fun k hk => ?_
    rw [show m - i - (k + 1) = m - k - (i + 1) by omega]
    rw [Nat.mul_left_comm (c (i + 1)), Nat.mul_left_comm (c (i + 1)) (k + 1)]
  rw [e1, e2, sm_tri]
end LP
end

section
set_option linter.all false
set_option Elab.async false
set_option maxRecDepth 100000
set_option maxHeartbeats 4000000
namespace L
open D M

@[irreducible] def m_is_number (v_value : Int) (v_low : Int) (v_high : Int) : Option Bool :=
  some ((true) && ((!false) && (decide (v_low ≤ v_value) && decide (v_value ≤ v_high))))
theorem q_is_number (k : Nat) (η : Hp) (t : Int × Int × Int × Unit) (r : Bool) (e : m_is_number t.1 t.2.1 t.2.2.1 = some r) : dv T (k + 1) 0 [PV.int t.1, PV.int t.2.1, PV.int t.2.2.1] η = .ok (PV.bl r) η := by
  obtain ⟨v_value, v_low, v_high, _⟩ := t
  refine def_okD (T := T) (k := k + 0) (f := 0) (d := f_is_number) (args := [PV.int v_value, PV.int v_low, PV.int v_high]) (enc := PV.bl) (m := m_is_number v_value v_low v_high) rfl rfl (fun v hv => by simp only [List.mem_cons, List.not_mem_nil, or_false] at hv; rcases hv with rfl | rfl | rfl <;> first | exact nI _ | exact nI _ | exact nI _) (fun η => ?_) η r e
  unfold m_is_number
  exact Run.ret (enc := PV.bl) rfl nB (EvP.eq (m' := some ((true) && ((!false) && (decide (v_low ≤ v_value) && decide (v_value ≤ v_high))))) (EvP.andT (EvP.eq (m' := some (true)) (EvP.isi (fun _ => true) (fun _ _ => rfl) (EvP.var (enc := PV.int) (a := v_value) (v := .non) 0 rfl)) rfl) (EvP.eq (m' := some ((!false) && (decide (v_low ≤ v_value) && decide (v_value ≤ v_high)))) (EvP.andT (EvP.eq (m' := some (!false)) (EvP.not (EvB.bl (EvP.eq (m' := some (false)) (EvP.isi (fun _ => false) (fun _ _ => rfl) (EvP.var (enc := PV.int) (a := v_value) (v := .non) 0 rfl)) rfl))) rfl) (EvP.one (EvP.eq (m' := some (decide (v_low ≤ v_value) && decide (v_value ≤ v_high))) (EvP.chnT (fun x y => decide (x ≤ y)) (fun x y => decide (x ≤ y)) ciLe ciLe (EvW.ofP (EvP.var (enc := PV.int) (a := v_low) (v := .non) 1 rfl) (fun η a => vw_nc nI η a)) (EvP.var (enc := PV.int) (a := v_value) (v := .non) 0 rfl) (fun η a => vw_nc nI η a) (EvW.ofP (EvP.var (enc := PV.int) (a := v_high) (v := .non) 2 rfl) (fun η a => vw_nc nI η a))) rfl))) rfl)) rfl)

@[irreducible] def m_check_size (v_size : Int) : Option Unit :=
  ((m_is_number v_size 1 3).bind fun b => some (!b)).bind fun v_b => if v_b = true then
    none
  else
  some ()
theorem q_check_size (k : Nat) (η : Hp) (t : Int × Unit) (r : Unit) (e : m_check_size t.1 = some r) : dv T (k + 2) 1 [PV.int t.1] η = .ok (eU r) η := by
  obtain ⟨v_size, _⟩ := t
  refine def_okD (T := T) (k := k + 1) (f := 1) (d := f_check_size) (args := [PV.int v_size]) (enc := eU) (m := m_check_size v_size) rfl rfl (fun v hv => by simp only [List.mem_cons, List.not_mem_nil, or_false] at hv; rcases hv with rfl <;> first | exact nI _) (fun η => ?_) η r e
  unfold m_check_size
  refine Run.ite (EvB.bl (EvP.eq (m' := (m_is_number v_size 1 3).bind fun b => some (!b)) (EvP.not (EvB.bl (EvP.eq (m' := m_is_number v_size 1 3) (EvP.call (enc := PV.bl) (fun t => m_is_number t.1 t.2.1 t.2.2.1) (fun η t r e => q_is_number (k + 0) η t r e) (Args.cons (EvP.var (enc := PV.int) (a := v_size) (v := .non) 0 rfl) (Args.cons (EvP.con (enc := PV.int) (1) rfl) (Args.cons (EvP.glb (enc := PV.int) (3) rfl) Args.nil)))) rfl))) rfl)) ?_ ?_
  · exact Run.no rfl
  · exact Run.nilF rfl

@[irreducible] def m_check_counts (v_counts : (List Int)) : Option Unit :=
  if ((!true) || (decide (8 < (v_counts.length : Int)))) = true then
    none
  else
  (((lcP (fun (v_x : Int) => m_is_number v_x 0 1000) v_counts).bind fun v_x2 => some (v_x2.all id)).bind fun b => some (!b)).bind fun v_b => if v_b = true then
    none
  else
  some ()
theorem q_check_counts (k : Nat) (η : Hp) (t : (List Int) × Unit) (r : Unit) (e : m_check_counts t.1 = some r) : dv T (k + 2) 2 [(eT PV.int) t.1] η = .ok (eU r) η := by
  obtain ⟨v_counts, _⟩ := t
  refine def_okD (T := T) (k := k + 1) (f := 2) (d := f_check_counts) (args := [(eT PV.int) v_counts]) (enc := eU) (m := m_check_counts v_counts) rfl rfl (fun v hv => by simp only [List.mem_cons, List.not_mem_nil, or_false] at hv; rcases hv with rfl <;> first | exact (nT nI) _) (fun η => ?_) η r e
  unfold m_check_counts
  refine Run.iteP (EvB.eq (m' := some ((!true) || (decide (8 < (v_counts.length : Int))))) (EvB.orT (EvB.bl (EvP.eq (m' := some (!true)) (EvP.not (EvB.bl (EvP.eq (m' := some (true)) (EvP.isi (fun _ => true) (fun _ _ => rfl) (EvP.var (enc := (eT PV.int)) (a := v_counts) (v := .non) 0 rfl)) rfl))) rfl)) (EvB.one (EvB.bl (EvP.eq (m' := some (decide (8 < (v_counts.length : Int)))) (EvP.cmp (fun x y => decide (y < x)) ciGt (EvW.ofP (EvP.eq (m' := some ((v_counts.length : Int))) (EvP.bi (enc := PV.int) (fun t => some (t.1.length : Int)) (lnT (f := PV.int)) (Args.cons (EvP.var (enc := (eT PV.int)) (a := v_counts) (v := .non) 0 rfl) Args.nil)) rfl) (fun η a => vw_nc nI η a)) (EvW.ofP (EvP.glb (enc := PV.int) (8) rfl) (fun η a => vw_nc nI η a))) rfl)))) rfl) ?_ ?_
  · exact Run.no rfl
  · refine Run.ite (EvB.bl (EvP.eq (m' := ((lcP (fun (v_x : Int) => m_is_number v_x 0 1000) v_counts).bind fun v_x2 => some (v_x2.all id)).bind fun b => some (!b)) (EvP.not (EvB.bl (EvP.eq (m' := (lcP (fun (v_x : Int) => m_is_number v_x 0 1000) v_counts).bind fun v_x2 => some (v_x2.all id)) (EvP.biV (f := PV.bl) (enc := PV.bl) (fun t => some (t.all id)) biAll (EvV.ofP (EvP.fz (EvF.eq (m' := lcP (fun (v_x : Int) => m_is_number v_x 0 1000) v_counts) (EvF.lcP (g := PV.bl) (me := fun (v_x : Int) => m_is_number v_x 0 1000) (EvI.of0 (EvI0.seqT (EvP.var (enc := (eT PV.int)) (a := v_counts) (v := .non) 0 rfl))) nI (fun v_x => (EvP.eq (m' := m_is_number v_x 0 1000) (EvP.call (enc := PV.bl) (fun t => m_is_number t.1 t.2.1 t.2.2.1) (fun η t r e => q_is_number (k + 0) η t r e) (Args.cons (EvP.var (enc := PV.int) (a := v_x) (v := .non) 1 rfl) (Args.cons (EvP.con (enc := PV.int) (0) rfl) (Args.cons (EvP.glb (enc := PV.int) (1000) rfl) Args.nil)))) rfl))) rfl)))) rfl))) rfl)) ?_ ?_
    · exact Run.no rfl
    · exact Run.nilF rfl

@[irreducible] def m_check_both (v_size : Int) (v_counts : (List Int)) : Option Unit :=
  (m_check_size v_size).bind fun v_x =>
  (m_check_counts v_counts).bind fun v_x2 =>
  some ()
theorem q_check_both (k : Nat) (η : Hp) (t : Int × (List Int) × Unit) (r : Unit) (e : m_check_both t.1 t.2.1 = some r) : dv T (k + 3) 15 [PV.int t.1, (eT PV.int) t.2.1] η = .ok (eU r) η := by
  obtain ⟨v_size, v_counts, _⟩ := t
  refine def_okD (T := T) (k := k + 2) (f := 15) (d := f_check_both) (args := [PV.int v_size, (eT PV.int) v_counts]) (enc := eU) (m := m_check_both v_size v_counts) rfl rfl (fun v hv => by simp only [List.mem_cons, List.not_mem_nil, or_false] at hv; rcases hv with rfl | rfl <;> first | exact nI _ | exact (nT nI) _) (fun η => ?_) η r e
  unfold m_check_both
  refine Run.ex (enc := eU) (EvP.eq (m' := m_check_size v_size) (EvP.call (enc := eU) (fun t => m_check_size t.1) (fun η t r e => q_check_size (k + 0) η t r e) (Args.cons (EvP.var (enc := PV.int) (a := v_size) (v := .non) 0 rfl) Args.nil)) rfl) fun v_x => ?_
  refine Run.ex (enc := eU) (EvP.eq (m' := m_check_counts v_counts) (EvP.call (enc := eU) (fun t => m_check_counts t.1) (fun η t r e => q_check_counts (k + 0) η t r e) (Args.cons (EvP.var (enc := (eT PV.int)) (a := v_counts) (v := .non) 1 rfl) Args.nil)) rfl) fun v_x2 => ?_
  exact Run.nilF rfl

@[irreducible] def m_check_length (v_length : Int) : Option Unit :=
  ((m_is_number v_length 1 12).bind fun b => some (!b)).bind fun v_b => if v_b = true then
    none
  else
  some ()
theorem q_check_length (k : Nat) (η : Hp) (t : Int × Unit) (r : Unit) (e : m_check_length t.1 = some r) : dv T (k + 2) 3 [PV.int t.1] η = .ok (eU r) η := by
  obtain ⟨v_length, _⟩ := t
  refine def_okD (T := T) (k := k + 1) (f := 3) (d := f_check_length) (args := [PV.int v_length]) (enc := eU) (m := m_check_length v_length) rfl rfl (fun v hv => by simp only [List.mem_cons, List.not_mem_nil, or_false] at hv; rcases hv with rfl <;> first | exact nI _) (fun η => ?_) η r e
  unfold m_check_length
  refine Run.ite (EvB.bl (EvP.eq (m' := (m_is_number v_length 1 12).bind fun b => some (!b)) (EvP.not (EvB.bl (EvP.eq (m' := m_is_number v_length 1 12) (EvP.call (enc := PV.bl) (fun t => m_is_number t.1 t.2.1 t.2.2.1) (fun η t r e => q_is_number (k + 0) η t r e) (Args.cons (EvP.var (enc := PV.int) (a := v_length) (v := .non) 0 rfl) (Args.cons (EvP.con (enc := PV.int) (1) rfl) (Args.cons (EvP.glb (enc := PV.int) (12) rfl) Args.nil)))) rfl))) rfl)) ?_ ?_
  · exact Run.no rfl
  · exact Run.nilF rfl

@[irreducible] def m_moebius (v_number : Int) : Option Int :=
  (some (1)).bind fun (v_found : Int) =>
  (rng2 2 (v_number + 1)).bind fun v_l => thenR (loopO (ρ := Int) (fun (v_x : Int) (v_s : Int × Int) =>
      ((modM v_s.1 v_x).bind fun v_x2 => some (decide (v_x2 = 0))).bind fun v_b2 => if v_b2 = true then
        (fdivM v_s.1 v_x).bind fun (v_number2 : Int) =>
        ((modM v_number2 v_x).bind fun v_x3 => some (decide (v_x3 = 0))).bind fun v_b => if v_b = true then
          some (.rt (0))
        else
        (some (-v_s.2)).bind fun (v_found2 : Int) =>
        some (.nx (v_number2, v_found2))
      else
      some (.nx (v_s.1, v_s.2))) v_l (v_number, v_found)) (fun (v_s : Int × Int) =>
      some (v_s.2)) (fun r => some (r))
theorem q_moebius (k : Nat) (η : Hp) (t : Int × Unit) (r : Int) (e : m_moebius t.1 = some r) : dv T (k + 1) 4 [PV.int t.1] η = .ok (PV.int r) η := by
  obtain ⟨v_number, _⟩ := t
  refine def_okD (T := T) (k := k + 0) (f := 4) (d := f_moebius) (args := [PV.int v_number]) (enc := PV.int) (m := m_moebius v_number) rfl rfl (fun v hv => by simp only [List.mem_cons, List.not_mem_nil, or_false] at hv; rcases hv with rfl <;> first | exact nI _) (fun η => ?_) η r e
  unfold m_moebius
  refine Run.asg (enc := PV.int) (EvP.con (enc := PV.int) (1) rfl) nI fun v_found => ?_
  refine Run.loopR' (f := PV.int) (G := (fun (v_s : Int × Int) => [.val (PV.int (v_s.1)), .val (PV.int (v_s.2)), .any])) (wf := (fun _ => none)) (s0 := (v_number, v_found)) (PR := (PF η.length η false PV.int)) (kr := fun r => r) (EvI0.eq (m' := rng2 2 (v_number + 1)) (EvI0.rng2 (EvP.con (enc := PV.int) (2) rfl) (EvP.eq (m' := some (v_number + 1)) (EvP.bin (enc := PV.int) (fun x y => some (x + y)) opAdd (EvW.ofP (EvP.var (enc := PV.int) (a := v_number) (v := .non) 0 rfl) (fun η a => vw_nc nI η a)) (EvW.ofP (EvP.con (enc := PV.int) (1) rfl) (fun η a => vw_nc nI η a))) rfl)) rfl) nI ⟨.inr rfl, ⟨.inr rfl, ⟨.inl rfl, trivial⟩⟩⟩ rfl (fun r v η h => h) (fun v_x v_s => ?_) fun v_s => ?_
  · refine Run.ite (EvB.bl (EvP.eq (m' := (modM v_s.1 v_x).bind fun v_x2 => some (decide (v_x2 = 0))) (EvP.cmp (fun x y => decide (x = y)) (cmEq dtI (by decide)) (EvW.ofP (EvP.eq (m' := modM v_s.1 v_x) (EvP.bin (enc := PV.int) (fun x y => modM x y) opMod (EvW.ofP (EvP.var (enc := PV.int) (a := v_s.1) (v := .non) 0 rfl) (fun η a => vw_nc nI η a)) (EvW.ofP (EvP.var (enc := PV.int) (a := v_x) (v := .non) 2 rfl) (fun η a => vw_nc nI η a))) rfl) (fun η a => vw_nc nI η a)) (EvW.ofP (EvP.con (enc := PV.int) (0) rfl) (fun η a => vw_nc nI η a))) rfl)) ?_ ?_
    · refine Run.asg (enc := PV.int) (EvP.eq (m' := fdivM v_s.1 v_x) (EvP.bin (enc := PV.int) (fun x y => fdivM x y) opFdiv (EvW.ofP (EvP.var (enc := PV.int) (a := v_s.1) (v := .non) 0 rfl) (fun η a => vw_nc nI η a)) (EvW.ofP (EvP.var (enc := PV.int) (a := v_x) (v := .non) 2 rfl) (fun η a => vw_nc nI η a))) rfl) nI fun v_number2 => ?_
      refine Run.ite (EvB.bl (EvP.eq (m' := (modM v_number2 v_x).bind fun v_x3 => some (decide (v_x3 = 0))) (EvP.cmp (fun x y => decide (x = y)) (cmEq dtI (by decide)) (EvW.ofP (EvP.eq (m' := modM v_number2 v_x) (EvP.bin (enc := PV.int) (fun x y => modM x y) opMod (EvW.ofP (EvP.var (enc := PV.int) (a := v_number2) (v := .non) 0 rfl) (fun η a => vw_nc nI η a)) (EvW.ofP (EvP.var (enc := PV.int) (a := v_x) (v := .non) 2 rfl) (fun η a => vw_nc nI η a))) rfl) (fun η a => vw_nc nI η a)) (EvW.ofP (EvP.con (enc := PV.int) (0) rfl) (fun η a => vw_nc nI η a))) rfl)) ?_ ?_
      · exact Run.eq (Run.rtL pf_x (Run.ret (enc := PV.int) rfl nI (EvP.con (enc := PV.int) (0) rfl))) rfl
      · refine Run.asg (enc := PV.int) (EvP.eq (m' := some (-v_s.2)) (EvP.neg (EvP.var (enc := PV.int) (a := v_s.2) (v := .non) 1 rfl)) rfl) nI fun v_found2 => ?_
        exact Run.nilL ⟨.inr rfl, ⟨.inr rfl, ⟨.inl rfl, trivial⟩⟩⟩ rfl
    · exact Run.nilL ⟨.inr rfl, ⟨.inr rfl, ⟨.inl rfl, trivial⟩⟩⟩ rfl
  · exact Run.ret (enc := PV.int) rfl nI (EvP.var (enc := PV.int) (a := v_s.2) (v := .non) 1 rfl)

@[irreducible] def m_primitive_part (v_powers : (List Int)) (v_length : Int) : Option Int :=
  ((rng2 1 (v_length + 1)).bind fun v_x3 => lcF (fun (v_x : Int) => ((modM v_length v_x).bind fun v_x2 => some (decide (v_x2 = 0))).bind fun v_b => if v_b = true then (some (v_x)).map some else some none) v_x3).bind fun (v_divisors : (List Int)) =>
  ((lcP (fun (v_x4 : Int) => (m_moebius v_x4).bind fun v_x6 => ((fdivM v_length v_x4).bind fun v_x5 => atI v_powers v_x5).bind fun v_x7 => mulM v_x6 v_x7) v_divisors).bind fun v_x8 => some (v_x8.sum)).bind fun v_x9 => fdivM v_x9 v_length
theorem q_primitive_part (k : Nat) (η : Hp) (t : (List Int) × Int × Unit) (r : Int) (e : m_primitive_part t.1 t.2.1 = some r) : dv T (k + 2) 5 [(eL PV.int) t.1, PV.int t.2.1] η = .ok (PV.int r) η := by
  obtain ⟨v_powers, v_length, _⟩ := t
  refine def_okD (T := T) (k := k + 1) (f := 5) (d := f_primitive_part) (args := [(eL PV.int) v_powers, PV.int v_length]) (enc := PV.int) (m := m_primitive_part v_powers v_length) rfl rfl (fun v hv => by simp only [List.mem_cons, List.not_mem_nil, or_false] at hv; rcases hv with rfl | rfl <;> first | exact (nL nI) _ | exact nI _) (fun η => ?_) η r e
  unfold m_primitive_part
  refine Run.asg (enc := (eL PV.int)) (EvP.fz (EvF.eq (m' := (rng2 1 (v_length + 1)).bind fun v_x3 => lcF (fun (v_x : Int) => ((modM v_length v_x).bind fun v_x2 => some (decide (v_x2 = 0))).bind fun v_b => if v_b = true then (some (v_x)).map some else some none) v_x3) (EvF.lc (g := PV.int) (mc := fun (v_x : Int) => (modM v_length v_x).bind fun v_x2 => some (decide (v_x2 = 0))) (me := fun (v_x : Int) => some (v_x)) (EvI.of0 (EvI0.eq (m' := rng2 1 (v_length + 1)) (EvI0.rng2 (EvP.con (enc := PV.int) (1) rfl) (EvP.eq (m' := some (v_length + 1)) (EvP.bin (enc := PV.int) (fun x y => some (x + y)) opAdd (EvW.ofP (EvP.var (enc := PV.int) (a := v_length) (v := .non) 1 rfl) (fun η a => vw_nc nI η a)) (EvW.ofP (EvP.con (enc := PV.int) (1) rfl) (fun η a => vw_nc nI η a))) rfl)) rfl)) nI (fun v_x => EvC.one (EvB.bl (EvP.eq (m' := (modM v_length v_x).bind fun v_x2 => some (decide (v_x2 = 0))) (EvP.cmp (fun x y => decide (x = y)) (cmEq dtI (by decide)) (EvW.ofP (EvP.eq (m' := modM v_length v_x) (EvP.bin (enc := PV.int) (fun x y => modM x y) opMod (EvW.ofP (EvP.var (enc := PV.int) (a := v_length) (v := .non) 1 rfl) (fun η a => vw_nc nI η a)) (EvW.ofP (EvP.var (enc := PV.int) (a := v_x) (v := .non) 3 rfl) (fun η a => vw_nc nI η a))) rfl) (fun η a => vw_nc nI η a)) (EvW.ofP (EvP.con (enc := PV.int) (0) rfl) (fun η a => vw_nc nI η a))) rfl))) (fun v_x => (EvP.var (enc := PV.int) (a := v_x) (v := .non) 3 rfl))) rfl)) (nL nI) fun v_divisors => ?_
  exact Run.ret (enc := PV.int) rfl nI (EvP.eq (m' := ((lcP (fun (v_x4 : Int) => (m_moebius v_x4).bind fun v_x6 => ((fdivM v_length v_x4).bind fun v_x5 => atI v_powers v_x5).bind fun v_x7 => mulM v_x6 v_x7) v_divisors).bind fun v_x8 => some (v_x8.sum)).bind fun v_x9 => fdivM v_x9 v_length) (EvP.bin (enc := PV.int) (fun x y => fdivM x y) opFdiv (EvW.ofP (EvP.eq (m' := (lcP (fun (v_x4 : Int) => (m_moebius v_x4).bind fun v_x6 => ((fdivM v_length v_x4).bind fun v_x5 => atI v_powers v_x5).bind fun v_x7 => mulM v_x6 v_x7) v_divisors).bind fun v_x8 => some (v_x8.sum)) (EvP.biV (f := PV.int) (enc := PV.int) (fun t => some t.sum) biSum (EvV.ofP (EvP.fz (EvF.eq (m' := lcP (fun (v_x4 : Int) => (m_moebius v_x4).bind fun v_x6 => ((fdivM v_length v_x4).bind fun v_x5 => atI v_powers v_x5).bind fun v_x7 => mulM v_x6 v_x7) v_divisors) (EvF.lcP (g := PV.int) (me := fun (v_x4 : Int) => (m_moebius v_x4).bind fun v_x6 => ((fdivM v_length v_x4).bind fun v_x5 => atI v_powers v_x5).bind fun v_x7 => mulM v_x6 v_x7) (EvI.of0 (EvI0.seqL (EvP.var (enc := (eL PV.int)) (a := v_divisors) (v := .non) 2 rfl))) nI (fun v_x4 => (EvP.eq (m' := (m_moebius v_x4).bind fun v_x6 => ((fdivM v_length v_x4).bind fun v_x5 => atI v_powers v_x5).bind fun v_x7 => mulM v_x6 v_x7) (EvP.bin (enc := PV.int) (fun x y => mulM x y) opMul (EvW.ofP (EvP.eq (m' := m_moebius v_x4) (EvP.call (enc := PV.int) (fun t => m_moebius t.1) (fun η t r e => q_moebius (k + 0) η t r e) (Args.cons (EvP.var (enc := PV.int) (a := v_x4) (v := .non) 3 rfl) Args.nil)) rfl) (fun η a => vw_nc nI η a)) (EvW.ofP (EvP.eq (m' := (fdivM v_length v_x4).bind fun v_x5 => atI v_powers v_x5) (EvP.idx (enc := PV.int) (fun x y => atI x y) (ixL (f := PV.int)) (EvP.var (enc := (eL PV.int)) (a := v_powers) (v := .non) 0 rfl) (EvP.eq (m' := fdivM v_length v_x4) (EvP.bin (enc := PV.int) (fun x y => fdivM x y) opFdiv (EvW.ofP (EvP.var (enc := PV.int) (a := v_length) (v := .non) 1 rfl) (fun η a => vw_nc nI η a)) (EvW.ofP (EvP.var (enc := PV.int) (a := v_x4) (v := .non) 3 rfl) (fun η a => vw_nc nI η a))) rfl)) rfl) (fun η a => vw_nc nI η a))) rfl))) rfl)))) rfl) (fun η a => vw_nc nI η a)) (EvW.ofP (EvP.var (enc := PV.int) (a := v_length) (v := .non) 1 rfl) (fun η a => vw_nc nI η a))) rfl)

@[irreducible] def m_powers_of (v_size : Int) (v_most : Int) : Option (List Int) :=
  (some ([1])).bind fun (v_powers : (List Int)) =>
  (rng1 v_most).bind fun v_l => (foldO (fun (v_x : Int) (v_s : (List Int)) =>
      ((atI v_s (-1)).bind fun v_x2 => mulM v_x2 v_size).bind fun v_x3 => (appM v_s v_x3).bind fun v_powers2 =>
      some (v_powers2)) v_l (v_powers)).bind fun (v_s : (List Int)) =>
  some (v_s)
theorem q_powers_of (k : Nat) (η : Hp) (t : Int × Int × Unit) (r : (List Int)) (e : m_powers_of t.1 t.2.1 = some r) : dv T (k + 1) 6 [PV.int t.1, PV.int t.2.1] η = .ok ((eL PV.int) r) η := by
  obtain ⟨v_size, v_most, _⟩ := t
  refine def_okD (T := T) (k := k + 0) (f := 6) (d := f_powers_of) (args := [PV.int v_size, PV.int v_most]) (enc := (eL PV.int)) (m := m_powers_of v_size v_most) rfl rfl (fun v hv => by simp only [List.mem_cons, List.not_mem_nil, or_false] at hv; rcases hv with rfl | rfl <;> first | exact nI _ | exact nI _) (fun η => ?_) η r e
  unfold m_powers_of
  refine Run.own (enc := PV.int) (EvF.eq (m' := some ([1])) (EvF.lst (enc := PV.int) (fun a => [a.1]) (Args.cons (EvP.con (enc := PV.int) (1) rfl) Args.nil) (fun _ => rfl) (fun _ => by show _ ≤ 16777216; simp)) rfl) fun v_powers => ?_
  refine Run.loop (f := PV.int) (G := (fun (v_s : (List Int)) => [.val (PV.int (v_size)), .val (PV.int (v_most)), .own ((v_s).map PV.int), .any])) (wf := (fun _ => none)) (s0 := (v_powers)) (EvI0.eq (m' := rng1 v_most) (EvI0.rng1 (EvP.var (enc := PV.int) (a := v_most) (v := .non) 1 rfl)) rfl) nI ⟨.inr rfl, ⟨.inr rfl, ⟨.inr rfl, ⟨.inl rfl, trivial⟩⟩⟩⟩ rfl (fun v_x v_s => ?_) fun v_s => ?_
  · refine Run.app (f := PV.int) (xs := v_s) rfl (EvP.eq (m' := (atI v_s (-1)).bind fun v_x2 => mulM v_x2 v_size) (EvP.bin (enc := PV.int) (fun x y => mulM x y) opMul (EvW.ofP (EvP.eq (m' := atI v_s (-1)) (EvP.idxV (EvV.own (f := PV.int) (xs := v_s) 2 rfl) (EvP.eq (m' := some (-1)) (EvP.neg (EvP.con (enc := PV.int) (1) rfl)) rfl)) rfl) (fun η a => vw_nc nI η a)) (EvW.ofP (EvP.var (enc := PV.int) (a := v_size) (v := .non) 0 rfl) (fun η a => vw_nc nI η a))) rfl) fun v_powers2 => ?_
    exact Run.nilN ⟨.inr rfl, ⟨.inr rfl, ⟨.inr rfl, ⟨.inl rfl, trivial⟩⟩⟩⟩ rfl
  · exact Run.retO (f := PV.int) (xs := v_s) (i := 2) rfl nI rfl

@[irreducible] def m_necklaces_of (v_size : Int) (v_length : Int) : Option Int :=
  (m_powers_of v_size v_length).bind fun v_x => m_primitive_part v_x v_length
theorem q_necklaces_of (k : Nat) (η : Hp) (t : Int × Int × Unit) (r : Int) (e : m_necklaces_of t.1 t.2.1 = some r) : dv T (k + 3) 7 [PV.int t.1, PV.int t.2.1] η = .ok (PV.int r) η := by
  obtain ⟨v_size, v_length, _⟩ := t
  refine def_okD (T := T) (k := k + 2) (f := 7) (d := f_necklaces_of) (args := [PV.int v_size, PV.int v_length]) (enc := PV.int) (m := m_necklaces_of v_size v_length) rfl rfl (fun v hv => by simp only [List.mem_cons, List.not_mem_nil, or_false] at hv; rcases hv with rfl | rfl <;> first | exact nI _ | exact nI _) (fun η => ?_) η r e
  unfold m_necklaces_of
  exact Run.ret (enc := PV.int) rfl nI (EvP.eq (m' := (m_powers_of v_size v_length).bind fun v_x => m_primitive_part v_x v_length) (EvP.call (enc := PV.int) (fun t => m_primitive_part t.1 t.2.1) (fun η t r e => q_primitive_part (k + 0) η t r e) (Args.cons (EvP.eq (m' := m_powers_of v_size v_length) (EvP.call (enc := (eL PV.int)) (fun t => m_powers_of t.1 t.2.1) (fun η t r e => q_powers_of (k + 1) η t r e) (Args.cons (EvP.var (enc := PV.int) (a := v_size) (v := .non) 0 rfl) (Args.cons (EvP.var (enc := PV.int) (a := v_length) (v := .non) 1 rfl) Args.nil))) rfl) (Args.cons (EvP.var (enc := PV.int) (a := v_length) (v := .non) 1 rfl) Args.nil))) (by first | rfl | (simp only [bindS, up_some, up_bind, Option.bind_assoc, Option.bind_some, eqM_ok, eqM_okO]; done) | simp only [bindS, up_def, Option.bind_assoc, Option.bind_some, eqM_ok, eqM_okO]))

@[irreducible] def m_turns_of (v_counts : (List Int)) (v_length : Int) : Option (List Int) :=
  ((repT [0] v_length).bind fun v_x => catM v_counts v_x).bind fun (v_row : (List Int)) =>
  (some ([0])).bind fun (v_turns : (List Int)) =>
  (rng2 1 (v_length + 1)).bind fun v_l => (foldO (fun (v_x2 : Int) (v_s : (List Int)) =>
      (((atI v_row (v_x2 - 1)).bind fun v_x3 => mulM v_x2 v_x3).bind fun v_x9 => (((rng2 1 v_x2).bind fun v_x7 => lcP (fun (v_x4 : Int) => (atI v_row (v_x4 - 1)).bind fun v_x5 => (atI v_s (v_x2 - v_x4)).bind fun v_x6 => mulM v_x5 v_x6) v_x7).bind fun v_x8 => some (v_x8.sum)).bind fun v_x10 => some (v_x9 + v_x10)).bind fun v_x11 => (appM v_s v_x11).bind fun v_turns2 =>
      some (v_turns2)) v_l (v_turns)).bind fun (v_s : (List Int)) =>
  some (v_s)
theorem q_turns_of (k : Nat) (η : Hp) (t : (List Int) × Int × Unit) (r : (List Int)) (e : m_turns_of t.1 t.2.1 = some r) : dv T (k + 1) 8 [(eT PV.int) t.1, PV.int t.2.1] η = .ok ((eL PV.int) r) η := by
  obtain ⟨v_counts, v_length, _⟩ := t
  refine def_okD (T := T) (k := k + 0) (f := 8) (d := f_turns_of) (args := [(eT PV.int) v_counts, PV.int v_length]) (enc := (eL PV.int)) (m := m_turns_of v_counts v_length) rfl rfl (fun v hv => by simp only [List.mem_cons, List.not_mem_nil, or_false] at hv; rcases hv with rfl | rfl <;> first | exact (nT nI) _ | exact nI _) (fun η => ?_) η r e
  unfold m_turns_of
  refine Run.asg (enc := (eT PV.int)) (EvP.eq (m' := (repT [0] v_length).bind fun v_x => catM v_counts v_x) (EvP.bin (enc := (eT PV.int)) (fun x y => catM x y) (opCatT (f := PV.int)) (EvW.ofP (EvP.var (enc := (eT PV.int)) (a := v_counts) (v := .non) 0 rfl) (fun η a => vw_nc (nT nI) η a)) (EvW.ofP (EvP.eq (m' := repT [0] v_length) (EvP.bin (enc := (eT PV.int)) (fun x y => repT x y) (opRepT (f := PV.int)) (EvW.ofP (EvP.eq (m' := some ([0])) (EvP.tup (enc := (eT PV.int)) (fun a => [a.1]) (Args.cons (EvP.con (enc := PV.int) (0) rfl) Args.nil) (fun _ => rfl) (fun _ => by show _ ≤ 16777216; simp)) rfl) (fun η a => vw_nc (nT nI) η a)) (EvW.ofP (EvP.var (enc := PV.int) (a := v_length) (v := .non) 1 rfl) (fun η a => vw_nc nI η a))) rfl) (fun η a => vw_nc (nT nI) η a))) rfl) (nT nI) fun v_row => ?_
  refine Run.own (enc := PV.int) (EvF.eq (m' := some ([0])) (EvF.lst (enc := PV.int) (fun a => [a.1]) (Args.cons (EvP.con (enc := PV.int) (0) rfl) Args.nil) (fun _ => rfl) (fun _ => by show _ ≤ 16777216; simp)) rfl) fun v_turns => ?_
  refine Run.loop (f := PV.int) (G := (fun (v_s : (List Int)) => [.val ((eT PV.int) (v_counts)), .val (PV.int (v_length)), .val ((eT PV.int) (v_row)), .own ((v_s).map PV.int), .any, .any])) (wf := (fun _ => none)) (s0 := (v_turns)) (EvI0.eq (m' := rng2 1 (v_length + 1)) (EvI0.rng2 (EvP.con (enc := PV.int) (1) rfl) (EvP.eq (m' := some (v_length + 1)) (EvP.bin (enc := PV.int) (fun x y => some (x + y)) opAdd (EvW.ofP (EvP.var (enc := PV.int) (a := v_length) (v := .non) 1 rfl) (fun η a => vw_nc nI η a)) (EvW.ofP (EvP.con (enc := PV.int) (1) rfl) (fun η a => vw_nc nI η a))) rfl)) rfl) nI ⟨.inr rfl, ⟨.inr rfl, ⟨.inr rfl, ⟨.inr rfl, ⟨.inl rfl, ⟨.inl rfl, trivial⟩⟩⟩⟩⟩⟩ rfl (fun v_x2 v_s => ?_) fun v_s => ?_
  · refine Run.app (f := PV.int) (xs := v_s) rfl (EvP.eq (m' := ((atI v_row (v_x2 - 1)).bind fun v_x3 => mulM v_x2 v_x3).bind fun v_x9 => (((rng2 1 v_x2).bind fun v_x7 => lcP (fun (v_x4 : Int) => (atI v_row (v_x4 - 1)).bind fun v_x5 => (atI v_s (v_x2 - v_x4)).bind fun v_x6 => mulM v_x5 v_x6) v_x7).bind fun v_x8 => some (v_x8.sum)).bind fun v_x10 => some (v_x9 + v_x10)) (EvP.bin (enc := PV.int) (fun x y => some (x + y)) opAdd (EvW.ofP (EvP.eq (m' := (atI v_row (v_x2 - 1)).bind fun v_x3 => mulM v_x2 v_x3) (EvP.bin (enc := PV.int) (fun x y => mulM x y) opMul (EvW.ofP (EvP.var (enc := PV.int) (a := v_x2) (v := .non) 4 rfl) (fun η a => vw_nc nI η a)) (EvW.ofP (EvP.eq (m' := atI v_row (v_x2 - 1)) (EvP.idx (enc := PV.int) (fun x y => atI x y) (ixT (f := PV.int)) (EvP.var (enc := (eT PV.int)) (a := v_row) (v := .non) 2 rfl) (EvP.eq (m' := some (v_x2 - 1)) (EvP.bin (enc := PV.int) (fun x y => some (x - y)) opSub (EvW.ofP (EvP.var (enc := PV.int) (a := v_x2) (v := .non) 4 rfl) (fun η a => vw_nc nI η a)) (EvW.ofP (EvP.con (enc := PV.int) (1) rfl) (fun η a => vw_nc nI η a))) rfl)) rfl) (fun η a => vw_nc nI η a))) rfl) (fun η a => vw_nc nI η a)) (EvW.ofP (EvP.eq (m' := ((rng2 1 v_x2).bind fun v_x7 => lcP (fun (v_x4 : Int) => (atI v_row (v_x4 - 1)).bind fun v_x5 => (atI v_s (v_x2 - v_x4)).bind fun v_x6 => mulM v_x5 v_x6) v_x7).bind fun v_x8 => some (v_x8.sum)) (EvP.biV (f := PV.int) (enc := PV.int) (fun t => some t.sum) biSum (EvV.ofP (EvP.fz (EvF.eq (m' := (rng2 1 v_x2).bind fun v_x7 => lcP (fun (v_x4 : Int) => (atI v_row (v_x4 - 1)).bind fun v_x5 => (atI v_s (v_x2 - v_x4)).bind fun v_x6 => mulM v_x5 v_x6) v_x7) (EvF.lcP (g := PV.int) (me := fun (v_x4 : Int) => (atI v_row (v_x4 - 1)).bind fun v_x5 => (atI v_s (v_x2 - v_x4)).bind fun v_x6 => mulM v_x5 v_x6) (EvI.of0 (EvI0.eq (m' := rng2 1 v_x2) (EvI0.rng2 (EvP.con (enc := PV.int) (1) rfl) (EvP.var (enc := PV.int) (a := v_x2) (v := .non) 4 rfl)) rfl)) nI (fun v_x4 => (EvP.eq (m' := (atI v_row (v_x4 - 1)).bind fun v_x5 => (atI v_s (v_x2 - v_x4)).bind fun v_x6 => mulM v_x5 v_x6) (EvP.bin (enc := PV.int) (fun x y => mulM x y) opMul (EvW.ofP (EvP.eq (m' := atI v_row (v_x4 - 1)) (EvP.idx (enc := PV.int) (fun x y => atI x y) (ixT (f := PV.int)) (EvP.var (enc := (eT PV.int)) (a := v_row) (v := .non) 2 rfl) (EvP.eq (m' := some (v_x4 - 1)) (EvP.bin (enc := PV.int) (fun x y => some (x - y)) opSub (EvW.ofP (EvP.var (enc := PV.int) (a := v_x4) (v := .non) 5 rfl) (fun η a => vw_nc nI η a)) (EvW.ofP (EvP.con (enc := PV.int) (1) rfl) (fun η a => vw_nc nI η a))) rfl)) rfl) (fun η a => vw_nc nI η a)) (EvW.ofP (EvP.eq (m' := atI v_s (v_x2 - v_x4)) (EvP.idxV (EvV.own (f := PV.int) (xs := v_s) 3 rfl) (EvP.eq (m' := some (v_x2 - v_x4)) (EvP.bin (enc := PV.int) (fun x y => some (x - y)) opSub (EvW.ofP (EvP.var (enc := PV.int) (a := v_x2) (v := .non) 4 rfl) (fun η a => vw_nc nI η a)) (EvW.ofP (EvP.var (enc := PV.int) (a := v_x4) (v := .non) 5 rfl) (fun η a => vw_nc nI η a))) rfl)) rfl) (fun η a => vw_nc nI η a))) rfl))) rfl)))) rfl) (fun η a => vw_nc nI η a))) rfl) fun v_turns2 => ?_
    exact Run.nilN ⟨.inr rfl, ⟨.inr rfl, ⟨.inr rfl, ⟨.inr rfl, ⟨.inl rfl, ⟨.inl rfl, trivial⟩⟩⟩⟩⟩⟩ rfl
  · exact Run.retO (f := PV.int) (xs := v_s) (i := 3) rfl nI rfl

@[irreducible] def m_word_necklaces_of (v_counts : (List Int)) (v_length : Int) : Option Int :=
  (m_turns_of v_counts v_length).bind fun v_x => m_primitive_part v_x v_length
theorem q_word_necklaces_of (k : Nat) (η : Hp) (t : (List Int) × Int × Unit) (r : Int) (e : m_word_necklaces_of t.1 t.2.1 = some r) : dv T (k + 3) 9 [(eT PV.int) t.1, PV.int t.2.1] η = .ok (PV.int r) η := by
  obtain ⟨v_counts, v_length, _⟩ := t
  refine def_okD (T := T) (k := k + 2) (f := 9) (d := f_word_necklaces_of) (args := [(eT PV.int) v_counts, PV.int v_length]) (enc := PV.int) (m := m_word_necklaces_of v_counts v_length) rfl rfl (fun v hv => by simp only [List.mem_cons, List.not_mem_nil, or_false] at hv; rcases hv with rfl | rfl <;> first | exact (nT nI) _ | exact nI _) (fun η => ?_) η r e
  unfold m_word_necklaces_of
  exact Run.ret (enc := PV.int) rfl nI (EvP.eq (m' := (m_turns_of v_counts v_length).bind fun v_x => m_primitive_part v_x v_length) (EvP.call (enc := PV.int) (fun t => m_primitive_part t.1 t.2.1) (fun η t r e => q_primitive_part (k + 0) η t r e) (Args.cons (EvP.eq (m' := m_turns_of v_counts v_length) (EvP.call (enc := (eL PV.int)) (fun t => m_turns_of t.1 t.2.1) (fun η t r e => q_turns_of (k + 1) η t r e) (Args.cons (EvP.var (enc := (eT PV.int)) (a := v_counts) (v := .non) 0 rfl) (Args.cons (EvP.var (enc := PV.int) (a := v_length) (v := .non) 1 rfl) Args.nil))) rfl) (Args.cons (EvP.var (enc := PV.int) (a := v_length) (v := .non) 1 rfl) Args.nil))) (by first | rfl | (simp only [bindS, up_some, up_bind, Option.bind_assoc, Option.bind_some, eqM_ok, eqM_okO]; done) | simp only [bindS, up_def, Option.bind_assoc, Option.bind_some, eqM_ok, eqM_okO]))

@[irreducible] def m_failing (v_size : Int) (v_counts : (List Int)) : Option (Option Int) :=
  (rng2 1 ((v_counts.length : Int) + 1)).bind fun v_l => thenR (loopO (ρ := (Option Int)) (fun (v_x : Int) (v_s : Unit) =>
      ((m_word_necklaces_of v_counts v_x).bind fun v_x2 => (m_necklaces_of v_size v_x).bind fun v_x3 => some (decide (v_x3 < v_x2))).bind fun v_b => if v_b = true then
        some (.rt (some (v_x)))
      else
      some (.nx ())) v_l ()) (fun (v_s : Unit) =>
      some (none)) (fun r => some (r))
theorem q_failing (k : Nat) (η : Hp) (t : Int × (List Int) × Unit) (r : (Option Int)) (e : m_failing t.1 t.2.1 = some r) : dv T (k + 4) 10 [PV.int t.1, (eT PV.int) t.2.1] η = .ok ((eO PV.int) r) η := by
  obtain ⟨v_size, v_counts, _⟩ := t
  refine def_okD (T := T) (k := k + 3) (f := 10) (d := f_failing) (args := [PV.int v_size, (eT PV.int) v_counts]) (enc := (eO PV.int)) (m := m_failing v_size v_counts) rfl rfl (fun v hv => by simp only [List.mem_cons, List.not_mem_nil, or_false] at hv; rcases hv with rfl | rfl <;> first | exact nI _ | exact (nT nI) _) (fun η => ?_) η r e
  unfold m_failing
  refine Run.loopR' (f := PV.int) (G := (fun (v_s : Unit) => [.val (PV.int (v_size)), .val ((eT PV.int) (v_counts)), .any])) (wf := (fun _ => none)) (s0 := ()) (PR := (PF η.length η false (eO PV.int))) (kr := fun r => r) (EvI0.eq (m' := rng2 1 ((v_counts.length : Int) + 1)) (EvI0.rng2 (EvP.con (enc := PV.int) (1) rfl) (EvP.eq (m' := some ((v_counts.length : Int) + 1)) (EvP.bin (enc := PV.int) (fun x y => some (x + y)) opAdd (EvW.ofP (EvP.eq (m' := some ((v_counts.length : Int))) (EvP.bi (enc := PV.int) (fun t => some (t.1.length : Int)) (lnT (f := PV.int)) (Args.cons (EvP.var (enc := (eT PV.int)) (a := v_counts) (v := .non) 1 rfl) Args.nil)) rfl) (fun η a => vw_nc nI η a)) (EvW.ofP (EvP.con (enc := PV.int) (1) rfl) (fun η a => vw_nc nI η a))) rfl)) rfl) nI ⟨.inr rfl, ⟨.inr rfl, ⟨.inl rfl, trivial⟩⟩⟩ rfl (fun r v η h => h) (fun v_x v_s => ?_) fun v_s => ?_
  · refine Run.ite (EvB.bl (EvP.eq (m' := (m_word_necklaces_of v_counts v_x).bind fun v_x2 => (m_necklaces_of v_size v_x).bind fun v_x3 => some (decide (v_x3 < v_x2))) (EvP.cmp (fun x y => decide (y < x)) ciGt (EvW.ofP (EvP.eq (m' := m_word_necklaces_of v_counts v_x) (EvP.call (enc := PV.int) (fun t => m_word_necklaces_of t.1 t.2.1) (fun η t r e => q_word_necklaces_of (k + 0) η t r e) (Args.cons (EvP.var (enc := (eT PV.int)) (a := v_counts) (v := .non) 1 rfl) (Args.cons (EvP.var (enc := PV.int) (a := v_x) (v := .non) 2 rfl) Args.nil))) rfl) (fun η a => vw_nc nI η a)) (EvW.ofP (EvP.eq (m' := m_necklaces_of v_size v_x) (EvP.call (enc := PV.int) (fun t => m_necklaces_of t.1 t.2.1) (fun η t r e => q_necklaces_of (k + 0) η t r e) (Args.cons (EvP.var (enc := PV.int) (a := v_size) (v := .non) 0 rfl) (Args.cons (EvP.var (enc := PV.int) (a := v_x) (v := .non) 2 rfl) Args.nil))) rfl) (fun η a => vw_nc nI η a))) rfl)) ?_ ?_
    · exact Run.eq (Run.rtL pf_x (Run.ret (enc := (eO PV.int)) rfl (nO nI) (EvP.eq (m' := some (some (v_x))) (EvP.conv (enc := PV.int) (enc' := (eO PV.int)) (fun a => some a) (EvP.var (enc := PV.int) (a := v_x) (v := .non) 2 rfl) (fun _ => rfl)) rfl))) rfl
    · exact Run.nilL ⟨.inr rfl, ⟨.inr rfl, ⟨.inl rfl, trivial⟩⟩⟩ rfl
  · exact Run.ret (enc := (eO PV.int)) rfl (nO nI) (EvP.eq (m' := some (none)) (EvP.conv (enc := eU) (enc' := (eO PV.int)) (fun _ => none) (EvP.con (enc := eU) (()) rfl) (fun _ => rfl)) rfl)

@[irreducible] def m_with_more (v_counts : (List Int)) (v_length : Int) (v_many : Int) : Option (List Int) :=
  ((repT [0] (v_length - (v_counts.length : Int))).bind fun v_x => catM v_counts v_x).bind fun (v_row : (List Int)) =>
  ((((atI v_row (v_length - 1)).bind fun v_x2 => some (v_x2 + v_many)).bind fun v_x3 => some ([v_x3])).bind fun v_x4 => catM ((cut v_row (none) (some (v_length - 1)))) v_x4).bind fun v_x5 => catM v_x5 ((cut v_row (some v_length) (none)))
theorem q_with_more (k : Nat) (η : Hp) (t : (List Int) × Int × Int × Unit) (r : (List Int)) (e : m_with_more t.1 t.2.1 t.2.2.1 = some r) : dv T (k + 1) 11 [(eT PV.int) t.1, PV.int t.2.1, PV.int t.2.2.1] η = .ok ((eT PV.int) r) η := by
  obtain ⟨v_counts, v_length, v_many, _⟩ := t
  refine def_okD (T := T) (k := k + 0) (f := 11) (d := f_with_more) (args := [(eT PV.int) v_counts, PV.int v_length, PV.int v_many]) (enc := (eT PV.int)) (m := m_with_more v_counts v_length v_many) rfl rfl (fun v hv => by simp only [List.mem_cons, List.not_mem_nil, or_false] at hv; rcases hv with rfl | rfl | rfl <;> first | exact (nT nI) _ | exact nI _ | exact nI _) (fun η => ?_) η r e
  unfold m_with_more
  refine Run.asg (enc := (eT PV.int)) (EvP.eq (m' := (repT [0] (v_length - (v_counts.length : Int))).bind fun v_x => catM v_counts v_x) (EvP.bin (enc := (eT PV.int)) (fun x y => catM x y) (opCatT (f := PV.int)) (EvW.ofP (EvP.var (enc := (eT PV.int)) (a := v_counts) (v := .non) 0 rfl) (fun η a => vw_nc (nT nI) η a)) (EvW.ofP (EvP.eq (m' := repT [0] (v_length - (v_counts.length : Int))) (EvP.bin (enc := (eT PV.int)) (fun x y => repT x y) (opRepT (f := PV.int)) (EvW.ofP (EvP.eq (m' := some ([0])) (EvP.tup (enc := (eT PV.int)) (fun a => [a.1]) (Args.cons (EvP.con (enc := PV.int) (0) rfl) Args.nil) (fun _ => rfl) (fun _ => by show _ ≤ 16777216; simp)) rfl) (fun η a => vw_nc (nT nI) η a)) (EvW.ofP (EvP.eq (m' := some (v_length - (v_counts.length : Int))) (EvP.bin (enc := PV.int) (fun x y => some (x - y)) opSub (EvW.ofP (EvP.var (enc := PV.int) (a := v_length) (v := .non) 1 rfl) (fun η a => vw_nc nI η a)) (EvW.ofP (EvP.eq (m' := some ((v_counts.length : Int))) (EvP.bi (enc := PV.int) (fun t => some (t.1.length : Int)) (lnT (f := PV.int)) (Args.cons (EvP.var (enc := (eT PV.int)) (a := v_counts) (v := .non) 0 rfl) Args.nil)) rfl) (fun η a => vw_nc nI η a))) rfl) (fun η a => vw_nc nI η a))) rfl) (fun η a => vw_nc (nT nI) η a))) rfl) (nT nI) fun v_row => ?_
  exact Run.ret (enc := (eT PV.int)) rfl (nT nI) (EvP.eq (m' := ((((atI v_row (v_length - 1)).bind fun v_x2 => some (v_x2 + v_many)).bind fun v_x3 => some ([v_x3])).bind fun v_x4 => catM ((cut v_row (none) (some (v_length - 1)))) v_x4).bind fun v_x5 => catM v_x5 ((cut v_row (some v_length) (none)))) (EvP.bin (enc := (eT PV.int)) (fun x y => catM x y) (opCatT (f := PV.int)) (EvW.ofP (EvP.eq (m' := (((atI v_row (v_length - 1)).bind fun v_x2 => some (v_x2 + v_many)).bind fun v_x3 => some ([v_x3])).bind fun v_x4 => catM ((cut v_row (none) (some (v_length - 1)))) v_x4) (EvP.bin (enc := (eT PV.int)) (fun x y => catM x y) (opCatT (f := PV.int)) (EvW.ofP (EvP.eq (m' := some (cut v_row (none) (some (v_length - 1)))) (EvP.slc (enc := (eT PV.int)) (fun x l u => cut x l u) (slT (f := PV.int)) (EvW.ofP (EvP.var (enc := (eT PV.int)) (a := v_row) (v := .non) 3 rfl) (fun η a => vw_nc (nT nI) η a)) EvO.nil (EvO.one (EvP.eq (m' := some (v_length - 1)) (EvP.bin (enc := PV.int) (fun x y => some (x - y)) opSub (EvW.ofP (EvP.var (enc := PV.int) (a := v_length) (v := .non) 1 rfl) (fun η a => vw_nc nI η a)) (EvW.ofP (EvP.con (enc := PV.int) (1) rfl) (fun η a => vw_nc nI η a))) rfl))) rfl) (fun η a => vw_nc (nT nI) η a)) (EvW.ofP (EvP.eq (m' := ((atI v_row (v_length - 1)).bind fun v_x2 => some (v_x2 + v_many)).bind fun v_x3 => some ([v_x3])) (EvP.tup (enc := (eT PV.int)) (fun a => [a.1]) (Args.cons (EvP.eq (m' := (atI v_row (v_length - 1)).bind fun v_x2 => some (v_x2 + v_many)) (EvP.bin (enc := PV.int) (fun x y => some (x + y)) opAdd (EvW.ofP (EvP.eq (m' := atI v_row (v_length - 1)) (EvP.idx (enc := PV.int) (fun x y => atI x y) (ixT (f := PV.int)) (EvP.var (enc := (eT PV.int)) (a := v_row) (v := .non) 3 rfl) (EvP.eq (m' := some (v_length - 1)) (EvP.bin (enc := PV.int) (fun x y => some (x - y)) opSub (EvW.ofP (EvP.var (enc := PV.int) (a := v_length) (v := .non) 1 rfl) (fun η a => vw_nc nI η a)) (EvW.ofP (EvP.con (enc := PV.int) (1) rfl) (fun η a => vw_nc nI η a))) rfl)) rfl) (fun η a => vw_nc nI η a)) (EvW.ofP (EvP.var (enc := PV.int) (a := v_many) (v := .non) 2 rfl) (fun η a => vw_nc nI η a))) rfl) Args.nil) (fun _ => rfl) (fun _ => by show _ ≤ 16777216; simp)) (by first | rfl | (simp only [bindS, up_some, up_bind, Option.bind_assoc, Option.bind_some, eqM_ok, eqM_okO]; done) | simp only [bindS, up_def, Option.bind_assoc, Option.bind_some, eqM_ok, eqM_okO])) (fun η a => vw_nc (nT nI) η a))) rfl) (fun η a => vw_nc (nT nI) η a)) (EvW.ofP (EvP.eq (m' := some (cut v_row (some v_length) (none))) (EvP.slc (enc := (eT PV.int)) (fun x l u => cut x l u) (slT (f := PV.int)) (EvW.ofP (EvP.var (enc := (eT PV.int)) (a := v_row) (v := .non) 3 rfl) (fun η a => vw_nc (nT nI) η a)) (EvO.one (EvP.var (enc := PV.int) (a := v_length) (v := .non) 1 rfl)) EvO.nil) rfl) (fun η a => vw_nc (nT nI) η a))) rfl)

@[irreducible] def m_more_of (v_size : Int) (v_counts : (List Int)) (v_length : Int) : Option Int :=
  (some (0)).bind fun (v_low : Int) =>
  ((m_necklaces_of v_size v_length).bind fun v_x => some (v_x + 1)).bind fun (v_high : Int) =>
  (whlO (fun (v_s : Int × Int) => some (decide (1 < (v_s.2 - v_s.1)))) (fun (v_s : Int × Int) =>
      (fdivM (v_s.1 + v_s.2) 2).bind fun (v_middle : Int) =>
      ((((m_with_more v_counts v_length v_middle).bind fun v_x2 => m_failing v_size v_x2).bind fun v_x3 => some ((v_x3).isNone)).bind fun v_b => if v_b = true then (some (v_middle)).bind fun (v_low2 : Int) =>
        some (v_low2, v_s.2) else (some (v_middle)).bind fun (v_high2 : Int) =>
        some (v_s.1, v_high2)).bind fun (v_s2 : Int × Int) =>
      some (v_s2.1, v_s2.2)) 100000000 (v_low, v_high)).bind fun (v_s : Int × Int) =>
  some (v_s.1)
theorem q_more_of (k : Nat) (η : Hp) (t : Int × (List Int) × Int × Unit) (r : Int) (e : m_more_of t.1 t.2.1 t.2.2.1 = some r) : dv T (k + 5) 12 [PV.int t.1, (eT PV.int) t.2.1, PV.int t.2.2.1] η = .ok (PV.int r) η := by
  obtain ⟨v_size, v_counts, v_length, _⟩ := t
  refine def_okD (T := T) (k := k + 4) (f := 12) (d := f_more_of) (args := [PV.int v_size, (eT PV.int) v_counts, PV.int v_length]) (enc := PV.int) (m := m_more_of v_size v_counts v_length) rfl rfl (fun v hv => by simp only [List.mem_cons, List.not_mem_nil, or_false] at hv; rcases hv with rfl | rfl | rfl <;> first | exact nI _ | exact (nT nI) _ | exact nI _) (fun η => ?_) η r e
  unfold m_more_of
  refine Run.asg (enc := PV.int) (EvP.con (enc := PV.int) (0) rfl) nI fun v_low => ?_
  refine Run.asg (enc := PV.int) (EvP.eq (m' := (m_necklaces_of v_size v_length).bind fun v_x => some (v_x + 1)) (EvP.bin (enc := PV.int) (fun x y => some (x + y)) opAdd (EvW.ofP (EvP.eq (m' := m_necklaces_of v_size v_length) (EvP.call (enc := PV.int) (fun t => m_necklaces_of t.1 t.2.1) (fun η t r e => q_necklaces_of (k + 1) η t r e) (Args.cons (EvP.var (enc := PV.int) (a := v_size) (v := .non) 0 rfl) (Args.cons (EvP.var (enc := PV.int) (a := v_length) (v := .non) 2 rfl) Args.nil))) rfl) (fun η a => vw_nc nI η a)) (EvW.ofP (EvP.con (enc := PV.int) (1) rfl) (fun η a => vw_nc nI η a))) rfl) nI fun v_high => ?_
  refine Run.whl (G := (fun (v_s : Int × Int) => [.val (PV.int (v_size)), .val ((eT PV.int) (v_counts)), .val (PV.int (v_length)), .val (PV.int (v_s.1)), .val (PV.int (v_s.2)), .any])) (wf := (fun _ => none)) (s0 := (v_low, v_high)) ⟨.inr rfl, ⟨.inr rfl, ⟨.inr rfl, ⟨.inr rfl, ⟨.inr rfl, ⟨.inl rfl, trivial⟩⟩⟩⟩⟩⟩ rfl (fun v_s => (EvB.bl (EvP.eq (m' := some (decide (1 < (v_s.2 - v_s.1)))) (EvP.cmp (fun x y => decide (y < x)) ciGt (EvW.ofP (EvP.eq (m' := some (v_s.2 - v_s.1)) (EvP.bin (enc := PV.int) (fun x y => some (x - y)) opSub (EvW.ofP (EvP.var (enc := PV.int) (a := v_s.2) (v := .non) 4 rfl) (fun η a => vw_nc nI η a)) (EvW.ofP (EvP.var (enc := PV.int) (a := v_s.1) (v := .non) 3 rfl) (fun η a => vw_nc nI η a))) rfl) (fun η a => vw_nc nI η a)) (EvW.ofP (EvP.con (enc := PV.int) (1) rfl) (fun η a => vw_nc nI η a))) rfl))) (fun v_s => ?_) fun v_s => ?_
  · refine Run.asg (enc := PV.int) (EvP.eq (m' := fdivM (v_s.1 + v_s.2) 2) (EvP.bin (enc := PV.int) (fun x y => fdivM x y) opFdiv (EvW.ofP (EvP.eq (m' := some (v_s.1 + v_s.2)) (EvP.bin (enc := PV.int) (fun x y => some (x + y)) opAdd (EvW.ofP (EvP.var (enc := PV.int) (a := v_s.1) (v := .non) 3 rfl) (fun η a => vw_nc nI η a)) (EvW.ofP (EvP.var (enc := PV.int) (a := v_s.2) (v := .non) 4 rfl) (fun η a => vw_nc nI η a))) rfl) (fun η a => vw_nc nI η a)) (EvW.ofP (EvP.con (enc := PV.int) (2) rfl) (fun η a => vw_nc nI η a))) rfl) nI fun v_middle => ?_
    refine Run.seqJ (G := (fun (v_s2 : Int × Int) => [.val (PV.int (v_size)), .val ((eT PV.int) (v_counts)), .val (PV.int (v_length)), .val (PV.int (v_s2.1)), .val (PV.int (v_s2.2)), .val (PV.int (v_middle))])) (wf := (fun _ => none)) ?_ fun v_s2 => ?_
    · refine Run.ite (EvB.bl (EvP.eq (m' := ((m_with_more v_counts v_length v_middle).bind fun v_x2 => m_failing v_size v_x2).bind fun v_x3 => some ((v_x3).isNone)) (EvP.isN (fun x => x.isNone) (fun x => by cases x <;> rfl) (EvP.eq (m' := (m_with_more v_counts v_length v_middle).bind fun v_x2 => m_failing v_size v_x2) (EvP.call (enc := (eO PV.int)) (fun t => m_failing t.1 t.2.1) (fun η t r e => q_failing (k + 0) η t r e) (Args.cons (EvP.var (enc := PV.int) (a := v_size) (v := .non) 0 rfl) (Args.cons (EvP.eq (m' := m_with_more v_counts v_length v_middle) (EvP.call (enc := (eT PV.int)) (fun t => m_with_more t.1 t.2.1 t.2.2.1) (fun η t r e => q_with_more (k + 3) η t r e) (Args.cons (EvP.var (enc := (eT PV.int)) (a := v_counts) (v := .non) 1 rfl) (Args.cons (EvP.var (enc := PV.int) (a := v_length) (v := .non) 2 rfl) (Args.cons (EvP.var (enc := PV.int) (a := v_middle) (v := .non) 5 rfl) Args.nil)))) rfl) Args.nil))) (by first | rfl | (simp only [bindS, up_some, up_bind, Option.bind_assoc, Option.bind_some, eqM_ok, eqM_okO]; done) | simp only [bindS, up_def, Option.bind_assoc, Option.bind_some, eqM_ok, eqM_okO]))) rfl)) ?_ ?_
      · refine Run.asg (enc := PV.int) (EvP.var (enc := PV.int) (a := v_middle) (v := .non) 5 rfl) nI fun v_low2 => ?_
        exact Run.nilJ ⟨.inr rfl, ⟨.inr rfl, ⟨.inr rfl, ⟨.inr rfl, ⟨.inr rfl, ⟨.inr rfl, trivial⟩⟩⟩⟩⟩⟩ rfl
      · refine Run.asg (enc := PV.int) (EvP.var (enc := PV.int) (a := v_middle) (v := .non) 5 rfl) nI fun v_high2 => ?_
        exact Run.nilJ ⟨.inr rfl, ⟨.inr rfl, ⟨.inr rfl, ⟨.inr rfl, ⟨.inr rfl, ⟨.inr rfl, trivial⟩⟩⟩⟩⟩⟩ rfl
    · exact Run.nilN ⟨.inr rfl, ⟨.inr rfl, ⟨.inr rfl, ⟨.inr rfl, ⟨.inr rfl, ⟨.inl rfl, trivial⟩⟩⟩⟩⟩⟩ rfl
  · exact Run.ret (enc := PV.int) rfl nI (EvP.var (enc := PV.int) (a := v_s.1) (v := .non) 3 rfl)

@[irreducible] def m_more_words (v_size : Int) (v_counts : (List Int)) (v_length : Int) : Option (Option Int) :=
  (m_check_both v_size v_counts).bind fun v_x =>
  (m_check_length v_length).bind fun v_x2 =>
  ((m_failing v_size v_counts).bind fun v_x3 => some ((v_x3).isSome)).bind fun v_b => if v_b = true then some (none) else (m_more_of v_size v_counts v_length).bind fun a => some ((fun a => some a) a)
theorem q_more_words (k : Nat) (η : Hp) (t : Int × (List Int) × Int × Unit) (r : (Option Int)) (e : m_more_words t.1 t.2.1 t.2.2.1 = some r) : dv T (k + 6) 17 [PV.int t.1, (eT PV.int) t.2.1, PV.int t.2.2.1] η = .ok ((eO PV.int) r) η := by
  obtain ⟨v_size, v_counts, v_length, _⟩ := t
  refine def_okD (T := T) (k := k + 5) (f := 17) (d := f_more_words) (args := [PV.int v_size, (eT PV.int) v_counts, PV.int v_length]) (enc := (eO PV.int)) (m := m_more_words v_size v_counts v_length) rfl rfl (fun v hv => by simp only [List.mem_cons, List.not_mem_nil, or_false] at hv; rcases hv with rfl | rfl | rfl <;> first | exact nI _ | exact (nT nI) _ | exact nI _) (fun η => ?_) η r e
  unfold m_more_words
  refine Run.ex (enc := eU) (EvP.eq (m' := m_check_both v_size v_counts) (EvP.call (enc := eU) (fun t => m_check_both t.1 t.2.1) (fun η t r e => q_check_both (k + 2) η t r e) (Args.cons (EvP.var (enc := PV.int) (a := v_size) (v := .non) 0 rfl) (Args.cons (EvP.var (enc := (eT PV.int)) (a := v_counts) (v := .non) 1 rfl) Args.nil))) rfl) fun v_x => ?_
  refine Run.ex (enc := eU) (EvP.eq (m' := m_check_length v_length) (EvP.call (enc := eU) (fun t => m_check_length t.1) (fun η t r e => q_check_length (k + 3) η t r e) (Args.cons (EvP.var (enc := PV.int) (a := v_length) (v := .non) 2 rfl) Args.nil)) rfl) fun v_x2 => ?_
  exact Run.ret (enc := (eO PV.int)) rfl (nO nI) (EvP.eq (m' := ((m_failing v_size v_counts).bind fun v_x3 => some ((v_x3).isSome)).bind fun v_b => if v_b = true then some (none) else (m_more_of v_size v_counts v_length).bind fun a => some ((fun a => some a) a)) (EvP.ite (EvB.bl (EvP.eq (m' := (m_failing v_size v_counts).bind fun v_x3 => some ((v_x3).isSome)) (EvP.isN (fun x => x.isSome) (fun x => by cases x <;> rfl) (EvP.eq (m' := m_failing v_size v_counts) (EvP.call (enc := (eO PV.int)) (fun t => m_failing t.1 t.2.1) (fun η t r e => q_failing (k + 1) η t r e) (Args.cons (EvP.var (enc := PV.int) (a := v_size) (v := .non) 0 rfl) (Args.cons (EvP.var (enc := (eT PV.int)) (a := v_counts) (v := .non) 1 rfl) Args.nil))) rfl)) rfl)) (EvP.eq (m' := some (none)) (EvP.conv (enc := eU) (enc' := (eO PV.int)) (fun _ => none) (EvP.con (enc := eU) (()) rfl) (fun _ => rfl)) rfl) (EvP.eq (m' := (m_more_of v_size v_counts v_length).bind fun a => some ((fun a => some a) a)) (EvP.conv (enc := PV.int) (enc' := (eO PV.int)) (fun a => some a) (EvP.eq (m' := m_more_of v_size v_counts v_length) (EvP.call (enc := PV.int) (fun t => m_more_of t.1 t.2.1 t.2.2.1) (fun η t r e => q_more_of (k + 0) η t r e) (Args.cons (EvP.var (enc := PV.int) (a := v_size) (v := .non) 0 rfl) (Args.cons (EvP.var (enc := (eT PV.int)) (a := v_counts) (v := .non) 1 rfl) (Args.cons (EvP.var (enc := PV.int) (a := v_length) (v := .non) 2 rfl) Args.nil)))) rfl) (fun _ => rfl)) rfl)) rfl)

@[irreducible] def m_extended (v_size : Int) (v_counts : (List Int)) (v_most : Int) : Option (Option (List Int)) :=
  (m_check_both v_size v_counts).bind fun v_x =>
  ((m_is_number v_most (v_counts.length : Int) 12).bind fun b => some (!b)).bind fun v_b2 => if v_b2 = true then
    none
  else
  ((m_failing v_size v_counts).bind fun v_x2 => some ((v_x2).isSome)).bind fun v_b => if v_b = true then
    some (none)
  else
  (whlO (fun (v_s : (List Int)) => some (decide ((v_s.length : Int) < v_most))) (fun (v_s : (List Int)) =>
      (((m_more_of v_size v_s ((v_s.length : Int) + 1)).bind fun v_x3 => some ([v_x3])).bind fun v_x4 => catM v_s v_x4).bind fun (v_counts2 : (List Int)) =>
      some (v_counts2)) 100000000 (v_counts)).bind fun (v_s : (List Int)) =>
  some (some (v_s))
theorem q_extended (k : Nat) (η : Hp) (t : Int × (List Int) × Int × Unit) (r : (Option (List Int))) (e : m_extended t.1 t.2.1 t.2.2.1 = some r) : dv T (k + 6) 18 [PV.int t.1, (eT PV.int) t.2.1, PV.int t.2.2.1] η = .ok ((eO (eT PV.int)) r) η := by
  obtain ⟨v_size, v_counts, v_most, _⟩ := t
  refine def_okD (T := T) (k := k + 5) (f := 18) (d := f_extended) (args := [PV.int v_size, (eT PV.int) v_counts, PV.int v_most]) (enc := (eO (eT PV.int))) (m := m_extended v_size v_counts v_most) rfl rfl (fun v hv => by simp only [List.mem_cons, List.not_mem_nil, or_false] at hv; rcases hv with rfl | rfl | rfl <;> first | exact nI _ | exact (nT nI) _ | exact nI _) (fun η => ?_) η r e
  unfold m_extended
  refine Run.ex (enc := eU) (EvP.eq (m' := m_check_both v_size v_counts) (EvP.call (enc := eU) (fun t => m_check_both t.1 t.2.1) (fun η t r e => q_check_both (k + 2) η t r e) (Args.cons (EvP.var (enc := PV.int) (a := v_size) (v := .non) 0 rfl) (Args.cons (EvP.var (enc := (eT PV.int)) (a := v_counts) (v := .non) 1 rfl) Args.nil))) rfl) fun v_x => ?_
  refine Run.ite (EvB.bl (EvP.eq (m' := (m_is_number v_most (v_counts.length : Int) 12).bind fun b => some (!b)) (EvP.not (EvB.bl (EvP.eq (m' := m_is_number v_most (v_counts.length : Int) 12) (EvP.call (enc := PV.bl) (fun t => m_is_number t.1 t.2.1 t.2.2.1) (fun η t r e => q_is_number (k + 4) η t r e) (Args.cons (EvP.var (enc := PV.int) (a := v_most) (v := .non) 2 rfl) (Args.cons (EvP.eq (m' := some ((v_counts.length : Int))) (EvP.bi (enc := PV.int) (fun t => some (t.1.length : Int)) (lnT (f := PV.int)) (Args.cons (EvP.var (enc := (eT PV.int)) (a := v_counts) (v := .non) 1 rfl) Args.nil)) rfl) (Args.cons (EvP.glb (enc := PV.int) (12) rfl) Args.nil)))) rfl))) rfl)) ?_ ?_
  · exact Run.no rfl
  · refine Run.ite (EvB.bl (EvP.eq (m' := (m_failing v_size v_counts).bind fun v_x2 => some ((v_x2).isSome)) (EvP.isN (fun x => x.isSome) (fun x => by cases x <;> rfl) (EvP.eq (m' := m_failing v_size v_counts) (EvP.call (enc := (eO PV.int)) (fun t => m_failing t.1 t.2.1) (fun η t r e => q_failing (k + 1) η t r e) (Args.cons (EvP.var (enc := PV.int) (a := v_size) (v := .non) 0 rfl) (Args.cons (EvP.var (enc := (eT PV.int)) (a := v_counts) (v := .non) 1 rfl) Args.nil))) rfl)) rfl)) ?_ ?_
    · exact Run.ret (enc := (eO (eT PV.int))) rfl (nO (nT nI)) (EvP.eq (m' := some (none)) (EvP.conv (enc := eU) (enc' := (eO (eT PV.int))) (fun _ => none) (EvP.con (enc := eU) (()) rfl) (fun _ => rfl)) rfl)
    · refine Run.whl (G := (fun (v_s : (List Int)) => [.val (PV.int (v_size)), .val ((eT PV.int) (v_s)), .val (PV.int (v_most))])) (wf := (fun _ => none)) (s0 := (v_counts)) ⟨.inr rfl, ⟨.inr rfl, ⟨.inr rfl, trivial⟩⟩⟩ rfl (fun v_s => (EvB.bl (EvP.eq (m' := some (decide ((v_s.length : Int) < v_most))) (EvP.cmp (fun x y => decide (x < y)) ciLt (EvW.ofP (EvP.eq (m' := some ((v_s.length : Int))) (EvP.bi (enc := PV.int) (fun t => some (t.1.length : Int)) (lnT (f := PV.int)) (Args.cons (EvP.var (enc := (eT PV.int)) (a := v_s) (v := .non) 1 rfl) Args.nil)) rfl) (fun η a => vw_nc nI η a)) (EvW.ofP (EvP.var (enc := PV.int) (a := v_most) (v := .non) 2 rfl) (fun η a => vw_nc nI η a))) rfl))) (fun v_s => ?_) fun v_s => ?_
      · refine Run.asg (enc := (eT PV.int)) (EvP.eq (m' := ((m_more_of v_size v_s ((v_s.length : Int) + 1)).bind fun v_x3 => some ([v_x3])).bind fun v_x4 => catM v_s v_x4) (EvP.bin (enc := (eT PV.int)) (fun x y => catM x y) (opCatT (f := PV.int)) (EvW.ofP (EvP.var (enc := (eT PV.int)) (a := v_s) (v := .non) 1 rfl) (fun η a => vw_nc (nT nI) η a)) (EvW.ofP (EvP.eq (m' := (m_more_of v_size v_s ((v_s.length : Int) + 1)).bind fun v_x3 => some ([v_x3])) (EvP.tup (enc := (eT PV.int)) (fun a => [a.1]) (Args.cons (EvP.eq (m' := m_more_of v_size v_s ((v_s.length : Int) + 1)) (EvP.call (enc := PV.int) (fun t => m_more_of t.1 t.2.1 t.2.2.1) (fun η t r e => q_more_of (k + 0) η t r e) (Args.cons (EvP.var (enc := PV.int) (a := v_size) (v := .non) 0 rfl) (Args.cons (EvP.var (enc := (eT PV.int)) (a := v_s) (v := .non) 1 rfl) (Args.cons (EvP.eq (m' := some ((v_s.length : Int) + 1)) (EvP.bin (enc := PV.int) (fun x y => some (x + y)) opAdd (EvW.ofP (EvP.eq (m' := some ((v_s.length : Int))) (EvP.bi (enc := PV.int) (fun t => some (t.1.length : Int)) (lnT (f := PV.int)) (Args.cons (EvP.var (enc := (eT PV.int)) (a := v_s) (v := .non) 1 rfl) Args.nil)) rfl) (fun η a => vw_nc nI η a)) (EvW.ofP (EvP.con (enc := PV.int) (1) rfl) (fun η a => vw_nc nI η a))) rfl) Args.nil)))) rfl) Args.nil) (fun _ => rfl) (fun _ => by show _ ≤ 16777216; simp)) (by first | rfl | (simp only [bindS, up_some, up_bind, Option.bind_assoc, Option.bind_some, eqM_ok, eqM_okO]; done) | simp only [bindS, up_def, Option.bind_assoc, Option.bind_some, eqM_ok, eqM_okO])) (fun η a => vw_nc (nT nI) η a))) rfl) (nT nI) fun v_counts2 => ?_
        exact Run.nilN ⟨.inr rfl, ⟨.inr rfl, ⟨.inr rfl, trivial⟩⟩⟩ rfl
      · exact Run.ret (enc := (eO (eT PV.int))) rfl (nO (nT nI)) (EvP.eq (m' := some (some (v_s))) (EvP.conv (enc := (eT PV.int)) (enc' := (eO (eT PV.int))) (fun a => some a) (EvP.var (enc := (eT PV.int)) (a := v_s) (v := .non) 1 rfl) (fun _ => rfl)) rfl)

@[irreducible] def m_first_failing (v_size : Int) (v_counts : (List Int)) : Option (Option Int) :=
  (m_check_both v_size v_counts).bind fun v_x =>
  m_failing v_size v_counts
theorem q_first_failing (k : Nat) (η : Hp) (t : Int × (List Int) × Unit) (r : (Option Int)) (e : m_first_failing t.1 t.2.1 = some r) : dv T (k + 5) 16 [PV.int t.1, (eT PV.int) t.2.1] η = .ok ((eO PV.int) r) η := by
  obtain ⟨v_size, v_counts, _⟩ := t
  refine def_okD (T := T) (k := k + 4) (f := 16) (d := f_first_failing) (args := [PV.int v_size, (eT PV.int) v_counts]) (enc := (eO PV.int)) (m := m_first_failing v_size v_counts) rfl rfl (fun v hv => by simp only [List.mem_cons, List.not_mem_nil, or_false] at hv; rcases hv with rfl | rfl <;> first | exact nI _ | exact (nT nI) _) (fun η => ?_) η r e
  unfold m_first_failing
  refine Run.ex (enc := eU) (EvP.eq (m' := m_check_both v_size v_counts) (EvP.call (enc := eU) (fun t => m_check_both t.1 t.2.1) (fun η t r e => q_check_both (k + 1) η t r e) (Args.cons (EvP.var (enc := PV.int) (a := v_size) (v := .non) 0 rfl) (Args.cons (EvP.var (enc := (eT PV.int)) (a := v_counts) (v := .non) 1 rfl) Args.nil))) rfl) fun v_x => ?_
  exact Run.ret (enc := (eO PV.int)) rfl (nO nI) (EvP.eq (m' := m_failing v_size v_counts) (EvP.call (enc := (eO PV.int)) (fun t => m_failing t.1 t.2.1) (fun η t r e => q_failing (k + 0) η t r e) (Args.cons (EvP.var (enc := PV.int) (a := v_size) (v := .non) 0 rfl) (Args.cons (EvP.var (enc := (eT PV.int)) (a := v_counts) (v := .non) 1 rfl) Args.nil))) rfl)

@[irreducible] def m_word_necklaces (v_counts : (List Int)) (v_length : Int) : Option Int :=
  (m_check_counts v_counts).bind fun v_x =>
  (m_check_length v_length).bind fun v_x2 =>
  m_word_necklaces_of v_counts v_length
theorem q_word_necklaces (k : Nat) (η : Hp) (t : (List Int) × Int × Unit) (r : Int) (e : m_word_necklaces t.1 t.2.1 = some r) : dv T (k + 4) 14 [(eT PV.int) t.1, PV.int t.2.1] η = .ok (PV.int r) η := by
  obtain ⟨v_counts, v_length, _⟩ := t
  refine def_okD (T := T) (k := k + 3) (f := 14) (d := f_word_necklaces) (args := [(eT PV.int) v_counts, PV.int v_length]) (enc := PV.int) (m := m_word_necklaces v_counts v_length) rfl rfl (fun v hv => by simp only [List.mem_cons, List.not_mem_nil, or_false] at hv; rcases hv with rfl | rfl <;> first | exact (nT nI) _ | exact nI _) (fun η => ?_) η r e
  unfold m_word_necklaces
  refine Run.ex (enc := eU) (EvP.eq (m' := m_check_counts v_counts) (EvP.call (enc := eU) (fun t => m_check_counts t.1) (fun η t r e => q_check_counts (k + 1) η t r e) (Args.cons (EvP.var (enc := (eT PV.int)) (a := v_counts) (v := .non) 0 rfl) Args.nil)) rfl) fun v_x => ?_
  refine Run.ex (enc := eU) (EvP.eq (m' := m_check_length v_length) (EvP.call (enc := eU) (fun t => m_check_length t.1) (fun η t r e => q_check_length (k + 1) η t r e) (Args.cons (EvP.var (enc := PV.int) (a := v_length) (v := .non) 1 rfl) Args.nil)) rfl) fun v_x2 => ?_
  exact Run.ret (enc := PV.int) rfl nI (EvP.eq (m' := m_word_necklaces_of v_counts v_length) (EvP.call (enc := PV.int) (fun t => m_word_necklaces_of t.1 t.2.1) (fun η t r e => q_word_necklaces_of (k + 0) η t r e) (Args.cons (EvP.var (enc := (eT PV.int)) (a := v_counts) (v := .non) 0 rfl) (Args.cons (EvP.var (enc := PV.int) (a := v_length) (v := .non) 1 rfl) Args.nil))) rfl)

@[irreducible] def m_necklaces (v_size : Int) (v_length : Int) : Option Int :=
  (m_check_size v_size).bind fun v_x =>
  (m_check_length v_length).bind fun v_x2 =>
  m_necklaces_of v_size v_length
theorem q_necklaces (k : Nat) (η : Hp) (t : Int × Int × Unit) (r : Int) (e : m_necklaces t.1 t.2.1 = some r) : dv T (k + 4) 13 [PV.int t.1, PV.int t.2.1] η = .ok (PV.int r) η := by
  obtain ⟨v_size, v_length, _⟩ := t
  refine def_okD (T := T) (k := k + 3) (f := 13) (d := f_necklaces) (args := [PV.int v_size, PV.int v_length]) (enc := PV.int) (m := m_necklaces v_size v_length) rfl rfl (fun v hv => by simp only [List.mem_cons, List.not_mem_nil, or_false] at hv; rcases hv with rfl | rfl <;> first | exact nI _ | exact nI _) (fun η => ?_) η r e
  unfold m_necklaces
  refine Run.ex (enc := eU) (EvP.eq (m' := m_check_size v_size) (EvP.call (enc := eU) (fun t => m_check_size t.1) (fun η t r e => q_check_size (k + 1) η t r e) (Args.cons (EvP.var (enc := PV.int) (a := v_size) (v := .non) 0 rfl) Args.nil)) rfl) fun v_x => ?_
  refine Run.ex (enc := eU) (EvP.eq (m' := m_check_length v_length) (EvP.call (enc := eU) (fun t => m_check_length t.1) (fun η t r e => q_check_length (k + 1) η t r e) (Args.cons (EvP.var (enc := PV.int) (a := v_length) (v := .non) 1 rfl) Args.nil)) rfl) fun v_x2 => ?_
  exact Run.ret (enc := PV.int) rfl nI (EvP.eq (m' := m_necklaces_of v_size v_length) (EvP.call (enc := PV.int) (fun t => m_necklaces_of t.1 t.2.1) (fun η t r e => q_necklaces_of (k + 0) η t r e) (Args.cons (EvP.var (enc := PV.int) (a := v_size) (v := .non) 0 rfl) (Args.cons (EvP.var (enc := PV.int) (a := v_length) (v := .non) 1 rfl) Args.nil))) rfl)

@[irreducible] def m_l_fails (v_size : Int) (v_counts : (List Int)) : Option Bool :=
  ((rng2 1 ((v_counts.length : Int) + 1)).bind fun v_x4 => lcP (fun (v_x : Int) => (m_word_necklaces v_counts v_x).bind fun v_x2 => (m_necklaces v_size v_x).bind fun v_x3 => some (decide (v_x3 < v_x2))) v_x4).bind fun v_x5 => some (v_x5.any id)
theorem q_l_fails (k : Nat) (η : Hp) (t : Int × (List Int) × Unit) (r : Bool) (e : m_l_fails t.1 t.2.1 = some r) : dv T (k + 5) 23 [PV.int t.1, (eT PV.int) t.2.1] η = .ok (PV.bl r) η := by
  obtain ⟨v_size, v_counts, _⟩ := t
  refine def_okD (T := T) (k := k + 4) (f := 23) (d := f_law_fails) (args := [PV.int v_size, (eT PV.int) v_counts]) (enc := PV.bl) (m := m_l_fails v_size v_counts) rfl rfl (fun v hv => by simp only [List.mem_cons, List.not_mem_nil, or_false] at hv; rcases hv with rfl | rfl <;> first | exact nI _ | exact (nT nI) _) (fun η => ?_) η r e
  unfold m_l_fails
  exact Run.ret (enc := PV.bl) rfl nB (EvP.eq (m' := ((rng2 1 ((v_counts.length : Int) + 1)).bind fun v_x4 => lcP (fun (v_x : Int) => (m_word_necklaces v_counts v_x).bind fun v_x2 => (m_necklaces v_size v_x).bind fun v_x3 => some (decide (v_x3 < v_x2))) v_x4).bind fun v_x5 => some (v_x5.any id)) (EvP.biV (f := PV.bl) (enc := PV.bl) (fun t => some (t.any id)) biAny (EvV.ofP (EvP.fz (EvF.eq (m' := (rng2 1 ((v_counts.length : Int) + 1)).bind fun v_x4 => lcP (fun (v_x : Int) => (m_word_necklaces v_counts v_x).bind fun v_x2 => (m_necklaces v_size v_x).bind fun v_x3 => some (decide (v_x3 < v_x2))) v_x4) (EvF.lcP (g := PV.bl) (me := fun (v_x : Int) => (m_word_necklaces v_counts v_x).bind fun v_x2 => (m_necklaces v_size v_x).bind fun v_x3 => some (decide (v_x3 < v_x2))) (EvI.of0 (EvI0.eq (m' := rng2 1 ((v_counts.length : Int) + 1)) (EvI0.rng2 (EvP.con (enc := PV.int) (1) rfl) (EvP.eq (m' := some ((v_counts.length : Int) + 1)) (EvP.bin (enc := PV.int) (fun x y => some (x + y)) opAdd (EvW.ofP (EvP.eq (m' := some ((v_counts.length : Int))) (EvP.bi (enc := PV.int) (fun t => some (t.1.length : Int)) (lnT (f := PV.int)) (Args.cons (EvP.var (enc := (eT PV.int)) (a := v_counts) (v := .non) 1 rfl) Args.nil)) rfl) (fun η a => vw_nc nI η a)) (EvW.ofP (EvP.con (enc := PV.int) (1) rfl) (fun η a => vw_nc nI η a))) rfl)) rfl)) nI (fun v_x => (EvP.eq (m' := (m_word_necklaces v_counts v_x).bind fun v_x2 => (m_necklaces v_size v_x).bind fun v_x3 => some (decide (v_x3 < v_x2))) (EvP.cmp (fun x y => decide (y < x)) ciGt (EvW.ofP (EvP.eq (m' := m_word_necklaces v_counts v_x) (EvP.call (enc := PV.int) (fun t => m_word_necklaces t.1 t.2.1) (fun η t r e => q_word_necklaces (k + 0) η t r e) (Args.cons (EvP.var (enc := (eT PV.int)) (a := v_counts) (v := .non) 1 rfl) (Args.cons (EvP.var (enc := PV.int) (a := v_x) (v := .non) 2 rfl) Args.nil))) rfl) (fun η a => vw_nc nI η a)) (EvW.ofP (EvP.eq (m' := m_necklaces v_size v_x) (EvP.call (enc := PV.int) (fun t => m_necklaces t.1 t.2.1) (fun η t r e => q_necklaces (k + 0) η t r e) (Args.cons (EvP.var (enc := PV.int) (a := v_size) (v := .non) 0 rfl) (Args.cons (EvP.var (enc := PV.int) (a := v_x) (v := .non) 2 rfl) Args.nil))) rfl) (fun η a => vw_nc nI η a))) rfl))) rfl)))) rfl)

@[irreducible] def m_l_is_integer (v_actual : (Option Int)) : Option Bool :=
  some ((v_actual.isSome) && (!false))
theorem q_l_is_integer (k : Nat) (η : Hp) (t : (Option Int) × Unit) (r : Bool) (e : m_l_is_integer t.1 = some r) : dv T (k + 1) 21 [(eO PV.int) t.1] η = .ok (PV.bl r) η := by
  obtain ⟨v_actual, _⟩ := t
  refine def_okD (T := T) (k := k + 0) (f := 21) (d := f_law_is_integer) (args := [(eO PV.int) v_actual]) (enc := PV.bl) (m := m_l_is_integer v_actual) rfl rfl (fun v hv => by simp only [List.mem_cons, List.not_mem_nil, or_false] at hv; rcases hv with rfl <;> first | exact (nO nI) _) (fun η => ?_) η r e
  unfold m_l_is_integer
  exact Run.ret (enc := PV.bl) rfl nB (EvP.eq (m' := some ((v_actual.isSome) && (!false))) (EvP.andT (EvP.eq (m' := some (v_actual.isSome)) (EvP.isi (fun x => x.isSome) (fun _ x => by cases x <;> rfl) (EvP.var (enc := (eO PV.int)) (a := v_actual) (v := .non) 0 rfl)) rfl) (EvP.one (EvP.eq (m' := some (!false)) (EvP.not (EvB.bl (EvP.eq (m' := some (false)) (EvP.isi (fun _ => false) (fun _ x => by cases x <;> rfl) (EvP.var (enc := (eO PV.int)) (a := v_actual) (v := .non) 0 rfl)) rfl))) rfl))) rfl)

@[irreducible] def m_l_more (v_counts : (List Int)) (v_length : Int) (v_many : Int) : Option (List Int) :=
  ((repM [0] (v_length - (v_counts.length : Int))).bind fun v_x => catM v_counts v_x).bind fun (v_row : (List Int)) =>
  ((atI v_row (v_length - 1)).bind fun v_x2 => some (v_x2 + v_many)).bind fun v_x3 => (some (v_length - 1)).bind fun v_x4 => (setM v_row v_x4 v_x3).bind fun v_row2 =>
  some (v_row2)
theorem q_l_more (k : Nat) (η : Hp) (t : (List Int) × Int × Int × Unit) (r : (List Int)) (e : m_l_more t.1 t.2.1 t.2.2.1 = some r) : dv T (k + 1) 22 [(eT PV.int) t.1, PV.int t.2.1, PV.int t.2.2.1] η = .ok ((eT PV.int) r) η := by
  obtain ⟨v_counts, v_length, v_many, _⟩ := t
  refine def_okD (T := T) (k := k + 0) (f := 22) (d := f_law_more) (args := [(eT PV.int) v_counts, PV.int v_length, PV.int v_many]) (enc := (eT PV.int)) (m := m_l_more v_counts v_length v_many) rfl rfl (fun v hv => by simp only [List.mem_cons, List.not_mem_nil, or_false] at hv; rcases hv with rfl | rfl | rfl <;> first | exact (nT nI) _ | exact nI _ | exact nI _) (fun η => ?_) η r e
  unfold m_l_more
  refine Run.own (enc := PV.int) (EvF.eq (m' := (repM [0] (v_length - (v_counts.length : Int))).bind fun v_x => catM v_counts v_x) (EvF.bin (enc := (PV.int)) (fun x y => catM x y) (opCatL (f := PV.int)) (EvW.ofP (EvP.eq (m' := some (v_counts)) (EvP.bi (enc := (eL PV.int)) (fun t => some t.1) (biLstT (f := PV.int)) (Args.cons (EvP.var (enc := (eT PV.int)) (a := v_counts) (v := .non) 0 rfl) Args.nil)) rfl) (fun η a => vw_nc (nL nI) η a)) (EvW.ofP (EvP.eq (m' := repM [0] (v_length - (v_counts.length : Int))) (EvP.bin (enc := (eL PV.int)) (fun x y => repM x y) (opRepL (f := PV.int)) (EvW.ofP (EvP.fz (EvF.eq (m' := some ([0])) (EvF.lst (enc := PV.int) (fun a => [a.1]) (Args.cons (EvP.con (enc := PV.int) (0) rfl) Args.nil) (fun _ => rfl) (fun _ => by show _ ≤ 16777216; simp)) rfl)) (fun η a => vw_nc (nL nI) η a)) (EvW.ofP (EvP.eq (m' := some (v_length - (v_counts.length : Int))) (EvP.bin (enc := PV.int) (fun x y => some (x - y)) opSub (EvW.ofP (EvP.var (enc := PV.int) (a := v_length) (v := .non) 1 rfl) (fun η a => vw_nc nI η a)) (EvW.ofP (EvP.eq (m' := some ((v_counts.length : Int))) (EvP.bi (enc := PV.int) (fun t => some (t.1.length : Int)) (lnT (f := PV.int)) (Args.cons (EvP.var (enc := (eT PV.int)) (a := v_counts) (v := .non) 0 rfl) Args.nil)) rfl) (fun η a => vw_nc nI η a))) rfl) (fun η a => vw_nc nI η a))) rfl) (fun η a => vw_nc (nL nI) η a))) rfl) fun v_row => ?_
  refine Run.set (f := PV.int) (xs := v_row) rfl (EvP.eq (m' := (atI v_row (v_length - 1)).bind fun v_x2 => some (v_x2 + v_many)) (EvP.bin (enc := PV.int) (fun x y => some (x + y)) opAdd (EvW.ofP (EvP.eq (m' := atI v_row (v_length - 1)) (EvP.idxV (EvV.own (f := PV.int) (xs := v_row) 3 rfl) (EvP.eq (m' := some (v_length - 1)) (EvP.bin (enc := PV.int) (fun x y => some (x - y)) opSub (EvW.ofP (EvP.var (enc := PV.int) (a := v_length) (v := .non) 1 rfl) (fun η a => vw_nc nI η a)) (EvW.ofP (EvP.con (enc := PV.int) (1) rfl) (fun η a => vw_nc nI η a))) rfl)) rfl) (fun η a => vw_nc nI η a)) (EvW.ofP (EvP.var (enc := PV.int) (a := v_many) (v := .non) 2 rfl) (fun η a => vw_nc nI η a))) rfl) (EvP.eq (m' := some (v_length - 1)) (EvP.bin (enc := PV.int) (fun x y => some (x - y)) opSub (EvW.ofP (EvP.var (enc := PV.int) (a := v_length) (v := .non) 1 rfl) (fun η a => vw_nc nI η a)) (EvW.ofP (EvP.con (enc := PV.int) (1) rfl) (fun η a => vw_nc nI η a))) rfl) fun v_row2 => ?_
  exact Run.ret (enc := (eT PV.int)) rfl (nT nI) (EvP.eq (m' := some (v_row2)) (EvP.biV (f := PV.int) (enc := (eT PV.int)) (fun t => some t) (biTupV (f := PV.int)) (EvV.own (f := PV.int) (xs := v_row2) 3 rfl)) rfl)

@[irreducible] def m_law (w : SS) : Option (Bool × SS) :=
  bindS (bindS (draw w 3) fun v_x v_w2 => some (1 + v_x, v_w2)) fun (v_size : Int) v_w3 =>
  bindS (bindS (bindS (bindS (draw v_w3 5) fun v_x2 v_w4 => (rng1 v_x2).bind fun v_z => some (v_z, v_w4)) fun v_l v_w7 => lcS (fun (v_x3 : Int) v_w6 => draw v_w6 (2 + (intB (decide (0 < v_x3))))) v_l v_w7) fun v_x4 v_w8 => some (v_x4, v_w8)) fun (v_counts : (List Int)) v_w9 =>
  bindS (bindS (draw v_w9 8) fun v_x5 v_w11 => some (1 + v_x5, v_w11)) fun (v_length : Int) v_w12 =>
  (m_more_words v_size v_counts v_length).bind fun (v_told : (Option Int)) =>
  bindS (bindS (draw v_w12 4) fun v_x6 v_w14 => some ((v_counts.length : Int) + v_x6, v_w14)) fun (v_most : Int) v_w15 =>
  (m_extended v_size v_counts v_most).bind fun (v_row : (Option (List Int))) =>
  ((m_first_failing v_size v_counts).bind fun v_x7 => some ((v_x7).isSome)).bind fun v_b10 => if v_b10 = true then
    some (((v_told).isNone) && ((v_row).isNone), v_w15)
  else
  (((m_l_is_integer v_told).bind fun b => some (!b)).bind fun v_b2 => if v_b2 = true then some true else ((v_told).bind fun v_x8 => some (decide (v_x8 < 0))).bind fun v_b => if v_b = true then some true else some (!v_row.isSome)).bind fun v_b9 => if v_b9 = true then
    some (false, v_w15)
  else
  ((((v_told).bind fun v_x9 => m_l_more v_counts v_length v_x9).bind fun v_x10 => m_l_fails v_size v_x10).bind fun v_b3 => if v_b3 = true then some true else ((((v_told).bind fun v_x11 => some (v_x11 + 1)).bind fun v_x12 => m_l_more v_counts v_length v_x12).bind fun v_x13 => m_l_fails v_size v_x13).bind fun b => some (!b)).bind fun v_b8 => if v_b8 = true then
    some (false, v_w15)
  else
  ((((v_row).bind fun v_x14 => some ((v_x14.length : Int))).bind fun v_x15 => some (!decide (v_x15 = v_most))).bind fun v_b4 => if v_b4 = true then some true else ((v_row).bind fun v_x16 => some (cut v_x16 (none) (some (v_counts.length : Int)))).bind fun v_x17 => some (!decide (v_x17 = v_counts))).bind fun v_b7 => if v_b7 = true then
    some (false, v_w15)
  else
  (rng2 (v_counts.length : Int) v_most).bind fun v_l2 => thenR (loopO (ρ := Bool × SS) (fun (v_x18 : Int) (v_s : Unit) =>
      (((((v_row).bind fun v_x19 => atI v_x19 v_x18).bind fun a => some ((fun a => some a) a)).bind fun v_x22 => (((v_row).bind fun v_x20 => some (cut v_x20 (none) (some v_x18))).bind fun v_x21 => m_more_words v_size v_x21 (v_x18 + 1)).bind fun v_x23 => some (!decide (v_x22 = v_x23))).bind fun v_b5 => if v_b5 = true then some true else ((v_row).bind fun v_x24 => m_word_necklaces v_x24 (v_x18 + 1)).bind fun v_x25 => (m_necklaces v_size (v_x18 + 1)).bind fun v_x26 => some (!decide (v_x25 = v_x26))).bind fun v_b6 => if v_b6 = true then
        some (.rt (false, v_w15))
      else
      some (.nx ())) v_l2 ()) (fun (v_s : Unit) =>
      some (true, v_w15)) (fun r => some (r))
theorem q_law (ns : List Int) (h : ns.length ≤ 63) (s' : SS) (e : m_law (ini ns h) = some (true, s')) : ∃ η, evD T 7 24 [.scr ns] [] = .ok (.bl true) η := by
  refine law_okD (T := T) (k := 5) (f := 24) (fs := 19) (d := f_law) (m0 := 8) h rfl rfl rfl rfl rfl ?_ s' e
  generalize ini ns h = w
  unfold m_law
  refine Run.asgS' (enc := PV.int) (EvS.eq (m' := bindS (draw w 3) fun v_x v_w2 => some (1 + v_x, v_w2)) (EvS.bin (enc := PV.int) (fun x y => some (x + y)) nI nI opAdd (EvS.ofP (EvP.con (enc := PV.int) (1) rfl)) (fun v_w => (EvS.eq (m' := draw v_w 3) (EvS.call (enc := PV.int) (fun t s => draw s t.2.1) (fun η t s r s' e h => next_dv T 20 (0 + 5) 0 rfl η t.2.1 s r s' e h) (SArgs.ofP (Args.cons (EvP.var (enc := fun _ : Unit => PV.cell 0) (a := ()) (v := .non) 1 rfl) (Args.cons (EvP.con (enc := PV.int) (3) rfl) Args.nil)))) rfl))) rfl) nI fun v_size v_w3 => ?_
  refine Run.asgS' (enc := (eT PV.int)) (EvS.eq (m' := bindS (bindS (bindS (draw v_w3 5) fun v_x2 v_w4 => (rng1 v_x2).bind fun v_z => some (v_z, v_w4)) fun v_l v_w7 => lcS (fun (v_x3 : Int) v_w6 => draw v_w6 (2 + (intB (decide (0 < v_x3))))) v_l v_w7) fun v_x4 v_w8 => some (v_x4, v_w8)) (EvS.biV (f := PV.int) (enc := (eT PV.int)) (fun t => some t) (biTupV (f := PV.int)) (EvS.fz (EvSF.eq (m' := bindS (bindS (draw v_w3 5) fun v_x2 v_w4 => (rng1 v_x2).bind fun v_z => some (v_z, v_w4)) fun v_l v_w7 => lcS (fun (v_x3 : Int) v_w6 => draw v_w6 (2 + (intB (decide (0 < v_x3))))) v_l v_w7) (EvSF.lcS (g := PV.int) (EvSI.eq (m' := bindS (draw v_w3 5) fun v_x2 v_w4 => (rng1 v_x2).bind fun v_z => some (v_z, v_w4)) (EvSI.rng1 (EvS.eq (m' := draw v_w3 5) (EvS.call (enc := PV.int) (fun t s => draw s t.2.1) (fun η t s r s' e h => next_dv T 20 (0 + 5) 0 rfl η t.2.1 s r s' e h) (SArgs.ofP (Args.cons (EvP.var (enc := fun _ : Unit => PV.cell 0) (a := ()) (v := .non) 1 rfl) (Args.cons (EvP.con (enc := PV.int) (5) rfl) Args.nil)))) rfl)) rfl) nI (fun v_x3 v_w6 => (EvS.eq (m' := draw v_w6 (2 + (intB (decide (0 < v_x3))))) (EvS.call (enc := PV.int) (fun t s => draw s t.2.1) (fun η t s r s' e h => next_dv T 20 (0 + 5) 0 rfl η t.2.1 s r s' e h) (SArgs.ofP (Args.cons (EvP.var (enc := fun _ : Unit => PV.cell 0) (a := ()) (v := .non) 1 rfl) (Args.cons (EvP.eq (m' := some (2 + (intB (decide (0 < v_x3))))) (EvP.bin (enc := PV.int) (fun x y => some (x + y)) opAdd (EvW.ofP (EvP.con (enc := PV.int) (2) rfl) (fun η a => vw_nc nI η a)) (EvW.ofP (EvP.eq (m' := some (intB (decide (0 < v_x3)))) (EvP.bi (enc := PV.int) (fun t => some (intB t.1)) biIntB (Args.cons (EvP.eq (m' := some (decide (0 < v_x3))) (EvP.cmp (fun x y => decide (y < x)) ciGt (EvW.ofP (EvP.var (enc := PV.int) (a := v_x3) (v := .non) 9 rfl) (fun η a => vw_nc nI η a)) (EvW.ofP (EvP.con (enc := PV.int) (0) rfl) (fun η a => vw_nc nI η a))) rfl) Args.nil)) rfl) (fun η a => vw_nc nI η a))) rfl) Args.nil)))) rfl))) rfl))) rfl) (nT nI) fun v_counts v_w9 => ?_
  refine Run.asgS' (enc := PV.int) (EvS.eq (m' := bindS (draw v_w9 8) fun v_x5 v_w11 => some (1 + v_x5, v_w11)) (EvS.bin (enc := PV.int) (fun x y => some (x + y)) nI nI opAdd (EvS.ofP (EvP.con (enc := PV.int) (1) rfl)) (fun v_w10 => (EvS.eq (m' := draw v_w10 8) (EvS.call (enc := PV.int) (fun t s => draw s t.2.1) (fun η t s r s' e h => next_dv T 20 (0 + 5) 0 rfl η t.2.1 s r s' e h) (SArgs.ofP (Args.cons (EvP.var (enc := fun _ : Unit => PV.cell 0) (a := ()) (v := .non) 1 rfl) (Args.cons (EvP.con (enc := PV.int) (8) rfl) Args.nil)))) rfl))) rfl) nI fun v_length v_w12 => ?_
  refine Run.asg (enc := (eO PV.int)) (EvP.eq (m' := m_more_words v_size v_counts v_length) (EvP.call (enc := (eO PV.int)) (fun t => m_more_words t.1 t.2.1 t.2.2.1) (fun η t r e => q_more_words (0 + 0) η t r e) (Args.cons (EvP.var (enc := PV.int) (a := v_size) (v := .non) 2 rfl) (Args.cons (EvP.var (enc := (eT PV.int)) (a := v_counts) (v := .non) 3 rfl) (Args.cons (EvP.var (enc := PV.int) (a := v_length) (v := .non) 4 rfl) Args.nil)))) rfl) (nO nI) fun v_told => ?_
  refine Run.asgS' (enc := PV.int) (EvS.eq (m' := bindS (draw v_w12 4) fun v_x6 v_w14 => some ((v_counts.length : Int) + v_x6, v_w14)) (EvS.bin (enc := PV.int) (fun x y => some (x + y)) nI nI opAdd (EvS.ofP (EvP.eq (m' := some ((v_counts.length : Int))) (EvP.bi (enc := PV.int) (fun t => some (t.1.length : Int)) (lnT (f := PV.int)) (Args.cons (EvP.var (enc := (eT PV.int)) (a := v_counts) (v := .non) 3 rfl) Args.nil)) rfl)) (fun v_w13 => (EvS.eq (m' := draw v_w13 4) (EvS.call (enc := PV.int) (fun t s => draw s t.2.1) (fun η t s r s' e h => next_dv T 20 (0 + 5) 0 rfl η t.2.1 s r s' e h) (SArgs.ofP (Args.cons (EvP.var (enc := fun _ : Unit => PV.cell 0) (a := ()) (v := .non) 1 rfl) (Args.cons (EvP.con (enc := PV.int) (4) rfl) Args.nil)))) rfl))) rfl) nI fun v_most v_w15 => ?_
  refine Run.asg (enc := (eO (eT PV.int))) (EvP.eq (m' := m_extended v_size v_counts v_most) (EvP.call (enc := (eO (eT PV.int))) (fun t => m_extended t.1 t.2.1 t.2.2.1) (fun η t r e => q_extended (0 + 0) η t r e) (Args.cons (EvP.var (enc := PV.int) (a := v_size) (v := .non) 2 rfl) (Args.cons (EvP.var (enc := (eT PV.int)) (a := v_counts) (v := .non) 3 rfl) (Args.cons (EvP.var (enc := PV.int) (a := v_most) (v := .non) 6 rfl) Args.nil)))) rfl) (nO (nT nI)) fun v_row => ?_
  refine Run.ite (EvB.bl (EvP.eq (m' := (m_first_failing v_size v_counts).bind fun v_x7 => some ((v_x7).isSome)) (EvP.isN (fun x => x.isSome) (fun x => by cases x <;> rfl) (EvP.eq (m' := m_first_failing v_size v_counts) (EvP.call (enc := (eO PV.int)) (fun t => m_first_failing t.1 t.2.1) (fun η t r e => q_first_failing (0 + 1) η t r e) (Args.cons (EvP.var (enc := PV.int) (a := v_size) (v := .non) 2 rfl) (Args.cons (EvP.var (enc := (eT PV.int)) (a := v_counts) (v := .non) 3 rfl) Args.nil))) rfl)) rfl)) ?_ ?_
  · exact Run.retW (EvS.ofP (EvP.eq (m' := some (((v_told).isNone) && ((v_row).isNone))) (EvP.andT (EvP.eq (m' := some ((v_told).isNone)) (EvP.isN (fun x => x.isNone) (fun x => by cases x <;> rfl) (EvP.var (enc := (eO PV.int)) (a := v_told) (v := .non) 5 rfl)) rfl) (EvP.one (EvP.eq (m' := some ((v_row).isNone)) (EvP.isN (fun x => x.isNone) (fun x => by cases x <;> rfl) (EvP.var (enc := (eO (eT PV.int))) (a := v_row) (v := .non) 7 rfl)) rfl))) rfl))
  · refine Run.ite (EvB.eq (m' := ((m_l_is_integer v_told).bind fun b => some (!b)).bind fun v_b2 => if v_b2 = true then some true else ((v_told).bind fun v_x8 => some (decide (v_x8 < 0))).bind fun v_b => if v_b = true then some true else some (!v_row.isSome)) (EvB.or (EvB.bl (EvP.eq (m' := (m_l_is_integer v_told).bind fun b => some (!b)) (EvP.not (EvB.bl (EvP.eq (m' := m_l_is_integer v_told) (EvP.call (enc := PV.bl) (fun t => m_l_is_integer t.1) (fun η t r e => q_l_is_integer (0 + 5) η t r e) (Args.cons (EvP.var (enc := (eO PV.int)) (a := v_told) (v := .non) 5 rfl) Args.nil)) rfl))) rfl)) (EvB.eq (m' := ((v_told).bind fun v_x8 => some (decide (v_x8 < 0))).bind fun v_b => if v_b = true then some true else some (!v_row.isSome)) (EvB.or (EvB.bl (EvP.eq (m' := (v_told).bind fun v_x8 => some (decide (v_x8 < 0))) (EvP.cmp (fun x y => decide (x < y)) ciLt (EvW.ofP (EvP.unO (EvP.var (enc := (eO PV.int)) (a := v_told) (v := .non) 5 rfl)) (fun η a => vw_nc nI η a)) (EvW.ofP (EvP.con (enc := PV.int) (0) rfl) (fun η a => vw_nc nI η a))) rfl)) (EvB.one (EvB.bl (EvP.eq (m' := some (!v_row.isSome)) (EvP.not (EvB.bl (EvP.eq (m' := some (v_row.isSome)) (EvP.isi (fun x => x.isSome) (fun _ x => by cases x <;> rfl) (EvP.var (enc := (eO (eT PV.int))) (a := v_row) (v := .non) 7 rfl)) rfl))) rfl)))) rfl)) rfl) ?_ ?_
    · exact Run.retW (EvS.ofP (EvP.con (enc := PV.bl) (false) rfl))
    · refine Run.ite (EvB.eq (m' := (((v_told).bind fun v_x9 => m_l_more v_counts v_length v_x9).bind fun v_x10 => m_l_fails v_size v_x10).bind fun v_b3 => if v_b3 = true then some true else ((((v_told).bind fun v_x11 => some (v_x11 + 1)).bind fun v_x12 => m_l_more v_counts v_length v_x12).bind fun v_x13 => m_l_fails v_size v_x13).bind fun b => some (!b)) (EvB.or (EvB.bl (EvP.eq (m' := ((v_told).bind fun v_x9 => m_l_more v_counts v_length v_x9).bind fun v_x10 => m_l_fails v_size v_x10) (EvP.call (enc := PV.bl) (fun t => m_l_fails t.1 t.2.1) (fun η t r e => q_l_fails (0 + 1) η t r e) (Args.cons (EvP.var (enc := PV.int) (a := v_size) (v := .non) 2 rfl) (Args.cons (EvP.eq (m' := (v_told).bind fun v_x9 => m_l_more v_counts v_length v_x9) (EvP.call (enc := (eT PV.int)) (fun t => m_l_more t.1 t.2.1 t.2.2.1) (fun η t r e => q_l_more (0 + 5) η t r e) (Args.cons (EvP.var (enc := (eT PV.int)) (a := v_counts) (v := .non) 3 rfl) (Args.cons (EvP.var (enc := PV.int) (a := v_length) (v := .non) 4 rfl) (Args.cons (EvP.unO (EvP.var (enc := (eO PV.int)) (a := v_told) (v := .non) 5 rfl)) Args.nil)))) (by first | rfl | (simp only [bindS, up_some, up_bind, Option.bind_assoc, Option.bind_some, eqM_ok, eqM_okO]; done) | simp only [bindS, up_def, Option.bind_assoc, Option.bind_some, eqM_ok, eqM_okO])) Args.nil))) (by first | rfl | (simp only [bindS, up_some, up_bind, Option.bind_assoc, Option.bind_some, eqM_ok, eqM_okO]; done) | simp only [bindS, up_def, Option.bind_assoc, Option.bind_some, eqM_ok, eqM_okO]))) (EvB.one (EvB.bl (EvP.eq (m' := ((((v_told).bind fun v_x11 => some (v_x11 + 1)).bind fun v_x12 => m_l_more v_counts v_length v_x12).bind fun v_x13 => m_l_fails v_size v_x13).bind fun b => some (!b)) (EvP.not (EvB.bl (EvP.eq (m' := (((v_told).bind fun v_x11 => some (v_x11 + 1)).bind fun v_x12 => m_l_more v_counts v_length v_x12).bind fun v_x13 => m_l_fails v_size v_x13) (EvP.call (enc := PV.bl) (fun t => m_l_fails t.1 t.2.1) (fun η t r e => q_l_fails (0 + 1) η t r e) (Args.cons (EvP.var (enc := PV.int) (a := v_size) (v := .non) 2 rfl) (Args.cons (EvP.eq (m' := ((v_told).bind fun v_x11 => some (v_x11 + 1)).bind fun v_x12 => m_l_more v_counts v_length v_x12) (EvP.call (enc := (eT PV.int)) (fun t => m_l_more t.1 t.2.1 t.2.2.1) (fun η t r e => q_l_more (0 + 5) η t r e) (Args.cons (EvP.var (enc := (eT PV.int)) (a := v_counts) (v := .non) 3 rfl) (Args.cons (EvP.var (enc := PV.int) (a := v_length) (v := .non) 4 rfl) (Args.cons (EvP.eq (m' := (v_told).bind fun v_x11 => some (v_x11 + 1)) (EvP.bin (enc := PV.int) (fun x y => some (x + y)) opAdd (EvW.ofP (EvP.unO (EvP.var (enc := (eO PV.int)) (a := v_told) (v := .non) 5 rfl)) (fun η a => vw_nc nI η a)) (EvW.ofP (EvP.con (enc := PV.int) (1) rfl) (fun η a => vw_nc nI η a))) rfl) Args.nil)))) (by first | rfl | (simp only [bindS, up_some, up_bind, Option.bind_assoc, Option.bind_some, eqM_ok, eqM_okO]; done) | simp only [bindS, up_def, Option.bind_assoc, Option.bind_some, eqM_ok, eqM_okO])) Args.nil))) (by first | rfl | (simp only [bindS, up_some, up_bind, Option.bind_assoc, Option.bind_some, eqM_ok, eqM_okO]; done) | simp only [bindS, up_def, Option.bind_assoc, Option.bind_some, eqM_ok, eqM_okO])))) rfl)))) rfl) ?_ ?_
      · exact Run.retW (EvS.ofP (EvP.con (enc := PV.bl) (false) rfl))
      · refine Run.ite (EvB.eq (m' := (((v_row).bind fun v_x14 => some ((v_x14.length : Int))).bind fun v_x15 => some (!decide (v_x15 = v_most))).bind fun v_b4 => if v_b4 = true then some true else ((v_row).bind fun v_x16 => some (cut v_x16 (none) (some (v_counts.length : Int)))).bind fun v_x17 => some (!decide (v_x17 = v_counts))) (EvB.or (EvB.bl (EvP.eq (m' := ((v_row).bind fun v_x14 => some ((v_x14.length : Int))).bind fun v_x15 => some (!decide (v_x15 = v_most))) (EvP.cmp (fun x y => !decide (x = y)) (cmNe dtI (by decide)) (EvW.ofP (EvP.eq (m' := (v_row).bind fun v_x14 => some ((v_x14.length : Int))) (EvP.bi (enc := PV.int) (fun t => some (t.1.length : Int)) (lnT (f := PV.int)) (Args.cons (EvP.unO (EvP.var (enc := (eO (eT PV.int))) (a := v_row) (v := .non) 7 rfl)) Args.nil)) (by first | rfl | (simp only [bindS, up_some, up_bind, Option.bind_assoc, Option.bind_some, eqM_ok, eqM_okO]; done) | simp only [bindS, up_def, Option.bind_assoc, Option.bind_some, eqM_ok, eqM_okO])) (fun η a => vw_nc nI η a)) (EvW.ofP (EvP.var (enc := PV.int) (a := v_most) (v := .non) 6 rfl) (fun η a => vw_nc nI η a))) rfl)) (EvB.one (EvB.bl (EvP.eq (m' := ((v_row).bind fun v_x16 => some (cut v_x16 (none) (some (v_counts.length : Int)))).bind fun v_x17 => some (!decide (v_x17 = v_counts))) (EvP.cmp (fun x y => !decide (x = y)) (cmNe (dtT dtI) (by decide)) (EvW.ofP (EvP.eq (m' := (v_row).bind fun v_x16 => some (cut v_x16 (none) (some (v_counts.length : Int)))) (EvP.slc (enc := (eT PV.int)) (fun x l u => cut x l u) (slT (f := PV.int)) (EvW.ofP (EvP.unO (EvP.var (enc := (eO (eT PV.int))) (a := v_row) (v := .non) 7 rfl)) (fun η a => vw_nc (nT nI) η a)) EvO.nil (EvO.one (EvP.eq (m' := some ((v_counts.length : Int))) (EvP.bi (enc := PV.int) (fun t => some (t.1.length : Int)) (lnT (f := PV.int)) (Args.cons (EvP.var (enc := (eT PV.int)) (a := v_counts) (v := .non) 3 rfl) Args.nil)) rfl))) rfl) (fun η a => vw_nc (nT nI) η a)) (EvW.ofP (EvP.var (enc := (eT PV.int)) (a := v_counts) (v := .non) 3 rfl) (fun η a => vw_nc (nT nI) η a))) rfl)))) rfl) ?_ ?_
        · exact Run.retW (EvS.ofP (EvP.con (enc := PV.bl) (false) rfl))
        · refine Run.loopR' (f := PV.int) (G := (fun (v_s : Unit) => [.any, .val (.cell 0), .val (PV.int (v_size)), .val ((eT PV.int) (v_counts)), .val (PV.int (v_length)), .val ((eO PV.int) (v_told)), .val (PV.int (v_most)), .val ((eO (eT PV.int)) (v_row)), .any, .any])) (wf := (fun _ => some (0, v_w15))) (s0 := ()) (PR := (PW false)) (kr := fun r => r) (EvI0.eq (m' := rng2 (v_counts.length : Int) v_most) (EvI0.rng2 (EvP.eq (m' := some ((v_counts.length : Int))) (EvP.bi (enc := PV.int) (fun t => some (t.1.length : Int)) (lnT (f := PV.int)) (Args.cons (EvP.var (enc := (eT PV.int)) (a := v_counts) (v := .non) 3 rfl) Args.nil)) rfl) (EvP.var (enc := PV.int) (a := v_most) (v := .non) 6 rfl)) rfl) nI ⟨.inl rfl, ⟨.inr rfl, ⟨.inr rfl, ⟨.inr rfl, ⟨.inr rfl, ⟨.inr rfl, ⟨.inr rfl, ⟨.inr rfl, ⟨.inl rfl, ⟨.inl rfl, trivial⟩⟩⟩⟩⟩⟩⟩⟩⟩⟩ rfl (fun r v η h => h) (fun v_x18 v_s => ?_) fun v_s => ?_
          · refine Run.ite (EvB.eq (m' := ((((v_row).bind fun v_x19 => atI v_x19 v_x18).bind fun a => some ((fun a => some a) a)).bind fun v_x22 => (((v_row).bind fun v_x20 => some (cut v_x20 (none) (some v_x18))).bind fun v_x21 => m_more_words v_size v_x21 (v_x18 + 1)).bind fun v_x23 => some (!decide (v_x22 = v_x23))).bind fun v_b5 => if v_b5 = true then some true else ((v_row).bind fun v_x24 => m_word_necklaces v_x24 (v_x18 + 1)).bind fun v_x25 => (m_necklaces v_size (v_x18 + 1)).bind fun v_x26 => some (!decide (v_x25 = v_x26))) (EvB.or (EvB.bl (EvP.eq (m' := (((v_row).bind fun v_x19 => atI v_x19 v_x18).bind fun a => some ((fun a => some a) a)).bind fun v_x22 => (((v_row).bind fun v_x20 => some (cut v_x20 (none) (some v_x18))).bind fun v_x21 => m_more_words v_size v_x21 (v_x18 + 1)).bind fun v_x23 => some (!decide (v_x22 = v_x23))) (EvP.cmp (fun x y => !decide (x = y)) (cmNe (dtO dtI (fun _ => rfl)) (by decide)) (EvW.ofP (EvP.eq (m' := ((v_row).bind fun v_x19 => atI v_x19 v_x18).bind fun a => some ((fun a => some a) a)) (EvP.conv (enc := PV.int) (enc' := (eO PV.int)) (fun a => some a) (EvP.eq (m' := (v_row).bind fun v_x19 => atI v_x19 v_x18) (EvP.idx (enc := PV.int) (fun x y => atI x y) (ixT (f := PV.int)) (EvP.unO (EvP.var (enc := (eO (eT PV.int))) (a := v_row) (v := .non) 7 rfl)) (EvP.var (enc := PV.int) (a := v_x18) (v := .non) 8 rfl)) rfl) (fun _ => rfl)) rfl) (fun η a => vw_nc (nO nI) η a)) (EvW.ofP (EvP.eq (m' := ((v_row).bind fun v_x20 => some (cut v_x20 (none) (some v_x18))).bind fun v_x21 => m_more_words v_size v_x21 (v_x18 + 1)) (EvP.call (enc := (eO PV.int)) (fun t => m_more_words t.1 t.2.1 t.2.2.1) (fun η t r e => q_more_words (0 + 0) η t r e) (Args.cons (EvP.var (enc := PV.int) (a := v_size) (v := .non) 2 rfl) (Args.cons (EvP.eq (m' := (v_row).bind fun v_x20 => some (cut v_x20 (none) (some v_x18))) (EvP.slc (enc := (eT PV.int)) (fun x l u => cut x l u) (slT (f := PV.int)) (EvW.ofP (EvP.unO (EvP.var (enc := (eO (eT PV.int))) (a := v_row) (v := .non) 7 rfl)) (fun η a => vw_nc (nT nI) η a)) EvO.nil (EvO.one (EvP.var (enc := PV.int) (a := v_x18) (v := .non) 8 rfl))) rfl) (Args.cons (EvP.eq (m' := some (v_x18 + 1)) (EvP.bin (enc := PV.int) (fun x y => some (x + y)) opAdd (EvW.ofP (EvP.var (enc := PV.int) (a := v_x18) (v := .non) 8 rfl) (fun η a => vw_nc nI η a)) (EvW.ofP (EvP.con (enc := PV.int) (1) rfl) (fun η a => vw_nc nI η a))) rfl) Args.nil)))) (by first | rfl | (simp only [bindS, up_some, up_bind, Option.bind_assoc, Option.bind_some, eqM_ok, eqM_okO]; done) | simp only [bindS, up_def, Option.bind_assoc, Option.bind_some, eqM_ok, eqM_okO])) (fun η a => vw_nc (nO nI) η a))) rfl)) (EvB.one (EvB.bl (EvP.eq (m' := ((v_row).bind fun v_x24 => m_word_necklaces v_x24 (v_x18 + 1)).bind fun v_x25 => (m_necklaces v_size (v_x18 + 1)).bind fun v_x26 => some (!decide (v_x25 = v_x26))) (EvP.cmp (fun x y => !decide (x = y)) (cmNe dtI (by decide)) (EvW.ofP (EvP.eq (m' := (v_row).bind fun v_x24 => m_word_necklaces v_x24 (v_x18 + 1)) (EvP.call (enc := PV.int) (fun t => m_word_necklaces t.1 t.2.1) (fun η t r e => q_word_necklaces (0 + 2) η t r e) (Args.cons (EvP.unO (EvP.var (enc := (eO (eT PV.int))) (a := v_row) (v := .non) 7 rfl)) (Args.cons (EvP.eq (m' := some (v_x18 + 1)) (EvP.bin (enc := PV.int) (fun x y => some (x + y)) opAdd (EvW.ofP (EvP.var (enc := PV.int) (a := v_x18) (v := .non) 8 rfl) (fun η a => vw_nc nI η a)) (EvW.ofP (EvP.con (enc := PV.int) (1) rfl) (fun η a => vw_nc nI η a))) rfl) Args.nil))) (by first | rfl | (simp only [bindS, up_some, up_bind, Option.bind_assoc, Option.bind_some, eqM_ok, eqM_okO]; done) | simp only [bindS, up_def, Option.bind_assoc, Option.bind_some, eqM_ok, eqM_okO])) (fun η a => vw_nc nI η a)) (EvW.ofP (EvP.eq (m' := m_necklaces v_size (v_x18 + 1)) (EvP.call (enc := PV.int) (fun t => m_necklaces t.1 t.2.1) (fun η t r e => q_necklaces (0 + 2) η t r e) (Args.cons (EvP.var (enc := PV.int) (a := v_size) (v := .non) 2 rfl) (Args.cons (EvP.eq (m' := some (v_x18 + 1)) (EvP.bin (enc := PV.int) (fun x y => some (x + y)) opAdd (EvW.ofP (EvP.var (enc := PV.int) (a := v_x18) (v := .non) 8 rfl) (fun η a => vw_nc nI η a)) (EvW.ofP (EvP.con (enc := PV.int) (1) rfl) (fun η a => vw_nc nI η a))) rfl) Args.nil))) rfl) (fun η a => vw_nc nI η a))) rfl)))) rfl) ?_ ?_
            · exact Run.eq (Run.rtL pw_x (Run.retW (EvS.ofP (EvP.con (enc := PV.bl) (false) rfl)))) rfl
            · exact Run.nilL ⟨.inl rfl, ⟨.inr rfl, ⟨.inr rfl, ⟨.inr rfl, ⟨.inr rfl, ⟨.inr rfl, ⟨.inr rfl, ⟨.inr rfl, ⟨.inl rfl, ⟨.inl rfl, trivial⟩⟩⟩⟩⟩⟩⟩⟩⟩⟩ rfl
          · exact Run.retW (EvS.ofP (EvP.con (enc := PV.bl) (true) rfl))

end L
end

section
set_option linter.all false
set_option Elab.async false
set_option maxRecDepth 100000
namespace L
open D M LP
/-- how many words of length i -/
def cf (counts : List Int) (i : Nat) : Nat := if i = 0 then 0 else ((counts[i - 1]?).getD 0).toNat
structure Cnt (counts : List Int) : Prop where
  lo : ∀ x ∈ counts, 0 ≤ x ∧ x ≤ 1000
  len : counts.length ≤ 100
theorem cf_get {counts : List Int} (h : Cnt counts) {row : List Int} {n i : Nat} (hrow : row = counts ++ List.replicate n 0) (h0 : 1 ≤ i) (hn : i ≤ n) : atI row ((i : Int) - 1) = some ((cf counts i : Nat) : Int) := by
  subst hrow
  rw [atI_get (by omega) (by rw [List.length_append, List.length_replicate]; omega)]
  congr 1
  unfold cf
  rw [if_neg (by omega)]
  have e : ((i : Int) - 1).toNat = i - 1 := by omega
  simp only [e]
  rcases Nat.lt_or_ge (i - 1) counts.length with hl | hl
  · rw [List.getElem_append_left hl, List.getElem?_eq_getElem hl]
    have := (h.lo _ (List.getElem_mem hl)).1
    simp only [Option.getD_some]
    omega
  · rw [List.getElem_append_right hl, List.getElem_replicate, List.getElem?_eq_none hl]
    rfl
theorem cf_small {counts : List Int} (h : Cnt counts) (i : Nat) : cf counts i ≤ 1000 := by
  unfold cf
  split
  · omega
  · cases e : counts[i - 1]? with
    | none => simp
    | some x =>
      have := (h.lo x (List.mem_of_getElem? e)).2
      simp only [Option.getD_some]; omega
theorem S_zero (c : Nat → Nat) : S c 0 = 0 := rfl
def SL (c : Nat → Nat) (n : Nat) : List Int := (List.range n).map fun k => ((S c k : Nat) : Int)
theorem SL_len (c : Nat → Nat) (n : Nat) : (SL c n).length = n := by simp [SL]
theorem SL_get (c : Nat → Nat) {n : Nat} {i : Int} (h0 : 0 ≤ i) (h1 : i < n) : atI (SL c n) i = some ((S c i.toNat : Nat) : Int) := by
  rw [atI_get h0 (by rw [SL_len]; exact h1)]
  simp [SL]
theorem sum_cast (f : Nat → Nat) : ∀ xs : List Nat, ((xs.map fun i => ((f i : Nat) : Int)).sum) = (((xs.map f).sum : Nat) : Int)
  | [] => rfl
  | x :: xs => by simp [sum_cast f xs]
theorem mulM_cap {x y : Int} (h : x.natAbs ≤ 1000000 ∨ y.natAbs ≤ 1000000) : mulM x y = some (x * y) := by
  unfold mulM cap
  rw [if_pos]
  rw [Bool.or_eq_true, decide_eq_true_eq, decide_eq_true_eq]
  omega
theorem rng_nat (a b : Nat) : rng (a : Int) b = (List.range (b - a)).map fun k => ((a + k : Nat) : Int) := by
  unfold rng
  rw [show ((b : Int) - a).toNat = b - a by omega]
  exact List.map_congr_left fun k _ => by omega
/-- one turn of the recurrence -/
theorem turn_ok {counts row : List Int} {n m : Nat} (h : Cnt counts) (hrow : row = counts ++ List.replicate m 0) (h0 : 1 ≤ n) (hm : n ≤ m) (h100 : m ≤ 100) :
    ((atI row ((n : Int) - 1)).bind fun v_x3 => mulM n v_x3).bind (fun v_x9 => (((rng2 1 (n : Int)).bind fun v_x7 => lcP (fun (v_x4 : Int) => (atI row (v_x4 - 1)).bind fun v_x5 => (atI (SL (cf counts) n) ((n : Int) - v_x4)).bind fun v_x6 => mulM v_x5 v_x6) v_x7).bind fun v_x8 => some (v_x8.sum)).bind fun v_x10 => some (v_x9 + v_x10)) = some ((S (cf counts) n : Nat) : Int) := by
  have hc := cf_small h
  rw [cf_get h hrow h0 hm]
  simp only [Option.bind_some]
  rw [mulM_cap (.inl (by omega)), rng2_some (by omega) (by omega) (by omega) (by omega)]
  simp only [Option.bind_some]
  rw [lcP_some (fun x => ((cf counts x.toNat * S (cf counts) (n - x.toNat) : Nat) : Int)) (by rw [rng_length]; omega) (fun x hx => by
    obtain ⟨x0, x1⟩ := mem_rng.mp hx
    obtain ⟨k, rfl⟩ : ∃ k : Nat, x = k := ⟨x.toNat, by omega⟩
    have hk := hc k
    rw [cf_get h hrow (by omega) (by omega)]
    simp only [Option.bind_some]
    rw [SL_get _ (by omega) (by omega)]
    simp only [Option.bind_some]
    rw [mulM_cap (.inl (by omega)), Int.toNat_natCast, show ((n : Int) - k).toNat = n - k by omega, Int.natCast_mul])]
  simp only [Option.bind_some, Option.some.injEq]
  rw [S_step _ (by omega), Int.natCast_add, Int.natCast_mul]
  congr 1
  have := rng_nat 1 n
  rw [show ((1 : Nat) : Int) = 1 from rfl] at this
  rw [this, List.map_map, ← sm_range, ← sum_cast]
  congr 1
  refine List.map_congr_left fun k _ => ?_
  show ((cf counts (((1 + k : Nat) : Int)).toNat * S (cf counts) (n - ((1 + k : Nat) : Int).toNat) : Nat) : Int) = _
  rw [Int.toNat_natCast, Nat.add_comm 1 k]
theorem SL_succ (c : Nat → Nat) (n : Nat) : SL c n ++ [((S c n : Nat) : Int)] = SL c (n + 1) := by simp [SL, List.range_succ]
theorem flat_zero : ∀ n : Nat, (List.replicate n [(0 : Int)]).flatten = List.replicate n 0
  | 0 => rfl
  | n + 1 => by rw [List.replicate_succ, List.flatten_cons, flat_zero n, List.replicate_succ]; rfl
theorem repT_zero {n : Nat} (h : n ≤ 1000) : repT ([0] : List Int) (n : Int) = some (List.replicate n 0) := by
  unfold repT
  rw [if_pos ⟨by omega, by omega, by simp⟩, Int.toNat_natCast, flat_zero]
theorem turns_of_ok {counts : List Int} {n : Nat} (h : Cnt counts) (hn : n ≤ 100) : m_turns_of counts n = some (SL (cf counts) (n + 1)) := by
  unfold m_turns_of
  have hl := h.len
  rw [repT_zero (by omega)]
  simp only [Option.bind_some]
  rw [catM_some (by rw [List.length_replicate]; omega)]
  simp only [Option.bind_some]
  rw [rng2_some (by omega) (by omega) (by omega) (by omega)]
  simp only [Option.bind_some]
  generalize hrow : counts ++ List.replicate n 0 = row
  obtain ⟨s, e, k, hk0, hk, hx, rfl⟩ := foldO_inv (f := fun (v_x2 : Int) (v_s : (List Int)) =>
      (((atI row (v_x2 - 1)).bind fun v_x3 => mulM v_x2 v_x3).bind fun v_x9 => (((rng2 1 v_x2).bind fun v_x7 => lcP (fun (v_x4 : Int) => (atI row (v_x4 - 1)).bind fun v_x5 => (atI v_s (v_x2 - v_x4)).bind fun v_x6 => mulM v_x5 v_x6) v_x7).bind fun v_x8 => some (v_x8.sum)).bind fun v_x10 => some (v_x9 + v_x10)).bind fun v_x11 => (appM v_s v_x11).bind fun v_turns2 =>
      some (v_turns2)) (I := fun xs s => ∃ k : Nat, 1 ≤ k ∧ k ≤ n + 1 ∧ xs = rng k ((n : Int) + 1) ∧ s = SL (cf counts) k) (rng 1 ((n : Int) + 1)) [0] ⟨1, by omega, by omega, rfl, rfl⟩ (fun x xs s hI => by
    obtain ⟨k, k1, hk, hx, rfl⟩ := hI
    have hlt : (k : Int) < (n : Int) + 1 := by
      rcases Int.lt_or_le (k : Int) ((n : Int) + 1) with h | h
      · exact h
      · rw [rng_nil h] at hx; cases hx
    rw [rng_cons hlt] at hx
    obtain ⟨rfl, rfl⟩ := List.cons.inj hx
    refine ⟨SL (cf counts) (k + 1), ?_, k + 1, by omega, by omega, by simp, rfl⟩
    rw [turn_ok (m := n) h hrow.symm k1 (by omega) hn]
    simp only [Option.bind_some]
    rw [appM_some (by rw [SL_len]; omega), SL_succ]
    rfl)
  rw [e]
  have : k = n + 1 := by
    rcases Int.lt_or_le (k : Int) ((n : Int) + 1) with h | h
    · rw [rng_cons h] at hx; cases hx
    · omega
  subst this
  rfl
end L
end

section
set_option linter.all false
set_option Elab.async false
set_option maxRecDepth 100000
namespace L
open D M LP
abbrev ltT : List Tok → List Tok → Bool := ltL (ltP ltI ltI)
theorem ltoT : Lto ltT := ltoL (ltoP ltoI ltoI)
open Classical in
noncomputable def neckB (u : List Tok) : Bool := decide (neck ltT u)
theorem neckB_iff (u : List Tok) : neckB u = true ↔ neck ltT u := by unfold neckB; exact @decide_eq_true_iff _ (Classical.propDecidable _)
/-- how many necklaces of weight d -/
noncomputable def Nk (c : Nat → Nat) (d : Nat) : Nat := ((rows c d).filter neckB).length
theorem S_count (c : Nat → Nat) {n : Nat} (hn : 0 < n) : S c n = ((divs n).map fun d => d * Nk c d).sum := count_rows (rows_of c) ltoT neckB_iff hn
theorem prim_gen {P : List Int} {n : Nat} {ds : List Int} {ms qs : List Int} (h0 : 1 ≤ n) (h1 : n ≤ 12) (hd : (rng 1 ((n : Int) + 1)).filter (fun d => decide ((n : Int).fmod d = 0)) = ds)
    {z : Int} (hz : lcP (fun (v_x4 : Int) => (m_moebius v_x4).bind fun v_x6 => ((fdivM (n : Int) v_x4).bind fun v_x5 => atI P v_x5).bind fun v_x7 => mulM v_x6 v_x7) ds = some qs) {k : Nat} (hs : qs.sum = (n : Int) * k) : m_primitive_part P n = some ((k : Nat) : Int) := by
  unfold m_primitive_part
  rw [rng2_some (by omega) (by omega) (by omega) (by omega)]
  simp only [Option.bind_some]
  have e : lcF (fun (v_x : Int) => ((modM (n : Int) v_x).bind fun v_x2 => some (decide (v_x2 = 0))).bind fun v_b => if v_b = true then (some (v_x)).map some else some none) (rng 1 ((n : Int) + 1)) = some ds := by
    rw [← hd]
    have hl : (rng 1 ((n : Int) + 1)).length < line := by rw [rng_length]; show _ < 16777216; omega
    rw [lcF, if_pos hl]
    have : ∀ xs : List Int, (∀ x ∈ xs, x ≠ 0) → lcM (fun (v_x : Int) => ((modM (n : Int) v_x).bind fun v_x2 => some (decide (v_x2 = 0))).bind fun v_b => if v_b = true then (some (v_x)).map some else some none) xs = some (xs.filter fun d => decide ((n : Int).fmod d = 0)) := by
      intro xs hx
      rw [show (xs.filter fun d => decide ((n : Int).fmod d = 0)) = (xs.filter fun d => decide ((n : Int).fmod d = 0)).map id by simp, ← lcM_filter]
      induction xs with
      | nil => rfl
      | cons x xs ih =>
        rw [lcM, lcM, ih fun y hy => hx y (List.mem_cons_of_mem _ hy)]
        unfold modM
        rw [if_pos (hx x List.mem_cons_self)]
        rfl
    exact this _ fun x hx => by have := mem_rng.mp hx; omega
  rw [e]
  simp only [Option.bind_some]
  rw [hz]
  simp only [Option.bind_some]
  rw [hs, fdivM, if_pos ⟨by omega, by omega⟩]
  congr 1
  exact Int.mul_fdiv_cancel_left _ (by omega)
theorem fdq {x y q : Int} (h : fdivM x y = some q) {P : List Int} {v m w : Int} (hv : atI P q = some v) (hm : m_moebius y = some m) (hw : m.natAbs ≤ 1) (e : m * v = w) : ((m_moebius y).bind fun v_x6 => ((fdivM x y).bind fun v_x5 => atI P v_x5).bind fun v_x7 => mulM v_x6 v_x7) = some w := by
  rw [hm, h]
  simp only [Option.bind_some]
  rw [hv]
  simp only [Option.bind_some]
  rw [mulM_cap (.inl (by omega)), e]
theorem lcP_nil (f : Int → Option Int) : mapO f [] = some [] := rfl
theorem mapO_cons {f : Int → Option Int} {x y : Int} {xs ys : List Int} (h : f x = some y) (t : mapO f xs = some ys) : mapO f (x :: xs) = some (y :: ys) := by
  rw [mapO, h, Option.bind_some, t]; rfl

theorem mob_1 : m_moebius 1 = some (1) := by unfold m_moebius; kernel_rfl
theorem mob_2 : m_moebius 2 = some (-1) := by unfold m_moebius; kernel_rfl
theorem mob_3 : m_moebius 3 = some (-1) := by unfold m_moebius; kernel_rfl
theorem mob_4 : m_moebius 4 = some (0) := by unfold m_moebius; kernel_rfl
theorem mob_5 : m_moebius 5 = some (-1) := by unfold m_moebius; kernel_rfl
theorem mob_6 : m_moebius 6 = some (1) := by unfold m_moebius; kernel_rfl
theorem mob_7 : m_moebius 7 = some (-1) := by unfold m_moebius; kernel_rfl
theorem mob_8 : m_moebius 8 = some (0) := by unfold m_moebius; kernel_rfl
theorem mob_9 : m_moebius 9 = some (0) := by unfold m_moebius; kernel_rfl
theorem mob_10 : m_moebius 10 = some (1) := by unfold m_moebius; kernel_rfl
theorem mob_11 : m_moebius 11 = some (-1) := by unfold m_moebius; kernel_rfl
theorem mob_12 : m_moebius 12 = some (0) := by unfold m_moebius; kernel_rfl
theorem divs_1 : divs 1 = [1] := by decide
theorem S_1 (c : Nat → Nat) : S c 1 = 1 * Nk c 1 := by rw [S_count c (by decide), divs_1]; simp only [List.map_cons, List.map_nil, List.sum_cons, List.sum_nil, Nat.add_zero, Nat.add_assoc]
theorem divs_2 : divs 2 = [1, 2] := by decide
theorem S_2 (c : Nat → Nat) : S c 2 = 1 * Nk c 1 + 2 * Nk c 2 := by rw [S_count c (by decide), divs_2]; simp only [List.map_cons, List.map_nil, List.sum_cons, List.sum_nil, Nat.add_zero, Nat.add_assoc]
theorem divs_3 : divs 3 = [1, 3] := by decide
theorem S_3 (c : Nat → Nat) : S c 3 = 1 * Nk c 1 + 3 * Nk c 3 := by rw [S_count c (by decide), divs_3]; simp only [List.map_cons, List.map_nil, List.sum_cons, List.sum_nil, Nat.add_zero, Nat.add_assoc]
theorem divs_4 : divs 4 = [1, 2, 4] := by decide
theorem S_4 (c : Nat → Nat) : S c 4 = 1 * Nk c 1 + (2 * Nk c 2 + (4 * Nk c 4)) := by rw [S_count c (by decide), divs_4]; simp only [List.map_cons, List.map_nil, List.sum_cons, List.sum_nil, Nat.add_zero, Nat.add_assoc]
theorem divs_5 : divs 5 = [1, 5] := by decide
theorem S_5 (c : Nat → Nat) : S c 5 = 1 * Nk c 1 + 5 * Nk c 5 := by rw [S_count c (by decide), divs_5]; simp only [List.map_cons, List.map_nil, List.sum_cons, List.sum_nil, Nat.add_zero, Nat.add_assoc]
theorem divs_6 : divs 6 = [1, 2, 3, 6] := by decide
theorem S_6 (c : Nat → Nat) : S c 6 = 1 * Nk c 1 + (2 * Nk c 2 + (3 * Nk c 3 + (6 * Nk c 6))) := by rw [S_count c (by decide), divs_6]; simp only [List.map_cons, List.map_nil, List.sum_cons, List.sum_nil, Nat.add_zero, Nat.add_assoc]
theorem divs_7 : divs 7 = [1, 7] := by decide
theorem S_7 (c : Nat → Nat) : S c 7 = 1 * Nk c 1 + 7 * Nk c 7 := by rw [S_count c (by decide), divs_7]; simp only [List.map_cons, List.map_nil, List.sum_cons, List.sum_nil, Nat.add_zero, Nat.add_assoc]
theorem divs_8 : divs 8 = [1, 2, 4, 8] := by decide
theorem S_8 (c : Nat → Nat) : S c 8 = 1 * Nk c 1 + (2 * Nk c 2 + (4 * Nk c 4 + (8 * Nk c 8))) := by rw [S_count c (by decide), divs_8]; simp only [List.map_cons, List.map_nil, List.sum_cons, List.sum_nil, Nat.add_zero, Nat.add_assoc]
theorem divs_9 : divs 9 = [1, 3, 9] := by decide
theorem S_9 (c : Nat → Nat) : S c 9 = 1 * Nk c 1 + (3 * Nk c 3 + (9 * Nk c 9)) := by rw [S_count c (by decide), divs_9]; simp only [List.map_cons, List.map_nil, List.sum_cons, List.sum_nil, Nat.add_zero, Nat.add_assoc]
theorem divs_10 : divs 10 = [1, 2, 5, 10] := by decide
theorem S_10 (c : Nat → Nat) : S c 10 = 1 * Nk c 1 + (2 * Nk c 2 + (5 * Nk c 5 + (10 * Nk c 10))) := by rw [S_count c (by decide), divs_10]; simp only [List.map_cons, List.map_nil, List.sum_cons, List.sum_nil, Nat.add_zero, Nat.add_assoc]
theorem divs_11 : divs 11 = [1, 11] := by decide
theorem S_11 (c : Nat → Nat) : S c 11 = 1 * Nk c 1 + 11 * Nk c 11 := by rw [S_count c (by decide), divs_11]; simp only [List.map_cons, List.map_nil, List.sum_cons, List.sum_nil, Nat.add_zero, Nat.add_assoc]
theorem divs_12 : divs 12 = [1, 2, 3, 4, 6, 12] := by decide
theorem S_12 (c : Nat → Nat) : S c 12 = 1 * Nk c 1 + (2 * Nk c 2 + (3 * Nk c 3 + (4 * Nk c 4 + (6 * Nk c 6 + (12 * Nk c 12))))) := by rw [S_count c (by decide), divs_12]; simp only [List.map_cons, List.map_nil, List.sum_cons, List.sum_nil, Nat.add_zero, Nat.add_assoc]
theorem prim_1 (c : Nat → Nat) : m_primitive_part (SL c 2) ((1 : Nat) : Int) = some ((Nk c 1 : Nat) : Int) := by
  refine prim_gen (ds := [1]) (qs := [(1) * ((S c 1 : Nat) : Int)]) (z := 0) (ms := []) (by decide) (by decide) (by decide) ?_ ?_
  · rw [lcP, if_pos (by decide)]
    exact mapO_cons (fdq (x := 1) (q := 1) (v := ((S c 1 : Nat) : Int)) (by decide) (by rw [SL_get c (by decide) (by decide)]; rfl) mob_1 (by decide) rfl) (lcP_nil _)
  · simp only [List.sum_cons, List.sum_nil, S_1]
    omega
theorem prim_2 (c : Nat → Nat) : m_primitive_part (SL c 3) ((2 : Nat) : Int) = some ((Nk c 2 : Nat) : Int) := by
  refine prim_gen (ds := [1, 2]) (qs := [(1) * ((S c 2 : Nat) : Int), (-1) * ((S c 1 : Nat) : Int)]) (z := 0) (ms := []) (by decide) (by decide) (by decide) ?_ ?_
  · rw [lcP, if_pos (by decide)]
    exact mapO_cons (fdq (x := 2) (q := 2) (v := ((S c 2 : Nat) : Int)) (by decide) (by rw [SL_get c (by decide) (by decide)]; rfl) mob_1 (by decide) rfl) (mapO_cons (fdq (x := 2) (q := 1) (v := ((S c 1 : Nat) : Int)) (by decide) (by rw [SL_get c (by decide) (by decide)]; rfl) mob_2 (by decide) rfl) (lcP_nil _))
  · simp only [List.sum_cons, List.sum_nil, S_2, S_1]
    omega
theorem prim_3 (c : Nat → Nat) : m_primitive_part (SL c 4) ((3 : Nat) : Int) = some ((Nk c 3 : Nat) : Int) := by
  refine prim_gen (ds := [1, 3]) (qs := [(1) * ((S c 3 : Nat) : Int), (-1) * ((S c 1 : Nat) : Int)]) (z := 0) (ms := []) (by decide) (by decide) (by decide) ?_ ?_
  · rw [lcP, if_pos (by decide)]
    exact mapO_cons (fdq (x := 3) (q := 3) (v := ((S c 3 : Nat) : Int)) (by decide) (by rw [SL_get c (by decide) (by decide)]; rfl) mob_1 (by decide) rfl) (mapO_cons (fdq (x := 3) (q := 1) (v := ((S c 1 : Nat) : Int)) (by decide) (by rw [SL_get c (by decide) (by decide)]; rfl) mob_3 (by decide) rfl) (lcP_nil _))
  · simp only [List.sum_cons, List.sum_nil, S_3, S_1]
    omega
theorem prim_4 (c : Nat → Nat) : m_primitive_part (SL c 5) ((4 : Nat) : Int) = some ((Nk c 4 : Nat) : Int) := by
  refine prim_gen (ds := [1, 2, 4]) (qs := [(1) * ((S c 4 : Nat) : Int), (-1) * ((S c 2 : Nat) : Int), (0) * ((S c 1 : Nat) : Int)]) (z := 0) (ms := []) (by decide) (by decide) (by decide) ?_ ?_
  · rw [lcP, if_pos (by decide)]
    exact mapO_cons (fdq (x := 4) (q := 4) (v := ((S c 4 : Nat) : Int)) (by decide) (by rw [SL_get c (by decide) (by decide)]; rfl) mob_1 (by decide) rfl) (mapO_cons (fdq (x := 4) (q := 2) (v := ((S c 2 : Nat) : Int)) (by decide) (by rw [SL_get c (by decide) (by decide)]; rfl) mob_2 (by decide) rfl) (mapO_cons (fdq (x := 4) (q := 1) (v := ((S c 1 : Nat) : Int)) (by decide) (by rw [SL_get c (by decide) (by decide)]; rfl) mob_4 (by decide) rfl) (lcP_nil _)))
  · simp only [List.sum_cons, List.sum_nil, S_4, S_2, S_1]
    omega
theorem prim_5 (c : Nat → Nat) : m_primitive_part (SL c 6) ((5 : Nat) : Int) = some ((Nk c 5 : Nat) : Int) := by
  refine prim_gen (ds := [1, 5]) (qs := [(1) * ((S c 5 : Nat) : Int), (-1) * ((S c 1 : Nat) : Int)]) (z := 0) (ms := []) (by decide) (by decide) (by decide) ?_ ?_
  · rw [lcP, if_pos (by decide)]
    exact mapO_cons (fdq (x := 5) (q := 5) (v := ((S c 5 : Nat) : Int)) (by decide) (by rw [SL_get c (by decide) (by decide)]; rfl) mob_1 (by decide) rfl) (mapO_cons (fdq (x := 5) (q := 1) (v := ((S c 1 : Nat) : Int)) (by decide) (by rw [SL_get c (by decide) (by decide)]; rfl) mob_5 (by decide) rfl) (lcP_nil _))
  · simp only [List.sum_cons, List.sum_nil, S_5, S_1]
    omega
theorem prim_6 (c : Nat → Nat) : m_primitive_part (SL c 7) ((6 : Nat) : Int) = some ((Nk c 6 : Nat) : Int) := by
  refine prim_gen (ds := [1, 2, 3, 6]) (qs := [(1) * ((S c 6 : Nat) : Int), (-1) * ((S c 3 : Nat) : Int), (-1) * ((S c 2 : Nat) : Int), (1) * ((S c 1 : Nat) : Int)]) (z := 0) (ms := []) (by decide) (by decide) (by decide) ?_ ?_
  · rw [lcP, if_pos (by decide)]
    exact mapO_cons (fdq (x := 6) (q := 6) (v := ((S c 6 : Nat) : Int)) (by decide) (by rw [SL_get c (by decide) (by decide)]; rfl) mob_1 (by decide) rfl) (mapO_cons (fdq (x := 6) (q := 3) (v := ((S c 3 : Nat) : Int)) (by decide) (by rw [SL_get c (by decide) (by decide)]; rfl) mob_2 (by decide) rfl) (mapO_cons (fdq (x := 6) (q := 2) (v := ((S c 2 : Nat) : Int)) (by decide) (by rw [SL_get c (by decide) (by decide)]; rfl) mob_3 (by decide) rfl) (mapO_cons (fdq (x := 6) (q := 1) (v := ((S c 1 : Nat) : Int)) (by decide) (by rw [SL_get c (by decide) (by decide)]; rfl) mob_6 (by decide) rfl) (lcP_nil _))))
  · simp only [List.sum_cons, List.sum_nil, S_6, S_3, S_2, S_1]
    omega
theorem prim_7 (c : Nat → Nat) : m_primitive_part (SL c 8) ((7 : Nat) : Int) = some ((Nk c 7 : Nat) : Int) := by
  refine prim_gen (ds := [1, 7]) (qs := [(1) * ((S c 7 : Nat) : Int), (-1) * ((S c 1 : Nat) : Int)]) (z := 0) (ms := []) (by decide) (by decide) (by decide) ?_ ?_
  · rw [lcP, if_pos (by decide)]
    exact mapO_cons (fdq (x := 7) (q := 7) (v := ((S c 7 : Nat) : Int)) (by decide) (by rw [SL_get c (by decide) (by decide)]; rfl) mob_1 (by decide) rfl) (mapO_cons (fdq (x := 7) (q := 1) (v := ((S c 1 : Nat) : Int)) (by decide) (by rw [SL_get c (by decide) (by decide)]; rfl) mob_7 (by decide) rfl) (lcP_nil _))
  · simp only [List.sum_cons, List.sum_nil, S_7, S_1]
    omega
theorem prim_8 (c : Nat → Nat) : m_primitive_part (SL c 9) ((8 : Nat) : Int) = some ((Nk c 8 : Nat) : Int) := by
  refine prim_gen (ds := [1, 2, 4, 8]) (qs := [(1) * ((S c 8 : Nat) : Int), (-1) * ((S c 4 : Nat) : Int), (0) * ((S c 2 : Nat) : Int), (0) * ((S c 1 : Nat) : Int)]) (z := 0) (ms := []) (by decide) (by decide) (by decide) ?_ ?_
  · rw [lcP, if_pos (by decide)]
    exact mapO_cons (fdq (x := 8) (q := 8) (v := ((S c 8 : Nat) : Int)) (by decide) (by rw [SL_get c (by decide) (by decide)]; rfl) mob_1 (by decide) rfl) (mapO_cons (fdq (x := 8) (q := 4) (v := ((S c 4 : Nat) : Int)) (by decide) (by rw [SL_get c (by decide) (by decide)]; rfl) mob_2 (by decide) rfl) (mapO_cons (fdq (x := 8) (q := 2) (v := ((S c 2 : Nat) : Int)) (by decide) (by rw [SL_get c (by decide) (by decide)]; rfl) mob_4 (by decide) rfl) (mapO_cons (fdq (x := 8) (q := 1) (v := ((S c 1 : Nat) : Int)) (by decide) (by rw [SL_get c (by decide) (by decide)]; rfl) mob_8 (by decide) rfl) (lcP_nil _))))
  · simp only [List.sum_cons, List.sum_nil, S_8, S_4, S_2, S_1]
    omega
theorem prim_9 (c : Nat → Nat) : m_primitive_part (SL c 10) ((9 : Nat) : Int) = some ((Nk c 9 : Nat) : Int) := by
  refine prim_gen (ds := [1, 3, 9]) (qs := [(1) * ((S c 9 : Nat) : Int), (-1) * ((S c 3 : Nat) : Int), (0) * ((S c 1 : Nat) : Int)]) (z := 0) (ms := []) (by decide) (by decide) (by decide) ?_ ?_
  · rw [lcP, if_pos (by decide)]
    exact mapO_cons (fdq (x := 9) (q := 9) (v := ((S c 9 : Nat) : Int)) (by decide) (by rw [SL_get c (by decide) (by decide)]; rfl) mob_1 (by decide) rfl) (mapO_cons (fdq (x := 9) (q := 3) (v := ((S c 3 : Nat) : Int)) (by decide) (by rw [SL_get c (by decide) (by decide)]; rfl) mob_3 (by decide) rfl) (mapO_cons (fdq (x := 9) (q := 1) (v := ((S c 1 : Nat) : Int)) (by decide) (by rw [SL_get c (by decide) (by decide)]; rfl) mob_9 (by decide) rfl) (lcP_nil _)))
  · simp only [List.sum_cons, List.sum_nil, S_9, S_3, S_1]
    omega
theorem prim_10 (c : Nat → Nat) : m_primitive_part (SL c 11) ((10 : Nat) : Int) = some ((Nk c 10 : Nat) : Int) := by
  refine prim_gen (ds := [1, 2, 5, 10]) (qs := [(1) * ((S c 10 : Nat) : Int), (-1) * ((S c 5 : Nat) : Int), (-1) * ((S c 2 : Nat) : Int), (1) * ((S c 1 : Nat) : Int)]) (z := 0) (ms := []) (by decide) (by decide) (by decide) ?_ ?_
  · rw [lcP, if_pos (by decide)]
    exact mapO_cons (fdq (x := 10) (q := 10) (v := ((S c 10 : Nat) : Int)) (by decide) (by rw [SL_get c (by decide) (by decide)]; rfl) mob_1 (by decide) rfl) (mapO_cons (fdq (x := 10) (q := 5) (v := ((S c 5 : Nat) : Int)) (by decide) (by rw [SL_get c (by decide) (by decide)]; rfl) mob_2 (by decide) rfl) (mapO_cons (fdq (x := 10) (q := 2) (v := ((S c 2 : Nat) : Int)) (by decide) (by rw [SL_get c (by decide) (by decide)]; rfl) mob_5 (by decide) rfl) (mapO_cons (fdq (x := 10) (q := 1) (v := ((S c 1 : Nat) : Int)) (by decide) (by rw [SL_get c (by decide) (by decide)]; rfl) mob_10 (by decide) rfl) (lcP_nil _))))
  · simp only [List.sum_cons, List.sum_nil, S_10, S_5, S_2, S_1]
    omega
theorem prim_11 (c : Nat → Nat) : m_primitive_part (SL c 12) ((11 : Nat) : Int) = some ((Nk c 11 : Nat) : Int) := by
  refine prim_gen (ds := [1, 11]) (qs := [(1) * ((S c 11 : Nat) : Int), (-1) * ((S c 1 : Nat) : Int)]) (z := 0) (ms := []) (by decide) (by decide) (by decide) ?_ ?_
  · rw [lcP, if_pos (by decide)]
    exact mapO_cons (fdq (x := 11) (q := 11) (v := ((S c 11 : Nat) : Int)) (by decide) (by rw [SL_get c (by decide) (by decide)]; rfl) mob_1 (by decide) rfl) (mapO_cons (fdq (x := 11) (q := 1) (v := ((S c 1 : Nat) : Int)) (by decide) (by rw [SL_get c (by decide) (by decide)]; rfl) mob_11 (by decide) rfl) (lcP_nil _))
  · simp only [List.sum_cons, List.sum_nil, S_11, S_1]
    omega
theorem prim_12 (c : Nat → Nat) : m_primitive_part (SL c 13) ((12 : Nat) : Int) = some ((Nk c 12 : Nat) : Int) := by
  refine prim_gen (ds := [1, 2, 3, 4, 6, 12]) (qs := [(1) * ((S c 12 : Nat) : Int), (-1) * ((S c 6 : Nat) : Int), (-1) * ((S c 4 : Nat) : Int), (0) * ((S c 3 : Nat) : Int), (1) * ((S c 2 : Nat) : Int), (0) * ((S c 1 : Nat) : Int)]) (z := 0) (ms := []) (by decide) (by decide) (by decide) ?_ ?_
  · rw [lcP, if_pos (by decide)]
    exact mapO_cons (fdq (x := 12) (q := 12) (v := ((S c 12 : Nat) : Int)) (by decide) (by rw [SL_get c (by decide) (by decide)]; rfl) mob_1 (by decide) rfl) (mapO_cons (fdq (x := 12) (q := 6) (v := ((S c 6 : Nat) : Int)) (by decide) (by rw [SL_get c (by decide) (by decide)]; rfl) mob_2 (by decide) rfl) (mapO_cons (fdq (x := 12) (q := 4) (v := ((S c 4 : Nat) : Int)) (by decide) (by rw [SL_get c (by decide) (by decide)]; rfl) mob_3 (by decide) rfl) (mapO_cons (fdq (x := 12) (q := 3) (v := ((S c 3 : Nat) : Int)) (by decide) (by rw [SL_get c (by decide) (by decide)]; rfl) mob_4 (by decide) rfl) (mapO_cons (fdq (x := 12) (q := 2) (v := ((S c 2 : Nat) : Int)) (by decide) (by rw [SL_get c (by decide) (by decide)]; rfl) mob_6 (by decide) rfl) (mapO_cons (fdq (x := 12) (q := 1) (v := ((S c 1 : Nat) : Int)) (by decide) (by rw [SL_get c (by decide) (by decide)]; rfl) mob_12 (by decide) rfl) (lcP_nil _))))))
  · simp only [List.sum_cons, List.sum_nil, S_12, S_6, S_4, S_3, S_2, S_1]
    omega
theorem prim_ok (c : Nat → Nat) {n : Nat} (h0 : 1 ≤ n) (h1 : n ≤ 12) : m_primitive_part (SL c (n + 1)) n = some ((Nk c n : Nat) : Int) := by
  rcases (by omega : n = 1 ∨ n = 2 ∨ n = 3 ∨ n = 4 ∨ n = 5 ∨ n = 6 ∨ n = 7 ∨ n = 8 ∨ n = 9 ∨ n = 10 ∨ n = 11 ∨ n = 12) with rfl | rfl | rfl | rfl | rfl | rfl | rfl | rfl | rfl | rfl | rfl | rfl
  · exact prim_1 c
  · exact prim_2 c
  · exact prim_3 c
  · exact prim_4 c
  · exact prim_5 c
  · exact prim_6 c
  · exact prim_7 c
  · exact prim_8 c
  · exact prim_9 c
  · exact prim_10 c
  · exact prim_11 c
  · exact prim_12 c
end L
end

section
set_option linter.all false
set_option Elab.async false
set_option maxRecDepth 100000
namespace L
open D M LP
theorem is_number_ok {x a b : Int} (h0 : a ≤ x) (h1 : x ≤ b) : m_is_number x a b = some true := by
  unfold m_is_number
  simp; omega
theorem check_counts_ok {counts : List Int} (h : Cnt counts) (h8 : counts.length ≤ 8) : m_check_counts counts = some () := by
  unfold m_check_counts
  rw [if_neg (by simp; omega), lcP_some (fun _ => true) (by omega) (fun x hx => is_number_ok (h.lo x hx).1 (h.lo x hx).2)]
  simp only [Option.bind_some]
  have : (counts.map fun _ => true).all id = true := by simp
  rw [this]
  rfl
theorem check_size_ok {n : Int} (h0 : 1 ≤ n) (h1 : n ≤ 3) : m_check_size n = some () := by
  unfold m_check_size
  rw [is_number_ok h0 h1]
  rfl
/-- the turns of one to eight lengths -/
structure T8 where
  (a b c d e f g h : Nat)
def turns8 (c1 c2 c3 c4 c5 c6 c7 c8 : Nat) : T8 :=
  let s1 := c1
  let s2 := 2 * c2 + c1 * s1
  let s3 := 3 * c3 + (c1 * s2 + c2 * s1)
  let s4 := 4 * c4 + (c1 * s3 + (c2 * s2 + c3 * s1))
  let s5 := 5 * c5 + (c1 * s4 + (c2 * s3 + (c3 * s2 + c4 * s1)))
  let s6 := 6 * c6 + (c1 * s5 + (c2 * s4 + (c3 * s3 + (c4 * s2 + c5 * s1))))
  let s7 := 7 * c7 + (c1 * s6 + (c2 * s5 + (c3 * s4 + (c4 * s3 + (c5 * s2 + c6 * s1)))))
  let s8 := 8 * c8 + (c1 * s7 + (c2 * s6 + (c3 * s5 + (c4 * s4 + (c5 * s3 + (c6 * s2 + c7 * s1))))))
  ⟨s1, s2, s3, s4, s5, s6, s7, s8⟩
/-- the word necklaces of one to eight lengths -/
def wn (t : T8) : List Nat :=
  let n1 := t.a
  let n2 := (t.b - n1) / 2
  let n3 := (t.c - n1) / 3
  let n4 := (t.d - n1 - 2 * n2) / 4
  let n5 := (t.e - n1) / 5
  let n6 := (t.f - n1 - 2 * n2 - 3 * n3) / 6
  let n7 := (t.g - n1) / 7
  let n8 := (t.h - n1 - 2 * n2 - 4 * n4) / 8
  [n1, n2, n3, n4, n5, n6, n7, n8]
def W (c : Nat → Nat) : List Nat := wn (turns8 (c 1) (c 2) (c 3) (c 4) (c 5) (c 6) (c 7) (c 8))
theorem turns8_of {c1 c2 c3 c4 c5 c6 c7 c8 s1 s2 s3 s4 s5 s6 s7 s8 : Nat} (e1 : s1 = c1) (e2 : s2 = 2 * c2 + c1 * s1) (e3 : s3 = 3 * c3 + (c1 * s2 + c2 * s1)) (e4 : s4 = 4 * c4 + (c1 * s3 + (c2 * s2 + c3 * s1)))
    (e5 : s5 = 5 * c5 + (c1 * s4 + (c2 * s3 + (c3 * s2 + c4 * s1)))) (e6 : s6 = 6 * c6 + (c1 * s5 + (c2 * s4 + (c3 * s3 + (c4 * s2 + c5 * s1))))) (e7 : s7 = 7 * c7 + (c1 * s6 + (c2 * s5 + (c3 * s4 + (c4 * s3 + (c5 * s2 + c6 * s1))))))
    (e8 : s8 = 8 * c8 + (c1 * s7 + (c2 * s6 + (c3 * s5 + (c4 * s4 + (c5 * s3 + (c6 * s2 + c7 * s1))))))) : turns8 c1 c2 c3 c4 c5 c6 c7 c8 = ⟨s1, s2, s3, s4, s5, s6, s7, s8⟩ := by
  subst e1 e2 e3 e4 e5 e6 e7 e8
  rfl
theorem turns8_S (c : Nat → Nat) : turns8 (c 1) (c 2) (c 3) (c 4) (c 5) (c 6) (c 7) (c 8) = ⟨S c 1, S c 2, S c 3, S c 4, S c 5, S c 6, S c 7, S c 8⟩ := by
  have h : ∀ n, 0 < n → S c n = n * c n + sm (n - 1) fun i => c (i + 1) * S c (n - (i + 1)) := fun n hn => S_step c hn
  have e1 : S c 1 = c 1 := by rw [h 1 (by decide)]; simp [sm]
  have e2 : S c 2 = 2 * c 2 + c 1 * S c 1 := by rw [h 2 (by decide)]; simp [sm]
  have e3 : S c 3 = 3 * c 3 + (c 1 * S c 2 + c 2 * S c 1) := by rw [h 3 (by decide)]; simp [sm]
  have e4 : S c 4 = 4 * c 4 + (c 1 * S c 3 + (c 2 * S c 2 + c 3 * S c 1)) := by rw [h 4 (by decide)]; simp [sm, Nat.add_assoc]
  have e5 : S c 5 = 5 * c 5 + (c 1 * S c 4 + (c 2 * S c 3 + (c 3 * S c 2 + c 4 * S c 1))) := by rw [h 5 (by decide)]; simp [sm, Nat.add_assoc]
  have e6 : S c 6 = 6 * c 6 + (c 1 * S c 5 + (c 2 * S c 4 + (c 3 * S c 3 + (c 4 * S c 2 + c 5 * S c 1)))) := by rw [h 6 (by decide)]; simp [sm, Nat.add_assoc]
  have e7 : S c 7 = 7 * c 7 + (c 1 * S c 6 + (c 2 * S c 5 + (c 3 * S c 4 + (c 4 * S c 3 + (c 5 * S c 2 + c 6 * S c 1))))) := by rw [h 7 (by decide)]; simp [sm, Nat.add_assoc]
  have e8 : S c 8 = 8 * c 8 + (c 1 * S c 7 + (c 2 * S c 6 + (c 3 * S c 5 + (c 4 * S c 4 + (c 5 * S c 3 + (c 6 * S c 2 + c 7 * S c 1)))))) := by rw [h 8 (by decide)]; simp [sm, Nat.add_assoc]
  exact turns8_of e1 e2 e3 e4 e5 e6 e7 e8
theorem W_ok (c : Nat → Nat) : W c = [Nk c 1, Nk c 2, Nk c 3, Nk c 4, Nk c 5, Nk c 6, Nk c 7, Nk c 8] := by
  unfold W
  rw [turns8_S]
  unfold wn
  simp only
  have a1 := S_1 c; have a2 := S_2 c; have a3 := S_3 c; have a4 := S_4 c; have a5 := S_5 c; have a6 := S_6 c; have a7 := S_7 c; have a8 := S_8 c
  have e1 : S c 1 = Nk c 1 := by omega
  have e2 : (S c 2 - S c 1) / 2 = Nk c 2 := by omega
  have e3 : (S c 3 - S c 1) / 3 = Nk c 3 := by omega
  have e4 : (S c 4 - S c 1 - 2 * Nk c 2) / 4 = Nk c 4 := by omega
  have e5 : (S c 5 - S c 1) / 5 = Nk c 5 := by omega
  have e6 : (S c 6 - S c 1 - 2 * Nk c 2 - 3 * Nk c 3) / 6 = Nk c 6 := by omega
  have e7 : (S c 7 - S c 1) / 7 = Nk c 7 := by omega
  rw [e2, e3, e4, e5, e6, e7, e1]
  have e8 : (S c 8 - Nk c 1 - 2 * Nk c 2 - 4 * Nk c 4) / 8 = Nk c 8 := by omega
  rw [e8]
theorem W_get (c : Nat → Nat) {n : Nat} (h0 : 1 ≤ n) (h1 : n ≤ 8) : (W c)[n - 1]? = some (Nk c n) := by
  rw [W_ok]
  rcases n with _ | _ | _ | _ | _ | _ | _ | _ | _ | n
  · omega
  all_goals first | rfl | omega
/-- the necklaces of one to eight lengths -/
def Ns : Nat → List Nat
  | 1 => [1, 0, 0, 0, 0, 0, 0, 0]
  | 2 => [2, 1, 2, 3, 6, 9, 18, 30]
  | 3 => [3, 3, 8, 18, 48, 116, 312, 810]
  | _ => []
theorem Ns_eval : (List.flatMap (fun s : Nat => (List.range 8).map fun n => m_necklaces_of s ((n : Nat) + 1)) [1, 2, 3]) = (List.flatMap (fun s => (Ns s).map fun k => some ((k : Nat) : Int)) [1, 2, 3]) := by kernel_rfl
theorem Ns_ok {s n : Nat} (h0 : 1 ≤ s) (h1 : s ≤ 3) (h2 : 1 ≤ n) (h3 : n ≤ 8) : ∃ k : Nat, m_necklaces_of (s : Int) (n : Int) = some (k : Int) ∧ (Ns s)[n - 1]? = some k := by
  have e : ∀ i : Nat, (List.flatMap (fun s : Nat => (List.range 8).map fun n => m_necklaces_of s ((n : Nat) + 1)) [1, 2, 3])[i]? = (List.flatMap (fun s => (Ns s).map fun k => some ((k : Nat) : Int)) [1, 2, 3])[i]? := fun i => by rw [Ns_eval]
  have q := e (8 * (s - 1) + (n - 1))
  have : s = 1 ∨ s = 2 ∨ s = 3 := by omega
  obtain ⟨m, rfl⟩ : ∃ m, n = m + 1 := ⟨n - 1, by omega⟩
  have hm : m = 0 ∨ m = 1 ∨ m = 2 ∨ m = 3 ∨ m = 4 ∨ m = 5 ∨ m = 6 ∨ m = 7 := by omega
  rcases this with rfl | rfl | rfl <;> rcases hm with rfl | rfl | rfl | rfl | rfl | rfl | rfl | rfl <;> exact ⟨_, Option.some.inj q, rfl⟩
/-- the first length that fails -/
def ffG : Nat → List Nat → List Nat → Option Nat
  | _, [], _ => none
  | _, _ :: _, [] => none
  | i, a :: as, b :: bs => if a < b then some i else ffG (i + 1) as bs
def ff (s : Nat) (c : Nat → Nat) (k : Nat) : Option Nat := ffG 1 ((Ns s).take k) ((W c).take k)
theorem word_of_ok {counts : List Int} (h : Cnt counts) {n : Nat} (h0 : 1 ≤ n) (h1 : n ≤ 12) : m_word_necklaces_of counts n = some ((Nk (cf counts) n : Nat) : Int) := by
  unfold m_word_necklaces_of
  rw [turns_of_ok h (by omega)]
  simp only [Option.bind_some]
  exact prim_ok _ h0 h1
theorem Ns_len {s : Nat} (h0 : 1 ≤ s) (h1 : s ≤ 3) : (Ns s).length = 8 := by
  have : s = 1 ∨ s = 2 ∨ s = 3 := by omega
  rcases this with rfl | rfl | rfl <;> rfl
/-- the loop over the lengths -/
theorem ff_loop {c : Nat → Nat} {k s : Nat} (h8 : k ≤ 8) (h0 : 1 ≤ s) (h1 : s ≤ 3) {A B : Int → Option Int} (hA : ∀ i : Nat, 1 ≤ i → i ≤ k → A i = some ((Nk c i : Nat) : Int))
    (hB : ∀ i : Nat, 1 ≤ i → i ≤ k → ∃ m : Nat, B i = some (m : Int) ∧ (Ns s)[i - 1]? = some m) :
    ((rng2 1 ((k : Int) + 1)).bind fun v_l => thenR (loopO (ρ := (Option Int)) (fun (v_x : Int) (v_s : Unit) =>
      ((A v_x).bind fun v_x2 => (B v_x).bind fun v_x3 => some (decide (v_x3 < v_x2))).bind fun v_b => if v_b = true then
        some (.rt (some (v_x)))
      else
      some (.nx ())) v_l ()) (fun (v_s : Unit) =>
      some (none)) (fun r => some (r))) = some ((ff s c k).map fun n : Nat => (n : Int)) := by
  rw [rng2_some (by omega) (by omega) (by omega) (by omega)]
  simp only [Option.bind_some]
  have key : ∀ (m i : Nat), 1 ≤ i → i + m = k + 1 → loopO (ρ := (Option Int)) (fun (v_x : Int) (v_s : Unit) =>
      ((A v_x).bind fun v_x2 => (B v_x).bind fun v_x3 => some (decide (v_x3 < v_x2))).bind fun v_b => if v_b = true then
        some (.rt (some (v_x)))
      else
      some (.nx ())) (rng (i : Int) ((k : Int) + 1)) () = some (match ffG i (((Ns s).take k).drop (i - 1)) (((W c).take k).drop (i - 1)) with | some n => Sum.inr (some (n : Int)) | none => Sum.inl ()) := by
    intro m
    induction m with
    | zero =>
      intro i hi hm
      rw [rng_nil (by omega), List.drop_of_length_le (by rw [List.length_take]; omega)]
      rfl
    | succ m ih =>
      intro i hi hm
      have hW : (W c).length = 8 := by rw [W_ok]; rfl
      have hN := Ns_len h0 h1
      obtain ⟨q, e1, e2⟩ := hB i hi (by omega)
      have e3 := W_get c hi (show i ≤ 8 by omega)
      have d1 : ((Ns s).take k).drop (i - 1) = q :: ((Ns s).take k).drop i := by
        rw [List.drop_eq_getElem_cons (by rw [List.length_take]; omega)]
        congr 1
        · rw [List.getElem_take]
          exact Option.some.inj (by rw [← e2, List.getElem?_eq_getElem])
        · rw [Nat.sub_add_cancel hi]
      have d2 : ((W c).take k).drop (i - 1) = Nk c i :: ((W c).take k).drop i := by
        rw [List.drop_eq_getElem_cons (by rw [List.length_take]; omega)]
        congr 1
        · rw [List.getElem_take]
          exact Option.some.inj (by rw [← e3, List.getElem?_eq_getElem])
        · rw [Nat.sub_add_cancel hi]
      rw [rng_cons (by omega), loopO, hA i hi (by omega), e1]
      simp only [Option.bind_some]
      rw [d1, d2, ffG]
      by_cases hk : q < Nk c i
      · rw [if_pos hk, if_pos (by simp; omega)]
        rfl
      · rw [if_neg hk, if_neg (by simp; omega)]
        have := ih (i + 1) (by omega) (by omega)
        rw [Nat.add_sub_cancel] at this
        simpa using this
  have k1 := key k 1 (by omega) (by omega)
  rw [show ((1 : Nat) : Int) = 1 from rfl, Nat.sub_self, List.drop_zero, List.drop_zero] at k1
  rw [k1]
  show _ = some ((ffG 1 _ _).map _)
  cases ffG 1 ((Ns s).take k) ((W c).take k) <;> rfl
theorem failing_ok {counts : List Int} (h : Cnt counts) (h8 : counts.length ≤ 8) {s : Nat} (h0 : 1 ≤ s) (h1 : s ≤ 3) : m_failing (s : Int) counts = some ((ff s (cf counts) counts.length).map fun n : Nat => (n : Int)) := by
  unfold m_failing
  exact ff_loop h8 h0 h1 (A := fun x => m_word_necklaces_of counts x) (B := fun x => m_necklaces_of (s : Int) x) (fun i hi hk => word_of_ok h hi (by omega)) fun i hi hk => Ns_ok h0 h1 hi (by omega)
theorem first_failing_ok {counts : List Int} (h : Cnt counts) (h8 : counts.length ≤ 8) {s : Nat} (h0 : 1 ≤ s) (h1 : s ≤ 3) : m_first_failing (s : Int) counts = some ((ff s (cf counts) counts.length).map fun n : Nat => (n : Int)) := by
  unfold m_first_failing m_check_both
  rw [check_size_ok (by omega) (by omega), check_counts_ok h h8]
  simp only [Option.bind_some]
  exact failing_ok h h8 h0 h1
/-- counts as numbers -/
def cfl (cs : List Nat) (i : Nat) : Nat := if i = 0 then 0 else (cs[i - 1]?).getD 0
theorem cfl_of (cs : List Nat) : cf (cs.map fun n : Nat => (n : Int)) = cfl cs := by
  funext i
  unfold cf cfl
  rw [List.getElem?_map]
  cases cs[i - 1]? <;> rfl
theorem nats_of {cs : List Int} (h : ∀ x ∈ cs, 0 ≤ x) : ∃ ds : List Nat, cs = ds.map fun n : Nat => (n : Int) := by
  refine ⟨cs.map Int.toNat, ?_⟩
  rw [List.map_map]
  conv => lhs; rw [← List.map_id cs]
  exact List.map_congr_left fun x hx => by have := h x hx; simp; omega
theorem cnt_of {ds : List Nat} (h : ∀ x ∈ ds, x ≤ 1000) (hl : ds.length ≤ 100) : Cnt (ds.map fun n : Nat => (n : Int)) :=
  ⟨fun x hx => by obtain ⟨y, hy, rfl⟩ := List.mem_map.mp hx; have := h y hy; omega, by rw [List.length_map]; exact hl⟩
/-- .. of numbers -/
theorem ff_nat {ds : List Nat} (h : ∀ x ∈ ds, x ≤ 1000) (hl : ds.length ≤ 8) {s : Nat} (h0 : 1 ≤ s) (h1 : s ≤ 3) : m_first_failing (s : Int) (ds.map fun n : Nat => (n : Int)) = some ((ff s (cfl ds) ds.length).map fun n : Nat => (n : Int)) := by
  rw [first_failing_ok (cnt_of h (by omega)) (by rw [List.length_map]; exact hl) h0 h1, cfl_of, List.length_map]
/-- all lists of at most n numbers below m -/
def allL (m : Nat) : Nat → List (List Nat)
  | 0 => [[]]
  | n + 1 => [] :: (List.range m).flatMap fun x => (allL m n).map fun l => x :: l
theorem mem_allL {m : Nat} : ∀ {n : Nat} {l : List Nat}, l.length ≤ n → (∀ x ∈ l, x < m) → l ∈ allL m n
  | 0, [], _, _ => by simp [allL]
  | 0, _ :: _, h, _ => by simp at h
  | n + 1, [], _, _ => by simp [allL]
  | n + 1, x :: l, h, hx => by
    rw [allL]
    refine List.mem_cons_of_mem _ (List.mem_flatMap.mpr ⟨x, List.mem_range.mpr (hx x List.mem_cons_self), List.mem_map.mpr ⟨l, mem_allL (by simp at h; omega) fun y hy => hx y (List.mem_cons_of_mem _ hy), rfl⟩⟩)
end L
end

section
set_option linter.all false
set_option Elab.async false
set_option maxRecDepth 100000
namespace L
open D M LP
/-- m more words of length n -/
def withN (ds : List Nat) (n m : Nat) : List Nat :=
  let row := ds ++ List.replicate (n - ds.length) 0
  row.take (n - 1) ++ ((row[n - 1]?).getD 0 + m) :: row.drop n
def ffx (s : Nat) (ds : List Nat) : Option Nat := ff s (cfl ds) ds.length
/-- the search by halves -/
def bsr (p : Nat → Bool) : Nat → Nat → Nat → Nat
  | 0, lo, _ => lo
  | f + 1, lo, hi => if 1 < hi - lo then (if p ((lo + hi) / 2) then bsr p f ((lo + hi) / 2) hi else bsr p f lo ((lo + hi) / 2)) else lo
def pN (s : Nat) (ds : List Nat) (n m : Nat) : Bool := (ffx s (withN ds n m)).isNone
def moreN (s : Nat) (ds : List Nat) (n : Nat) : Nat := bsr (pN s ds n) 10 0 (((Ns s)[n - 1]?).getD 0 + 1)
def extN (s : Nat) : Nat → List Nat → List Nat
  | 0, ds => ds
  | e + 1, ds => extN s e (ds ++ [moreN s ds (ds.length + 1)])
def chkE (s : Nat) (ds : List Nat) (e : Nat) : Bool :=
  let row := extN s e ds
  row.length == ds.length + e && row.take ds.length == ds && (row.all fun x => decide (x ≤ 1000)) &&
  (List.range e).all fun j => let at_ := ds.length + j; (ffx s (row.take at_)).isNone && row[at_]? == some (moreN s (row.take at_) (at_ + 1)) && (W (cfl row))[at_]? == (Ns s)[at_]?
def chk (s : Nat) (ds : List Nat) : Bool :=
  (ffx s ds).isSome ||
  (((List.range 8).all fun j => pN s ds (j + 1) (moreN s ds (j + 1)) && !pN s ds (j + 1) (moreN s ds (j + 1) + 1) && decide (moreN s ds (j + 1) ≤ 900)) && (List.range 4).all fun e => chkE s ds e)
theorem chk_1_0 : (((allL 3 4).drop 0).take 10).all (chk 1) = true := by kernel_rfl
theorem chk_1_1 : (((allL 3 4).drop 10).take 10).all (chk 1) = true := by kernel_rfl
theorem chk_1_2 : (((allL 3 4).drop 20).take 10).all (chk 1) = true := by kernel_rfl
theorem chk_1_3 : (((allL 3 4).drop 30).take 10).all (chk 1) = true := by kernel_rfl
theorem chk_1_4 : (((allL 3 4).drop 40).take 10).all (chk 1) = true := by kernel_rfl
theorem chk_1_5 : (((allL 3 4).drop 50).take 10).all (chk 1) = true := by kernel_rfl
theorem chk_1_6 : (((allL 3 4).drop 60).take 10).all (chk 1) = true := by kernel_rfl
theorem chk_1_7 : (((allL 3 4).drop 70).take 10).all (chk 1) = true := by kernel_rfl
theorem chk_1_8 : (((allL 3 4).drop 80).take 10).all (chk 1) = true := by kernel_rfl
theorem chk_1_9 : (((allL 3 4).drop 90).take 10).all (chk 1) = true := by kernel_rfl
theorem chk_1_10 : (((allL 3 4).drop 100).take 10).all (chk 1) = true := by kernel_rfl
theorem chk_1_11 : (((allL 3 4).drop 110).take 10).all (chk 1) = true := by kernel_rfl
theorem chk_1_12 : (((allL 3 4).drop 120).take 10).all (chk 1) = true := by kernel_rfl
theorem chk_2_0 : (((allL 3 4).drop 0).take 10).all (chk 2) = true := by kernel_rfl
theorem chk_2_1 : (((allL 3 4).drop 10).take 10).all (chk 2) = true := by kernel_rfl
theorem chk_2_2 : (((allL 3 4).drop 20).take 10).all (chk 2) = true := by kernel_rfl
theorem chk_2_3 : (((allL 3 4).drop 30).take 10).all (chk 2) = true := by kernel_rfl
theorem chk_2_4 : (((allL 3 4).drop 40).take 10).all (chk 2) = true := by kernel_rfl
theorem chk_2_5 : (((allL 3 4).drop 50).take 10).all (chk 2) = true := by kernel_rfl
theorem chk_2_6 : (((allL 3 4).drop 60).take 10).all (chk 2) = true := by kernel_rfl
theorem chk_2_7 : (((allL 3 4).drop 70).take 10).all (chk 2) = true := by kernel_rfl
theorem chk_2_8 : (((allL 3 4).drop 80).take 10).all (chk 2) = true := by kernel_rfl
theorem chk_2_9 : (((allL 3 4).drop 90).take 10).all (chk 2) = true := by kernel_rfl
theorem chk_2_10 : (((allL 3 4).drop 100).take 10).all (chk 2) = true := by kernel_rfl
theorem chk_2_11 : (((allL 3 4).drop 110).take 10).all (chk 2) = true := by kernel_rfl
theorem chk_2_12 : (((allL 3 4).drop 120).take 10).all (chk 2) = true := by kernel_rfl
theorem chk_3_0 : (((allL 3 4).drop 0).take 10).all (chk 3) = true := by kernel_rfl
theorem chk_3_1 : (((allL 3 4).drop 10).take 10).all (chk 3) = true := by kernel_rfl
theorem chk_3_2 : (((allL 3 4).drop 20).take 10).all (chk 3) = true := by kernel_rfl
theorem chk_3_3 : (((allL 3 4).drop 30).take 10).all (chk 3) = true := by kernel_rfl
theorem chk_3_4 : (((allL 3 4).drop 40).take 10).all (chk 3) = true := by kernel_rfl
theorem chk_3_5 : (((allL 3 4).drop 50).take 10).all (chk 3) = true := by kernel_rfl
theorem chk_3_6 : (((allL 3 4).drop 60).take 10).all (chk 3) = true := by kernel_rfl
theorem chk_3_7 : (((allL 3 4).drop 70).take 10).all (chk 3) = true := by kernel_rfl
theorem chk_3_8 : (((allL 3 4).drop 80).take 10).all (chk 3) = true := by kernel_rfl
theorem chk_3_9 : (((allL 3 4).drop 90).take 10).all (chk 3) = true := by kernel_rfl
theorem chk_3_10 : (((allL 3 4).drop 100).take 10).all (chk 3) = true := by kernel_rfl
theorem chk_3_11 : (((allL 3 4).drop 110).take 10).all (chk 3) = true := by kernel_rfl
theorem chk_3_12 : (((allL 3 4).drop 120).take 10).all (chk 3) = true := by kernel_rfl
theorem all_chunks {α : Type} (p : α → Bool) (l : List α) (hl : l.length ≤ 130) (h : ∀ i, i < 13 → ((l.drop (10 * i)).take 10).all p = true) : l.all p = true := by
  rw [List.all_eq_true]
  intro x hx
  obtain ⟨j, hj⟩ := List.mem_iff_getElem?.mp hx
  have hj' : j < l.length := (List.getElem?_eq_some_iff.mp hj).1
  refine List.all_eq_true.mp (h (j / 10) (by omega)) x (List.mem_of_getElem? (i := j % 10) ?_)
  rw [List.getElem?_take, if_pos (by omega), List.getElem?_drop, show 10 * (j / 10) + j % 10 = j from by omega]
  exact hj
theorem allL_len : (allL 3 4).length ≤ 130 := of_decide_eq_true (by kernel_rfl)
theorem lt13 {p : Nat → Prop} (h0 : p 0) (h1 : p 1) (h2 : p 2) (h3 : p 3) (h4 : p 4) (h5 : p 5) (h6 : p 6) (h7 : p 7) (h8 : p 8) (h9 : p 9) (h10 : p 10) (h11 : p 11) (h12 : p 12) : ∀ i, i < 13 → p i := by
  intro i hi
  rcases i with _ | _ | _ | _ | _ | _ | _ | _ | _ | _ | _ | _ | _ | i
  all_goals first | assumption | omega
theorem chk_1 : (allL 3 4).all (chk 1) = true := all_chunks _ _ allL_len (lt13 chk_1_0 chk_1_1 chk_1_2 chk_1_3 chk_1_4 chk_1_5 chk_1_6 chk_1_7 chk_1_8 chk_1_9 chk_1_10 chk_1_11 chk_1_12)
theorem chk_2 : (allL 3 4).all (chk 2) = true := all_chunks _ _ allL_len (lt13 chk_2_0 chk_2_1 chk_2_2 chk_2_3 chk_2_4 chk_2_5 chk_2_6 chk_2_7 chk_2_8 chk_2_9 chk_2_10 chk_2_11 chk_2_12)
theorem chk_3 : (allL 3 4).all (chk 3) = true := all_chunks _ _ allL_len (lt13 chk_3_0 chk_3_1 chk_3_2 chk_3_3 chk_3_4 chk_3_5 chk_3_6 chk_3_7 chk_3_8 chk_3_9 chk_3_10 chk_3_11 chk_3_12)
theorem chk_all : ([1, 2, 3].all fun s => (allL 3 4).all fun ds => chk s ds) = true := by
  have h1 := chk_1; have h2 := chk_2; have h3 := chk_3
  rw [List.all_cons, List.all_cons, List.all_cons, List.all_nil, Bool.and_true, Bool.and_eq_true, Bool.and_eq_true]
  exact ⟨h1, h2, h3⟩
end L
end

section
set_option linter.all false
set_option Elab.async false
set_option maxRecDepth 100000
namespace L
open D M LP
abbrev I (ds : List Nat) : List Int := ds.map fun n : Nat => (n : Int)
theorem I_len (ds : List Nat) : (I ds).length = ds.length := List.length_map ..
theorem failing_nat {ds : List Nat} (h : ∀ x ∈ ds, x ≤ 1000) (hl : ds.length ≤ 8) {s : Nat} (h0 : 1 ≤ s) (h1 : s ≤ 3) : m_failing (s : Int) (I ds) = some ((ffx s ds).map fun n : Nat => (n : Int)) := by
  rw [failing_ok (cnt_of h (by omega)) (by rw [I_len]; exact hl) h0 h1, cfl_of, I_len]
  rfl
theorem withN_len {ds : List Nat} {n m : Nat} (h0 : 1 ≤ n) : (withN ds n m).length = max ds.length n := by
  unfold withN
  simp only [List.length_append, List.length_take, List.length_cons, List.length_drop, List.length_replicate]
  omega
/-- the counts are small, those that may be raised smaller -/
def Ok (ds : List Nat) (n : Nat) : Prop := (∀ x ∈ ds, x ≤ 1000) ∧ (n ≤ ds.length → ∀ x ∈ ds, x ≤ 90)
theorem withN_le {ds : List Nat} {n m : Nat} (h0 : 1 ≤ n) (k : Ok ds n) (hm : m ≤ 901) : ∀ x ∈ withN ds n m, x ≤ 1000 := by
  intro x hx
  have hrow : ∀ y ∈ ds ++ List.replicate (n - ds.length) 0, y ≤ 1000 := fun y hy => by
    rcases List.mem_append.mp hy with h | h
    · exact k.1 y h
    · rw [(List.mem_replicate.mp h).2]; omega
  unfold withN at hx
  simp only at hx
  rcases List.mem_append.mp hx with h | h
  · exact hrow x (List.mem_of_mem_take h)
  · rcases List.mem_cons.mp h with h | h
    · have : (((ds ++ List.replicate (n - ds.length) 0)[n - 1]?).getD 0) ≤ 90 := by
        rcases Nat.lt_or_ge (n - 1) ds.length with q | q
        · rw [List.getElem?_append_left q, List.getElem?_eq_getElem q]
          exact k.2 (by omega) _ (List.getElem_mem q)
        · rw [List.getElem?_append_right q, List.getElem?_replicate]
          split <;> simp
      omega
    · exact hrow x (List.mem_of_mem_drop h)
theorem row_get (ds : List Nat) {n : Nat} (h0 : 1 ≤ n) : n - 1 < (ds ++ List.replicate (n - ds.length) 0).length := by
  rw [List.length_append, List.length_replicate]; omega
theorem cut_takeI (l : List Int) (i : Nat) : cut l none (some (i : Int)) = l.take i := by
  unfold cut sIx
  simp only [List.drop_zero, Nat.sub_zero]
  rw [if_neg (by omega), Int.toNat_natCast, ← List.take_eq_take_min]
theorem cut_dropI (l : List Int) (i : Nat) : cut l (some (i : Int)) none = l.drop i := by
  unfold cut sIx
  simp only
  rw [if_neg (by omega), Int.toNat_natCast]
  rcases Nat.lt_or_ge i l.length with h | h
  · rw [Nat.min_eq_left (by omega), List.take_of_length_le (by rw [List.length_drop]; omega)]
  · rw [Nat.min_eq_right h, Nat.sub_self, List.take_zero, List.drop_of_length_le h]
theorem repT_sub {n k : Nat} (h : n ≤ 1000) (hk : k ≤ 1000) : repT ([0] : List Int) ((n : Int) - k) = some (List.replicate (n - k) 0) := by
  unfold repT
  rw [if_pos (by simp; omega), flat_zero]
  congr 2
  omega
theorem repM_sub {n k : Nat} (h : n ≤ 1000) (hk : k ≤ 1000) : repM ([0] : List Int) ((n : Int) - k) = some (List.replicate (n - k) 0) := by
  unfold repM
  rw [if_pos ⟨by omega, by show 1 * _ ≤ 16777216; omega⟩, flat_zero]
  congr 2
  omega
theorem I_app (a b : List Nat) : I (a ++ b) = I a ++ I b := List.map_append
theorem I_cons (a : Nat) (b : List Nat) : I (a :: b) = (a : Int) :: I b := rfl
theorem I_get {ds : List Nat} {i : Nat} (h : i < ds.length) : (I ds)[i]'(by rw [I_len]; exact h) = ((ds[i] : Nat) : Int) := List.getElem_map _
theorem I_put {row : List Nat} {n m : Nat} {x : Int} (h : n - 1 < row.length) (hx : x = ((row[n - 1] : Nat) : Int)) : (I row).take (n - 1) ++ (x + m) :: (I row).drop n = I (row.take (n - 1) ++ ((some row[n - 1]).getD 0 + m) :: row.drop n) := by
  subst hx
  rw [I_app, I_cons, Option.getD_some, Int.natCast_add]
  simp only [I, List.map_take, List.map_drop]
theorem I_row (ds : List Nat) (j : Nat) : I ds ++ List.replicate j 0 = I (ds ++ List.replicate j 0) := by simp [I]
theorem with_more_ok {ds : List Nat} {n m : Nat} (h0 : 1 ≤ n) (hn : n ≤ 100) (hl : ds.length ≤ 100) : m_with_more (I ds) n m = some (I (withN ds n m)) := by
  unfold m_with_more
  rw [I_len, repT_sub (by omega) (by omega)]
  simp only [Option.bind_some]
  rw [catM_some (by rw [List.length_replicate, I_len]; omega), I_row]
  simp only [Option.bind_some]
  have hr := row_get ds h0
  rw [show ((n : Nat) : Int) - 1 = ((n - 1 : Nat) : Int) from by omega, atI_get (by omega) (by rw [I_len]; omega), cut_takeI, cut_dropI]
  simp only [Option.bind_some]
  rw [catM_some (by simp only [List.length_take, I_len, List.length_cons, List.length_nil, List.length_append, List.length_replicate]; omega)]
  simp only [Option.bind_some]
  rw [catM_some (by simp only [List.length_take, List.length_drop, I_len, List.length_cons, List.length_nil, List.length_append, List.length_replicate]; omega)]
  congr 1
  unfold withN
  simp only
  rw [List.getElem?_eq_getElem hr]
  rw [List.append_assoc, List.singleton_append]
  exact I_put hr (by simp only [Int.toNat_natCast]; exact I_get hr)
theorem l_more_ok {ds : List Nat} {n m : Nat} (h0 : 1 ≤ n) (hn : n ≤ 100) (hl : ds.length ≤ 100) : m_l_more (I ds) n m = some (I (withN ds n m)) := by
  unfold m_l_more
  rw [I_len, repM_sub (by omega) (by omega)]
  simp only [Option.bind_some]
  rw [catM_some (by rw [List.length_replicate, I_len]; omega), I_row]
  simp only [Option.bind_some]
  have hr := row_get ds h0
  rw [show ((n : Nat) : Int) - 1 = ((n - 1 : Nat) : Int) from by omega, atI_get (by omega) (by rw [I_len]; omega)]
  simp only [Option.bind_some]
  unfold setM
  have e : ixN (I (ds ++ List.replicate (n - ds.length) 0)).length ((n - 1 : Nat) : Int) = some (n - 1) := by
    unfold ixN
    rw [if_pos (by omega), if_pos (by rw [I_len]; omega), Int.toNat_natCast]
  rw [e]
  simp only [Option.map_some, Option.bind_some]
  congr 1
  unfold withN
  simp only
  rw [List.getElem?_eq_getElem hr, List.set_eq_take_append_cons_drop, if_pos (by rw [I_len]; exact hr), show n - 1 + 1 = n from by omega]
  exact I_put hr (by simp only [Int.toNat_natCast]; exact I_get hr)
theorem bsr_lt {p : Nat → Bool} : ∀ (f lo hi : Nat), lo < hi → bsr p f lo hi < hi
  | 0, lo, hi, h => h
  | f + 1, lo, hi, h => by
    rw [bsr]
    split
    · split
      · exact bsr_lt f _ _ (by omega)
      · have := bsr_lt (p := p) f lo ((lo + hi) / 2) (by omega)
        omega
    · exact h
/-- the loop of the search -/
theorem bs_ok {F : Int × Int → Option (Int × Int)} {p : Nat → Bool} {B : Nat} (hF : ∀ lo hi : Nat, lo < hi → hi ≤ B → 1 < hi - lo → F (lo, hi) = some (if p ((lo + hi) / 2) then ((((lo + hi) / 2 : Nat) : Int), (hi : Int)) else ((lo : Int), (((lo + hi) / 2 : Nat) : Int)))) :
    ∀ (f lo hi k : Nat), lo < hi → hi ≤ B → hi - lo ≤ 2 ^ f → f < k → ∃ h', whlO (fun (v_s : Int × Int) => some (decide (1 < (v_s.2 - v_s.1)))) F k ((lo : Int), (hi : Int)) = some (((bsr p f lo hi : Nat) : Int), h') := by
  intro f
  induction f with
  | zero =>
    intro lo hi k hlt hB hd hk
    obtain ⟨k, rfl⟩ : ∃ j, k = j + 1 := ⟨k - 1, by omega⟩
    rw [whlO]
    simp only [Option.bind_some]
    rw [if_neg (by simp; omega)]
    exact ⟨_, rfl⟩
  | succ f ih =>
    intro lo hi k hlt hB hd hk
    obtain ⟨k, rfl⟩ : ∃ j, k = j + 1 := ⟨k - 1, by omega⟩
    rw [whlO, bsr]
    simp only [Option.bind_some]
    by_cases h : 1 < hi - lo
    · rw [if_pos (by simp; omega), hF lo hi hlt hB h, if_pos h]
      simp only [Option.bind_some]
      rw [Nat.pow_succ] at hd
      by_cases hp : p ((lo + hi) / 2) = true
      · rw [if_pos hp, if_pos hp]
        exact ih _ _ k (by omega) hB (by omega) (by omega)
      · rw [if_neg hp, if_neg hp]
        exact ih _ _ k (by omega) (by omega) (by omega) (by omega)
    · rw [if_neg (by simp; omega), if_neg h]
      exact ⟨_, rfl⟩
theorem Ns_le {s n v : Nat} (h : (Ns s)[n]? = some v) : v ≤ 810 := by
  have : ∀ s, ∀ v ∈ Ns s, v ≤ 810 := fun s => by
    unfold Ns
    split <;> simp
  exact this s v (List.mem_of_getElem? h)
theorem more_lt {s n : Nat} (h0 : 1 ≤ s) (h1 : s ≤ 3) (h2 : 1 ≤ n) (h3 : n ≤ 8) (ds : List Nat) : moreN s ds n ≤ 810 := by
  obtain ⟨v, _, e⟩ := Ns_ok h0 h1 h2 h3
  have := Ns_le e
  have q := bsr_lt (p := pN s ds n) 10 0 (((Ns s)[n - 1]?).getD 0 + 1) (by omega)
  rw [e, Option.getD_some] at q
  unfold moreN
  rw [e, Option.getD_some]
  omega
theorem more_of_ok {s n : Nat} (h0 : 1 ≤ s) (h1 : s ≤ 3) (h2 : 1 ≤ n) (h3 : n ≤ 8) {ds : List Nat} (hl : ds.length ≤ 8) (k : Ok ds n) : m_more_of (s : Int) (I ds) (n : Int) = some ((moreN s ds n : Nat) : Int) := by
  unfold m_more_of
  obtain ⟨v, e1, e2⟩ := Ns_ok h0 h1 h2 h3
  have hv := Ns_le e2
  rw [e1]
  obtain ⟨h', e⟩ := bs_ok (p := pN s ds n) (B := 811) (F := fun (v_s : Int × Int) =>
      (fdivM (v_s.1 + v_s.2) 2).bind fun (v_middle : Int) =>
      ((((m_with_more (I ds) n v_middle).bind fun v_x2 => m_failing (s : Int) v_x2).bind fun v_x3 => some ((v_x3).isNone)).bind fun v_b => if v_b = true then (some (v_middle)).bind fun (v_low2 : Int) =>
        some (v_low2, v_s.2) else (some (v_middle)).bind fun (v_high2 : Int) =>
        some (v_s.1, v_high2)).bind fun (v_s2 : Int × Int) =>
      some (v_s2.1, v_s2.2)) (fun lo hi hlt hB hd => by
    simp only
    rw [fdivM, if_pos ⟨by decide, by decide⟩]
    simp only [Option.bind_some]
    have em : ((lo : Int) + hi).fdiv 2 = (((lo + hi) / 2 : Nat) : Int) := by
      rw [Int.fdiv_eq_ediv_of_nonneg _ (by decide)]; omega
    rw [em, with_more_ok h2 (by omega) (by omega)]
    simp only [Option.bind_some]
    rw [failing_nat (withN_le h2 k (by omega)) (by rw [withN_len h2]; omega) h0 h1]
    simp only [Option.bind_some]
    have ep : ((ffx s (withN ds n ((lo + hi) / 2))).map fun n : Nat => (n : Int)).isNone = pN s ds n ((lo + hi) / 2) := by
      unfold pN
      cases ffx s (withN ds n ((lo + hi) / 2)) <;> rfl
    rw [ep]
    by_cases hp : pN s ds n ((lo + hi) / 2) = true
    · rw [if_pos hp, if_pos hp]; rfl
    · rw [if_neg hp, if_neg hp]; rfl) 10 0 (v + 1) 100000000 (by omega) (by omega) (by omega) (by omega)
  have e' := e
  rw [show ((v + 1 : Nat) : Int) = (v : Int) + 1 from by omega, show ((0 : Nat) : Int) = 0 from rfl] at e'
  show (whlO _ _ _ ((0 : Int), (v : Int) + 1)).bind _ = _
  rw [e']
  simp only [Option.bind_some]
  unfold moreN
  rw [e2, Option.getD_some]
theorem ext_len (s : Nat) : ∀ (e : Nat) (ds : List Nat), (extN s e ds).length = ds.length + e
  | 0, ds => rfl
  | e + 1, ds => by rw [extN, ext_len s e, List.length_append]; simp; omega
theorem ext_ok {s : Nat} (h0 : 1 ≤ s) (h1 : s ≤ 3) : ∀ (e : Nat) (ds : List Nat) (k : Nat), ds.length + e ≤ 8 → (∀ x ∈ ds, x ≤ 1000) → e < k →
    whlO (fun (v_s : (List Int)) => some (decide ((v_s.length : Int) < ((ds.length + e : Nat) : Int)))) (fun (v_s : (List Int)) =>
      (((m_more_of (s : Int) v_s ((v_s.length : Int) + 1)).bind fun v_x3 => some ([v_x3])).bind fun v_x4 => catM v_s v_x4).bind fun (v_counts2 : (List Int)) =>
      some (v_counts2)) k (I ds) = some (I (extN s e ds)) := by
  intro e
  induction e with
  | zero =>
    intro ds k hl h hk
    obtain ⟨k, rfl⟩ : ∃ j, k = j + 1 := ⟨k - 1, by omega⟩
    rw [whlO]
    simp only [Option.bind_some]
    rw [if_neg (by simp)]
    rfl
  | succ e ih =>
    intro ds k hl h hk
    obtain ⟨k, rfl⟩ : ∃ j, k = j + 1 := ⟨k - 1, by omega⟩
    rw [whlO]
    simp only [Option.bind_some]
    rw [if_pos (by simp; omega), I_len, show ((ds.length : Nat) : Int) + 1 = ((ds.length + 1 : Nat) : Int) from by omega, more_of_ok h0 h1 (by omega) (by omega) (by omega) ⟨h, fun z => by omega⟩]
    simp only [Option.bind_some]
    rw [catM_some (by rw [I_len]; simp; omega)]
    simp only [Option.bind_some]
    have := more_lt h0 h1 (show 1 ≤ ds.length + 1 by omega) (by omega) ds
    have q := ih (ds ++ [moreN s ds (ds.length + 1)]) k (by rw [List.length_append]; simp; omega) (fun x hx => by
      rcases List.mem_append.mp hx with z | z
      · exact h x z
      · rw [List.mem_singleton.mp z]; omega) (by omega)
    rw [show (ds ++ [moreN s ds (ds.length + 1)]).length + e = ds.length + (e + 1) by rw [List.length_append]; simp; omega] at q
    rw [extN, ← q]
    congr 1
    simp [I]
end L
end

section
set_option linter.all false
set_option Elab.async false
set_option maxRecDepth 100000
namespace L
open D M LP
theorem check_length_ok {n : Int} (h0 : 1 ≤ n) (h1 : n ≤ 12) : m_check_length n = some () := by
  unfold m_check_length
  rw [is_number_ok h0 h1]
  rfl
theorem check_both_ok {ds : List Nat} (h : ∀ x ∈ ds, x ≤ 1000) (hl : ds.length ≤ 8) {s : Nat} (h0 : 1 ≤ s) (h1 : s ≤ 3) : m_check_both (s : Int) (I ds) = some () := by
  unfold m_check_both
  rw [check_size_ok (by omega) (by omega), check_counts_ok (cnt_of h (by omega)) (by rw [I_len]; exact hl)]
  rfl
theorem more_words_ok {ds : List Nat} {n s : Nat} (h0 : 1 ≤ s) (h1 : s ≤ 3) (h2 : 1 ≤ n) (h3 : n ≤ 8) (hl : ds.length ≤ 8) (k : Ok ds n) :
    m_more_words (s : Int) (I ds) (n : Int) = some (if (ffx s ds).isSome then none else some ((moreN s ds n : Nat) : Int)) := by
  unfold m_more_words
  rw [check_both_ok k.1 hl h0 h1, check_length_ok (by omega) (by omega), failing_nat k.1 hl h0 h1, more_of_ok h0 h1 h2 h3 hl k]
  simp only [Option.bind_some]
  cases ffx s ds <;> rfl
theorem extended_ok {ds : List Nat} {e s : Nat} (h0 : 1 ≤ s) (h1 : s ≤ 3) (hl : ds.length + e ≤ 8) (h : ∀ x ∈ ds, x ≤ 1000) :
    m_extended (s : Int) (I ds) ((ds.length + e : Nat) : Int) = some (if (ffx s ds).isSome then none else some (I (extN s e ds))) := by
  unfold m_extended
  rw [check_both_ok h (by omega) h0 h1, I_len, is_number_ok (by omega) (by omega), failing_nat h (by omega) h0 h1, ext_ok h0 h1 e ds 100000000 hl h (by omega)]
  simp only [Option.bind_some, Bool.not_true, Bool.false_eq_true, if_false]
  cases ffx s ds <;> rfl
theorem ffG_any : ∀ (as bs : List Nat) (i : Nat), as.length = bs.length → (ffG i as bs).isSome = (as.zip bs).any fun p => decide (p.1 < p.2)
  | [], [], _, _ => rfl
  | [], _ :: _, _, h => by simp at h
  | _ :: _, [], _, h => by simp at h
  | a :: as, b :: bs, i, h => by
    rw [ffG, List.zip_cons_cons, List.any_cons]
    by_cases q : a < b
    · rw [if_pos q, decide_eq_true q]; rfl
    · rw [if_neg q, decide_eq_false q, Bool.false_or]
      exact ffG_any as bs (i + 1) (by simpa using h)
theorem words_nat {ds : List Nat} (h : ∀ x ∈ ds, x ≤ 1000) (hl : ds.length ≤ 8) {n : Nat} (h0 : 1 ≤ n) (h1 : n ≤ 8) : ∃ v : Nat, m_word_necklaces (I ds) (n : Int) = some (v : Int) ∧ (W (cfl ds))[n - 1]? = some v := by
  refine ⟨Nk (cfl ds) n, ?_, W_get _ h0 h1⟩
  unfold m_word_necklaces
  have hc : Cnt (I ds) := cnt_of h (by omega)
  rw [check_counts_ok hc (by rw [I_len]; exact hl), check_length_ok (by omega) (by omega)]
  simp only [Option.bind_some]
  rw [word_of_ok hc h0 (by omega), cfl_of]
theorem necks_nat {s n : Nat} (h0 : 1 ≤ s) (h1 : s ≤ 3) (h2 : 1 ≤ n) (h3 : n ≤ 8) : ∃ v : Nat, m_necklaces (s : Int) (n : Int) = some (v : Int) ∧ (Ns s)[n - 1]? = some v := by
  obtain ⟨v, e1, e2⟩ := Ns_ok h0 h1 h2 h3
  refine ⟨v, ?_, e2⟩
  unfold m_necklaces
  rw [check_size_ok (by omega) (by omega), check_length_ok (by omega) (by omega)]
  exact e1
theorem fails_ok {ds : List Nat} (h : ∀ x ∈ ds, x ≤ 1000) (hl : ds.length ≤ 8) {s : Nat} (h0 : 1 ≤ s) (h1 : s ≤ 3) : m_l_fails (s : Int) (I ds) = some (ffx s ds).isSome := by
  unfold m_l_fails
  rw [I_len, rng2_some (by omega) (by omega) (by omega) (by omega)]
  simp only [Option.bind_some]
  have hW : (W (cfl ds)).length = 8 := by rw [W_ok]; rfl
  have hN := Ns_len h0 h1
  rw [lcP_some (fun x : Int => decide (((Ns s)[x.toNat - 1]?).getD 0 < ((W (cfl ds))[x.toNat - 1]?).getD 0)) (by rw [rng_length]; omega) (fun x hx => by
    obtain ⟨x0, x1⟩ := mem_rng.mp hx
    obtain ⟨i, rfl⟩ : ∃ i : Nat, x = i := ⟨x.toNat, by omega⟩
    obtain ⟨v, e1, e2⟩ := words_nat h hl (n := i) (by omega) (by omega)
    obtain ⟨u, e3, e4⟩ := necks_nat h0 h1 (n := i) (by omega) (by omega)
    rw [e1, e3]
    simp only [Option.bind_some]
    congr 1
    refine decide_eq_decide.mpr ?_
    rw [Int.toNat_natCast, e2, e4, Option.getD_some, Option.getD_some]
    omega)]
  simp only [Option.bind_some]
  congr 1
  unfold ffx ff
  rw [ffG_any _ _ _ (by rw [List.length_take, List.length_take]; omega)]
  have e1 : rng 1 ((ds.length : Int) + 1) = (List.range ds.length).map fun k => ((1 + k : Nat) : Int) := by
    have := rng_nat 1 (ds.length + 1)
    rw [Nat.add_sub_cancel] at this
    rw [← this]
    congr 1
  rw [e1, List.map_map, List.any_map]
  rw [Bool.eq_iff_iff, List.any_eq_true, List.any_eq_true]
  constructor
  · rintro ⟨k, hk, e⟩
    have hk := List.mem_range.mp hk
    simp only [Function.comp_apply, id_eq, Int.toNat_natCast, decide_eq_true_eq, Nat.add_sub_cancel_left] at e
    rw [List.getElem?_eq_getElem (by omega), List.getElem?_eq_getElem (by omega)] at e
    refine ⟨((Ns s)[k]'(by omega), (W (cfl ds))[k]'(by omega)), List.mem_of_getElem? (i := k) ?_, by simpa using e⟩
    rw [List.getElem?_zip_eq_some]
    rw [List.getElem?_take, List.getElem?_take, if_pos hk, if_pos hk]
    exact ⟨List.getElem?_eq_getElem _, List.getElem?_eq_getElem _⟩
  · rintro ⟨⟨a, b⟩, hp, e⟩
    obtain ⟨k, hk⟩ := List.mem_iff_getElem?.mp hp
    obtain ⟨q1, q2⟩ := List.getElem?_zip_eq_some.mp hk
    rw [List.getElem?_take] at q1 q2
    split at q1
    · rename_i hk
      rw [if_pos hk] at q2
      refine ⟨k, List.mem_range.mpr hk, ?_⟩
      simp only [Function.comp_apply, id_eq, Int.toNat_natCast, decide_eq_true_eq, Nat.add_sub_cancel_left]
      rw [q1, q2]
      simpa using e
    · cases q1
theorem I_take (ds : List Nat) (i : Nat) : (I ds).take i = I (ds.take i) := by simp [I]
theorem I_inj {a b : List Nat} (h : I a = I b) : a = b := by
  have := congrArg (List.map Int.toNat) h
  simpa [I, List.map_map, Function.comp_def] using this
theorem law_true (w : SS) : ∃ w', m_law w = some (true, w') := by
  unfold m_law
  obtain ⟨a, w1, e1, a0, a1⟩ := draw_some w (m := 3) (by decide) (by decide)
  rw [e1]
  simp only [bindS_some]
  obtain ⟨s, hs⟩ : ∃ s : Nat, 1 + a = s := ⟨(1 + a).toNat, by omega⟩
  rw [hs]
  obtain ⟨b, w2, e2, b0, b1⟩ := draw_some w1 (m := 5) (by decide) (by decide)
  rw [e2]
  simp only [bindS_some]
  rw [rng1_some (by omega) (by omega)]
  simp only [Option.bind_some, bindS_some]
  obtain ⟨cs, w3, e3, l3, p3⟩ := lcS_inv (g := fun (v_x3 : Int) v_w6 => draw v_w6 (2 + (intB (decide (0 < v_x3))))) (P := fun y => 0 ≤ y ∧ y ≤ 2) (xs := rng 0 b) (w := w2) (by rw [rng_length]; omega) (fun x _ w => by
    have hb : 2 ≤ 2 + intB (decide (0 < x)) ∧ 2 + intB (decide (0 < x)) ≤ 3 := by cases decide (0 < x) <;> decide
    obtain ⟨d, w', e, d0, d1⟩ := draw_some w (m := 2 + intB (decide (0 < x))) (by omega) (by omega)
    exact ⟨d, w', e, d0, by omega⟩)
  rw [e3]
  simp only [bindS_some]
  rw [rng_length] at l3
  obtain ⟨ds, rfl⟩ := nats_of fun x hx => (p3 x hx).1
  rw [List.length_map] at l3
  have h2 : ∀ x ∈ ds, x ≤ 2 := fun x hx => by have := (p3 _ (List.mem_map.mpr ⟨x, hx, rfl⟩)).2; omega
  have hl : ds.length ≤ 4 := by omega
  have hS : 1 ≤ s ∧ s ≤ 3 := by omega
  have h1000 : ∀ x ∈ ds, x ≤ 1000 := fun x hx => by have := h2 x hx; omega
  have kO : ∀ n, Ok ds n := fun n => ⟨h1000, fun _ x hx => by have := h2 x hx; omega⟩
  have C : chk s ds = true := by
    have := List.all_eq_true.mp chk_all s (by simp; omega)
    exact List.all_eq_true.mp this ds (mem_allL hl fun x hx => by have := h2 x hx; omega)
  obtain ⟨c, w4, e4, c0, c1⟩ := draw_some w3 (m := 8) (by decide) (by decide)
  rw [e4]
  simp only [bindS_some]
  obtain ⟨n, hn⟩ : ∃ n : Nat, 1 + c = n := ⟨(1 + c).toNat, by omega⟩
  rw [hn, more_words_ok hS.1 hS.2 (by omega) (by omega) (by omega) (kO n)]
  simp only [Option.bind_some]
  obtain ⟨d, w5, e5, d0, d1⟩ := draw_some w4 (m := 4) (by decide) (by decide)
  rw [e5]
  simp only [bindS_some]
  obtain ⟨e, rfl⟩ : ∃ e : Nat, d = e := ⟨d.toNat, by omega⟩
  rw [I_len, show ((ds.length : Nat) : Int) + (e : Int) = ((ds.length + e : Nat) : Int) from by omega, extended_ok hS.1 hS.2 (by omega) h1000]
  simp only [Option.bind_some]
  have eff : m_first_failing (s : Int) (I ds) = some ((ffx s ds).map fun n : Nat => (n : Int)) := ff_nat h1000 (by omega) hS.1 hS.2
  rw [eff]
  simp only [Option.bind_some]
  unfold chk at C
  cases hf : ffx s ds with
  | some f => exact ⟨_, rfl⟩
  | none =>
    rw [hf] at C
    simp only [Option.isSome_none, Bool.false_or, Bool.and_eq_true, Option.map_none, Bool.false_eq_true, if_false] at C ⊢
    obtain ⟨C1, C2⟩ := C
    have c1 := List.all_eq_true.mp C1 (n - 1) (List.mem_range.mpr (by omega))
    have c2 := List.all_eq_true.mp C2 e (List.mem_range.mpr (by omega))
    rw [show n - 1 + 1 = n from by omega] at c1
    simp only [Bool.and_eq_true, decide_eq_true_eq, Bool.not_eq_true'] at c1
    obtain ⟨⟨g1, g2⟩, g3⟩ := c1
    unfold pN at g1 g2
    unfold chkE at c2
    simp only [Bool.and_eq_true, beq_iff_eq] at c2
    obtain ⟨⟨⟨k1, k2⟩, k3⟩, k4⟩ := c2
    generalize hrow : extN s e ds = row at k1 k2 k3 k4 ⊢
    have hr : ∀ x ∈ row, x ≤ 1000 := fun x hx => of_decide_eq_true (List.all_eq_true.mp k3 x hx)
    unfold m_l_is_integer
    simp only [Option.bind_some, Option.isSome_some, Bool.not_false, Bool.and_self, Bool.not_true, Bool.false_eq_true, if_false]
    rw [if_neg (by simp)]
    simp only [Option.bind_some, Bool.false_eq_true, if_false]
    rw [l_more_ok (by omega) (by omega) (by omega)]
    simp only [Option.bind_some]
    rw [fails_ok (withN_le (by omega) (kO n) (by omega)) (by rw [withN_len (by omega)]; omega) hS.1 hS.2]
    simp only [Option.bind_some]
    have g1' : (ffx s (withN ds n (moreN s ds n))).isSome = false := by
      cases q : ffx s (withN ds n (moreN s ds n)) with
      | none => rfl
      | some _ => rw [q] at g1; cases g1
    rw [g1']
    simp only [Bool.false_eq_true, if_false]
    rw [show ((moreN s ds n : Nat) : Int) + 1 = ((moreN s ds n + 1 : Nat) : Int) from by omega, l_more_ok (by omega) (by omega) (by omega)]
    simp only [Option.bind_some]
    rw [fails_ok (withN_le (by omega) (kO n) (by omega)) (by rw [withN_len (by omega)]; omega) hS.1 hS.2]
    simp only [Option.bind_some]
    have g2' : (ffx s (withN ds n (moreN s ds n + 1))).isSome = true := by
      cases q : ffx s (withN ds n (moreN s ds n + 1)) with
      | none => rw [q] at g2; cases g2
      | some _ => rfl
    rw [g2']
    simp only [Bool.not_true, Bool.false_eq_true, if_false]
    rw [I_len, k1]
    simp only [decide_true, Bool.not_true, Bool.false_eq_true, if_false]
    rw [cut_takeI, I_take, k2]
    simp only [decide_true, Bool.not_true, Bool.false_eq_true, if_false, Option.bind_some]
    rw [rng2_some (by omega) (by omega) (by omega) (by omega)]
    simp only [Option.bind_some]
    rw [loopO_nx]
    · exact ⟨_, rfl⟩
    · intro x hx
      obtain ⟨x0, x1⟩ := mem_rng.mp hx
      obtain ⟨i, rfl⟩ : ∃ i : Nat, x = i := ⟨x.toNat, by omega⟩
      have hi : i < row.length := by omega
      have k5 := List.all_eq_true.mp k4 (i - ds.length) (List.mem_range.mpr (by omega))
      rw [show ds.length + (i - ds.length) = i from by omega] at k5
      simp only [Bool.and_eq_true, beq_iff_eq] at k5
      obtain ⟨⟨m1, m2⟩, m3⟩ := k5
      rw [atI_get (by omega) (by rw [I_len]; omega)]
      simp only [Option.bind_some, Int.toNat_natCast]
      have hgi : (I row)[i]'(by rw [I_len]; exact hi) = ((row[i] : Nat) : Int) := I_get hi
      rw [hgi, cut_takeI, I_take, show ((i : Nat) : Int) + 1 = ((i + 1 : Nat) : Int) from by omega]
      rw [more_words_ok hS.1 hS.2 (by omega) (by omega) (by rw [List.length_take]; omega) ⟨fun x hx => hr x (List.mem_of_mem_take hx), fun z => by rw [List.length_take] at z; omega⟩]
      have m1' : (ffx s (row.take i)).isSome = false := by
        cases q : ffx s (row.take i) with
        | none => rfl
        | some _ => rw [q] at m1; cases m1
      rw [m1']
      rw [List.getElem?_eq_getElem hi] at m2
      have m2' := Option.some.inj m2
      simp only [Option.bind_some, Bool.false_eq_true, if_false]
      rw [m2']
      simp only [decide_true, Bool.not_true, Bool.false_eq_true, if_false]
      obtain ⟨v, q1, q2⟩ := words_nat hr (by omega) (n := i + 1) (by omega) (by omega)
      obtain ⟨u, q3, q4⟩ := necks_nat hS.1 hS.2 (n := i + 1) (by omega) (by omega)
      rw [q1, q3]
      rw [Nat.add_sub_cancel] at q2 q4
      rw [q2, q4] at m3
      have := Option.some.inj m3
      subst this
      simp
theorem spec0 : ∀ ns : List Int, ns.length ≤ 63 → ∃ η, D.evD T 7 24 [.scr ns] [] = .ok (.bl true) η := fun ns h => by
  obtain ⟨s', e⟩ := law_true (ini ns h)
  exact q_law ns h s' e
end L
end

set_option Elab.async false
set_option linter.all false
set_option maxRecDepth 100000
namespace L
open PySem PySem.Spec PyProof.Rows L2 DS
def topS (i : Nat) : Stmt := PySem.Challenge.pw_syncedwords_k47_whole_more_words_and_ext.main.body.getD i (.Pass ⟨0, 0, 0, 0⟩)
abbrev s0 : Stmt := topS 8
abbrev N0 : List Str := ["value", "low", "high"]
abbrev s1 : Stmt := topS 9
abbrev N1 : List Str := ["size"]
abbrev s2 : Stmt := topS 10
abbrev N2 : List Str := ["counts", "count"]
abbrev s3 : Stmt := topS 11
abbrev N3 : List Str := ["length"]
abbrev s4 : Stmt := topS 12
abbrev N4 : List Str := ["number", "found", "prime"]
abbrev s5 : Stmt := topS 13
abbrev N5 : List Str := ["powers", "length", "divisors", "d"]
abbrev s6 : Stmt := topS 14
abbrev N6 : List Str := ["size", "most", "powers", "_"]
abbrev s7 : Stmt := topS 15
abbrev N7 : List Str := ["size", "length"]
abbrev s8 : Stmt := topS 16
abbrev N8 : List Str := ["counts", "length", "row", "turns", "n", "i"]
abbrev s9 : Stmt := topS 17
abbrev N9 : List Str := ["counts", "length"]
abbrev s10 : Stmt := topS 18
abbrev N10 : List Str := ["size", "counts", "length"]
abbrev s11 : Stmt := topS 19
abbrev N11 : List Str := ["counts", "length", "many", "row"]
abbrev s12 : Stmt := topS 20
abbrev N12 : List Str := ["size", "counts", "length", "low", "high", "middle"]
abbrev s13 : Stmt := topS 21
abbrev N13 : List Str := ["size", "length"]
abbrev s14 : Stmt := topS 22
abbrev N14 : List Str := ["counts", "length"]
abbrev s15 : Stmt := topS 23
abbrev N15 : List Str := ["size", "counts"]
abbrev s16 : Stmt := topS 24
abbrev N16 : List Str := ["size", "counts"]
abbrev s17 : Stmt := topS 25
abbrev N17 : List Str := ["size", "counts", "length"]
abbrev s18 : Stmt := topS 26
abbrev N18 : List Str := ["size", "counts", "most"]
abbrev s19 : Stmt := topS 28
abbrev N19 : List Str := ["_law_script"]
abbrev s20 : Stmt := topS 29
abbrev N20 : List Str := ["_law_stream_here", "_law_many", "_law_digit", "_law_k", "_law_cell"]
abbrev s21 : Stmt := topS 30
abbrev N21 : List Str := ["_law_actual"]
abbrev s22 : Stmt := topS 31
abbrev N22 : List Str := ["_law_counts", "_law_length", "_law_many", "_law_row"]
abbrev s23 : Stmt := topS 32
abbrev N23 : List Str := ["_law_size", "_law_counts", "_law_n"]
abbrev s24 : Stmt := topS 33
abbrev N24 : List Str := ["_law_script", "_law_stream_here", "_law_size", "_law_counts", "_law_length", "_law_told", "_law_most", "_law_row", "_law_at", "_law_k"]
def nm : Nm := ⟨fun i => match i with
  | 0 => some "is_number"
  | 1 => some "check_size"
  | 2 => some "check_counts"
  | 3 => some "check_length"
  | 4 => some "moebius"
  | 5 => some "primitive_part"
  | 6 => some "powers_of"
  | 7 => some "necklaces_of"
  | 8 => some "turns_of"
  | 9 => some "word_necklaces_of"
  | 10 => some "failing"
  | 11 => some "with_more"
  | 12 => some "more_of"
  | 13 => some "necklaces"
  | 14 => some "word_necklaces"
  | 15 => some "check_both"
  | 16 => some "first_failing"
  | 17 => some "more_words"
  | 18 => some "extended"
  | 19 => some "_law_stream"
  | 20 => some "_law_next"
  | 21 => some "_law_is_integer"
  | 22 => some "_law_more"
  | 23 => some "_law_fails"
  | 24 => some "law"
  | _ => none, fun i => match i with
  | 0 => some "MOST_SIZE"
  | 1 => some "MOST_COUNTS"
  | 2 => some "MOST_COUNT"
  | 3 => some "MOST_LENGTH"
  | _ => none, fun i => match i with
  | 0 => ["value", "low", "high"]
  | 1 => ["size"]
  | 2 => ["counts"]
  | 3 => ["length"]
  | 4 => ["number"]
  | 5 => ["powers", "length"]
  | 6 => ["size", "most"]
  | 7 => ["size", "length"]
  | 8 => ["counts", "length"]
  | 9 => ["counts", "length"]
  | 10 => ["size", "counts"]
  | 11 => ["counts", "length", "many"]
  | 12 => ["size", "counts", "length"]
  | 13 => ["size", "length"]
  | 14 => ["counts", "length"]
  | 15 => ["size", "counts"]
  | 16 => ["size", "counts"]
  | 17 => ["size", "counts", "length"]
  | 18 => ["size", "counts", "most"]
  | 19 => ["_law_script"]
  | 20 => ["_law_stream_here", "_law_many"]
  | 21 => ["_law_actual"]
  | 22 => ["_law_counts", "_law_length", "_law_many"]
  | 23 => ["_law_size", "_law_counts"]
  | 24 => ["_law_script"]
  | _ => []⟩
theorem sc0 : FnScope N0 ["value", "low", "high"] (defScope s0) := ⟨rfl, rfl, rfl, by decide +kernel, rfl, by decide +kernel, by decide +kernel⟩
theorem ck0 : chkSs nm N0 (defScope s0) f_is_number.body (defBody s0) = true := by decide +kernel
theorem sc1 : FnScope N1 ["size"] (defScope s1) := ⟨rfl, rfl, rfl, by decide +kernel, rfl, by decide +kernel, by decide +kernel⟩
theorem ck1 : chkSs nm N1 (defScope s1) f_check_size.body (defBody s1) = true := by decide +kernel
theorem sc2 : FnScope N2 ["counts"] (defScope s2) := ⟨rfl, rfl, rfl, by decide +kernel, rfl, by decide +kernel, by decide +kernel⟩
theorem ck2 : chkSs nm N2 (defScope s2) f_check_counts.body (defBody s2) = true := by decide +kernel
theorem sc3 : FnScope N3 ["length"] (defScope s3) := ⟨rfl, rfl, rfl, by decide +kernel, rfl, by decide +kernel, by decide +kernel⟩
theorem ck3 : chkSs nm N3 (defScope s3) f_check_length.body (defBody s3) = true := by decide +kernel
theorem sc4 : FnScope N4 ["number"] (defScope s4) := ⟨rfl, rfl, rfl, by decide +kernel, rfl, by decide +kernel, by decide +kernel⟩
theorem ck4 : chkSs nm N4 (defScope s4) f_moebius.body (defBody s4) = true := by decide +kernel
theorem sc5 : FnScope N5 ["powers", "length"] (defScope s5) := ⟨rfl, rfl, rfl, by decide +kernel, rfl, by decide +kernel, by decide +kernel⟩
theorem ck5 : chkSs nm N5 (defScope s5) f_primitive_part.body (defBody s5) = true := by decide +kernel
theorem sc6 : FnScope N6 ["size", "most"] (defScope s6) := ⟨rfl, rfl, rfl, by decide +kernel, rfl, by decide +kernel, by decide +kernel⟩
theorem ck6 : chkSs nm N6 (defScope s6) f_powers_of.body (defBody s6) = true := by decide +kernel
theorem sc7 : FnScope N7 ["size", "length"] (defScope s7) := ⟨rfl, rfl, rfl, by decide +kernel, rfl, by decide +kernel, by decide +kernel⟩
theorem ck7 : chkSs nm N7 (defScope s7) f_necklaces_of.body (defBody s7) = true := by decide +kernel
theorem sc8 : FnScope N8 ["counts", "length"] (defScope s8) := ⟨rfl, rfl, rfl, by decide +kernel, rfl, by decide +kernel, by decide +kernel⟩
theorem ck8 : chkSs nm N8 (defScope s8) f_turns_of.body (defBody s8) = true := by decide +kernel
theorem sc9 : FnScope N9 ["counts", "length"] (defScope s9) := ⟨rfl, rfl, rfl, by decide +kernel, rfl, by decide +kernel, by decide +kernel⟩
theorem ck9 : chkSs nm N9 (defScope s9) f_word_necklaces_of.body (defBody s9) = true := by decide +kernel
theorem sc10 : FnScope N10 ["size", "counts"] (defScope s10) := ⟨rfl, rfl, rfl, by decide +kernel, rfl, by decide +kernel, by decide +kernel⟩
theorem ck10 : chkSs nm N10 (defScope s10) f_failing.body (defBody s10) = true := by decide +kernel
theorem sc11 : FnScope N11 ["counts", "length", "many"] (defScope s11) := ⟨rfl, rfl, rfl, by decide +kernel, rfl, by decide +kernel, by decide +kernel⟩
theorem ck11 : chkSs nm N11 (defScope s11) f_with_more.body (defBody s11) = true := by decide +kernel
theorem sc12 : FnScope N12 ["size", "counts", "length"] (defScope s12) := ⟨rfl, rfl, rfl, by decide +kernel, rfl, by decide +kernel, by decide +kernel⟩
theorem ck12 : chkSs nm N12 (defScope s12) f_more_of.body (defBody s12) = true := by decide +kernel
theorem sc13 : FnScope N13 ["size", "length"] (defScope s13) := ⟨rfl, rfl, rfl, by decide +kernel, rfl, by decide +kernel, by decide +kernel⟩
theorem ck13 : chkSs nm N13 (defScope s13) f_necklaces.body (defBody s13) = true := by decide +kernel
theorem sc14 : FnScope N14 ["counts", "length"] (defScope s14) := ⟨rfl, rfl, rfl, by decide +kernel, rfl, by decide +kernel, by decide +kernel⟩
theorem ck14 : chkSs nm N14 (defScope s14) f_word_necklaces.body (defBody s14) = true := by decide +kernel
theorem sc15 : FnScope N15 ["size", "counts"] (defScope s15) := ⟨rfl, rfl, rfl, by decide +kernel, rfl, by decide +kernel, by decide +kernel⟩
theorem ck15 : chkSs nm N15 (defScope s15) f_check_both.body (defBody s15) = true := by decide +kernel
theorem sc16 : FnScope N16 ["size", "counts"] (defScope s16) := ⟨rfl, rfl, rfl, by decide +kernel, rfl, by decide +kernel, by decide +kernel⟩
theorem ck16 : chkSs nm N16 (defScope s16) f_first_failing.body (defBody s16) = true := by decide +kernel
theorem sc17 : FnScope N17 ["size", "counts", "length"] (defScope s17) := ⟨rfl, rfl, rfl, by decide +kernel, rfl, by decide +kernel, by decide +kernel⟩
theorem ck17 : chkSs nm N17 (defScope s17) f_more_words.body (defBody s17) = true := by decide +kernel
theorem sc18 : FnScope N18 ["size", "counts", "most"] (defScope s18) := ⟨rfl, rfl, rfl, by decide +kernel, rfl, by decide +kernel, by decide +kernel⟩
theorem ck18 : chkSs nm N18 (defScope s18) f_extended.body (defBody s18) = true := by decide +kernel
theorem sc19 : FnScope N19 ["_law_script"] (defScope s19) := ⟨rfl, rfl, rfl, by decide +kernel, rfl, by decide +kernel, by decide +kernel⟩
theorem ck19 : chkSs nm N19 (defScope s19) f_law_stream.body (defBody s19) = true := by decide +kernel
theorem sc20 : FnScope N20 ["_law_stream_here", "_law_many"] (defScope s20) := ⟨rfl, rfl, rfl, by decide +kernel, rfl, by decide +kernel, by decide +kernel⟩
theorem ck20 : chkSs nm N20 (defScope s20) f_law_next.body (defBody s20) = true := by decide +kernel
theorem sc21 : FnScope N21 ["_law_actual"] (defScope s21) := ⟨rfl, rfl, rfl, by decide +kernel, rfl, by decide +kernel, by decide +kernel⟩
theorem ck21 : chkSs nm N21 (defScope s21) f_law_is_integer.body (defBody s21) = true := by decide +kernel
theorem sc22 : FnScope N22 ["_law_counts", "_law_length", "_law_many"] (defScope s22) := ⟨rfl, rfl, rfl, by decide +kernel, rfl, by decide +kernel, by decide +kernel⟩
theorem ck22 : chkSs nm N22 (defScope s22) f_law_more.body (defBody s22) = true := by decide +kernel
theorem sc23 : FnScope N23 ["_law_size", "_law_counts"] (defScope s23) := ⟨rfl, rfl, rfl, by decide +kernel, rfl, by decide +kernel, by decide +kernel⟩
theorem ck23 : chkSs nm N23 (defScope s23) f_law_fails.body (defBody s23) = true := by decide +kernel
theorem sc24 : FnScope N24 ["_law_script"] (defScope s24) := ⟨rfl, rfl, rfl, by decide +kernel, rfl, by decide +kernel, by decide +kernel⟩
theorem ck24 : chkSs nm N24 (defScope s24) f_law.body (defBody s24) = true := by decide +kernel
theorem dk0 {K : Fg} {h : Heap} {mg : Str → Option Value} (X : K.In h) (G : h.Ns mainGlobals mg) {f0 : Addr} {oc0 : Value} {od0 an0 : Option Addr} {sl0 : Array (Option Value)} {kV0 dc0 pm0 cd0 ct0 : Value} (a0 : PySem.W.nsIn K mainGlobals "is_number" = some (some (.ref f0))) (l0 : K.lookup f0 = some ⟨oc0, od0, .func (PySem.W.fnOf "is_number" "is_number" (defArgs s0) (defBody s0) (defScope s0) .none kV0 dc0 pm0 an0 cd0 ct0), sl0⟩) (c0 : PySem.W.codeIn K cd0 "is_number" = true) (k0 : PySem.W.keepIn K (.ref f0) = true) : ∃ fa fdt, DefOk nm T K mg 0 "is_number" fa fdt := ⟨f0, _, f_is_number, "is_number", "is_number", s0, N0, rfl, PySem.W.mg_of X G a0, fun_mk (st := s0) l0 c0 k0, sc0, ck0, rfl, rfl, fun s us hl => match us, hl with | [_, _, _], _ => .of_eq rfl⟩
theorem dk1 {K : Fg} {h : Heap} {mg : Str → Option Value} (X : K.In h) (G : h.Ns mainGlobals mg) {f1 : Addr} {oc1 : Value} {od1 an1 : Option Addr} {sl1 : Array (Option Value)} {kV1 dc1 pm1 cd1 ct1 : Value} (a1 : PySem.W.nsIn K mainGlobals "check_size" = some (some (.ref f1))) (l1 : K.lookup f1 = some ⟨oc1, od1, .func (PySem.W.fnOf "check_size" "check_size" (defArgs s1) (defBody s1) (defScope s1) .none kV1 dc1 pm1 an1 cd1 ct1), sl1⟩) (c1 : PySem.W.codeIn K cd1 "check_size" = true) (k1 : PySem.W.keepIn K (.ref f1) = true) : ∃ fa fdt, DefOk nm T K mg 1 "check_size" fa fdt := ⟨f1, _, f_check_size, "check_size", "check_size", s1, N1, rfl, PySem.W.mg_of X G a1, fun_mk (st := s1) l1 c1 k1, sc1, ck1, rfl, rfl, fun s us hl => match us, hl with | [_], _ => .of_eq rfl⟩
theorem dk2 {K : Fg} {h : Heap} {mg : Str → Option Value} (X : K.In h) (G : h.Ns mainGlobals mg) {f2 : Addr} {oc2 : Value} {od2 an2 : Option Addr} {sl2 : Array (Option Value)} {kV2 dc2 pm2 cd2 ct2 : Value} (a2 : PySem.W.nsIn K mainGlobals "check_counts" = some (some (.ref f2))) (l2 : K.lookup f2 = some ⟨oc2, od2, .func (PySem.W.fnOf "check_counts" "check_counts" (defArgs s2) (defBody s2) (defScope s2) .none kV2 dc2 pm2 an2 cd2 ct2), sl2⟩) (c2 : PySem.W.codeIn K cd2 "check_counts" = true) (k2 : PySem.W.keepIn K (.ref f2) = true) : ∃ fa fdt, DefOk nm T K mg 2 "check_counts" fa fdt := ⟨f2, _, f_check_counts, "check_counts", "check_counts", s2, N2, rfl, PySem.W.mg_of X G a2, fun_mk (st := s2) l2 c2 k2, sc2, ck2, rfl, rfl, fun s us hl => match us, hl with | [_], _ => .of_eq rfl⟩
theorem dk3 {K : Fg} {h : Heap} {mg : Str → Option Value} (X : K.In h) (G : h.Ns mainGlobals mg) {f3 : Addr} {oc3 : Value} {od3 an3 : Option Addr} {sl3 : Array (Option Value)} {kV3 dc3 pm3 cd3 ct3 : Value} (a3 : PySem.W.nsIn K mainGlobals "check_length" = some (some (.ref f3))) (l3 : K.lookup f3 = some ⟨oc3, od3, .func (PySem.W.fnOf "check_length" "check_length" (defArgs s3) (defBody s3) (defScope s3) .none kV3 dc3 pm3 an3 cd3 ct3), sl3⟩) (c3 : PySem.W.codeIn K cd3 "check_length" = true) (k3 : PySem.W.keepIn K (.ref f3) = true) : ∃ fa fdt, DefOk nm T K mg 3 "check_length" fa fdt := ⟨f3, _, f_check_length, "check_length", "check_length", s3, N3, rfl, PySem.W.mg_of X G a3, fun_mk (st := s3) l3 c3 k3, sc3, ck3, rfl, rfl, fun s us hl => match us, hl with | [_], _ => .of_eq rfl⟩
theorem dk4 {K : Fg} {h : Heap} {mg : Str → Option Value} (X : K.In h) (G : h.Ns mainGlobals mg) {f4 : Addr} {oc4 : Value} {od4 an4 : Option Addr} {sl4 : Array (Option Value)} {kV4 dc4 pm4 cd4 ct4 : Value} (a4 : PySem.W.nsIn K mainGlobals "moebius" = some (some (.ref f4))) (l4 : K.lookup f4 = some ⟨oc4, od4, .func (PySem.W.fnOf "moebius" "moebius" (defArgs s4) (defBody s4) (defScope s4) .none kV4 dc4 pm4 an4 cd4 ct4), sl4⟩) (c4 : PySem.W.codeIn K cd4 "moebius" = true) (k4 : PySem.W.keepIn K (.ref f4) = true) : ∃ fa fdt, DefOk nm T K mg 4 "moebius" fa fdt := ⟨f4, _, f_moebius, "moebius", "moebius", s4, N4, rfl, PySem.W.mg_of X G a4, fun_mk (st := s4) l4 c4 k4, sc4, ck4, rfl, rfl, fun s us hl => match us, hl with | [_], _ => .of_eq rfl⟩
theorem dk5 {K : Fg} {h : Heap} {mg : Str → Option Value} (X : K.In h) (G : h.Ns mainGlobals mg) {f5 : Addr} {oc5 : Value} {od5 an5 : Option Addr} {sl5 : Array (Option Value)} {kV5 dc5 pm5 cd5 ct5 : Value} (a5 : PySem.W.nsIn K mainGlobals "primitive_part" = some (some (.ref f5))) (l5 : K.lookup f5 = some ⟨oc5, od5, .func (PySem.W.fnOf "primitive_part" "primitive_part" (defArgs s5) (defBody s5) (defScope s5) .none kV5 dc5 pm5 an5 cd5 ct5), sl5⟩) (c5 : PySem.W.codeIn K cd5 "primitive_part" = true) (k5 : PySem.W.keepIn K (.ref f5) = true) : ∃ fa fdt, DefOk nm T K mg 5 "primitive_part" fa fdt := ⟨f5, _, f_primitive_part, "primitive_part", "primitive_part", s5, N5, rfl, PySem.W.mg_of X G a5, fun_mk (st := s5) l5 c5 k5, sc5, ck5, rfl, rfl, fun s us hl => match us, hl with | [_, _], _ => .of_eq rfl⟩
theorem dk6 {K : Fg} {h : Heap} {mg : Str → Option Value} (X : K.In h) (G : h.Ns mainGlobals mg) {f6 : Addr} {oc6 : Value} {od6 an6 : Option Addr} {sl6 : Array (Option Value)} {kV6 dc6 pm6 cd6 ct6 : Value} (a6 : PySem.W.nsIn K mainGlobals "powers_of" = some (some (.ref f6))) (l6 : K.lookup f6 = some ⟨oc6, od6, .func (PySem.W.fnOf "powers_of" "powers_of" (defArgs s6) (defBody s6) (defScope s6) .none kV6 dc6 pm6 an6 cd6 ct6), sl6⟩) (c6 : PySem.W.codeIn K cd6 "powers_of" = true) (k6 : PySem.W.keepIn K (.ref f6) = true) : ∃ fa fdt, DefOk nm T K mg 6 "powers_of" fa fdt := ⟨f6, _, f_powers_of, "powers_of", "powers_of", s6, N6, rfl, PySem.W.mg_of X G a6, fun_mk (st := s6) l6 c6 k6, sc6, ck6, rfl, rfl, fun s us hl => match us, hl with | [_, _], _ => .of_eq rfl⟩
theorem dk7 {K : Fg} {h : Heap} {mg : Str → Option Value} (X : K.In h) (G : h.Ns mainGlobals mg) {f7 : Addr} {oc7 : Value} {od7 an7 : Option Addr} {sl7 : Array (Option Value)} {kV7 dc7 pm7 cd7 ct7 : Value} (a7 : PySem.W.nsIn K mainGlobals "necklaces_of" = some (some (.ref f7))) (l7 : K.lookup f7 = some ⟨oc7, od7, .func (PySem.W.fnOf "necklaces_of" "necklaces_of" (defArgs s7) (defBody s7) (defScope s7) .none kV7 dc7 pm7 an7 cd7 ct7), sl7⟩) (c7 : PySem.W.codeIn K cd7 "necklaces_of" = true) (k7 : PySem.W.keepIn K (.ref f7) = true) : ∃ fa fdt, DefOk nm T K mg 7 "necklaces_of" fa fdt := ⟨f7, _, f_necklaces_of, "necklaces_of", "necklaces_of", s7, N7, rfl, PySem.W.mg_of X G a7, fun_mk (st := s7) l7 c7 k7, sc7, ck7, rfl, rfl, fun s us hl => match us, hl with | [_, _], _ => .of_eq rfl⟩
theorem dk8 {K : Fg} {h : Heap} {mg : Str → Option Value} (X : K.In h) (G : h.Ns mainGlobals mg) {f8 : Addr} {oc8 : Value} {od8 an8 : Option Addr} {sl8 : Array (Option Value)} {kV8 dc8 pm8 cd8 ct8 : Value} (a8 : PySem.W.nsIn K mainGlobals "turns_of" = some (some (.ref f8))) (l8 : K.lookup f8 = some ⟨oc8, od8, .func (PySem.W.fnOf "turns_of" "turns_of" (defArgs s8) (defBody s8) (defScope s8) .none kV8 dc8 pm8 an8 cd8 ct8), sl8⟩) (c8 : PySem.W.codeIn K cd8 "turns_of" = true) (k8 : PySem.W.keepIn K (.ref f8) = true) : ∃ fa fdt, DefOk nm T K mg 8 "turns_of" fa fdt := ⟨f8, _, f_turns_of, "turns_of", "turns_of", s8, N8, rfl, PySem.W.mg_of X G a8, fun_mk (st := s8) l8 c8 k8, sc8, ck8, rfl, rfl, fun s us hl => match us, hl with | [_, _], _ => .of_eq rfl⟩
theorem dk9 {K : Fg} {h : Heap} {mg : Str → Option Value} (X : K.In h) (G : h.Ns mainGlobals mg) {f9 : Addr} {oc9 : Value} {od9 an9 : Option Addr} {sl9 : Array (Option Value)} {kV9 dc9 pm9 cd9 ct9 : Value} (a9 : PySem.W.nsIn K mainGlobals "word_necklaces_of" = some (some (.ref f9))) (l9 : K.lookup f9 = some ⟨oc9, od9, .func (PySem.W.fnOf "word_necklaces_of" "word_necklaces_of" (defArgs s9) (defBody s9) (defScope s9) .none kV9 dc9 pm9 an9 cd9 ct9), sl9⟩) (c9 : PySem.W.codeIn K cd9 "word_necklaces_of" = true) (k9 : PySem.W.keepIn K (.ref f9) = true) : ∃ fa fdt, DefOk nm T K mg 9 "word_necklaces_of" fa fdt := ⟨f9, _, f_word_necklaces_of, "word_necklaces_of", "word_necklaces_of", s9, N9, rfl, PySem.W.mg_of X G a9, fun_mk (st := s9) l9 c9 k9, sc9, ck9, rfl, rfl, fun s us hl => match us, hl with | [_, _], _ => .of_eq rfl⟩
theorem dk10 {K : Fg} {h : Heap} {mg : Str → Option Value} (X : K.In h) (G : h.Ns mainGlobals mg) {f10 : Addr} {oc10 : Value} {od10 an10 : Option Addr} {sl10 : Array (Option Value)} {kV10 dc10 pm10 cd10 ct10 : Value} (a10 : PySem.W.nsIn K mainGlobals "failing" = some (some (.ref f10))) (l10 : K.lookup f10 = some ⟨oc10, od10, .func (PySem.W.fnOf "failing" "failing" (defArgs s10) (defBody s10) (defScope s10) .none kV10 dc10 pm10 an10 cd10 ct10), sl10⟩) (c10 : PySem.W.codeIn K cd10 "failing" = true) (k10 : PySem.W.keepIn K (.ref f10) = true) : ∃ fa fdt, DefOk nm T K mg 10 "failing" fa fdt := ⟨f10, _, f_failing, "failing", "failing", s10, N10, rfl, PySem.W.mg_of X G a10, fun_mk (st := s10) l10 c10 k10, sc10, ck10, rfl, rfl, fun s us hl => match us, hl with | [_, _], _ => .of_eq rfl⟩
theorem dk11 {K : Fg} {h : Heap} {mg : Str → Option Value} (X : K.In h) (G : h.Ns mainGlobals mg) {f11 : Addr} {oc11 : Value} {od11 an11 : Option Addr} {sl11 : Array (Option Value)} {kV11 dc11 pm11 cd11 ct11 : Value} (a11 : PySem.W.nsIn K mainGlobals "with_more" = some (some (.ref f11))) (l11 : K.lookup f11 = some ⟨oc11, od11, .func (PySem.W.fnOf "with_more" "with_more" (defArgs s11) (defBody s11) (defScope s11) .none kV11 dc11 pm11 an11 cd11 ct11), sl11⟩) (c11 : PySem.W.codeIn K cd11 "with_more" = true) (k11 : PySem.W.keepIn K (.ref f11) = true) : ∃ fa fdt, DefOk nm T K mg 11 "with_more" fa fdt := ⟨f11, _, f_with_more, "with_more", "with_more", s11, N11, rfl, PySem.W.mg_of X G a11, fun_mk (st := s11) l11 c11 k11, sc11, ck11, rfl, rfl, fun s us hl => match us, hl with | [_, _, _], _ => .of_eq rfl⟩
theorem dk12 {K : Fg} {h : Heap} {mg : Str → Option Value} (X : K.In h) (G : h.Ns mainGlobals mg) {f12 : Addr} {oc12 : Value} {od12 an12 : Option Addr} {sl12 : Array (Option Value)} {kV12 dc12 pm12 cd12 ct12 : Value} (a12 : PySem.W.nsIn K mainGlobals "more_of" = some (some (.ref f12))) (l12 : K.lookup f12 = some ⟨oc12, od12, .func (PySem.W.fnOf "more_of" "more_of" (defArgs s12) (defBody s12) (defScope s12) .none kV12 dc12 pm12 an12 cd12 ct12), sl12⟩) (c12 : PySem.W.codeIn K cd12 "more_of" = true) (k12 : PySem.W.keepIn K (.ref f12) = true) : ∃ fa fdt, DefOk nm T K mg 12 "more_of" fa fdt := ⟨f12, _, f_more_of, "more_of", "more_of", s12, N12, rfl, PySem.W.mg_of X G a12, fun_mk (st := s12) l12 c12 k12, sc12, ck12, rfl, rfl, fun s us hl => match us, hl with | [_, _, _], _ => .of_eq rfl⟩
theorem dk13 {K : Fg} {h : Heap} {mg : Str → Option Value} (X : K.In h) (G : h.Ns mainGlobals mg) {f13 : Addr} {oc13 : Value} {od13 an13 : Option Addr} {sl13 : Array (Option Value)} {kV13 dc13 pm13 cd13 ct13 : Value} (a13 : PySem.W.nsIn K mainGlobals "necklaces" = some (some (.ref f13))) (l13 : K.lookup f13 = some ⟨oc13, od13, .func (PySem.W.fnOf "necklaces" "necklaces" (defArgs s13) (defBody s13) (defScope s13) .none kV13 dc13 pm13 an13 cd13 ct13), sl13⟩) (c13 : PySem.W.codeIn K cd13 "necklaces" = true) (k13 : PySem.W.keepIn K (.ref f13) = true) : ∃ fa fdt, DefOk nm T K mg 13 "necklaces" fa fdt := ⟨f13, _, f_necklaces, "necklaces", "necklaces", s13, N13, rfl, PySem.W.mg_of X G a13, fun_mk (st := s13) l13 c13 k13, sc13, ck13, rfl, rfl, fun s us hl => match us, hl with | [_, _], _ => .of_eq rfl⟩
theorem dk14 {K : Fg} {h : Heap} {mg : Str → Option Value} (X : K.In h) (G : h.Ns mainGlobals mg) {f14 : Addr} {oc14 : Value} {od14 an14 : Option Addr} {sl14 : Array (Option Value)} {kV14 dc14 pm14 cd14 ct14 : Value} (a14 : PySem.W.nsIn K mainGlobals "word_necklaces" = some (some (.ref f14))) (l14 : K.lookup f14 = some ⟨oc14, od14, .func (PySem.W.fnOf "word_necklaces" "word_necklaces" (defArgs s14) (defBody s14) (defScope s14) .none kV14 dc14 pm14 an14 cd14 ct14), sl14⟩) (c14 : PySem.W.codeIn K cd14 "word_necklaces" = true) (k14 : PySem.W.keepIn K (.ref f14) = true) : ∃ fa fdt, DefOk nm T K mg 14 "word_necklaces" fa fdt := ⟨f14, _, f_word_necklaces, "word_necklaces", "word_necklaces", s14, N14, rfl, PySem.W.mg_of X G a14, fun_mk (st := s14) l14 c14 k14, sc14, ck14, rfl, rfl, fun s us hl => match us, hl with | [_, _], _ => .of_eq rfl⟩
theorem dk15 {K : Fg} {h : Heap} {mg : Str → Option Value} (X : K.In h) (G : h.Ns mainGlobals mg) {f15 : Addr} {oc15 : Value} {od15 an15 : Option Addr} {sl15 : Array (Option Value)} {kV15 dc15 pm15 cd15 ct15 : Value} (a15 : PySem.W.nsIn K mainGlobals "check_both" = some (some (.ref f15))) (l15 : K.lookup f15 = some ⟨oc15, od15, .func (PySem.W.fnOf "check_both" "check_both" (defArgs s15) (defBody s15) (defScope s15) .none kV15 dc15 pm15 an15 cd15 ct15), sl15⟩) (c15 : PySem.W.codeIn K cd15 "check_both" = true) (k15 : PySem.W.keepIn K (.ref f15) = true) : ∃ fa fdt, DefOk nm T K mg 15 "check_both" fa fdt := ⟨f15, _, f_check_both, "check_both", "check_both", s15, N15, rfl, PySem.W.mg_of X G a15, fun_mk (st := s15) l15 c15 k15, sc15, ck15, rfl, rfl, fun s us hl => match us, hl with | [_, _], _ => .of_eq rfl⟩
theorem dk16 {K : Fg} {h : Heap} {mg : Str → Option Value} (X : K.In h) (G : h.Ns mainGlobals mg) {f16 : Addr} {oc16 : Value} {od16 an16 : Option Addr} {sl16 : Array (Option Value)} {kV16 dc16 pm16 cd16 ct16 : Value} (a16 : PySem.W.nsIn K mainGlobals "first_failing" = some (some (.ref f16))) (l16 : K.lookup f16 = some ⟨oc16, od16, .func (PySem.W.fnOf "first_failing" "first_failing" (defArgs s16) (defBody s16) (defScope s16) .none kV16 dc16 pm16 an16 cd16 ct16), sl16⟩) (c16 : PySem.W.codeIn K cd16 "first_failing" = true) (k16 : PySem.W.keepIn K (.ref f16) = true) : ∃ fa fdt, DefOk nm T K mg 16 "first_failing" fa fdt := ⟨f16, _, f_first_failing, "first_failing", "first_failing", s16, N16, rfl, PySem.W.mg_of X G a16, fun_mk (st := s16) l16 c16 k16, sc16, ck16, rfl, rfl, fun s us hl => match us, hl with | [_, _], _ => .of_eq rfl⟩
theorem dk17 {K : Fg} {h : Heap} {mg : Str → Option Value} (X : K.In h) (G : h.Ns mainGlobals mg) {f17 : Addr} {oc17 : Value} {od17 an17 : Option Addr} {sl17 : Array (Option Value)} {kV17 dc17 pm17 cd17 ct17 : Value} (a17 : PySem.W.nsIn K mainGlobals "more_words" = some (some (.ref f17))) (l17 : K.lookup f17 = some ⟨oc17, od17, .func (PySem.W.fnOf "more_words" "more_words" (defArgs s17) (defBody s17) (defScope s17) .none kV17 dc17 pm17 an17 cd17 ct17), sl17⟩) (c17 : PySem.W.codeIn K cd17 "more_words" = true) (k17 : PySem.W.keepIn K (.ref f17) = true) : ∃ fa fdt, DefOk nm T K mg 17 "more_words" fa fdt := ⟨f17, _, f_more_words, "more_words", "more_words", s17, N17, rfl, PySem.W.mg_of X G a17, fun_mk (st := s17) l17 c17 k17, sc17, ck17, rfl, rfl, fun s us hl => match us, hl with | [_, _, _], _ => .of_eq rfl⟩
theorem dk18 {K : Fg} {h : Heap} {mg : Str → Option Value} (X : K.In h) (G : h.Ns mainGlobals mg) {f18 : Addr} {oc18 : Value} {od18 an18 : Option Addr} {sl18 : Array (Option Value)} {kV18 dc18 pm18 cd18 ct18 : Value} (a18 : PySem.W.nsIn K mainGlobals "extended" = some (some (.ref f18))) (l18 : K.lookup f18 = some ⟨oc18, od18, .func (PySem.W.fnOf "extended" "extended" (defArgs s18) (defBody s18) (defScope s18) .none kV18 dc18 pm18 an18 cd18 ct18), sl18⟩) (c18 : PySem.W.codeIn K cd18 "extended" = true) (k18 : PySem.W.keepIn K (.ref f18) = true) : ∃ fa fdt, DefOk nm T K mg 18 "extended" fa fdt := ⟨f18, _, f_extended, "extended", "extended", s18, N18, rfl, PySem.W.mg_of X G a18, fun_mk (st := s18) l18 c18 k18, sc18, ck18, rfl, rfl, fun s us hl => match us, hl with | [_, _, _], _ => .of_eq rfl⟩
theorem dk19 {K : Fg} {h : Heap} {mg : Str → Option Value} (X : K.In h) (G : h.Ns mainGlobals mg) {f19 : Addr} {oc19 : Value} {od19 an19 : Option Addr} {sl19 : Array (Option Value)} {kV19 dc19 pm19 cd19 ct19 : Value} (a19 : PySem.W.nsIn K mainGlobals "_law_stream" = some (some (.ref f19))) (l19 : K.lookup f19 = some ⟨oc19, od19, .func (PySem.W.fnOf "_law_stream" "_law_stream" (defArgs s19) (defBody s19) (defScope s19) .none kV19 dc19 pm19 an19 cd19 ct19), sl19⟩) (c19 : PySem.W.codeIn K cd19 "_law_stream" = true) (k19 : PySem.W.keepIn K (.ref f19) = true) : ∃ fa fdt, DefOk nm T K mg 19 "_law_stream" fa fdt := ⟨f19, _, f_law_stream, "_law_stream", "_law_stream", s19, N19, rfl, PySem.W.mg_of X G a19, fun_mk (st := s19) l19 c19 k19, sc19, ck19, rfl, rfl, fun s us hl => match us, hl with | [_], _ => .of_eq rfl⟩
theorem dk20 {K : Fg} {h : Heap} {mg : Str → Option Value} (X : K.In h) (G : h.Ns mainGlobals mg) {f20 : Addr} {oc20 : Value} {od20 an20 : Option Addr} {sl20 : Array (Option Value)} {kV20 dc20 pm20 cd20 ct20 : Value} (a20 : PySem.W.nsIn K mainGlobals "_law_next" = some (some (.ref f20))) (l20 : K.lookup f20 = some ⟨oc20, od20, .func (PySem.W.fnOf "_law_next" "_law_next" (defArgs s20) (defBody s20) (defScope s20) .none kV20 dc20 pm20 an20 cd20 ct20), sl20⟩) (c20 : PySem.W.codeIn K cd20 "_law_next" = true) (k20 : PySem.W.keepIn K (.ref f20) = true) : ∃ fa fdt, DefOk nm T K mg 20 "_law_next" fa fdt := ⟨f20, _, f_law_next, "_law_next", "_law_next", s20, N20, rfl, PySem.W.mg_of X G a20, fun_mk (st := s20) l20 c20 k20, sc20, ck20, rfl, rfl, fun s us hl => match us, hl with | [_, _], _ => .of_eq rfl⟩
theorem dk21 {K : Fg} {h : Heap} {mg : Str → Option Value} (X : K.In h) (G : h.Ns mainGlobals mg) {f21 : Addr} {oc21 : Value} {od21 an21 : Option Addr} {sl21 : Array (Option Value)} {kV21 dc21 pm21 cd21 ct21 : Value} (a21 : PySem.W.nsIn K mainGlobals "_law_is_integer" = some (some (.ref f21))) (l21 : K.lookup f21 = some ⟨oc21, od21, .func (PySem.W.fnOf "_law_is_integer" "_law_is_integer" (defArgs s21) (defBody s21) (defScope s21) .none kV21 dc21 pm21 an21 cd21 ct21), sl21⟩) (c21 : PySem.W.codeIn K cd21 "_law_is_integer" = true) (k21 : PySem.W.keepIn K (.ref f21) = true) : ∃ fa fdt, DefOk nm T K mg 21 "_law_is_integer" fa fdt := ⟨f21, _, f_law_is_integer, "_law_is_integer", "_law_is_integer", s21, N21, rfl, PySem.W.mg_of X G a21, fun_mk (st := s21) l21 c21 k21, sc21, ck21, rfl, rfl, fun s us hl => match us, hl with | [_], _ => .of_eq rfl⟩
theorem dk22 {K : Fg} {h : Heap} {mg : Str → Option Value} (X : K.In h) (G : h.Ns mainGlobals mg) {f22 : Addr} {oc22 : Value} {od22 an22 : Option Addr} {sl22 : Array (Option Value)} {kV22 dc22 pm22 cd22 ct22 : Value} (a22 : PySem.W.nsIn K mainGlobals "_law_more" = some (some (.ref f22))) (l22 : K.lookup f22 = some ⟨oc22, od22, .func (PySem.W.fnOf "_law_more" "_law_more" (defArgs s22) (defBody s22) (defScope s22) .none kV22 dc22 pm22 an22 cd22 ct22), sl22⟩) (c22 : PySem.W.codeIn K cd22 "_law_more" = true) (k22 : PySem.W.keepIn K (.ref f22) = true) : ∃ fa fdt, DefOk nm T K mg 22 "_law_more" fa fdt := ⟨f22, _, f_law_more, "_law_more", "_law_more", s22, N22, rfl, PySem.W.mg_of X G a22, fun_mk (st := s22) l22 c22 k22, sc22, ck22, rfl, rfl, fun s us hl => match us, hl with | [_, _, _], _ => .of_eq rfl⟩
theorem dk23 {K : Fg} {h : Heap} {mg : Str → Option Value} (X : K.In h) (G : h.Ns mainGlobals mg) {f23 : Addr} {oc23 : Value} {od23 an23 : Option Addr} {sl23 : Array (Option Value)} {kV23 dc23 pm23 cd23 ct23 : Value} (a23 : PySem.W.nsIn K mainGlobals "_law_fails" = some (some (.ref f23))) (l23 : K.lookup f23 = some ⟨oc23, od23, .func (PySem.W.fnOf "_law_fails" "_law_fails" (defArgs s23) (defBody s23) (defScope s23) .none kV23 dc23 pm23 an23 cd23 ct23), sl23⟩) (c23 : PySem.W.codeIn K cd23 "_law_fails" = true) (k23 : PySem.W.keepIn K (.ref f23) = true) : ∃ fa fdt, DefOk nm T K mg 23 "_law_fails" fa fdt := ⟨f23, _, f_law_fails, "_law_fails", "_law_fails", s23, N23, rfl, PySem.W.mg_of X G a23, fun_mk (st := s23) l23 c23 k23, sc23, ck23, rfl, rfl, fun s us hl => match us, hl with | [_, _], _ => .of_eq rfl⟩
theorem dk24 {K : Fg} {h : Heap} {mg : Str → Option Value} (X : K.In h) (G : h.Ns mainGlobals mg) {f24 : Addr} {oc24 : Value} {od24 an24 : Option Addr} {sl24 : Array (Option Value)} {kV24 dc24 pm24 cd24 ct24 : Value} (a24 : PySem.W.nsIn K mainGlobals "law" = some (some (.ref f24))) (l24 : K.lookup f24 = some ⟨oc24, od24, .func (PySem.W.fnOf "law" "law" (defArgs s24) (defBody s24) (defScope s24) .none kV24 dc24 pm24 an24 cd24 ct24), sl24⟩) (c24 : PySem.W.codeIn K cd24 "law" = true) (k24 : PySem.W.keepIn K (.ref f24) = true) : ∃ fa fdt, DefOk nm T K mg 24 "law" fa fdt := ⟨f24, _, f_law, "law", "law", s24, N24, rfl, PySem.W.mg_of X G a24, fun_mk (st := s24) l24 c24 k24, sc24, ck24, rfl, rfl, fun s us hl => match us, hl with | [_], _ => .of_eq rfl⟩
set_option maxHeartbeats 0 in
theorem pg_mk {K : Fg} {h : Heap} {mg : Str → Option Value} (X : K.In h) (G : h.Ns mainGlobals mg) {f0 : Addr} {oc0 : Value} {od0 an0 : Option Addr} {sl0 : Array (Option Value)} {kV0 dc0 pm0 cd0 ct0 : Value} {f1 : Addr} {oc1 : Value} {od1 an1 : Option Addr} {sl1 : Array (Option Value)} {kV1 dc1 pm1 cd1 ct1 : Value} {f2 : Addr} {oc2 : Value} {od2 an2 : Option Addr} {sl2 : Array (Option Value)} {kV2 dc2 pm2 cd2 ct2 : Value} {f3 : Addr} {oc3 : Value} {od3 an3 : Option Addr} {sl3 : Array (Option Value)} {kV3 dc3 pm3 cd3 ct3 : Value} {f4 : Addr} {oc4 : Value} {od4 an4 : Option Addr} {sl4 : Array (Option Value)} {kV4 dc4 pm4 cd4 ct4 : Value} {f5 : Addr} {oc5 : Value} {od5 an5 : Option Addr} {sl5 : Array (Option Value)} {kV5 dc5 pm5 cd5 ct5 : Value} {f6 : Addr} {oc6 : Value} {od6 an6 : Option Addr} {sl6 : Array (Option Value)} {kV6 dc6 pm6 cd6 ct6 : Value} {f7 : Addr} {oc7 : Value} {od7 an7 : Option Addr} {sl7 : Array (Option Value)} {kV7 dc7 pm7 cd7 ct7 : Value} {f8 : Addr} {oc8 : Value} {od8 an8 : Option Addr} {sl8 : Array (Option Value)} {kV8 dc8 pm8 cd8 ct8 : Value} {f9 : Addr} {oc9 : Value} {od9 an9 : Option Addr} {sl9 : Array (Option Value)} {kV9 dc9 pm9 cd9 ct9 : Value} {f10 : Addr} {oc10 : Value} {od10 an10 : Option Addr} {sl10 : Array (Option Value)} {kV10 dc10 pm10 cd10 ct10 : Value} {f11 : Addr} {oc11 : Value} {od11 an11 : Option Addr} {sl11 : Array (Option Value)} {kV11 dc11 pm11 cd11 ct11 : Value} {f12 : Addr} {oc12 : Value} {od12 an12 : Option Addr} {sl12 : Array (Option Value)} {kV12 dc12 pm12 cd12 ct12 : Value} {f13 : Addr} {oc13 : Value} {od13 an13 : Option Addr} {sl13 : Array (Option Value)} {kV13 dc13 pm13 cd13 ct13 : Value} {f14 : Addr} {oc14 : Value} {od14 an14 : Option Addr} {sl14 : Array (Option Value)} {kV14 dc14 pm14 cd14 ct14 : Value} {f15 : Addr} {oc15 : Value} {od15 an15 : Option Addr} {sl15 : Array (Option Value)} {kV15 dc15 pm15 cd15 ct15 : Value} {f16 : Addr} {oc16 : Value} {od16 an16 : Option Addr} {sl16 : Array (Option Value)} {kV16 dc16 pm16 cd16 ct16 : Value} {f17 : Addr} {oc17 : Value} {od17 an17 : Option Addr} {sl17 : Array (Option Value)} {kV17 dc17 pm17 cd17 ct17 : Value} {f18 : Addr} {oc18 : Value} {od18 an18 : Option Addr} {sl18 : Array (Option Value)} {kV18 dc18 pm18 cd18 ct18 : Value} {f19 : Addr} {oc19 : Value} {od19 an19 : Option Addr} {sl19 : Array (Option Value)} {kV19 dc19 pm19 cd19 ct19 : Value} {f20 : Addr} {oc20 : Value} {od20 an20 : Option Addr} {sl20 : Array (Option Value)} {kV20 dc20 pm20 cd20 ct20 : Value} {f21 : Addr} {oc21 : Value} {od21 an21 : Option Addr} {sl21 : Array (Option Value)} {kV21 dc21 pm21 cd21 ct21 : Value} {f22 : Addr} {oc22 : Value} {od22 an22 : Option Addr} {sl22 : Array (Option Value)} {kV22 dc22 pm22 cd22 ct22 : Value} {f23 : Addr} {oc23 : Value} {od23 an23 : Option Addr} {sl23 : Array (Option Value)} {kV23 dc23 pm23 cd23 ct23 : Value} {f24 : Addr} {oc24 : Value} {od24 an24 : Option Addr} {sl24 : Array (Option Value)} {kV24 dc24 pm24 cd24 ct24 : Value} {t0 : Tok} {t1 : Tok} {t2 : Tok} {t3 : Tok}
    (a0 : PySem.W.nsIn K mainGlobals "is_number" = some (some (.ref f0)))
    (l0 : K.lookup f0 = some ⟨oc0, od0, .func (PySem.W.fnOf "is_number" "is_number" (defArgs s0) (defBody s0) (defScope s0) .none kV0 dc0 pm0 an0 cd0 ct0), sl0⟩)
    (c0 : PySem.W.codeIn K cd0 "is_number" = true)
    (k0 : PySem.W.keepIn K (.ref f0) = true)
    (a1 : PySem.W.nsIn K mainGlobals "check_size" = some (some (.ref f1)))
    (l1 : K.lookup f1 = some ⟨oc1, od1, .func (PySem.W.fnOf "check_size" "check_size" (defArgs s1) (defBody s1) (defScope s1) .none kV1 dc1 pm1 an1 cd1 ct1), sl1⟩)
    (c1 : PySem.W.codeIn K cd1 "check_size" = true)
    (k1 : PySem.W.keepIn K (.ref f1) = true)
    (a2 : PySem.W.nsIn K mainGlobals "check_counts" = some (some (.ref f2)))
    (l2 : K.lookup f2 = some ⟨oc2, od2, .func (PySem.W.fnOf "check_counts" "check_counts" (defArgs s2) (defBody s2) (defScope s2) .none kV2 dc2 pm2 an2 cd2 ct2), sl2⟩)
    (c2 : PySem.W.codeIn K cd2 "check_counts" = true)
    (k2 : PySem.W.keepIn K (.ref f2) = true)
    (a3 : PySem.W.nsIn K mainGlobals "check_length" = some (some (.ref f3)))
    (l3 : K.lookup f3 = some ⟨oc3, od3, .func (PySem.W.fnOf "check_length" "check_length" (defArgs s3) (defBody s3) (defScope s3) .none kV3 dc3 pm3 an3 cd3 ct3), sl3⟩)
    (c3 : PySem.W.codeIn K cd3 "check_length" = true)
    (k3 : PySem.W.keepIn K (.ref f3) = true)
    (a4 : PySem.W.nsIn K mainGlobals "moebius" = some (some (.ref f4)))
    (l4 : K.lookup f4 = some ⟨oc4, od4, .func (PySem.W.fnOf "moebius" "moebius" (defArgs s4) (defBody s4) (defScope s4) .none kV4 dc4 pm4 an4 cd4 ct4), sl4⟩)
    (c4 : PySem.W.codeIn K cd4 "moebius" = true)
    (k4 : PySem.W.keepIn K (.ref f4) = true)
    (a5 : PySem.W.nsIn K mainGlobals "primitive_part" = some (some (.ref f5)))
    (l5 : K.lookup f5 = some ⟨oc5, od5, .func (PySem.W.fnOf "primitive_part" "primitive_part" (defArgs s5) (defBody s5) (defScope s5) .none kV5 dc5 pm5 an5 cd5 ct5), sl5⟩)
    (c5 : PySem.W.codeIn K cd5 "primitive_part" = true)
    (k5 : PySem.W.keepIn K (.ref f5) = true)
    (a6 : PySem.W.nsIn K mainGlobals "powers_of" = some (some (.ref f6)))
    (l6 : K.lookup f6 = some ⟨oc6, od6, .func (PySem.W.fnOf "powers_of" "powers_of" (defArgs s6) (defBody s6) (defScope s6) .none kV6 dc6 pm6 an6 cd6 ct6), sl6⟩)
    (c6 : PySem.W.codeIn K cd6 "powers_of" = true)
    (k6 : PySem.W.keepIn K (.ref f6) = true)
    (a7 : PySem.W.nsIn K mainGlobals "necklaces_of" = some (some (.ref f7)))
    (l7 : K.lookup f7 = some ⟨oc7, od7, .func (PySem.W.fnOf "necklaces_of" "necklaces_of" (defArgs s7) (defBody s7) (defScope s7) .none kV7 dc7 pm7 an7 cd7 ct7), sl7⟩)
    (c7 : PySem.W.codeIn K cd7 "necklaces_of" = true)
    (k7 : PySem.W.keepIn K (.ref f7) = true)
    (a8 : PySem.W.nsIn K mainGlobals "turns_of" = some (some (.ref f8)))
    (l8 : K.lookup f8 = some ⟨oc8, od8, .func (PySem.W.fnOf "turns_of" "turns_of" (defArgs s8) (defBody s8) (defScope s8) .none kV8 dc8 pm8 an8 cd8 ct8), sl8⟩)
    (c8 : PySem.W.codeIn K cd8 "turns_of" = true)
    (k8 : PySem.W.keepIn K (.ref f8) = true)
    (a9 : PySem.W.nsIn K mainGlobals "word_necklaces_of" = some (some (.ref f9)))
    (l9 : K.lookup f9 = some ⟨oc9, od9, .func (PySem.W.fnOf "word_necklaces_of" "word_necklaces_of" (defArgs s9) (defBody s9) (defScope s9) .none kV9 dc9 pm9 an9 cd9 ct9), sl9⟩)
    (c9 : PySem.W.codeIn K cd9 "word_necklaces_of" = true)
    (k9 : PySem.W.keepIn K (.ref f9) = true)
    (a10 : PySem.W.nsIn K mainGlobals "failing" = some (some (.ref f10)))
    (l10 : K.lookup f10 = some ⟨oc10, od10, .func (PySem.W.fnOf "failing" "failing" (defArgs s10) (defBody s10) (defScope s10) .none kV10 dc10 pm10 an10 cd10 ct10), sl10⟩)
    (c10 : PySem.W.codeIn K cd10 "failing" = true)
    (k10 : PySem.W.keepIn K (.ref f10) = true)
    (a11 : PySem.W.nsIn K mainGlobals "with_more" = some (some (.ref f11)))
    (l11 : K.lookup f11 = some ⟨oc11, od11, .func (PySem.W.fnOf "with_more" "with_more" (defArgs s11) (defBody s11) (defScope s11) .none kV11 dc11 pm11 an11 cd11 ct11), sl11⟩)
    (c11 : PySem.W.codeIn K cd11 "with_more" = true)
    (k11 : PySem.W.keepIn K (.ref f11) = true)
    (a12 : PySem.W.nsIn K mainGlobals "more_of" = some (some (.ref f12)))
    (l12 : K.lookup f12 = some ⟨oc12, od12, .func (PySem.W.fnOf "more_of" "more_of" (defArgs s12) (defBody s12) (defScope s12) .none kV12 dc12 pm12 an12 cd12 ct12), sl12⟩)
    (c12 : PySem.W.codeIn K cd12 "more_of" = true)
    (k12 : PySem.W.keepIn K (.ref f12) = true)
    (a13 : PySem.W.nsIn K mainGlobals "necklaces" = some (some (.ref f13)))
    (l13 : K.lookup f13 = some ⟨oc13, od13, .func (PySem.W.fnOf "necklaces" "necklaces" (defArgs s13) (defBody s13) (defScope s13) .none kV13 dc13 pm13 an13 cd13 ct13), sl13⟩)
    (c13 : PySem.W.codeIn K cd13 "necklaces" = true)
    (k13 : PySem.W.keepIn K (.ref f13) = true)
    (a14 : PySem.W.nsIn K mainGlobals "word_necklaces" = some (some (.ref f14)))
    (l14 : K.lookup f14 = some ⟨oc14, od14, .func (PySem.W.fnOf "word_necklaces" "word_necklaces" (defArgs s14) (defBody s14) (defScope s14) .none kV14 dc14 pm14 an14 cd14 ct14), sl14⟩)
    (c14 : PySem.W.codeIn K cd14 "word_necklaces" = true)
    (k14 : PySem.W.keepIn K (.ref f14) = true)
    (a15 : PySem.W.nsIn K mainGlobals "check_both" = some (some (.ref f15)))
    (l15 : K.lookup f15 = some ⟨oc15, od15, .func (PySem.W.fnOf "check_both" "check_both" (defArgs s15) (defBody s15) (defScope s15) .none kV15 dc15 pm15 an15 cd15 ct15), sl15⟩)
    (c15 : PySem.W.codeIn K cd15 "check_both" = true)
    (k15 : PySem.W.keepIn K (.ref f15) = true)
    (a16 : PySem.W.nsIn K mainGlobals "first_failing" = some (some (.ref f16)))
    (l16 : K.lookup f16 = some ⟨oc16, od16, .func (PySem.W.fnOf "first_failing" "first_failing" (defArgs s16) (defBody s16) (defScope s16) .none kV16 dc16 pm16 an16 cd16 ct16), sl16⟩)
    (c16 : PySem.W.codeIn K cd16 "first_failing" = true)
    (k16 : PySem.W.keepIn K (.ref f16) = true)
    (a17 : PySem.W.nsIn K mainGlobals "more_words" = some (some (.ref f17)))
    (l17 : K.lookup f17 = some ⟨oc17, od17, .func (PySem.W.fnOf "more_words" "more_words" (defArgs s17) (defBody s17) (defScope s17) .none kV17 dc17 pm17 an17 cd17 ct17), sl17⟩)
    (c17 : PySem.W.codeIn K cd17 "more_words" = true)
    (k17 : PySem.W.keepIn K (.ref f17) = true)
    (a18 : PySem.W.nsIn K mainGlobals "extended" = some (some (.ref f18)))
    (l18 : K.lookup f18 = some ⟨oc18, od18, .func (PySem.W.fnOf "extended" "extended" (defArgs s18) (defBody s18) (defScope s18) .none kV18 dc18 pm18 an18 cd18 ct18), sl18⟩)
    (c18 : PySem.W.codeIn K cd18 "extended" = true)
    (k18 : PySem.W.keepIn K (.ref f18) = true)
    (a19 : PySem.W.nsIn K mainGlobals "_law_stream" = some (some (.ref f19)))
    (l19 : K.lookup f19 = some ⟨oc19, od19, .func (PySem.W.fnOf "_law_stream" "_law_stream" (defArgs s19) (defBody s19) (defScope s19) .none kV19 dc19 pm19 an19 cd19 ct19), sl19⟩)
    (c19 : PySem.W.codeIn K cd19 "_law_stream" = true)
    (k19 : PySem.W.keepIn K (.ref f19) = true)
    (a20 : PySem.W.nsIn K mainGlobals "_law_next" = some (some (.ref f20)))
    (l20 : K.lookup f20 = some ⟨oc20, od20, .func (PySem.W.fnOf "_law_next" "_law_next" (defArgs s20) (defBody s20) (defScope s20) .none kV20 dc20 pm20 an20 cd20 ct20), sl20⟩)
    (c20 : PySem.W.codeIn K cd20 "_law_next" = true)
    (k20 : PySem.W.keepIn K (.ref f20) = true)
    (a21 : PySem.W.nsIn K mainGlobals "_law_is_integer" = some (some (.ref f21)))
    (l21 : K.lookup f21 = some ⟨oc21, od21, .func (PySem.W.fnOf "_law_is_integer" "_law_is_integer" (defArgs s21) (defBody s21) (defScope s21) .none kV21 dc21 pm21 an21 cd21 ct21), sl21⟩)
    (c21 : PySem.W.codeIn K cd21 "_law_is_integer" = true)
    (k21 : PySem.W.keepIn K (.ref f21) = true)
    (a22 : PySem.W.nsIn K mainGlobals "_law_more" = some (some (.ref f22)))
    (l22 : K.lookup f22 = some ⟨oc22, od22, .func (PySem.W.fnOf "_law_more" "_law_more" (defArgs s22) (defBody s22) (defScope s22) .none kV22 dc22 pm22 an22 cd22 ct22), sl22⟩)
    (c22 : PySem.W.codeIn K cd22 "_law_more" = true)
    (k22 : PySem.W.keepIn K (.ref f22) = true)
    (a23 : PySem.W.nsIn K mainGlobals "_law_fails" = some (some (.ref f23)))
    (l23 : K.lookup f23 = some ⟨oc23, od23, .func (PySem.W.fnOf "_law_fails" "_law_fails" (defArgs s23) (defBody s23) (defScope s23) .none kV23 dc23 pm23 an23 cd23 ct23), sl23⟩)
    (c23 : PySem.W.codeIn K cd23 "_law_fails" = true)
    (k23 : PySem.W.keepIn K (.ref f23) = true)
    (a24 : PySem.W.nsIn K mainGlobals "law" = some (some (.ref f24)))
    (l24 : K.lookup f24 = some ⟨oc24, od24, .func (PySem.W.fnOf "law" "law" (defArgs s24) (defBody s24) (defScope s24) .none kV24 dc24 pm24 an24 cd24 ct24), sl24⟩)
    (c24 : PySem.W.codeIn K cd24 "law" = true)
    (k24 : PySem.W.keepIn K (.ref f24) = true)
    (hG0 : PySem.W.nsIn K mainGlobals "MOST_SIZE" = some (some (.int 3 t0)))
    (hG1 : PySem.W.nsIn K mainGlobals "MOST_COUNTS" = some (some (.int 8 t1)))
    (hG2 : PySem.W.nsIn K mainGlobals "MOST_COUNT" = some (some (.int 1000 t2)))
    (hG3 : PySem.W.nsIn K mainGlobals "MOST_LENGTH" = some (some (.int 12 t3)))
    (z_len : PySem.W.nsIn K mainGlobals "len" = some none)
    (z_abs : PySem.W.nsIn K mainGlobals "abs" = some none)
    (z_int : PySem.W.nsIn K mainGlobals "int" = some none)
    (z_tuple : PySem.W.nsIn K mainGlobals "tuple" = some none)
    (z_list : PySem.W.nsIn K mainGlobals "list" = some none)
    (z_sorted : PySem.W.nsIn K mainGlobals "sorted" = some none)
    (z_all : PySem.W.nsIn K mainGlobals "all" = some none)
    (z_any : PySem.W.nsIn K mainGlobals "any" = some none)
    (z_sum : PySem.W.nsIn K mainGlobals "sum" = some none)
    (z_max : PySem.W.nsIn K mainGlobals "max" = some none)
    (z_min : PySem.W.nsIn K mainGlobals "min" = some none)
    (z_str : PySem.W.nsIn K mainGlobals "str" = some none)
    (z_bool : PySem.W.nsIn K mainGlobals "bool" = some none)
    (z_dict : PySem.W.nsIn K mainGlobals "dict" = some none)
    (z_isinstance : PySem.W.nsIn K mainGlobals "isinstance" = some none)
    (z_range : PySem.W.nsIn K mainGlobals "range" = some none)
    (z_enumerate : PySem.W.nsIn K mainGlobals "enumerate" = some none)
    (z_zip : PySem.W.nsIn K mainGlobals "zip" = some none)
    : Pg nm T K mg where
  defs := fun f x h => by
    match f, h with
    | 0, h => cases h; exact dk0 X G a0 l0 c0 k0
    | 1, h => cases h; exact dk1 X G a1 l1 c1 k1
    | 2, h => cases h; exact dk2 X G a2 l2 c2 k2
    | 3, h => cases h; exact dk3 X G a3 l3 c3 k3
    | 4, h => cases h; exact dk4 X G a4 l4 c4 k4
    | 5, h => cases h; exact dk5 X G a5 l5 c5 k5
    | 6, h => cases h; exact dk6 X G a6 l6 c6 k6
    | 7, h => cases h; exact dk7 X G a7 l7 c7 k7
    | 8, h => cases h; exact dk8 X G a8 l8 c8 k8
    | 9, h => cases h; exact dk9 X G a9 l9 c9 k9
    | 10, h => cases h; exact dk10 X G a10 l10 c10 k10
    | 11, h => cases h; exact dk11 X G a11 l11 c11 k11
    | 12, h => cases h; exact dk12 X G a12 l12 c12 k12
    | 13, h => cases h; exact dk13 X G a13 l13 c13 k13
    | 14, h => cases h; exact dk14 X G a14 l14 c14 k14
    | 15, h => cases h; exact dk15 X G a15 l15 c15 k15
    | 16, h => cases h; exact dk16 X G a16 l16 c16 k16
    | 17, h => cases h; exact dk17 X G a17 l17 c17 k17
    | 18, h => cases h; exact dk18 X G a18 l18 c18 k18
    | 19, h => cases h; exact dk19 X G a19 l19 c19 k19
    | 20, h => cases h; exact dk20 X G a20 l20 c20 k20
    | 21, h => cases h; exact dk21 X G a21 l21 c21 k21
    | 22, h => cases h; exact dk22 X G a22 l22 c22 k22
    | 23, h => cases h; exact dk23 X G a23 l23 c23 k23
    | 24, h => cases h; exact dk24 X G a24 l24 c24 k24
    | _ + 25, h => cases h
  glb := fun g x p h1 h2 => by
    match g, h1, h2 with
    | 0, h1, h2 => cases h1; cases h2; exact ⟨.int 3, _, PySem.W.mg_of X G hG0, ⟨_, rfl⟩, fun _ _ _ _ _ => .int _⟩
    | 1, h1, h2 => cases h1; cases h2; exact ⟨.int 8, _, PySem.W.mg_of X G hG1, ⟨_, rfl⟩, fun _ _ _ _ _ => .int _⟩
    | 2, h1, h2 => cases h1; cases h2; exact ⟨.int 1000, _, PySem.W.mg_of X G hG2, ⟨_, rfl⟩, fun _ _ _ _ _ => .int _⟩
    | 3, h1, h2 => cases h1; cases h2; exact ⟨.int 12, _, PySem.W.mg_of X G hG3, ⟨_, rfl⟩, fun _ _ _ _ _ => .int _⟩
    | _ + 4, h1, h2 => cases h1
  bi := fun b => by cases b <;> first | exact PySem.W.mg_none_of X G z_len | exact PySem.W.mg_none_of X G z_abs | exact PySem.W.mg_none_of X G z_int | exact PySem.W.mg_none_of X G z_tuple | exact PySem.W.mg_none_of X G z_list | exact PySem.W.mg_none_of X G z_sorted | exact PySem.W.mg_none_of X G z_all | exact PySem.W.mg_none_of X G z_any | exact PySem.W.mg_none_of X G z_sum | exact PySem.W.mg_none_of X G z_max | exact PySem.W.mg_none_of X G z_min | exact PySem.W.mg_none_of X G z_str
  ty := fun b => by cases b <;> first | exact PySem.W.mg_none_of X G z_int | exact PySem.W.mg_none_of X G z_bool | exact PySem.W.mg_none_of X G z_str | exact PySem.W.mg_none_of X G z_tuple | exact PySem.W.mg_none_of X G z_list | exact PySem.W.mg_none_of X G z_dict
  isi := PySem.W.mg_none_of X G z_isinstance
  rng := PySem.W.mg_none_of X G z_range
  enm := PySem.W.mg_none_of X G z_enumerate
  zip := PySem.W.mg_none_of X G z_zip
/-- what is to be shown without the program in sight -/
def Spec (k : Nat) : Prop := ∀ ns : List Int, ns.length ≤ 63 → ∃ η, D.evD T k 24 [.scr ns] [] = .ok (.bl true) η
def fuel : Nat := 7
theorem spec : Spec fuel := spec0
end L
open PySem PySem.W PyProof.Rows
set_option maxHeartbeats 0 in
theorem PySem.Challenge.cw_syncedwords_k47_whole_more_words_and_ext_holds : PySem.Challenge.rw_syncedwords_k47_whole_more_words_and_ext.Holds := by
  w_on; o_law; k_head; (case hw => w_witness2)
  k_fill
  refine DS.end_of (l := PySem.Challenge.rw_syncedwords_k47_whole_more_words_and_ext) (T := L.T) (M := L.nm) (f := 24) (k := L.fuel) (x := "_law_script") rfl (by decide) rfl (by decide) (fun w h Y => PySem.W.kIn_of Y) rfl rfl L.spec ?F
  case F =>
    intro w mg fa h KX G hmg
    refine' L.pg_mk KX G ?a0 ?l0 ?c0 ?k0 ?a1 ?l1 ?c1 ?k1 ?a2 ?l2 ?c2 ?k2 ?a3 ?l3 ?c3 ?k3 ?a4 ?l4 ?c4 ?k4 ?a5 ?l5 ?c5 ?k5 ?a6 ?l6 ?c6 ?k6 ?a7 ?l7 ?c7 ?k7 ?a8 ?l8 ?c8 ?k8 ?a9 ?l9 ?c9 ?k9 ?a10 ?l10 ?c10 ?k10 ?a11 ?l11 ?c11 ?k11 ?a12 ?l12 ?c12 ?k12 ?a13 ?l13 ?c13 ?k13 ?a14 ?l14 ?c14 ?k14 ?a15 ?l15 ?c15 ?k15 ?a16 ?l16 ?c16 ?k16 ?a17 ?l17 ?c17 ?k17 ?a18 ?l18 ?c18 ?k18 ?a19 ?l19 ?c19 ?k19 ?a20 ?l20 ?c20 ?k20 ?a21 ?l21 ?c21 ?k21 ?a22 ?l22 ?c22 ?k22 ?a23 ?l23 ?c23 ?k23 ?a24 ?l24 ?c24 ?k24 ?hG0 ?hG1 ?hG2 ?hG3 ?z_len ?z_abs ?z_int ?z_tuple ?z_list ?z_sorted ?z_all ?z_any ?z_sum ?z_max ?z_min ?z_str ?z_bool ?z_dict ?z_isinstance ?z_range ?z_enumerate ?z_zip
    (case a0 => k_is)
    (case l0 => k_is)
    (case c0 => k_is)
    (case k0 => k_is)
    (case a1 => k_is)
    (case l1 => k_is)
    (case c1 => k_is)
    (case k1 => k_is)
    (case a2 => k_is)
    (case l2 => k_is)
    (case c2 => k_is)
    (case k2 => k_is)
    (case a3 => k_is)
    (case l3 => k_is)
    (case c3 => k_is)
    (case k3 => k_is)
    (case a4 => k_is)
    (case l4 => k_is)
    (case c4 => k_is)
    (case k4 => k_is)
    (case a5 => k_is)
    (case l5 => k_is)
    (case c5 => k_is)
    (case k5 => k_is)
    (case a6 => k_is)
    (case l6 => k_is)
    (case c6 => k_is)
    (case k6 => k_is)
    (case a7 => k_is)
    (case l7 => k_is)
    (case c7 => k_is)
    (case k7 => k_is)
    (case a8 => k_is)
    (case l8 => k_is)
    (case c8 => k_is)
    (case k8 => k_is)
    (case a9 => k_is)
    (case l9 => k_is)
    (case c9 => k_is)
    (case k9 => k_is)
    (case a10 => k_is)
    (case l10 => k_is)
    (case c10 => k_is)
    (case k10 => k_is)
    (case a11 => k_is)
    (case l11 => k_is)
    (case c11 => k_is)
    (case k11 => k_is)
    (case a12 => k_is)
    (case l12 => k_is)
    (case c12 => k_is)
    (case k12 => k_is)
    (case a13 => k_is)
    (case l13 => k_is)
    (case c13 => k_is)
    (case k13 => k_is)
    (case a14 => k_is)
    (case l14 => k_is)
    (case c14 => k_is)
    (case k14 => k_is)
    (case a15 => k_is)
    (case l15 => k_is)
    (case c15 => k_is)
    (case k15 => k_is)
    (case a16 => k_is)
    (case l16 => k_is)
    (case c16 => k_is)
    (case k16 => k_is)
    (case a17 => k_is)
    (case l17 => k_is)
    (case c17 => k_is)
    (case k17 => k_is)
    (case a18 => k_is)
    (case l18 => k_is)
    (case c18 => k_is)
    (case k18 => k_is)
    (case a19 => k_is)
    (case l19 => k_is)
    (case c19 => k_is)
    (case k19 => k_is)
    (case a20 => k_is)
    (case l20 => k_is)
    (case c20 => k_is)
    (case k20 => k_is)
    (case a21 => k_is)
    (case l21 => k_is)
    (case c21 => k_is)
    (case k21 => k_is)
    (case a22 => k_is)
    (case l22 => k_is)
    (case c22 => k_is)
    (case k22 => k_is)
    (case a23 => k_is)
    (case l23 => k_is)
    (case c23 => k_is)
    (case k23 => k_is)
    (case a24 => k_is)
    (case l24 => k_is)
    (case c24 => k_is)
    (case k24 => k_is)
    (case hG0 => k_is)
    (case hG1 => k_is)
    (case hG2 => k_is)
    (case hG3 => k_is)
    (case z_len => k_is)
    (case z_abs => k_is)
    (case z_int => k_is)
    (case z_tuple => k_is)
    (case z_list => k_is)
    (case z_sorted => k_is)
    (case z_all => k_is)
    (case z_any => k_is)
    (case z_sum => k_is)
    (case z_max => k_is)
    (case z_min => k_is)
    (case z_str => k_is)
    (case z_bool => k_is)
    (case z_dict => k_is)
    (case z_isinstance => k_is)
    (case z_range => k_is)
    (case z_enumerate => k_is)
    (case z_zip => k_is)
