import PyProof.Rows.All
import Wide.All
import OpenK.AllK
import Wide.FinOn
import HandS.ForMost
import HandS.Exc
import HandS.TupAny
import HandS.Deep
import HandS.TupMul
import HandS.Style
import HandS.Flow
import HandS.Defaults
import HandS.ExcOwn
import HandS.RaiseMore
import PyProof.ReprLen
import HandS.Iter
import HandS.Comp
import HandS.Words
import HandS.HeadEnd
import HandS.HeadHook2
import HandS.Head0
import HandS.Head1
import HandS.Head2
import PySem.Challenge.RW_sheetturn_k54_numbers_in_forms
section
set_option autoImplicit false
set_option linter.all false
/-! A small language of pure values and few changing objects, and its evaluator: total functions, by the text's own shape. -/
namespace Sx

/-- a text: its codes -/
abbrev Tx := List Nat

/-- data: what is never changed -/
inductive PV where
  | non | bl (b : Bool) | int (i : Int) | str (s : Tx) | tup (xs : List PV) | lst (xs : List PV)

/-- what a name may hold: data, an object that may change (by its logical place), a def, a class, a dict of texts that is only read -/
inductive W where
  | pv (p : PV) | ref (n : Nat) | fn (f : Nat) | cl (c : Nat) | dic (kvs : List (Tx × PV)) | obj (c : Nat) (fs : List (Nat × W))

inductive LK where
  | int (i : Int) | str (s : Tx)
  deriving DecidableEq

/-- an object that may change -/
inductive LO where
  | dead | lst (xs : List W) | dic (kvs : List (LK × W)) | ins (c : Nat) (fs : List (Nat × W))

abbrev LH := List LO
abbrev Sl := List (Option W)

/-- an exception of an own class, its fields -/
structure Xn where
  cls : Nat
  fs : List (Nat × W)

inductive R (α : Type) where
  | ok (a : α) (h : LH) | ex (x : Xn) (h : LH) | no

inductive SR where
  | nx (ρ : Sl) (h : LH) | rt (w : W) (h : LH) | ct (ρ : Sl) (h : LH) | ex (x : Xn) (ρ : Sl) (h : LH) | no

def R.bind {α β : Type} (r : R α) (f : α → LH → R β) : R β :=
  match r with
  | .ok a h => f a h
  | .ex x h => .ex x h
  | .no => .no

inductive Bop where
  | add | sub | mul | fdv | mod | pow
inductive Cop where
  | eq | ne | lt | le | gt | ge | inn | nin | isN | nisN
inductive Prim where
  | len | abs | int | str | lst | tup | sorted | all | any | sum | min | max
  | max2 | setLen | setSorted | isStr | isInt | isBool | isTup | ord | dict
inductive BM where
  | append | upper | lower | join | find | find2 | get | strip | count | index | pop | replace | startsAt | items

mutual
inductive E where
  | var (i : Nat) | glob (g : Nat) | cst (p : PV)
  | tup (es : Es) | lst (m : Bool) (es : Es)
  | bin (o : Bop) (m : Bool) (a b : E) | neg (a : E) | ntt (a : E) | nd (a b : E) | orr (a b : E)
  | cmp (o : Cop) (a b : E) | chain (o p : Cop) (a b c : E) | like (a b : E)
  | ite (t a b : E)
  | ix (a b : E) | slc (m : Bool) (a : E) (lo hi : Oe) | rev (m : Bool) (a : E)
  | call (pf : Bool) (f : Nat) (es : Es)
  | meth (pf : Bool) (f : Nat) (m : Nat) (o : E) (es : Es)
  | make (c : Nat) (f : Nat) (es : Es)
  | prim (p : Prim) (m : Bool) (es : Es)
  | bm (p : BM) (m : Bool) (o : E) (es : Es)
  | att (o : E) (f : Nat)
  | lc (m : Bool) (own : List Nat) (t : Tg) (it : It) (c : Oe) (e : E)
  | lc2 (m : Bool) (own : List Nat) (t : Tg) (it : It) (c : Oe) (own2 : List Nat) (t2 : Tg) (it2 : It) (c2 : Oe) (e : E)
  | frz (e : E)
inductive Es where
  | nil | cons (e : E) (es : Es)
inductive Oe where
  | no | so (e : E)
/-- what a for walks -/
inductive It where
  | seq (e : E) | rng1 (a : E) | rng2 (a b : E) | rng3 (a b c : E) | enm (e : E) | enm1 (e k : E) | zip (a b : E) | its (e : E)
inductive Tg where
  | nm (i : Nat) | tup (ts : Tgs) | sub (o i : E) | att (o : E) (f : Nat)
inductive Tgs where
  | nil | cons (t : Tg) (ts : Tgs)
end

mutual
inductive S where
  | set (t : Tg) (e : E) | par2 (i j : Nat) (a b : E) | par3 (i j k : Nat) (a b c : E)
  | expr (e : E) | sif (t : E) (a b : Ss) | for_ (t : Tg) (it : It) (b : Ss) | whl (n : Nat) (t : E) (b : Ss)
  | ret (e : E) | retN | pass | cont | raise (c : Nat) (f : Nat) (es : Es) | tryX (b : Ss) (c : Nat) (v : Option Nat) (hd : Ss)
inductive Ss where
  | nil | cons (s : S) (ss : Ss)
end

/-! ### numbers and texts, by their own shape (for the kernel) -/
def ilt : Int → Int → Bool
  | .ofNat a, .ofNat b => Nat.blt a b
  | .negSucc _, .ofNat _ => true
  | .ofNat _, .negSucc _ => false
  | .negSucc a, .negSucc b => Nat.blt b a
def ile (i j : Int) : Bool := !ilt j i
def ieq : Int → Int → Bool
  | .ofNat a, .ofNat b => Nat.beq a b
  | .negSucc a, .negSucc b => Nat.beq a b
  | _, _ => false
def iadd : Int → Int → Int
  | .ofNat a, .ofNat b => .ofNat (Nat.add a b)
  | a, b => a + b
def isub : Int → Int → Int
  | .ofNat a, .ofNat b => match Nat.ble b a with
    | true => .ofNat (Nat.sub a b)
    | false => .negSucc (Nat.sub (Nat.sub b a) 1)
  | a, b => a - b
def imul : Int → Int → Int
  | .ofNat a, .ofNat b => .ofNat (Nat.mul a b)
  | a, b => a * b
def idiv : Int → Int → Int
  | .ofNat a, .ofNat b => .ofNat (Nat.div a b)
  | a, b => a / b
def imod : Int → Int → Int
  | .ofNat a, .ofNat b => .ofNat (Nat.mod a b)
  | a, b => a % b
def ineg : Int → Int
  | .ofNat 0 => .ofNat 0
  | .ofNat (n + 1) => .negSucc n
  | .negSucc n => .ofNat (n + 1)
def beqB : Bool → Bool → Bool
  | true, b => b
  | false, b => !b
def txEq : Tx → Tx → Bool
  | [], [] => true
  | a :: x, b :: y => match Nat.beq a b with
    | true => txEq x y
    | false => false
  | _, _ => false
def nth {α : Type} : List α → Nat → Option α
  | [], _ => none
  | x :: r, n => match n with
    | 0 => some x
    | n + 1 => nth r n
def setN {α : Type} : List α → Nat → α → List α
  | [], _, _ => []
  | x :: r, n, y => match n with
    | 0 => y :: r
    | n + 1 => x :: setN r n y
def b2n : Bool → Int
  | true => .ofNat 1
  | false => .ofNat 0

/-! ### data -/
mutual
def PV.beq : PV → PV → Bool
  | .non, .non => true
  | .bl a, .bl b => beqB a b
  | .int i, .int j => ieq i j
  | .str x, .str y => txEq x y
  | .tup xs, .tup ys => PV.beqs xs ys
  | .lst xs, .lst ys => PV.beqs xs ys
  | _, _ => false
def PV.beqs : List PV → List PV → Bool
  | [], [] => true
  | x :: xs, y :: ys => match PV.beq x y with
    | true => PV.beqs xs ys
    | false => false
  | _, _ => false
end

mutual
/-- == of Python -/
def PV.eqv : PV → PV → Bool
  | .non, .non => true
  | .bl a, .bl b => beqB a b
  | .bl a, .int j => ieq (b2n a) j
  | .int i, .bl b => ieq i (b2n b)
  | .int i, .int j => ieq i j
  | .str x, .str y => txEq x y
  | .tup xs, .tup ys => PV.eqvs xs ys
  | .lst xs, .lst ys => PV.eqvs xs ys
  | _, _ => false
def PV.eqvs : List PV → List PV → Bool
  | [], [] => true
  | x :: xs, y :: ys => match PV.eqv x y with
    | true => PV.eqvs xs ys
    | false => false
  | _, _ => false
end

/-- nested at most n deep -/
def PV.dep : Nat → PV → Bool
  | _, .non | _, .bl _ | _, .int _ | _, .str _ => true
  | 0, .tup _ | 0, .lst _ => false
  | n + 1, .tup xs => xs.all (PV.dep n)
  | n + 1, .lst xs => xs.all (PV.dep n)

def line (n : Nat) : Bool := Nat.ble n 16777216

mutual
/-- at most so many signs tell it -/
def PV.rsz : PV → Nat
  | .non => 4
  | .bl _ => 5
  | .int _ => 1921
  | .str s => 10 * s.length + 2
  | .tup xs => PV.rszs xs + 3
  | .lst xs => PV.rszs xs + 3
def PV.rszs : List PV → Nat
  | [] => 0
  | x :: xs => PV.rsz x + 2 + PV.rszs xs
end
mutual
/-- its numbers can be told -/
def PV.shw : PV → Bool
  | .int i => Nat.blt (Nat.log2 i.natAbs) 1920
  | .tup xs => PV.shws xs
  | .lst xs => PV.shws xs
  | _ => true
def PV.shws : List PV → Bool
  | [] => true
  | x :: xs => match PV.shw x with
    | true => PV.shws xs
    | false => false
end
def likeOk (p : PV) : Bool := match p.dep 60 with
  | true => match p.shw with
    | true => line p.rsz
    | false => false
  | false => false

/-- the truth of a value -/
def truth : W → LH → Option Bool
  | .pv .non, _ => some false
  | .pv (.bl b), _ => some b
  | .pv (.int i), _ => some (!ieq i (.ofNat 0))
  | .pv (.str s), _ => match line s.length with
    | true => some (!s.isEmpty)
    | false => none
  | .pv (.tup xs), _ => some (!xs.isEmpty)
  | .pv (.lst xs), _ => some (!xs.isEmpty)
  | .ref n, h => match nth h n with
    | some (.lst xs) => some (!xs.isEmpty)
    | _ => none
  | _, _ => none

def R.ofO (o : Option W) (h : LH) : R W :=
  match o with
  | some w => .ok w h
  | none => .no
def R.ofP (o : Option PV) (h : LH) : R W :=
  match o with
  | some p => .ok (.pv p) h
  | none => .no

def pvsOf : List W → Option (List PV)
  | [] => some []
  | .pv p :: r => match pvsOf r with
    | some ps => some (p :: ps)
    | none => none
  | _ :: _ => none

/-- a new list: one that may change, or data -/
def newL (m : Bool) (ws : List W) (h : LH) : R W :=
  match line ws.length with
  | false => .no
  | true => match m with
    | true => .ok (.ref h.length) (h ++ [.lst ws])
    | false => match pvsOf ws with
      | some ps => .ok (.pv (.lst ps)) h
      | none => .no
def newT (ws : List W) (h : LH) : R W :=
  match line ws.length with
  | false => .no
  | true => match pvsOf ws with
    | some ps => .ok (.pv (.tup ps)) h
    | none => .no

/-- the items of a list or tuple as it stands -/
def itemsOf : W → LH → Option (List W)
  | .pv (.tup xs), _ => some (xs.map W.pv)
  | .pv (.lst xs), _ => some (xs.map W.pv)
  | .ref n, h => match nth h n with
    | some (.lst ws) => some ws
    | _ => none
  | _, _ => none

/-! ### operators -/
def small64 (i : Int) : Bool := match ilt (.negSucc 18446744073709551615) i with
  | true => ilt i (.ofNat 18446744073709551616)
  | false => false
def mulOk (i j : Int) : Bool := match small64 i with
  | true => true
  | false => small64 j
def okIf (b : Bool) (w : W) (h : LH) : R W :=
  match b with
  | true => .ok w h
  | false => .no
def isTup : W → Bool
  | .pv (.tup _) => true
  | _ => false

def bopI (o : Bop) (i j : Int) (h : LH) : R W :=
  match o with
  | .add => .ok (.pv (.int (iadd i j))) h
  | .sub => .ok (.pv (.int (isub i j))) h
  | .mul => okIf (mulOk i j) (.pv (.int (imul i j))) h
  | .fdv => okIf (ilt (.ofNat 0) j && ilt j (.ofNat 1073741824)) (.pv (.int (idiv i j))) h
  | .mod => okIf (ilt (.ofNat 0) j) (.pv (.int (imod i j))) h
  | .pow => match i, j with
    | .ofNat a, .ofNat b => okIf (Nat.blt a 1000 && Nat.ble b 1000) (.pv (.int (.ofNat (a ^ b)))) h
    | _, _ => .no
def bop (o : Bop) (m : Bool) (a b : W) (h : LH) : R W :=
  match a with
  | .pv (.int i) => match b with
    | .pv (.int j) => bopI o i j h
    | _ => .no
  | .pv (.str x) => match o, b with
    | .add, .pv (.str y) => okIf (line (x.length + y.length)) (.pv (.str (x ++ y))) h
    | .mul, .pv (.int (.ofNat k)) => okIf (Nat.ble k 100000 && Nat.ble x.length 100) (.pv (.str (List.replicate k x).flatten)) h
    | _, _ => .no
  | .pv (.tup x) => match o, b with
    | .add, .pv (.tup y) => okIf (line (x.length + y.length)) (.pv (.tup (x ++ y))) h
    | .mul, .pv (.int (.ofNat k)) => okIf (Nat.ble 2 k && Nat.ble k 1000 && Nat.ble x.length 1000 && !x.isEmpty) (.pv (.tup (List.replicate k x).flatten)) h
    | _, _ => .no
  | a => match o, isTup b with
    | .add, false => match itemsOf a h, itemsOf b h with
      | some x, some y => newL m (x ++ y) h
      | _, _ => .no
    | _, _ => .no

/-- x < y of texts -/
def txLt : Tx → Tx → Bool
  | _, [] => false
  | [], _ :: _ => true
  | a :: x, b :: y => match Nat.blt a b with
    | true => true
    | false => match Nat.blt b a with
      | true => false
      | false => txLt x y

/-- does the text stand at the front -/
def pre : Tx → Tx → Bool
  | [], _ => true
  | _ :: _, [] => false
  | a :: x, b :: y => match Nat.beq a b with
    | true => pre x y
    | false => false
/-- the first place of x in y -/
def place (x : Tx) : Tx → Nat → Option Nat
  | [], n => match x with
    | [] => some n
    | _ :: _ => none
  | b :: y, n => match pre x (b :: y) with
    | true => some n
    | false => place x y (n + 1)

def cmpI (o : Cop) (i j : Int) : Option Bool :=
  match o with
  | .lt => some (ilt i j)
  | .le => some (ile i j)
  | .gt => some (ilt j i)
  | .ge => some (ile j i)
  | _ => none
def cmpS (o : Cop) (i j : Tx) : Option Bool :=
  match o with
  | .lt => some (txLt i j)
  | .le => some (!txLt j i)
  | .gt => some (txLt j i)
  | .ge => some (!txLt i j)
  | _ => none

def isNone : W → Bool
  | .pv .non => true
  | _ => false

def dataOf : W → LH → Option PV
  | .pv p, _ => some p
  | .ref n, h => match nth h n with
    | some (.lst ws) => match pvsOf ws with
      | some ps => some (.lst ps)
      | none => none
    | _ => none
  | _, _ => none

def keyOf : PV → Option LK
  | .int i => some (.int i)
  | .str s => some (.str s)
  | _ => none
def look {κ β : Type} (eq : κ → κ → Bool) (k : κ) : List (κ × β) → Option β
  | [] => none
  | (a, b) :: r => match eq a k with
    | true => some b
    | false => look eq k r
def lkEq : LK → LK → Bool
  | .int i, .int j => ieq i j
  | .str x, .str y => txEq x y
  | _, _ => false

def anyEqv (p : PV) : List PV → Bool
  | [] => false
  | y :: r => match PV.eqv y p with
    | true => true
    | false => anyEqv p r
def inL (p : PV) (ys : List PV) : Option Bool :=
  match p.dep 60 with
  | true => some (anyEqv p ys)
  | false => none
/-- x in y -/
def inn (a b : W) (h : LH) : Option Bool :=
  match b with
  | .pv (.str y) => match a with
    | .pv (.str x) => some (place x y 0).isSome
    | _ => none
  | .pv (.tup ys) => match a with
    | .pv p => inL p ys
    | _ => none
  | .pv (.lst ys) => match a with
    | .pv p => inL p ys
    | _ => none
  | .ref n => match a with
    | .pv p => match nth h n with
      | some (.lst ws) => match pvsOf ws with
        | some ys => inL p ys
        | none => none
      | _ => none
    | _ => none
  | _ => none

/-- whether a thing is None -/
def noneW (w : W) (h : LH) : Option Bool :=
  match w with
  | .ref n => match nth h n with
    | some .dead => none
    | some _ => some false
    | none => none
  | w => some (isNone w)
def eqW (a b : W) (h : LH) : Option Bool :=
  match dataOf a h, dataOf b h with
  | some x, some y => match y.dep 60 with
    | true => some (PV.eqv x y)
    | false => match x.dep 60 with
      | true => some (PV.eqv x y)
      | false => none
  | _, _ => none
def ordW (o : Cop) (a b : W) : Option Bool :=
  match a, b with
  | .pv (.int i), .pv (.int j) => cmpI o i j
  | .pv (.str i), .pv (.str j) => cmpS o i j
  | _, _ => none
def cop (o : Cop) (a b : W) (h : LH) : Option Bool :=
  match o with
  | .isN => match b with
    | .pv .non => noneW a h
    | .pv (.bl y) => match a with
      | .pv (.bl x) => some (beqB x y)
      | _ => none
    | _ => none
  | .nisN => match b with
    | .pv .non => (noneW a h).map (!·)
    | _ => none
  | .eq => eqW a b h
  | .ne => (eqW a b h).map (!·)
  | .inn => inn a b h
  | .nin => (inn a b h).map (!·)
  | o => ordW o a b

/-! ### places, slices -/
def atIx {α : Type} (xs : List α) (i : Int) : Option α :=
  match i with
  | .ofNat n => nth xs n
  | .negSucc n => match Nat.blt n xs.length with
    | true => nth xs (xs.length - 1 - n)
    | false => none
/-- a slice's end as a place -/
def sIx (n : Nat) (d : Nat) : Option Int → Nat
  | none => d
  | some (.ofNat k) => min k n
  | some (.negSucc k) => n - (k + 1)
def cut {α : Type} (xs : List α) (lo hi : Option Int) : List α :=
  let a := sIx xs.length 0 lo
  let b := sIx xs.length xs.length hi
  (xs.drop a).take (b - a)
def ixOf (a b : W) (h : LH) : Option W :=
  match a, b with
  | .pv (.str s), .pv (.int i) => match line s.length with
    | true => (atIx s i).map fun c => .pv (.str [c])
    | false => none
  | .pv (.tup xs), .pv (.int i) => (atIx xs i).map .pv
  | .pv (.lst xs), .pv (.int i) => (atIx xs i).map .pv
  | .ref n, .pv p => match nth h n with
    | some (.lst ws) => match p with
      | .int i => atIx ws i
      | _ => none
    | _ => none
  | _, _ => none
def ixPart : W → Option (Option Int)
  | .pv (.int i) => some (some i)
  | _ => none
def sliceOf (m : Bool) (a : W) (lo hi : Option Int) (h : LH) : R W :=
  match a with
  | .pv (.str s) => okIf (line s.length) (.pv (.str (cut s lo hi))) h
  | .pv (.tup xs) => .ok (.pv (.tup (cut xs lo hi))) h
  | .pv (.lst xs) => newL m ((cut xs lo hi).map .pv) h
  | .ref n => match nth h n with
    | some (.lst ws) => newL m (cut ws lo hi) h
    | _ => .no
  | _ => .no

/-! ### built-in functions -/
def digTx (n : Nat) : Tx := (Nat.toDigits 10 n).map Char.toNat
def intTx : Int → Tx
  | .ofNat n => digTx n
  | .negSucc n => 45 :: digTx (n + 1)
def isDig (c : Nat) : Bool := Nat.ble 48 c && Nat.ble c 57
def digVal (s : Tx) : Nat := s.foldl (fun n c => n * 10 + (c - 48)) 0
def boolsOf : List W → Option (List Bool)
  | [] => some []
  | .pv (.bl b) :: r => match boolsOf r with
    | some bs => some (b :: bs)
    | none => none
  | _ :: _ => none
def intsOf : List W → Option (List Int)
  | [] => some []
  | .pv (.int b) :: r => match intsOf r with
    | some bs => some (b :: bs)
    | none => none
  | _ :: _ => none
def strsOf : List W → Option (List Tx)
  | [] => some []
  | .pv (.str b) :: r => match strsOf r with
    | some bs => some (b :: bs)
    | none => none
  | _ :: _ => none
/-- a row in order, each once -/
def insBy {α : Type} (lt : α → α → Bool) (x : α) : List α → List α
  | [] => [x]
  | y :: r => match lt x y with
    | true => x :: y :: r
    | false => match lt y x with
      | true => y :: insBy lt x r
      | false => y :: r
def setBy {α : Type} (lt : α → α → Bool) : List α → List α
  | [] => []
  | x :: r => insBy lt x (setBy lt r)
/-- the most of a row -/
def maxI (x : Int) : List Int → Int
  | [] => x
  | y :: r => match ilt x y with
    | true => maxI y r
    | false => maxI x r
def minI (x : Int) : List Int → Int
  | [] => x
  | y :: r => match ilt y x with
    | true => minI y r
    | false => minI x r
def typeIs (p : Prim) (w : W) : Option Bool :=
  match w with
  | .pv q => match p, q with
    | .isStr, .str _ => some true
    | .isInt, .int _ => some true
    | .isInt, .bl _ => some true
    | .isBool, .bl _ => some true
    | .isTup, .tup _ => some true
    | _, _ => some false
  | _ => none
def lenOf (w : W) (h : LH) : Option Nat :=
  match w with
  | .pv (.str s) => match line s.length with
    | true => some s.length
    | false => none
  | .pv (.tup xs) => some xs.length
  | .pv (.lst xs) => some xs.length
  | .ref n => match nth h n with
    | some (.lst ws) => some ws.length
    | _ => none
  | _ => none
/-- [(text, value), ..] as a dict: a later one takes the place -/
def putTx (k : Tx) (v : PV) : List (Tx × PV) → List (Tx × PV)
  | [] => [(k, v)]
  | (a, b) :: r => match txEq a k with
    | true => (a, v) :: r
    | false => (a, b) :: putTx k v r
def dictOf : List W → List (Tx × PV) → Option (List (Tx × PV))
  | [], acc => some acc
  | .pv (.tup [.str k, v]) :: r, acc => dictOf r (putTx k v acc)
  | _ :: _, _ => none

def prim (p : Prim) (m : Bool) (ws : List W) (h : LH) : R W :=
  match ws with
  | [w] => match p with
    | .len => R.ofP ((lenOf w h).map fun n => .int (.ofNat n)) h
    | .abs => match w with
      | .pv (.int i) => .ok (.pv (.int (.ofNat i.natAbs))) h
      | _ => .no
    | .int => match w with
      | .pv (.int i) => .ok (.pv (.int i)) h
      | .pv (.bl b) => .ok (.pv (.int (b2n b))) h
      | _ => .no
    | .str => match w with
      | .pv (.int i) => okIf (Nat.blt (Nat.log2 i.natAbs) 1920) (.pv (.str (intTx i))) h
      | .pv (.str s) => .ok (.pv (.str s)) h
      | _ => .no
    | .lst => match itemsOf w h with
      | some ws => newL m ws h
      | none => .no
    | .tup => match itemsOf w h with
      | some ws => newT ws h
      | none => .no
    | _ => .no
  | [a, b] => match p with
    | .max2 => match a with
      | .pv (.int i) => match b with
        | .pv (.int j) => .ok (.pv (.int (match ilt i j with
          | true => j
          | false => i))) h
        | _ => .no
      | _ => .no
    | _ => .no
  | _ => .no

/-! ### methods of built-in types -/
def upC (c : Nat) : Nat := match Nat.ble 97 c && Nat.ble c 122 with
  | true => c - 32
  | false => c
def loC (c : Nat) : Nat := match Nat.ble 65 c && Nat.ble c 90 with
  | true => c + 32
  | false => c
def ascii (s : Tx) : Bool := s.all fun c => Nat.blt c 128
def joinTx (sep : Tx) : List Tx → Tx
  | [] => []
  | [x] => x
  | x :: r => x ++ sep ++ joinTx sep r
def lens : List Tx → Nat
  | [] => 0
  | x :: r => x.length + lens r
def isStr : W → Bool
  | .pv (.str _) => true
  | _ => false
def isLst (h : LH) : W → Bool
  | .ref n => match nth h n with
    | some (.lst _) => true
    | _ => false
  | _ => false
/-- the thing is of the method's type -/
def bmTy (p : BM) (w : W) (h : LH) : Bool :=
  match p with
  | .append => isLst h w
  | .upper => isStr w
  | .lower => isStr w
  | .join => isStr w
  | .find => isStr w
  | _ => false
def bmeth (p : BM) (m : Bool) (o : W) (ws : List W) (h : LH) : R W :=
  match ws with
  | [] => match p with
    | .upper => match o with
      | .pv (.str s) => okIf (ascii s && Nat.ble s.length 5592405) (.pv (.str (s.map upC))) h
      | _ => .no
    | _ => .no
  | [w] => match p with
    | .append => match o with
      | .ref n => match nth h n with
        | some (.lst xs) => okIf (Nat.blt xs.length 16777216) (.pv .non) (setN h n (.lst (xs ++ [w])))
        | _ => .no
      | _ => .no
    | _ => .no
  | _ => .no

end Sx
end

section
set_option autoImplicit false
set_option linter.all false
namespace Sx

/-- a table by numbers -/
inductive Tree (α : Type) where
  | lf | nd (l : Tree α) (v : Option α) (r : Tree α)
def Tree.get {α : Type} : Tree α → Nat → Option α
  | .lf, _ => none
  | .nd l v r, n => match Nat.beq n 0 with
    | true => v
    | false => match Nat.beq (n % 2) 1 with
      | true => l.get (n / 2)
      | false => r.get (n / 2 - 1)

/-- a def: how many parameters, how many names, its body -/
structure Fn where
  np : Nat
  ns : Nat
  body : Ss

/-- what stands at the module's top: constants by number, defs by number -/
structure Gl where
  glob : Tree W
  fns : Tree Fn

inductive Item where
  | one (w : W) | row (ws : List W)
/-- what is walked: items that stand, or a list that is looked at again at each turn -/
inductive Wk where
  | items (ws : List Item) | live (n : Nat) (ws : List W)

mutual
def isPure : W → Bool
  | .ref _ => false
  | .obj _ fs => pureFs fs
  | _ => true
termination_by structural w => w
def pureFs : List (Nat × W) → Bool
  | [] => true
  | q :: r => match pureFd q with
    | true => pureFs r
    | false => false
termination_by structural w => w
def pureFd : Nat × W → Bool
  | (_, w) => isPure w
termination_by structural w => w
end

abbrev Call := Nat → List W → LH → R W

/-- a call; pf: the callee sees none of the caller's changing objects -/
def doCall (call : Call) (pf : Bool) (f : Nat) (ws : List W) (h : LH) : R W :=
  match pf with
  | false => call f ws h
  | true => match ws.all isPure with
    | false => .no
    | true => match call f ws [] with
      | .ok w _ => match isPure w with
        | true => .ok w h
        | false => .no
      | .ex x _ => match pureFs x.fs with
        | true => .ex x h
        | false => .no
      | .no => .no

def freeze (w : W) (h : LH) : R W :=
  match w with
  | .ref n => match nth h n with
    | some (.lst ws) => match pvsOf ws with
      | some ps => .ok (.pv (.lst ps)) (setN h n .dead)
      | none => .no
    | some (.ins c fs) => match pureFs fs with
      | true => .ok (.obj c fs) (setN h n .dead)
      | false => .no
    | _ => .no
  | _ => .no

/-- what repr tells of -/
def likeP (x : W) (h : LH) : Option PV :=
  match dataOf x h with
  | none => none
  | some p => match likeOk p with
    | false => none
    | true => some p
/-- repr(x) == repr(y): told where it is so -/
def likeQ (p : PV) (y : W) (h : LH) : Option PV :=
  match dataOf y h with
  | none => none
  | some q => match PV.beq p q with
    | true => some (.bl true)
    | false => none
def natEq (a b : Nat) : Bool := Nat.beq a b
def fieldOf (w : W) (f : Nat) (h : LH) : Option W :=
  match w with
  | .ref n => match nth h n with
    | some (.ins _ fs) => look natEq f fs
    | _ => none
  | .obj _ fs => look natEq f fs
  | _ => none
def putFd (f : Nat) (w : W) : List (Nat × W) → List (Nat × W)
  | [] => [(f, w)]
  | (g, x) :: r => match Nat.beq g f with
    | true => (g, w) :: r
    | false => (g, x) :: putFd f w r
def setField (o : W) (f : Nat) (w : W) (h : LH) : Option LH :=
  match o with
  | .ref n => match nth h n with
    | some (.ins c fs) => some (setN h n (.ins c (putFd f w fs)))
    | _ => none
  | _ => none
def putKey (k : LK) (w : W) : List (LK × W) → List (LK × W)
  | [] => [(k, w)]
  | (g, x) :: r => match lkEq g k with
    | true => (g, w) :: r
    | false => (g, x) :: putKey k w r
def ixNorm (len : Nat) (i : Int) : Option Nat :=
  match i with
  | .ofNat n => match Nat.blt n len with
    | true => some n
    | false => none
  | .negSucc n => match Nat.blt n len with
    | true => some (len - 1 - n)
    | false => none
def setItem (o i w : W) (h : LH) : Option LH :=
  match o, i with
  | .ref n, .pv p => match nth h n with
    | some (.lst ws) => match p with
      | .int j => match ixNorm ws.length j with
        | some k => some (setN h n (.lst (setN ws k w)))
        | none => none
      | _ => none
    | _ => none
  | _, _ => none

def wipe (ρ : Sl) : List Nat → Sl
  | [] => ρ
  | i :: r => setN (wipe ρ r) i none

/-! ### loops -/
/-- .. and nothing may come out of it -/
def R.strict {α β : Type} (r : R α) (f : α → LH → R β) : R β :=
  match r with
  | .ok a h => f a h
  | _ => .no
def forL (asg : Item → Sl → LH → SR) (body : Sl → LH → SR) : List Item → Sl → LH → SR
  | [], ρ, h => .nx ρ h
  | x :: xs, ρ, h => match asg x ρ h with
    | .nx ρ1 h1 => match body ρ1 h1 with
      | .nx ρ2 h2 => forL asg body xs ρ2 h2
      | .ct ρ2 h2 => forL asg body xs ρ2 h2
      | r => r
    | _ => .no
def forV (n total : Nat) (asg : Item → Sl → LH → SR) (body : Sl → LH → SR) : List W → Nat → Sl → LH → SR
  | [], _, ρ, h => match nth h n with
    | some (.lst cur) => match Nat.beq cur.length total with
      | true => .nx ρ h
      | false => .no
    | _ => .no
  | _ :: xs, i, ρ, h => match nth h n with
    | some (.lst cur) => match Nat.beq cur.length total with
      | false => .no
      | true => match nth cur i with
        | none => .no
        | some w => match asg (.one w) ρ h with
          | .nx ρ1 h1 => match body ρ1 h1 with
            | .nx ρ2 h2 => forV n total asg body xs (i + 1) ρ2 h2
            | .ct ρ2 h2 => forV n total asg body xs (i + 1) ρ2 h2
            | r => r
          | _ => .no
    | _ => .no
def whileL (t : Sl → LH → R W) (body : Sl → LH → SR) : Nat → Sl → LH → SR
  | 0, _, _ => .no
  | n + 1, ρ, h => match t ρ h with
    | .ok w h1 => match truth w h1 with
      | some true => match body ρ h1 with
        | .nx ρ2 h2 => whileL t body n ρ2 h2
        | .ct ρ2 h2 => whileL t body n ρ2 h2
        | r => r
      | some false => .nx ρ h1
      | none => .no
    | .ex x h1 => .ex x ρ h1
    | .no => .no
/-- a comprehension's items -/
def lcT (asg : Item → Sl → LH → SR) (step : Sl → LH → R (List W)) (rest : LH → R (List W)) (x : Item) (ρ : Sl) (h : LH) : R (List W) :=
  match asg x ρ h with
  | .nx ρ1 h1 => (step ρ1 h1).strict fun ws h2 => (rest h2).strict fun ws2 h3 => .ok (ws ++ ws2) h3
  | _ => .no
def lcL (asg : Item → Sl → LH → SR) (step : Sl → LH → R (List W)) : List Item → Sl → LH → R (List W)
  | [], _, h => .ok [] h
  | x :: xs, ρ, h => lcT asg step (lcL asg step xs ρ) x ρ h
def lcV (n total : Nat) (asg : Item → Sl → LH → SR) (step : Sl → LH → R (List W)) : List W → Nat → Sl → LH → R (List W)
  | [], _, _, h => match nth h n with
    | some (.lst cur) => match Nat.beq cur.length total with
      | true => .ok [] h
      | false => .no
    | _ => .no
  | _ :: xs, i, ρ, h => match nth h n with
    | some (.lst cur) => match Nat.beq cur.length total with
      | false => .no
      | true => match nth cur i with
        | none => .no
        | some w => lcT asg step (lcV n total asg step xs (i + 1) ρ) (.one w) ρ h
    | _ => .no
def lcW (wk : Wk) (asg : Item → Sl → LH → SR) (step : Sl → LH → R (List W)) (ρ : Sl) (h : LH) : R (List W) :=
  match wk with
  | .items xs => lcL asg step xs ρ h
  | .live n ws => lcV n ws.length asg step ws 0 ρ h
def forW (wk : Wk) (asg : Item → Sl → LH → SR) (body : Sl → LH → SR) (ρ : Sl) (h : LH) : SR :=
  match wk with
  | .items xs => forL asg body xs ρ h
  | .live n ws => forV n ws.length asg body ws 0 ρ h

def rngL (lo st : Int) : Nat → List Item
  | 0 => []
  | n + 1 => .one (.pv (.int lo)) :: rngL (iadd lo st) st n
def rngOk (i : Int) : Bool := ile (.negSucc 1000000000000) i && ile i (.ofNat 1000000000000)
def enL (k : Int) : List W → List Item
  | [] => []
  | w :: r => .row [.pv (.int k), w] :: enL (iadd k (.ofNat 1)) r
def zipL : List W → List W → List Item
  | a :: x, b :: y => .row [a, b] :: zipL x y
  | _, _ => []
/-- the items of what is walked -/
def walkOf (w : W) (h : LH) : R Wk :=
  match w with
  | .pv (.tup xs) => .ok (.items (xs.map fun p => .one (.pv p))) h
  | .pv (.lst xs) => .ok (.items (xs.map fun p => .one (.pv p))) h
  | .pv (.str s) => .ok (.items (s.map fun c => .one (.pv (.str [c])))) h
  | .ref n => match nth h n with
    | some (.lst ws) => .ok (.live n ws) h
    | _ => .no
  | _ => .no
/-- what stands, as a row of values: for enumerate and zip -/
def stillOf : W → Option (List W)
  | .pv (.tup xs) => some (xs.map W.pv)
  | .pv (.lst xs) => some (xs.map W.pv)
  | .pv (.str s) => some (s.map fun c => .pv (.str [c]))
  | _ => none
def R.toS (r : R W) (ρ : Sl) (k : W → LH → SR) : SR :=
  match r with
  | .ok w h => k w h
  | .ex x h => .ex x ρ h
  | .no => .no
def R.wk (o : Option (List Item)) (h : LH) : R Wk :=
  match o with
  | some xs => .ok (.items xs) h
  | none => .no

/-! ### expressions -/
mutual
def evE (Γ : Gl) (call : Call) : E → Sl → LH → R W
  | .var i, ρ, h => match nth ρ i with
    | some (some w) => .ok w h
    | _ => .no
  | .glob g, _, h => R.ofO (Γ.glob.get g) h
  | .cst p, _, h => .ok (.pv p) h
  | .tup es, ρ, h => (evEs Γ call es ρ h).bind newT
  | .lst m es, ρ, h => (evEs Γ call es ρ h).bind (newL m)
  | .bin o m a b, ρ, h => (evE Γ call a ρ h).bind fun x h1 => (evE Γ call b ρ h1).bind fun y h2 => bop o m x y h2
  | .neg a, ρ, h => (evE Γ call a ρ h).bind fun x h1 => match x with
    | .pv (.int i) => .ok (.pv (.int (ineg i))) h1
    | _ => .no
  | .ntt a, ρ, h => (evE Γ call a ρ h).bind fun x h1 => R.ofP ((truth x h1).map fun b => .bl (!b)) h1
  | .nd a b, ρ, h => (evE Γ call a ρ h).bind fun x h1 => match truth x h1 with
    | some true => evE Γ call b ρ h1
    | some false => .ok x h1
    | none => .no
  | .orr a b, ρ, h => (evE Γ call a ρ h).bind fun x h1 => match truth x h1 with
    | some false => evE Γ call b ρ h1
    | some true => .ok x h1
    | none => .no
  | .cmp o a b, ρ, h => (evE Γ call a ρ h).bind fun x h1 => (evE Γ call b ρ h1).bind fun y h2 => R.ofP ((cop o x y h2).map .bl) h2
  | .chain o o2 a b c, ρ, h => (evE Γ call a ρ h).bind fun x h1 => (evE Γ call b ρ h1).bind fun y h2 => match cop o x y h2 with
    | some true => (evE Γ call c ρ h2).bind fun z h3 => R.ofP ((cop o2 y z h3).map .bl) h3
    | some false => .ok (.pv (.bl false)) h2
    | none => .no
  | .like a b, ρ, h => (evE Γ call a ρ h).bind fun x h1 => match likeP x h1 with
    | some p => (evE Γ call b ρ h1).bind fun y h2 => R.ofP (likeQ p y h2) h2
    | none => .no
  | .ite t a b, ρ, h => (evE Γ call t ρ h).bind fun x h1 => match truth x h1 with
    | some true => evE Γ call a ρ h1
    | some false => evE Γ call b ρ h1
    | none => .no
  | .ix a b, ρ, h => (evE Γ call a ρ h).bind fun x h1 => (evE Γ call b ρ h1).bind fun y h2 => R.ofO (ixOf x y h2) h2
  | .slc m a lo hi, ρ, h => (evE Γ call a ρ h).bind fun x h1 => (evO Γ call lo ρ h1).bind fun i h2 => (evO Γ call hi ρ h2).bind fun j h3 => sliceOf m x i j h3
  | .rev m a, ρ, h => (evE Γ call a ρ h).bind fun x h1 => match x with
    | .pv (.tup xs) => .ok (.pv (.tup xs.reverse)) h1
    | .pv (.lst xs) => newL m (xs.reverse.map .pv) h1
    | _ => .no
  | .call pf f es, ρ, h => (evEs Γ call es ρ h).bind fun ws h1 => doCall call pf f ws h1
  | .meth pf f _ o es, ρ, h => (evE Γ call o ρ h).bind fun x h1 => (evEs Γ call es ρ h1).bind fun ws h2 => doCall call pf f (x :: ws) h2
  | .make c f es, ρ, h => (evEs Γ call es ρ h).bind fun ws h1 => (doCall call false f (.ref h1.length :: ws) (h1 ++ [.ins c []])).bind fun r h2 => match r with
    | .pv .non => .ok (.ref h1.length) h2
    | _ => .no
  | .prim p m es, ρ, h => (evEs Γ call es ρ h).bind fun ws h1 => prim p m ws h1
  | .bm p m o es, ρ, h => (evE Γ call o ρ h).bind fun x h1 => match bmTy p x h1 with
    | true => (evEs Γ call es ρ h1).bind fun ws h2 => bmeth p m x ws h2
    | false => .no
  | .att o f, ρ, h => (evE Γ call o ρ h).bind fun x h1 => R.ofO (fieldOf x f h1) h1
  | .lc m own t it c e, ρ, h => (evI Γ call it ρ h).bind fun wk h1 =>
      (lcW wk (asT Γ call t) (fun ρ1 h2 => (evC Γ call c ρ1 h2).strict fun b h3 => match b with
        | true => (evE Γ call e ρ1 h3).strict fun w h4 => .ok [w] h4
        | false => .ok [] h3) (wipe ρ own) h1).strict (newL m)
  | .lc2 m own t it c own2 t2 it2 c2 e, ρ, h => (evI Γ call it ρ h).bind fun wk h1 =>
      (lcW wk (asT Γ call t) (fun ρ1 h2 => (evC Γ call c ρ1 h2).strict fun b h3 => match b with
        | true => (evI Γ call it2 ρ1 h3).strict fun wk2 h4 =>
          lcW wk2 (asT Γ call t2) (fun ρ2 h5 => (evC Γ call c2 ρ2 h5).strict fun b2 h6 => match b2 with
            | true => (evE Γ call e ρ2 h6).strict fun w h7 => .ok [w] h7
            | false => .ok [] h6) (wipe ρ1 own2) h4
        | false => .ok [] h3) (wipe ρ own) h1).strict (newL m)
  | .frz e, ρ, h => (evE Γ call e ρ h).bind freeze
termination_by structural e => e
/-- a part of a slice -/
def evO (Γ : Gl) (call : Call) : Oe → Sl → LH → R (Option Int)
  | .no, _, h => .ok none h
  | .so e, ρ, h => (evE Γ call e ρ h).bind fun x h1 => match x with
    | .pv (.int j) => .ok (some j) h1
    | _ => .no
termination_by structural e => e
/-- a clause's test -/
def evC (Γ : Gl) (call : Call) : Oe → Sl → LH → R Bool
  | .no, _, h => .ok true h
  | .so e, ρ, h => (evE Γ call e ρ h).bind fun x h1 => match truth x h1 with
    | some b => .ok b h1
    | none => .no
termination_by structural e => e
def evEs (Γ : Gl) (call : Call) : Es → Sl → LH → R (List W)
  | .nil, _, h => .ok [] h
  | .cons e es, ρ, h => (evE Γ call e ρ h).bind fun w h1 => (evEs Γ call es ρ h1).bind fun ws h2 => .ok (w :: ws) h2
termination_by structural e => e
def evI (Γ : Gl) (call : Call) : It → Sl → LH → R Wk
  | .seq e, ρ, h => (evE Γ call e ρ h).bind walkOf
  | .rng1 a, ρ, h => (evE Γ call a ρ h).bind fun x h1 => match x with
    | .pv (.int j) => match rngOk j with
      | true => .ok (.items (rngL (.ofNat 0) (.ofNat 1) j.toNat)) h1
      | false => .no
    | _ => .no
  | .rng2 a b, ρ, h => (evE Γ call a ρ h).bind fun x h1 => (evE Γ call b ρ h1).bind fun y h2 => match x, y with
    | .pv (.int i), .pv (.int j) => match rngOk i && rngOk j with
      | true => .ok (.items (rngL i (.ofNat 1) (isub j i).toNat)) h2
      | false => .no
    | _, _ => .no
  | .rng3 a b c, ρ, h => (evE Γ call a ρ h).bind fun x h1 => (evE Γ call b ρ h1).bind fun y h2 => (evE Γ call c ρ h2).bind fun z h3 => match x, y, z with
    | .pv (.int i), .pv (.int j), .pv (.int k) => match rngOk i && rngOk j && ieq k (.negSucc 0) with
      | true => .ok (.items (rngL i (.negSucc 0) (isub i j).toNat)) h3
      | false => .no
    | _, _, _ => .no
  | .enm e, ρ, h => (evE Γ call e ρ h).bind fun x h1 => R.wk ((stillOf x).map (enL (.ofNat 0))) h1
  | .enm1 e k, ρ, h => (evE Γ call e ρ h).bind fun x h1 => (evE Γ call k ρ h1).bind fun y h2 => match y with
    | .pv (.int i) => match rngOk i with
      | true => R.wk ((stillOf x).map (enL i)) h2
      | false => .no
    | _ => .no
  | .zip a b, ρ, h => (evE Γ call a ρ h).bind fun x h1 => (evE Γ call b ρ h1).bind fun y h2 => match stillOf x, stillOf y with
    | some u, some v => .ok (.items (zipL u v)) h2
    | _, _ => .no
  | .its e, ρ, h => (evE Γ call e ρ h).bind fun x h1 => match x with
    | .dic kvs => .ok (.items (kvs.map fun q => .row [.pv (.str q.1), .pv q.2])) h1
    | _ => .no
termination_by structural e => e
/-- a target takes a value -/
def asT (Γ : Gl) (call : Call) : Tg → Item → Sl → LH → SR
  | .nm i, x, ρ, h => match x with
    | .one w => .nx (setN ρ i (some w)) h
    | .row ws => match pvsOf ws with
      | some ps => .nx (setN ρ i (some (.pv (.tup ps)))) h
      | none => .no
  | .tup ts, x, ρ, h => match x with
    | .one (.pv (.tup ps)) => asTs Γ call ts (ps.map W.pv) ρ h
    | .one _ => .no
    | .row ws => asTs Γ call ts ws ρ h
  | .sub o i, x, ρ, h => match x with
    | .one w => (evE Γ call o ρ h).toS ρ fun ow h1 => (evE Γ call i ρ h1).toS ρ fun iw h2 => match setItem ow iw w h2 with
      | some h3 => .nx ρ h3
      | none => .no
    | .row _ => .no
  | .att o f, x, ρ, h => match x with
    | .one w => (evE Γ call o ρ h).toS ρ fun ow h1 => match setField ow f w h1 with
      | some h2 => .nx ρ h2
      | none => .no
    | .row _ => .no
termination_by structural e => e
def asTs (Γ : Gl) (call : Call) : Tgs → List W → Sl → LH → SR
  | .nil, ws, ρ, h => match ws with
    | [] => .nx ρ h
    | _ :: _ => .no
  | .cons t ts, ws, ρ, h => match ws with
    | [] => .no
    | w :: r => match asT Γ call t (.one w) ρ h with
      | .nx ρ1 h1 => asTs Γ call ts r ρ1 h1
      | _ => .no
termination_by structural e => e
end

/-! ### statements -/
mutual
def evS (Γ : Gl) (call : Call) : S → Sl → LH → SR
  | .set t e, ρ, h => (evE Γ call e ρ h).toS ρ fun w h1 => asT Γ call t (.one w) ρ h1
  | .par2 i j a b, ρ, h => (evE Γ call a ρ h).toS ρ fun x h1 => (evE Γ call b ρ h1).toS ρ fun y h2 => .nx (setN (setN ρ i (some x)) j (some y)) h2
  | .par3 i j k a b c, ρ, h => (evE Γ call a ρ h).toS ρ fun x h1 => (evE Γ call b ρ h1).toS ρ fun y h2 => (evE Γ call c ρ h2).toS ρ fun z h3 => .nx (setN (setN (setN ρ i (some x)) j (some y)) k (some z)) h3
  | .expr e, ρ, h => (evE Γ call e ρ h).toS ρ fun _ h1 => .nx ρ h1
  | .sif t a b, ρ, h => (evE Γ call t ρ h).toS ρ fun x h1 => match truth x h1 with
    | some true => evSs Γ call a ρ h1
    | some false => evSs Γ call b ρ h1
    | none => .no
  | .for_ t it b, ρ, h => match evI Γ call it ρ h with
    | .ok wk h1 => forW wk (asT Γ call t) (evSs Γ call b) ρ h1
    | .ex x h1 => .ex x ρ h1
    | .no => .no
  | .whl n t b, ρ, h => whileL (evE Γ call t) (evSs Γ call b) n ρ h
  | .ret e, ρ, h => (evE Γ call e ρ h).toS ρ fun w h1 => .rt w h1
  | .retN, _, h => .rt (.pv .non) h
  | .pass, ρ, h => .nx ρ h
  | .cont, ρ, h => .ct ρ h
  | .raise _ _ _, _, _ => .no
  | .tryX _ _ _ _, _, _ => .no
termination_by structural s => s
def evSs (Γ : Gl) (call : Call) : Ss → Sl → LH → SR
  | .nil, ρ, h => .nx ρ h
  | .cons s ss, ρ, h => match evS Γ call s ρ h with
    | .nx ρ1 h1 => evSs Γ call ss ρ1 h1
    | r => r
termination_by structural s => s
end

def argEnv (ws : List W) (ns : Nat) : Sl := ws.map some ++ List.replicate (ns - ws.length) none
/-- a def runs, at most so deep -/
def run (Γ : Gl) : Nat → Nat → List W → LH → R W
  | 0, _, _, _ => .no
  | d + 1, f, ws, h => match Γ.fns.get f with
    | none => .no
    | some F => match Nat.beq ws.length F.np with
      | false => .no
      | true => match evSs Γ (run Γ d) F.body (argEnv ws F.ns) h with
        | .nx _ h1 => .ok (.pv .non) h1
        | .rt w h1 => .ok w h1
        | .ex x _ h1 => .ex x h1
        | _ => .no
end Sx
end

section
set_option autoImplicit false
set_option linter.all false
set_option Elab.async false
/-! The relation between the evaluator's state and the abstract heap of the hand layer. -/
namespace Sx
open PySem
open L2 (V St SqL SqT Rd upd upd_same upd_ne HO)
abbrev AH := L2.Hp

/-- what stays the same: the written part, the defs' and classes' values, the fields' names -/
structure Cf where
  K : PySem.W.Frag
  fnV : Nat → Option V
  clV : Nat → Option V
  fdN : Nat → Str

/-- the places of the changing objects; what may be changed at all -/
structure Wd where
  ι : List (Option Addr)
  F : Addr → Prop

def H0 : AH := fun _ => none
def toStr (s : Tx) : Str := ⟨s.toArray⟩
def okTx (s : Tx) : Prop := ∀ c ∈ s, c < 1114112

def LA (c : Cf) (F : Addr → Prop) (H : AH) (a : Addr) (vs : List V) : Prop :=
  (Rd H a (.lst vs) ∧ ¬ F a) ∨ SqL c.K H0 a vs
def TA (c : Cf) (F : Addr → Prop) (H : AH) (a : Addr) (vs : List V) : Prop :=
  (Rd H a (.tup vs) ∧ ¬ F a) ∨ SqT c.K H0 a vs

theorem H0_no {a : Addr} {o : HO} : ¬ Rd H0 a o := by
  rintro (h | ⟨o, h⟩) <;> cases h
theorem LA.sq {c : Cf} {F : Addr → Prop} {H : AH} {a : Addr} {vs : List V} (h : LA c F H a vs) : SqL c.K H a vs := by
  rcases h with ⟨h, _⟩ | h
  · exact .inl h
  · rcases h with h | h
    · exact (H0_no h).elim
    · exact .inr h
theorem TA.sq {c : Cf} {F : Addr → Prop} {H : AH} {a : Addr} {vs : List V} (h : TA c F H a vs) : SqT c.K H a vs := by
  rcases h with ⟨h, _⟩ | h
  · exact .inl h
  · rcases h with h | h
    · exact (H0_no h).elim
    · exact .inr h

mutual
inductive RP (c : Cf) (F : Addr → Prop) (H : AH) : PV → V → Prop where
  | non : RP c F H .non .non
  | bl (b : Bool) : RP c F H (.bl b) (.bl b)
  | int (i : Int) : RP c F H (.int i) (.int i)
  | str (s : Tx) : okTx s → RP c F H (.str s) (.str (toStr s))
  | tup {a : Addr} {vs : List V} {ps : List PV} : TA c F H a vs → RPs c F H ps vs → RP c F H (.tup ps) (.ref a)
  | lst {a : Addr} {vs : List V} {ps : List PV} : LA c F H a vs → RPs c F H ps vs → RP c F H (.lst ps) (.ref a)
inductive RPs (c : Cf) (F : Addr → Prop) (H : AH) : List PV → List V → Prop where
  | nil : RPs c F H [] []
  | cons {p : PV} {v : V} {ps : List PV} {vs : List V} : RP c F H p v → RPs c F H ps vs → RPs c F H (p :: ps) (v :: vs)
end

def lkV : LK → L2.Key
  | .int i => .inl i
  | .str s => .inr (toStr s)
def okLK : LK → Prop
  | .int _ => True
  | .str s => okTx s

mutual
inductive RW (c : Cf) (d : Wd) (H : AH) : W → V → Prop where
  | pv {p : PV} {v : V} : RP c d.F H p v → RW c d H (.pv p) v
  | ref {n : Nat} {v : V} : n < d.ι.length → (∀ a, d.ι[n]? = some (some a) → v = .ref a) → RW c d H (.ref n) v
  | fn {f : Nat} {v : V} : c.fnV f = some v → RW c d H (.fn f) v
  | cl {f : Nat} {v : V} : c.clV f = some v → RW c d H (.cl f) v
  | obj {k : Nat} {fs : List (Nat × W)} {a C dx : Addr} {vs : List (Str × V)} : c.clV k = some (.ref C) → H a = some (.ins C dx vs) → ¬ d.F a → RFs c d H fs vs → RW c d H (.obj k fs) (.ref a)
inductive RFs (c : Cf) (d : Wd) (H : AH) : List (Nat × W) → List (Str × V) → Prop where
  | nil : RFs c d H [] []
  | cons {f : Nat} {w : W} {v : V} {fs : List (Nat × W)} {vs : List (Str × V)} : RW c d H w v → RFs c d H fs vs → RFs c d H ((f, w) :: fs) ((c.fdN f, v) :: vs)
end
inductive RWs (c : Cf) (d : Wd) (H : AH) : List W → List V → Prop where
  | nil : RWs c d H [] []
  | cons {w : W} {v : V} {ws : List W} {vs : List V} : RW c d H w v → RWs c d H ws vs → RWs c d H (w :: ws) (v :: vs)
inductive RKs (c : Cf) (d : Wd) (H : AH) : List (LK × W) → List (L2.Key × V) → Prop where
  | nil : RKs c d H [] []
  | cons {k : LK} {w : W} {v : V} {ws : List (LK × W)} {vs : List (L2.Key × V)} : okLK k → RW c d H w v → RKs c d H ws vs → RKs c d H ((k, w) :: ws) ((lkV k, v) :: vs)

/-- an object that changes, at its place -/
def RO (c : Cf) (d : Wd) (H : AH) (o : LO) (a : Addr) : Prop :=
  match o with
  | .dead => False
  | .lst ws => ∃ vs, H a = some (.lst vs) ∧ RWs c d H ws vs
  | .dic kvs => ∃ vs, H a = some (.dK vs) ∧ RKs c d H kvs vs
  | .ins k fs => ∃ C dx vs, c.clV k = some (.ref C) ∧ H a = some (.ins C dx vs) ∧ RFs c d H fs vs

/-- the logical heap is held -/
structure RH (c : Cf) (d : Wd) (h : LH) (H : AH) : Prop where
  len : d.ι.length = h.length
  obj : ∀ (n : Nat) (o : LO), nth h n = some o → (o = .dead ∧ d.ι[n]? = some none) ∨ ∃ a, d.ι[n]? = some (some a) ∧ RO c d H o a
  inj : ∀ (n m : Nat) (a : Addr), d.ι[n]? = some (some a) → d.ι[m]? = some (some a) → n = m
  sub : ∀ (n : Nat) (a : Addr), d.ι[n]? = some (some a) → d.F a
  has : ∀ a, d.F a → H a ≠ none

def inI (d : Wd) (a : Addr) : Prop := ∃ n : Nat, d.ι[n]? = some (some a)

/-- later states -/
structure Ext (d : Wd) (H : AH) (d' : Wd) (H' : AH) : Prop where
  le : d.ι.length ≤ d'.ι.length
  old : ∀ (n : Nat) (a : Addr), n < d.ι.length → d'.ι[n]? = some (some a) → d.ι[n]? = some (some a)
  new : ∀ a, inI d' a → inI d a ∨ H a = none
  keep : ∀ a o, ¬ inI d a → H a = some o → H' a = some o
  pure : ∀ a, ¬ d.F a → H a ≠ none → ¬ d'.F a
  forb : ∀ a, d.F a → ¬ inI d a → d'.F a
  sub : ∀ a, inI d a → d.F a

theorem Ext.refl {c : Cf} {d : Wd} {h : LH} {H : AH} (r : RH c d h H) : Ext d H d H :=
  ⟨Nat.le_refl _, fun _ _ _ e => e, fun _ e => .inl e, fun _ _ _ e => e, fun _ e _ => e, fun _ e _ => e, fun a ⟨n, e⟩ => r.sub n a e⟩

theorem Ext.trans {d d1 d2 : Wd} {H H1 H2 : AH} (hF : ∀ a, d.F a → H a ≠ none) (x : Ext d H d1 H1) (y : Ext d1 H1 d2 H2) : Ext d H d2 H2 := by
  have notI : ∀ a o, ¬ inI d a → H a = some o → ¬ inI d1 a := fun a o n e z => by
    rcases x.new a z with q | q
    · exact n q
    · rw [e] at q; cases q
  refine ⟨Nat.le_trans x.le y.le, fun n a l e => ?_, fun a e => ?_, fun a o n e => ?_, fun a n e => ?_, fun a f n => ?_, x.sub⟩
  · exact x.old n a l (y.old n a (Nat.lt_of_lt_of_le l x.le) e)
  · rcases y.new a e with q | q
    · exact x.new a q
    · by_cases z : inI d a
      · exact .inl z
      · cases w : H a with
        | none => exact .inr rfl
        | some o => rw [x.keep a o z w] at q; cases q
  · exact y.keep a o (notI a o n e) (x.keep a o n e)
  · have ni : ¬ inI d a := fun z => n (x.sub a z)
    cases w : H a with
    | none => exact (e w).elim
    | some o => exact y.pure a (x.pure a n e) (by rw [x.keep a o ni w]; simp)
  · cases w : H a with
    | none => exact (hF a f w).elim
    | some o => exact y.forb a (x.forb a f n) (notI a o n w)

section
variable {c : Cf} {d d' : Wd} {H H' : AH}
theorem Rd.ext {a : Addr} {o : HO} (x : Ext d H d' H') (n : ¬ d.F a) (h : Rd H a o) : Rd H' a o ∧ ¬ d'.F a := by
  have ni : ¬ inI d a := fun z => n (x.sub a z)
  rcases h with h | ⟨u, h⟩
  · exact ⟨.inl (x.keep a _ ni h), x.pure a n (by rw [h]; simp)⟩
  · exact ⟨.inr ⟨u, x.keep a _ ni h⟩, x.pure a n (by rw [h]; simp)⟩
theorem LA.ext {a : Addr} {vs : List V} (x : Ext d H d' H') (h : LA c d.F H a vs) : LA c d'.F H' a vs := by
  rcases h with ⟨h, n⟩ | h
  · exact .inl (Rd.ext x n h)
  · exact .inr h
theorem TA.ext {a : Addr} {vs : List V} (x : Ext d H d' H') (h : TA c d.F H a vs) : TA c d'.F H' a vs := by
  rcases h with ⟨h, n⟩ | h
  · exact .inl (Rd.ext x n h)
  · exact .inr h
mutual
theorem RP.ext (x : Ext d H d' H') : ∀ {p : PV} {v : V}, RP c d.F H p v → RP c d'.F H' p v
  | _, _, .non => .non
  | _, _, .bl b => .bl b
  | _, _, .int i => .int i
  | _, _, .str s h => .str s h
  | _, _, .tup h r => .tup (h.ext x) (RPs.ext x r)
  | _, _, .lst h r => .lst (h.ext x) (RPs.ext x r)
theorem RPs.ext (x : Ext d H d' H') : ∀ {ps : List PV} {vs : List V}, RPs c d.F H ps vs → RPs c d'.F H' ps vs
  | _, _, .nil => .nil
  | _, _, .cons h r => .cons (RP.ext x h) (RPs.ext x r)
end
mutual
theorem RW.ext (x : Ext d H d' H') : ∀ {w : W} {v : V}, RW c d H w v → RW c d' H' w v
  | _, _, .pv h => .pv (h.ext x)
  | _, _, .ref l h => .ref (Nat.lt_of_lt_of_le l x.le) fun a e => h a (x.old _ a l e)
  | _, _, .fn h => .fn h
  | _, _, .cl h => .cl h
  | _, _, .obj k h n r => .obj k (x.keep _ _ (fun z => n (x.sub _ z)) h) (x.pure _ n (by rw [h]; simp)) (RFs.ext x r)
theorem RFs.ext (x : Ext d H d' H') : ∀ {fs : List (Nat × W)} {vs : List (Str × V)}, RFs c d H fs vs → RFs c d' H' fs vs
  | _, _, .nil => .nil
  | _, _, .cons h r => .cons (RW.ext x h) (RFs.ext x r)
end
theorem RWs.ext (x : Ext d H d' H') : ∀ {ws : List W} {vs : List V}, RWs c d H ws vs → RWs c d' H' ws vs
  | _, _, .nil => .nil
  | _, _, .cons h r => .cons (h.ext x) (RWs.ext x r)
theorem RKs.ext (x : Ext d H d' H') : ∀ {ws : List (LK × W)} {vs : List (L2.Key × V)}, RKs c d H ws vs → RKs c d' H' ws vs
  | _, _, .nil => .nil
  | _, _, .cons k h r => .cons k (h.ext x) (RKs.ext x r)
theorem RWs.length : ∀ {ws : List W} {vs : List V}, RWs c d H ws vs → ws.length = vs.length
  | _, _, .nil => rfl
  | _, _, .cons _ r => congrArg (· + 1) (RWs.length r)
theorem RPs.length {F : Addr → Prop} : ∀ {ws : List PV} {vs : List V}, RPs c F H ws vs → ws.length = vs.length
  | _, _, .nil => rfl
  | _, _, .cons _ r => congrArg (· + 1) (RPs.length r)
end

/-- what of a state's values stays true -/
structure Mv (d : Wd) (H : AH) (d' : Wd) (H' : AH) : Prop where
  le : d.ι.length ≤ d'.ι.length
  old : ∀ (n : Nat) (a : Addr), n < d.ι.length → d'.ι[n]? = some (some a) → d.ι[n]? = some (some a)
  pk : ∀ a o, ¬ d.F a → H a = some o → H' a = some o ∧ ¬ d'.F a
theorem Ext.mv {d d' : Wd} {H H' : AH} (x : Ext d H d' H') : Mv d H d' H' :=
  ⟨x.le, x.old, fun a o n e => ⟨x.keep a o (fun z => n (x.sub a z)) e, x.pure a n (by rw [e]; simp)⟩⟩
theorem Mv.trans {d d1 d2 : Wd} {H H1 H2 : AH} (x : Mv d H d1 H1) (y : Mv d1 H1 d2 H2) : Mv d H d2 H2 :=
  ⟨Nat.le_trans x.le y.le, fun n a l e => x.old n a l (y.old n a (Nat.lt_of_lt_of_le l x.le) e), fun a o n e => let ⟨h1, h2⟩ := x.pk a o n e; y.pk a o h2 h1⟩
section
variable {c : Cf} {d d' : Wd} {H H' : AH}
theorem Rd.mv {a : Addr} {o : HO} (x : Mv d H d' H') (n : ¬ d.F a) (h : Rd H a o) : Rd H' a o ∧ ¬ d'.F a := by
  rcases h with h | ⟨u, h⟩
  · exact ⟨.inl (x.pk a _ n h).1, (x.pk a _ n h).2⟩
  · exact ⟨.inr ⟨u, (x.pk a _ n h).1⟩, (x.pk a _ n h).2⟩
theorem LA.mv {a : Addr} {vs : List V} (x : Mv d H d' H') (h : LA c d.F H a vs) : LA c d'.F H' a vs := by
  rcases h with ⟨h, n⟩ | h
  · exact .inl (Rd.mv x n h)
  · exact .inr h
theorem TA.mv {a : Addr} {vs : List V} (x : Mv d H d' H') (h : TA c d.F H a vs) : TA c d'.F H' a vs := by
  rcases h with ⟨h, n⟩ | h
  · exact .inl (Rd.mv x n h)
  · exact .inr h
mutual
theorem RP.mv (x : Mv d H d' H') : ∀ {p : PV} {v : V}, RP c d.F H p v → RP c d'.F H' p v
  | _, _, .non => .non
  | _, _, .bl b => .bl b
  | _, _, .int i => .int i
  | _, _, .str s h => .str s h
  | _, _, .tup h r => .tup (h.mv x) (RPs.mv x r)
  | _, _, .lst h r => .lst (h.mv x) (RPs.mv x r)
theorem RPs.mv (x : Mv d H d' H') : ∀ {ps : List PV} {vs : List V}, RPs c d.F H ps vs → RPs c d'.F H' ps vs
  | _, _, .nil => .nil
  | _, _, .cons h r => .cons (RP.mv x h) (RPs.mv x r)
end
mutual
theorem RW.mv (x : Mv d H d' H') : ∀ {w : W} {v : V}, RW c d H w v → RW c d' H' w v
  | _, _, .pv h => .pv (h.mv x)
  | _, _, .ref l h => .ref (Nat.lt_of_lt_of_le l x.le) fun a e => h a (x.old _ a l e)
  | _, _, .fn h => .fn h
  | _, _, .cl h => .cl h
  | _, _, .obj k h n r => .obj k (x.pk _ _ n h).1 (x.pk _ _ n h).2 (RFs.mv x r)
theorem RFs.mv (x : Mv d H d' H') : ∀ {fs : List (Nat × W)} {vs : List (Str × V)}, RFs c d H fs vs → RFs c d' H' fs vs
  | _, _, .nil => .nil
  | _, _, .cons h r => .cons (RW.mv x h) (RFs.mv x r)
end
theorem RWs.mv (x : Mv d H d' H') : ∀ {ws : List W} {vs : List V}, RWs c d H ws vs → RWs c d' H' ws vs
  | _, _, .nil => .nil
  | _, _, .cons h r => .cons (h.mv x) (RWs.mv x r)
theorem RKs.mv (x : Mv d H d' H') : ∀ {ws : List (LK × W)} {vs : List (L2.Key × V)}, RKs c d H ws vs → RKs c d' H' ws vs
  | _, _, .nil => .nil
  | _, _, .cons k h r => .cons k (h.mv x) (RKs.mv x r)
theorem RO.mv {o : LO} {a : Addr} (x : Mv d H d' H') (k : H' a = H a) (r : RO c d H o a) : RO c d' H' o a := by
  cases o with
  | dead => exact r
  | lst ws => obtain ⟨vs, e, q⟩ := r; exact ⟨vs, k.trans e, q.mv x⟩
  | dic ws => obtain ⟨vs, e, q⟩ := r; exact ⟨vs, k.trans e, q.mv x⟩
  | ins f ws => obtain ⟨C, dx, vs, e0, e, q⟩ := r; exact ⟨C, dx, vs, e0, k.trans e, q.mv x⟩
end

/-- the names' values -/
structure RE (c : Cf) (d : Wd) (H : AH) (ρ : Sl) (σ : St) : Prop where
  len : ρ.length = σ.length
  at_ : ∀ i w, nth ρ i = some (some w) → ∃ v, σ[i]? = some (some v) ∧ RW c d H w v
theorem RE.ext {c : Cf} {d d' : Wd} {H H' : AH} {ρ : Sl} {σ : St} (x : Ext d H d' H') (r : RE c d H ρ σ) : RE c d' H' ρ σ :=
  ⟨r.len, fun i w e => let ⟨v, h1, h2⟩ := r.at_ i w e; ⟨v, h1, h2.ext x⟩⟩

theorem RE.mv {c : Cf} {d d' : Wd} {H H' : AH} {ρ : Sl} {σ : St} (x : Mv d H d' H') (r : RE c d H ρ σ) : RE c d' H' ρ σ :=
  ⟨r.len, fun i w e => let ⟨v, h1, h2⟩ := r.at_ i w e; ⟨v, h1, h2.mv x⟩⟩

theorem nth_eq {α : Type} : ∀ (l : List α) (n : Nat), nth l n = l[n]?
  | [], _ => by simp [nth]
  | x :: r, 0 => by simp [nth]
  | x :: r, n + 1 => by simp [nth, nth_eq r n]
theorem setN_eq {α : Type} : ∀ (l : List α) (n : Nat) (y : α), setN l n y = l.set n y
  | [], _, _ => by simp [setN]
  | x :: r, 0, y => by simp [setN]
  | x :: r, n + 1, y => by simp [setN, setN_eq r n y]
end Sx
end

section
set_option autoImplicit false
set_option linter.all false
set_option Elab.async false
namespace Sx
open PySem
open L2 (V St SqL SqT Rd upd upd_same upd_ne HO PE PT PA PS PSs VK)

/-- an exception at the abstract heap -/
def RX (c : Cf) (d : Wd) (H : AH) (x : Xn) (cls : Value) (dx : Option Addr) : Prop :=
  ∃ C, c.clV x.cls = some (.ref C) ∧ cls = .ref C ∧ ((x.fs = [] ∧ dx = none) ∨ ∃ a vs, dx = some a ∧ H a = some (.xd vs) ∧ ¬ d.F a ∧ RFs c d H x.fs vs)

/-- what a result gives -/
def Sat {α : Type} (c : Cf) (d : Wd) (H : AH) (X : Xn → Wd → AH → Prop) (r : R α) (P : Wd → LH → α → AH → Prop) : Prop :=
  match r with
  | .ok a h => ∀ d' H', Ext d H d' H' → RH c d' h H' → P d' h a H'
  | .ex x h => ∀ d' H', Ext d H d' H' → RH c d' h H' → X x d' H'
  | .no => False

/-- what is wanted of exceptions at these slots -/
def wX (c : Cf) (Wx : L2.WX) (σ : St) : Xn → Wd → AH → Prop := fun x d H => ∀ cls dx, RX c d H x cls dx → Wx cls dx σ H
/-- .. of a value -/
def wV (c : Cf) (Q : VK) : Wd → LH → W → AH → Prop := fun d _ w H => ∀ v, RW c d H w v → Q v H

theorem Sat.ok {α : Type} {c : Cf} {d : Wd} {H : AH} {X : Xn → Wd → AH → Prop} {a : α} {h : LH} {P : Wd → LH → α → AH → Prop} (s : Sat c d H X (.ok a h) P) (r : RH c d h H) : P d h a H :=
  s d H (Ext.refl r) r
theorem Sat.ext {α : Type} {c : Cf} {d d' : Wd} {H H' : AH} {X : Xn → Wd → AH → Prop} {r : R α} {P : Wd → LH → α → AH → Prop} (hF : ∀ a, d.F a → H a ≠ none) (x : Ext d H d' H')
    (s : Sat c d H X r P) : Sat c d' H' X r P := by
  cases r with
  | ok a h => exact fun d2 H2 y r2 => s d2 H2 (x.trans hF y) r2
  | ex e h => exact fun d2 H2 y r2 => s d2 H2 (x.trans hF y) r2
  | no => exact s
theorem Sat.imp {α : Type} {c : Cf} {d : Wd} {H : AH} {X X' : Xn → Wd → AH → Prop} {r : R α} {P P' : Wd → LH → α → AH → Prop} (s : Sat c d H X r P)
    (f : ∀ d' h' a H', Ext d H d' H' → RH c d' h' H' → P d' h' a H' → P' d' h' a H') (g : ∀ x d' H', Ext d H d' H' → X x d' H' → X' x d' H') : Sat c d H X' r P' := by
  cases r with
  | ok a h => exact fun d2 H2 y r2 => f _ _ _ _ y r2 (s d2 H2 y r2)
  | ex e h => exact fun d2 H2 y r2 => g _ _ _ y (s d2 H2 y r2)
  | no => exact s
theorem Sat.bind {α β : Type} {c : Cf} {d : Wd} {H : AH} {X : Xn → Wd → AH → Prop} {r : R α} {f : α → LH → R β} {P : Wd → LH → β → AH → Prop} (hF : ∀ a, d.F a → H a ≠ none)
    (s : Sat c d H X (r.bind f) P) : Sat c d H X r (fun d' h' a H' => Sat c d' H' X (f a h') P) := by
  cases r with
  | ok a h => exact fun d2 H2 y r2 => Sat.ext hF y s
  | ex e h => exact s
  | no => exact s

/-- an expression: its rule, and what it asks -/
def HE (c : Cf) (X : L2.Cx) (Wx : L2.WX) (ev : Sl → LH → R W) (e : Expr) : Prop :=
  ∃ t : L2.TE, PE X e t ∧ ∀ d ρ h σ H (Q : VK), RE c d H ρ σ → RH c d h H → Sat c d H (wX c Wx σ) (ev ρ h) (wV c Q) → t σ H Q
def wB (Q : Bool → AH → Prop) : Wd → LH → W → AH → Prop := fun _ h w H => match truth w h with
  | some b => Q b H
  | none => False
/-- .. as a test -/
def HT (c : Cf) (X : L2.Cx) (Wx : L2.WX) (ev : Sl → LH → R W) (e : Expr) : Prop :=
  ∃ t : L2.TT, PT X e t ∧ ∀ d ρ h σ H (Q : Bool → AH → Prop), RE c d H ρ σ → RH c d h H → Sat c d H (wX c Wx σ) (ev ρ h) (wB Q) → t σ H Q
def wA (c : Cf) (Q : List V → AH → Prop) : Wd → LH → List W → AH → Prop := fun d _ ws H => ∀ vs, RWs c d H ws vs → Q vs H
def HA (c : Cf) (X : L2.Cx) (Wx : L2.WX) (ev : Sl → LH → R (List W)) (es : List Expr) : Prop :=
  ∃ t : L2.TA, PA X es t ∧ ∀ d ρ h σ H (Q : List V → AH → Prop), RE c d H ρ σ → RH c d h H → Sat c d H (wX c Wx σ) (ev ρ h) (wA c Q) → t σ H Q

/-- a statement's end -/
def SatS (c : Cf) (d : Wd) (H : AH) (Wx : L2.WX) (r : SR) (D : L2.Ends) : Prop :=
  match r with
  | .nx ρ h => ∀ d' H' σ', Ext d H d' H' → RH c d' h H' → RE c d' H' ρ σ' → D.nx σ' H'
  | .rt w h => ∀ d' H' v, Ext d H d' H' → RH c d' h H' → RW c d' H' w v → D.rt v H'
  | .ct ρ h => ∀ d' H' σ', Ext d H d' H' → RH c d' h H' → RE c d' H' ρ σ' → D.ct σ' H'
  | .ex x ρ h => ∀ d' H' σ', Ext d H d' H' → RH c d' h H' → RE c d' H' ρ σ' → wX c Wx σ' x d' H'
  | .no => False
theorem SatS.ext {c : Cf} {d d' : Wd} {H H' : AH} {Wx : L2.WX} {r : SR} {D : L2.Ends} (hF : ∀ a, d.F a → H a ≠ none) (x : Ext d H d' H') (s : SatS c d H Wx r D) : SatS c d' H' Wx r D := by
  cases r with
  | nx ρ h => exact fun d2 H2 σ2 y => s d2 H2 σ2 (x.trans hF y)
  | rt w h => exact fun d2 H2 σ2 y => s d2 H2 σ2 (x.trans hF y)
  | ct ρ h => exact fun d2 H2 σ2 y => s d2 H2 σ2 (x.trans hF y)
  | ex e ρ h => exact fun d2 H2 σ2 y => s d2 H2 σ2 (x.trans hF y)
  | no => exact s
def HS (c : Cf) (X : L2.Cx) (Wx : L2.WX) (ev : Sl → LH → SR) (st : Stmt) : Prop :=
  ∃ t : L2.TS, PS X st t ∧ ∀ d ρ h σ H (D : L2.Ends), RE c d H ρ σ → RH c d h H → SatS c d H Wx (ev ρ h) D → t D σ H
def HSs (c : Cf) (X : L2.Cx) (Wx : L2.WX) (ev : Sl → LH → SR) (st : List Stmt) : Prop :=
  ∃ t : L2.TS, PSs X st t ∧ ∀ d ρ h σ H (D : L2.Ends), RE c d H ρ σ → RH c d h H → SatS c d H Wx (ev ρ h) D → t D σ H

section
variable {c : Cf} {X : L2.Cx} {Wx : L2.WX}

/-! ### names, constants -/
theorem he_var {i : Nat} {x : Str} {pos : Pos} (hN : X.N[i]? = some x) (hv : L2.Vis X.env.scope x) (h1 : (x == ("__debug__" : Str)) = false) (h2 : (x == ("__classdict__" : Str)) = false) :
    HE c X Wx (fun ρ h => match nth ρ i with
      | some (some w) => .ok w h
      | _ => .no) (.Name x pos) := by
  refine ⟨_, L2.pe_var hN hv h1 h2, fun d ρ h σ H Q re rh s => ?_⟩
  cases e : nth ρ i with
  | none => simp only [e] at s; exact s.elim
  | some o =>
    cases o with
    | none => simp only [e] at s; exact s.elim
    | some w =>
      simp only [e] at s
      obtain ⟨v, ev, rv⟩ := re.at_ i w e
      exact ⟨v, ev, s.ok rh v rv⟩
theorem he_glob {w : W} {x : Str} {v : V} {u : Value} {pos : Pos} (hg : L2.Gl X x) (hm : X.mg x = some u) (r : L2.RelV v u) (hd : (x == ("__debug__" : Str)) = false)
    (hw : ∀ d H, RW c d H w v) : HE c X Wx (fun _ h => .ok w h) (.Name x pos) :=
  ⟨_, L2.pe_glob hg hm r hd, fun d ρ h σ H Q re rh s => s.ok rh v (hw d H)⟩
theorem he_cst {p : PV} {v : V} {e : Expr} (hp : PE X e (L2.tC v)) (hw : ∀ d H, RW c d H (.pv p) v) : HE c X Wx (fun _ h => .ok (.pv p) h) e :=
  ⟨_, hp, fun d ρ h σ H Q re rh s => s.ok rh v (hw d H)⟩

/-! ### two in a row -/
theorem he_bin {ea eb : Sl → LH → R W} {a b e : Expr} {f : W → W → LH → R W} {r : L2.R2} (ha : HE c X Wx ea a) (hb : HE c X Wx eb b)
    (rule : ∀ {ta tb : L2.TE}, PE X a ta → PE X b tb → PE X e (L2.tOp r ta tb))
    (hr : ∀ d h σ H x y wx wy (Q : VK), RH c d h H → RW c d H wx x → RW c d H wy y → Sat c d H (wX c Wx σ) (f wx wy h) (wV c Q) → r x y H Q) :
    HE c X Wx (fun ρ h => (ea ρ h).bind fun x h1 => (eb ρ h1).bind fun y h2 => f x y h2) e := by
  obtain ⟨ta, pa, qa⟩ := ha
  obtain ⟨tb, pb, qb⟩ := hb
  refine ⟨_, rule pa pb, fun d ρ h σ H Q re rh s => ?_⟩
  refine qa d ρ h σ H _ re rh ((s.bind rh.has).imp (fun d1 h1 w1 H1 x1 r1 s1 => ?_) (fun _ _ _ _ z => z))
  intro v1 rv1
  refine qb d1 ρ h1 σ H1 _ (re.ext x1) r1 ((s1.bind r1.has).imp (fun d2 h2 w2 H2 x2 r2 s2 => ?_) (fun _ _ _ _ z => z))
  intro v2 rv2
  exact hr d2 h2 σ H2 v1 v2 w1 w2 Q r2 (rv1.ext x2) rv2 s2
theorem he_un {ea : Sl → LH → R W} {a e : Expr} {f : W → LH → R W} {r : V → AH → VK → Prop} (ha : HE c X Wx ea a)
    (rule : ∀ {ta : L2.TE}, PE X a ta → PE X e (L2.tUn r ta))
    (hr : ∀ d h σ H x wx (Q : VK), RH c d h H → RW c d H wx x → Sat c d H (wX c Wx σ) (f wx h) (wV c Q) → r x H Q) :
    HE c X Wx (fun ρ h => (ea ρ h).bind fun x h1 => f x h1) e := by
  obtain ⟨ta, pa, qa⟩ := ha
  refine ⟨_, rule pa, fun d ρ h σ H Q re rh s => ?_⟩
  refine qa d ρ h σ H _ re rh ((s.bind rh.has).imp (fun d1 h1 w1 H1 x1 r1 s1 => ?_) (fun _ _ _ _ z => z))
  intro v1 rv1
  exact hr d1 h1 σ H1 v1 w1 Q r1 rv1 s1

/-! ### argument lists -/
theorem ha_nil : HA c X Wx (fun _ h => .ok [] h) [] :=
  ⟨_, L2.pa_nil, fun d ρ h σ H Q re rh s => s.ok rh [] .nil⟩
theorem ha_cons {e : Expr} {es : List Expr} {ev : Sl → LH → R W} {evs : Sl → LH → R (List W)} (he : HE c X Wx ev e) (hes : HA c X Wx evs es)
    (hs : starEach (e :: es) X.env = (false, eval e X.env) :: starEach es X.env) :
    HA c X Wx (fun ρ h => (ev ρ h).bind fun w h1 => (evs ρ h1).bind fun ws h2 => .ok (w :: ws) h2) (e :: es) := by
  obtain ⟨ta, pa, qa⟩ := he
  obtain ⟨tb, pb, qb⟩ := hes
  refine ⟨_, L2.pa_cons pa pb hs, fun d ρ h σ H Q re rh s => ?_⟩
  refine qa d ρ h σ H _ re rh ((s.bind rh.has).imp (fun d1 h1 w1 H1 x1 r1 s1 => ?_) (fun _ _ _ _ z => z))
  intro v1 rv1
  refine qb d1 ρ h1 σ H1 _ (re.ext x1) r1 ((s1.bind r1.has).imp (fun d2 h2 w2 H2 x2 r2 s2 => ?_) (fun _ _ _ _ z => z))
  intro v2 rv2
  exact s2.ok r2 _ (.cons (rv1.ext x2) rv2)

/-! ### tests -/
theorem ht_of {e : Expr} {ev : Sl → LH → R W} (he : HE c X Wx ev e) (hK : X.K = c.K) (hp : ∀ whole, isTrue e X.env whole = (do let v ← whole; standAt e.pos; holding [v] (truthy v)))
    (ht : ∀ d h H w v k, RH c d h H → RW c d H w v → truth w h = some k → L2.TruV c.K v H k) : HT c X Wx ev e := by
  obtain ⟨t, p, q⟩ := he
  refine ⟨_, L2.pt_truth p hp, fun d ρ h σ H Q re rh s => ?_⟩
  refine q d ρ h σ H _ re rh (s.imp (fun d1 h1 w1 H1 x1 r1 s1 => ?_) (fun _ _ _ _ z => z))
  intro v1 rv1
  cases e : truth w1 h1 with
  | none => simp only [wB, e] at s1
  | some b =>
    simp only [wB, e] at s1
    exact ⟨b, by rw [hK]; exact ht d1 h1 H1 w1 v1 b r1 rv1 e, s1⟩
end
end Sx
end

section
set_option autoImplicit false
set_option linter.all false
set_option Elab.async false
namespace Sx
open PySem
open L2 (V St SqL SqT Rd upd upd_same upd_ne HO PE PT PA PS PSs VK)
section
variable {c : Cf} {d : Wd} {h : LH} {H : AH}

theorem RH.notF (r : RH c d h H) {p : Addr} (hp : H p = none) : ¬ d.F p := fun z => r.has p z hp
theorem RH.inI (r : RH c d h H) {a : Addr} (z : inI d a) : d.F a := let ⟨n, e⟩ := z; r.sub n a e
theorem RO.ext {d' : Wd} {H' : AH} {o : LO} {a : Addr} (x : Ext d H d' H') (k : H' a = H a) (r : RO c d H o a) : RO c d' H' o a := by
  cases o with
  | dead => exact r
  | lst ws => obtain ⟨vs, e, q⟩ := r; exact ⟨vs, k.trans e, q.ext x⟩
  | dic ws => obtain ⟨vs, e, q⟩ := r; exact ⟨vs, k.trans e, q.ext x⟩
  | ins f ws => obtain ⟨C, dx, vs, e0, e, q⟩ := r; exact ⟨C, dx, vs, e0, k.trans e, q.ext x⟩

/-! ### a new thing that never changes -/
theorem Ext.alloc (r : RH c d h H) {p : Addr} {o : HO} (hp : H p = none) : Ext d H d (upd H p o) :=
  ⟨Nat.le_refl _, fun _ _ _ e => e, fun _ e => .inl e, fun a u _ e => by rw [upd_ne (L2.ne_of_none e hp)]; exact e, fun _ e _ => e, fun _ e _ => e, fun a z => r.inI z⟩
theorem RH.alloc (r : RH c d h H) {p : Addr} {o : HO} (hp : H p = none) : RH c d h (upd H p o) := by
  refine ⟨r.len, fun n u e => ?_, r.inj, r.sub, fun a f => ?_⟩
  · rcases r.obj n u e with q | ⟨a, ea, q⟩
    · exact .inl q
    · have ha : H a ≠ none := r.has a (r.sub n a ea)
      exact .inr ⟨a, ea, q.ext (Ext.alloc r hp) (upd_ne fun z => ha (by rw [z]; exact hp))⟩
  · have ha : H a ≠ none := r.has a f
    rw [upd_ne fun z => ha (by rw [z]; exact hp)]
    exact ha

/-! ### a new thing that may change -/
def Wd.push (d : Wd) (p : Addr) : Wd := ⟨d.ι ++ [some p], fun a => d.F a ∨ a = p⟩
theorem inI_push {p a : Addr} : inI (d.push p) a ↔ inI d a ∨ a = p := by
  constructor
  · rintro ⟨n, e⟩
    by_cases hn : n < d.ι.length
    · exact .inl ⟨n, by rw [show (d.push p).ι = d.ι ++ [some p] from rfl, List.getElem?_append_left hn] at e; exact e⟩
    · rw [show (d.push p).ι = d.ι ++ [some p] from rfl, List.getElem?_append_right (by omega)] at e
      cases hk : n - d.ι.length with
      | zero => rw [hk] at e; simp at e; exact .inr e.symm
      | succ k => rw [hk] at e; simp at e
  · rintro (⟨n, e⟩ | e)
    · have hn : n < d.ι.length := (List.getElem?_eq_some_iff.mp e).1
      exact ⟨n, by rw [show (d.push p).ι = d.ι ++ [some p] from rfl, List.getElem?_append_left hn]; exact e⟩
    · exact ⟨d.ι.length, by rw [show (d.push p).ι = d.ι ++ [some p] from rfl, List.getElem?_append_right (Nat.le_refl _)]; simp [e]⟩
theorem Ext.push (r : RH c d h H) {p : Addr} {o : HO} (hp : H p = none) : Ext d H (d.push p) (upd H p o) := by
  refine ⟨?_, fun n a l e => ?_, fun a z => ?_, fun a u _ e => ?_, fun a n e => ?_, fun a f _ => .inl f, fun a z => r.inI z⟩
  · show _ ≤ (d.ι ++ [some p]).length
    rw [List.length_append]; omega
  · rw [show (d.push p).ι = d.ι ++ [some p] from rfl, List.getElem?_append_left l] at e
    exact e
  · rcases inI_push.mp z with q | q
    · exact .inl q
    · rw [q]; exact .inr hp
  · rw [upd_ne (L2.ne_of_none e hp)]; exact e
  · rintro (z | z)
    · exact n z
    · rw [z] at e; exact e hp
theorem nth_append {α : Type} (l : List α) (x : α) (n : Nat) : nth (l ++ [x]) n = if n < l.length then nth l n else if n = l.length then some x else none := by
  rw [nth_eq, nth_eq]
  by_cases hn : n < l.length
  · rw [if_pos hn, List.getElem?_append_left hn]
  · rw [if_neg hn, List.getElem?_append_right (by omega)]
    by_cases he : n = l.length
    · rw [if_pos he, he]; simp
    · rw [if_neg he]
      obtain ⟨k, hk⟩ : ∃ k, n - l.length = k + 1 := ⟨n - l.length - 1, by omega⟩
      rw [hk]; simp
theorem RH.push (r : RH c d h H) {p : Addr} {u : HO} {o : LO} (hp : H p = none) (ho : RO c (d.push p) (upd H p u) o p) : RH c (d.push p) (h ++ [o]) (upd H p u) := by
  have ex := Ext.push (o := u) r hp
  refine ⟨?_, fun n v e => ?_, fun n m a e1 e2 => ?_, fun n a e => ?_, fun a f => ?_⟩
  · show (d.ι ++ [some p]).length = _
    rw [List.length_append, List.length_append, r.len]; rfl
  · rw [nth_append] at e
    by_cases hn : n < h.length
    · rw [if_pos hn] at e
      have hn' : n < d.ι.length := by rw [r.len]; exact hn
      rcases r.obj n v e with ⟨q1, q2⟩ | ⟨a, ea, q⟩
      · exact .inl ⟨q1, by rw [show (d.push p).ι = d.ι ++ [some p] from rfl, List.getElem?_append_left hn']; exact q2⟩
      · have ha : H a ≠ none := r.has a (r.sub n a ea)
        exact .inr ⟨a, by rw [show (d.push p).ι = d.ι ++ [some p] from rfl, List.getElem?_append_left hn']; exact ea, q.ext ex (upd_ne fun z => ha (by rw [z]; exact hp))⟩
    · rw [if_neg hn] at e
      by_cases he : n = h.length
      · rw [if_pos he] at e
        cases e
        exact .inr ⟨p, by rw [show (d.push p).ι = d.ι ++ [some p] from rfl, he, ← r.len, List.getElem?_append_right (Nat.le_refl _)]; simp, ho⟩
      · rw [if_neg he] at e; cases e
  · have hlt : ∀ k : Nat, (d.push p).ι[k]? = some (some a) → (k < d.ι.length ∧ d.ι[k]? = some (some a)) ∨ (k = d.ι.length ∧ a = p) := fun k q => by
      by_cases hk : k < d.ι.length
      · exact .inl ⟨hk, by rw [show (d.push p).ι = d.ι ++ [some p] from rfl, List.getElem?_append_left hk] at q; exact q⟩
      · rw [show (d.push p).ι = d.ι ++ [some p] from rfl, List.getElem?_append_right (by omega)] at q
        cases hz : k - d.ι.length with
        | zero => rw [hz] at q; simp at q; exact .inr ⟨by omega, q.symm⟩
        | succ j => rw [hz] at q; simp at q
    have noP : ∀ k : Nat, d.ι[k]? = some (some p) → False := fun k q => r.has p (r.sub k p q) hp
    rcases hlt n e1 with ⟨_, q1⟩ | ⟨q1, z1⟩ <;> rcases hlt m e2 with ⟨_, q2⟩ | ⟨q2, z2⟩
    · exact r.inj n m a q1 q2
    · rw [z2] at q1; exact (noP n q1).elim
    · rw [z1] at q2; exact (noP m q2).elim
    · rw [q1, q2]
  · rcases inI_push.mp ⟨n, e⟩ with q | q
    · exact .inl (r.inI q)
    · exact .inr q
  · rcases f with f | f
    · have ha : H a ≠ none := r.has a f
      rw [upd_ne fun z => ha (by rw [z]; exact hp)]; exact ha
    · rw [f, upd_same]; simp

/-! ### a changing object is changed -/
theorem Ext.write (r : RH c d h H) {p : Addr} {o : HO} (hp : inI d p) : Ext d H d (upd H p o) :=
  ⟨Nat.le_refl _, fun _ _ _ e => e, fun _ e => .inl e, fun a u n e => by rw [upd_ne (fun z => n (by rw [z]; exact hp))]; exact e, fun _ e _ => e, fun _ e _ => e, fun a z => r.inI z⟩
theorem nth_set {α : Type} (l : List α) (x : α) (n m : Nat) : nth (setN l n x) m = if m = n then (if n < l.length then some x else none) else nth l m := by
  rw [nth_eq, nth_eq, setN_eq]
  by_cases e : m = n
  · subst e
    rw [if_pos rfl]
    by_cases hl : m < l.length
    · rw [if_pos hl, List.getElem?_set_self hl]
    · rw [if_neg hl]; exact List.getElem?_eq_none (by rw [List.length_set]; omega)
  · rw [if_neg e, List.getElem?_set_ne (fun z => e z.symm)]
theorem setN_length {α : Type} (l : List α) (n : Nat) (x : α) : (setN l n x).length = l.length := by rw [setN_eq, List.length_set]
theorem RH.write (r : RH c d h H) {n : Nat} {p : Addr} {u : HO} {o : LO} (hp : d.ι[n]? = some (some p)) (ho : RO c d (upd H p u) o p) : RH c d (setN h n o) (upd H p u) := by
  have ex := Ext.write (o := u) r (p := p) ⟨n, hp⟩
  refine ⟨by rw [setN_length]; exact r.len, fun m v e => ?_, r.inj, r.sub, fun a f => ?_⟩
  · rw [nth_set] at e
    by_cases hm : m = n
    · rw [if_pos hm] at e
      split at e
      · cases e; exact .inr ⟨p, by rw [hm]; exact hp, ho⟩
      · cases e
    · rw [if_neg hm] at e
      rcases r.obj m v e with q | ⟨a, ea, q⟩
      · exact .inl q
      · exact .inr ⟨a, ea, q.ext ex (upd_ne fun z => hm (r.inj m n p (by rw [← z]; exact ea) hp))⟩
  · by_cases z : a = p
    · rw [z, upd_same]; simp
    · rw [upd_ne z]; exact r.has a f

/-! ### a changing object changes no more -/
def Wd.drop (d : Wd) (n : Nat) (p : Addr) : Wd := ⟨d.ι.set n none, fun a => d.F a ∧ a ≠ p⟩
theorem inI_drop {n : Nat} {p a : Addr} (z : inI (d.drop n p) a) : inI d a := by
  obtain ⟨m, e⟩ := z
  by_cases hm : m = n
  · subst hm
    by_cases hl : m < d.ι.length
    · rw [show (d.drop m p).ι = d.ι.set m none from rfl, List.getElem?_set_self hl] at e; cases e
    · rw [show (d.drop m p).ι = d.ι.set m none from rfl, List.getElem?_eq_none (by rw [List.length_set]; omega)] at e; cases e
  · exact ⟨m, by rw [show (d.drop n p).ι = d.ι.set n none from rfl, List.getElem?_set_ne (fun q => hm q.symm)] at e; exact e⟩
theorem drop_ne (r : RH c d h H) {n : Nat} {p : Addr} (hp : d.ι[n]? = some (some p)) : ¬ inI (d.drop n p) p := by
  rintro ⟨m, e⟩
  by_cases hm : m = n
  · subst hm
    have hl : m < d.ι.length := (List.getElem?_eq_some_iff.mp hp).1
    rw [show (d.drop m p).ι = d.ι.set m none from rfl, List.getElem?_set_self hl] at e; cases e
  · rw [show (d.drop n p).ι = d.ι.set n none from rfl, List.getElem?_set_ne (fun q => hm q.symm)] at e
    exact hm (r.inj m n p e hp)
theorem Ext.drop (r : RH c d h H) {n : Nat} {p : Addr} (hp : d.ι[n]? = some (some p)) : Ext d H (d.drop n p) H := by
  refine ⟨?_, fun m a l e => ?_, fun a z => .inl (inI_drop z), fun a u _ e => e, fun a f _ z => f z.1, fun a f z => ⟨f, fun q => z (by rw [q]; exact ⟨n, hp⟩)⟩, fun a z => r.inI z⟩
  · show _ ≤ (d.ι.set n none).length
    rw [List.length_set]; exact Nat.le_refl _
  · rw [show (d.drop n p).ι = d.ι.set n none from rfl] at e
    by_cases hm : m = n
    · subst hm; rw [List.getElem?_set_self l] at e; cases e
    · rw [List.getElem?_set_ne (fun q => hm q.symm)] at e; exact e
theorem RH.drop (r : RH c d h H) {n : Nat} {p : Addr} (hp : d.ι[n]? = some (some p)) : RH c (d.drop n p) (setN h n .dead) H := by
  have ex := Ext.drop r hp
  have hl : n < d.ι.length := (List.getElem?_eq_some_iff.mp hp).1
  have at_ : ∀ {m : Nat} {a : Addr}, (d.drop n p).ι[m]? = some (some a) → m ≠ n ∧ d.ι[m]? = some (some a) := fun {m a} e => by
    rw [show (d.drop n p).ι = d.ι.set n none from rfl] at e
    by_cases hm : m = n
    · subst hm; rw [List.getElem?_set_self hl] at e; cases e
    · rw [List.getElem?_set_ne (fun q => hm q.symm)] at e; exact ⟨hm, e⟩
  refine ⟨by rw [setN_length]; show (d.ι.set n none).length = _; rw [List.length_set]; exact r.len, fun m v e => ?_, fun m k a e1 e2 => r.inj m k a (at_ e1).2 (at_ e2).2, fun m a e => ?_, fun a f => r.has a f.1⟩
  · rw [nth_set] at e
    by_cases hm : m = n
    · rw [if_pos hm] at e
      split at e
      · cases e; exact .inl ⟨rfl, by rw [show (d.drop n p).ι = d.ι.set n none from rfl, hm, List.getElem?_set_self hl]⟩
      · cases e
    · rw [if_neg hm] at e
      have keep : (d.drop n p).ι[m]? = d.ι[m]? := by rw [show (d.drop n p).ι = d.ι.set n none from rfl, List.getElem?_set_ne (fun q => hm q.symm)]
      rcases r.obj m v e with ⟨q1, q2⟩ | ⟨a, ea, q⟩
      · exact .inl ⟨q1, by rw [keep]; exact q2⟩
      · exact .inr ⟨a, by rw [keep]; exact ea, q.ext ex rfl⟩
  · obtain ⟨hm, q⟩ := at_ e
    exact ⟨r.sub m a q, fun z => hm (r.inj m n p (by rw [← z]; exact q) hp)⟩

/-! ### reading -/
theorem RH.live (r : RH c d h H) {n : Nat} {v : V} {o : LO} (hv : RW c d H (.ref n) v) (e : nth h n = some o) (nd : o ≠ .dead) : ∃ a, v = .ref a ∧ d.ι[n]? = some (some a) ∧ RO c d H o a := by
  cases hv with
  | ref l f =>
    rcases r.obj n o e with ⟨q, _⟩ | ⟨a, ea, q⟩
    · exact (nd q).elim
    · exact ⟨a, f a ea, ea, q⟩
theorem pvs_of : ∀ {ws : List W} {vs : List V} {ps : List PV}, RWs c d H ws vs → pvsOf ws = some ps → RPs c d.F H ps vs
  | _, _, ps, .nil, e => by
    simp only [pvsOf, Option.some.injEq] at e
    subst e; exact .nil
  | _, _, ps, .cons hw hr, e => by
    cases hw with
    | pv hp =>
      simp only [pvsOf] at e
      split at e
      · rename_i qs eq
        cases e
        exact .cons hp (pvs_of hr eq)
      · cases e
    | ref _ _ => simp only [pvsOf] at e; cases e
    | fn _ => simp only [pvsOf] at e; cases e
    | cl _ => simp only [pvsOf] at e; cases e
    | obj _ _ _ _ => simp only [pvsOf] at e; cases e
theorem RPs.ws : ∀ {ps : List PV} {vs : List V}, RPs c d.F H ps vs → RWs c d H (ps.map W.pv) vs
  | _, _, .nil => .nil
  | _, _, .cons h r => .cons (.pv h) (RPs.ws r)
theorem line_ok {n : Nat} (e : line n = true) : n ≤ sizeLine := by
  rw [PySem.sizeLine_eq]
  exact Nat.le_of_ble_eq_true e

/-! ### new tuples and lists -/
theorem newT_ok {ws : List W} {vs : List V} {Q : VK} {Xw : Xn → Wd → AH → Prop} (r : RH c d h H) (hw : RWs c d H ws vs) (s : Sat c d H Xw (newT ws h) (wV c Q)) :
    vs.length ≤ sizeLine ∧ ∀ p, H p = none → Q (.ref p) (upd H p (.tup vs)) := by
  unfold newT at s
  cases e : line ws.length with
  | false => rw [e] at s; exact s.elim
  | true =>
    rw [e] at s
    simp only at s
    cases e2 : pvsOf ws with
    | none => rw [e2] at s; exact s.elim
    | some ps =>
      rw [e2] at s
      refine ⟨by rw [← hw.length]; exact line_ok e, fun p hp => ?_⟩
      have x := Ext.alloc (o := .tup vs) r hp
      exact s d _ x (r.alloc hp) _ (.pv (.tup (.inl ⟨.inl upd_same, r.notF hp⟩) ((pvs_of hw e2).ext x)))
theorem newL_ok {m : Bool} {ws : List W} {vs : List V} {Q : VK} {Xw : Xn → Wd → AH → Prop} (r : RH c d h H) (hw : RWs c d H ws vs) (s : Sat c d H Xw (newL m ws h) (wV c Q)) :
    vs.length ≤ sizeLine ∧ ∀ p, H p = none → Q (.ref p) (upd H p (.lst vs)) := by
  unfold newL at s
  cases e : line ws.length with
  | false => rw [e] at s; exact s.elim
  | true =>
    rw [e] at s
    refine ⟨by rw [← hw.length]; exact line_ok e, fun p hp => ?_⟩
    cases m with
    | false =>
      simp only at s
      cases e2 : pvsOf ws with
      | none => rw [e2] at s; exact s.elim
      | some ps =>
        rw [e2] at s
        have x := Ext.alloc (o := .lst vs) r hp
        exact s d _ x (r.alloc hp) _ (.pv (.lst (.inl ⟨.inl upd_same, r.notF hp⟩) ((pvs_of hw e2).ext x)))
    | true =>
      simp only at s
      have x := Ext.push (o := .lst vs) r hp
      have r' : RH c (d.push p) (h ++ [.lst ws]) (upd H p (.lst vs)) := r.push hp ⟨vs, upd_same, hw.ext x⟩
      refine s _ _ x r' _ (.ref ?_ fun a ea => ?_)
      · rw [r'.len, List.length_append]; simp
      · rw [show (d.push p).ι = d.ι ++ [some p] from rfl, ← r.len, List.getElem?_append_right (Nat.le_refl _)] at ea
        simp at ea
        rw [ea]
end

section
variable {c : Cf} {X : L2.Cx} {Wx : L2.WX}
theorem he_tup {es : List Expr} {evs : Sl → LH → R (List W)} {k : Nat} {pos : Pos} (ha : HA c X Wx evs es) : HE c X Wx (fun ρ h => (evs ρ h).bind newT) (.Tuple es k pos) := by
  obtain ⟨t, p, q⟩ := ha
  refine ⟨_, L2.pe_tup p, fun d ρ h σ H Q re rh s => ?_⟩
  refine q d ρ h σ H _ re rh ((s.bind rh.has).imp (fun d1 h1 ws H1 x1 r1 s1 => ?_) (fun _ _ _ _ z => z))
  intro vs rv
  exact newT_ok r1 rv s1
theorem he_lst {m : Bool} {es : List Expr} {evs : Sl → LH → R (List W)} {pos : Pos} (ha : HA c X Wx evs es) : HE c X Wx (fun ρ h => (evs ρ h).bind (newL m)) (.List es pos) := by
  obtain ⟨t, p, q⟩ := ha
  refine ⟨_, L2.pe_lst p, fun d ρ h σ H Q re rh s => ?_⟩
  refine q d ρ h σ H _ re rh ((s.bind rh.has).imp (fun d1 h1 ws H1 x1 r1 s1 => ?_) (fun _ _ _ _ z => z))
  intro vs rv
  exact newL_ok r1 rv s1
end
end Sx
end

section
set_option autoImplicit false
set_option linter.all false
set_option Elab.async false
/-! Plain facts: the fast numbers and texts are the usual ones. -/
namespace Sx
open PySem

theorem ilt_eq (i j : Int) : ilt i j = decide (i < j) := by
  cases i with
  | ofNat a =>
    cases j with
    | ofNat b =>
      show Nat.blt a b = _
      rw [Bool.eq_iff_iff, Nat.blt_eq, decide_eq_true_iff, Int.ofNat_eq_natCast, Int.ofNat_eq_natCast, Int.ofNat_lt]
    | negSucc b => exact (decide_eq_false (by rw [Int.ofNat_eq_natCast]; omega)).symm
  | negSucc a =>
    cases j with
    | ofNat b => exact (decide_eq_true (by rw [Int.ofNat_eq_natCast]; omega)).symm
    | negSucc b =>
      show Nat.blt b a = _
      rw [Bool.eq_iff_iff, Nat.blt_eq, decide_eq_true_iff]
      omega
theorem ile_eq (i j : Int) : ile i j = decide (i ≤ j) := by
  unfold ile
  rw [ilt_eq, Bool.eq_iff_iff]
  simp
theorem ieq_eq (i j : Int) : ieq i j = decide (i = j) := by
  cases i with
  | ofNat a =>
    cases j with
    | ofNat b =>
      show Nat.beq a b = _
      rw [Bool.eq_iff_iff, Nat.beq_eq, decide_eq_true_iff]
      exact ⟨fun h => by rw [h], fun h => Int.ofNat.inj h⟩
    | negSucc b => exact (decide_eq_false (fun z => nomatch z)).symm
  | negSucc a =>
    cases j with
    | ofNat b => exact (decide_eq_false (fun z => nomatch z)).symm
    | negSucc b =>
      show Nat.beq a b = _
      rw [Bool.eq_iff_iff, Nat.beq_eq, decide_eq_true_iff]
      exact ⟨fun h => by rw [h], fun h => Int.negSucc.inj h⟩
theorem iadd_eq (i j : Int) : iadd i j = i + j := by
  cases i <;> cases j <;> rfl
theorem isub_eq (i j : Int) : isub i j = i - j := by
  cases i with
  | ofNat a =>
    cases j with
    | ofNat b =>
      show (match Nat.ble b a with
        | true => Int.ofNat (Nat.sub a b)
        | false => Int.negSucc (Nat.sub (Nat.sub b a) 1)) = _
      cases h : Nat.ble b a with
      | true =>
        have h1 : b ≤ a := Nat.le_of_ble_eq_true h
        show ((a - b : Nat) : Int) = (a : Int) - (b : Int)
        omega
      | false =>
        have h1 : ¬ b ≤ a := fun z => by rw [Nat.ble_eq_true_of_le z] at h; cases h
        show Int.negSucc (b - a - 1) = (a : Int) - (b : Int)
        omega
    | negSucc b => rfl
  | negSucc a => cases j <;> rfl
theorem imul_eq (i j : Int) : imul i j = i * j := by
  cases i <;> cases j <;> rfl
theorem idiv_eq (i j : Int) : idiv i j = i / j := by
  cases i <;> cases j <;> rfl
theorem imod_eq (i j : Int) : imod i j = i % j := by
  cases i <;> cases j <;> rfl
theorem ineg_eq (i : Int) : ineg i = -i := by
  cases i with
  | ofNat a => cases a <;> rfl
  | negSucc a => rfl
theorem beqB_eq (a b : Bool) : beqB a b = (a == b) := by cases a <;> cases b <;> rfl
theorem txEq_eq : ∀ (x y : Tx), txEq x y = decide (x = y)
  | [], [] => by simp [txEq]
  | [], b :: y => by simp [txEq]
  | a :: x, [] => by simp [txEq]
  | a :: x, b :: y => by
    unfold txEq
    cases h : Nat.beq a b with
    | true =>
      have e : a = b := Nat.eq_of_beq_eq_true h
      simp only [txEq_eq x y, e, List.cons.injEq, true_and]
    | false =>
      have e : a ≠ b := Nat.ne_of_beq_eq_false h
      simp [e]
theorem txLt_eq : ∀ (x y : Tx), txLt x y = decide (x < y)
  | x, [] => by cases x <;> simp [txLt]
  | [], b :: y => by simp [txLt]
  | a :: x, b :: y => by
    unfold txLt
    rw [PySem.StrLaws.lt_cons_cons]
    cases h : Nat.blt a b with
    | true =>
      have e : a < b := by rwa [Nat.blt_eq] at h
      simp [e]
    | false =>
      have e : ¬ a < b := fun z => by rw [← Nat.blt_eq, h] at z; cases z
      cases h2 : Nat.blt b a with
      | true =>
        have e2 : b < a := by rwa [Nat.blt_eq] at h2
        have e3 : ¬ a = b := by omega
        simp [e, e3]
      | false =>
        have e2 : ¬ b < a := fun z => by rw [← Nat.blt_eq, h2] at z; cases z
        have e3 : a = b := by omega
        subst e3
        simp [txLt_eq x y]

theorem toStr_cps (s : Tx) : (toStr s).cps.toList = s := by simp [toStr]
theorem toStr_len (s : Tx) : (toStr s).length = s.length := by simp [toStr, Str.length]
theorem toStr_inj {x y : Tx} (h : toStr x = toStr y) : x = y := by
  have := congrArg (fun z : Str => z.cps.toList) h
  simpa [toStr] using this
theorem toStr_app (x y : Tx) : toStr x ++ toStr y = toStr (x ++ y) := by
  show Str.append _ _ = _
  simp [toStr, Str.append]
theorem toStr_eq (x : Str) : toStr x.cps.toList = x := by cases x; simp [toStr]

/-! ### a text within a text -/
theorem pre_eq : ∀ (x y : Tx), pre x y = ((y.take x.length) == x)
  | [], y => by simp [pre]
  | a :: x, [] => by simp [pre]
  | a :: x, b :: y => by
    unfold pre
    rw [List.length_cons, List.take_succ_cons]
    cases h : Nat.beq a b with
    | true =>
      have e : a = b := Nat.eq_of_beq_eq_true h
      subst e
      simp [pre_eq x y]
    | false =>
      have e : a ≠ b := Nat.ne_of_beq_eq_false h
      have e2 : ¬ b = a := fun z => e z.symm
      simp [e2]
theorem pre_nil : ∀ (x : Tx), pre x [] = x.isEmpty
  | [] => rfl
  | _ :: _ => rfl
/-- place looks from n on -/
theorem place_some (x : Tx) : ∀ (y : Tx) (n k : Nat), place x y n = some k → n ≤ k ∧ k - n ≤ y.length ∧ pre x (y.drop (k - n)) = true ∧ ∀ j, j < k - n → pre x (y.drop j) = false
  | [], n, k, h => by
    unfold place at h
    cases x with
    | nil =>
      simp only [Option.some.injEq] at h
      subst h
      exact ⟨Nat.le_refl _, by simp, by simp [pre], fun j hj => by omega⟩
    | cons a x => cases h
  | b :: y, n, k, h => by
    unfold place at h
    cases e : pre x (b :: y) with
    | true =>
      rw [e] at h
      simp only [Option.some.injEq] at h
      subst h
      exact ⟨Nat.le_refl _, by simp, by simpa using e, fun j hj => by omega⟩
    | false =>
      rw [e] at h
      simp only at h
      obtain ⟨h1, h2, h3, h4⟩ := place_some x y (n + 1) k h
      have hk : k - n = (k - (n + 1)) + 1 := by omega
      refine ⟨by omega, by rw [List.length_cons]; omega, by rw [hk, List.drop_succ_cons]; exact h3, fun j hj => ?_⟩
      cases j with
      | zero => simpa using e
      | succ j => rw [List.drop_succ_cons]; exact h4 j (by omega)
theorem place_none (x : Tx) : ∀ (y : Tx) (n : Nat), place x y n = none → ∀ j, j ≤ y.length → pre x (y.drop j) = false
  | [], n, h, j, hj => by
    unfold place at h
    cases x with
    | nil => cases h
    | cons a x => simp [pre]
  | b :: y, n, h, j, hj => by
    unfold place at h
    cases e : pre x (b :: y) with
    | true => rw [e] at h; cases h
    | false =>
      rw [e] at h
      cases j with
      | zero => simpa using e
      | succ j => rw [List.drop_succ_cons]; exact place_none x y (n + 1) h j (by simpa using hj)
theorem at_pre (x y : Tx) (i : Nat) : StrLaws.At (toStr y) (toStr x) (toStr y).length i ↔ i + x.length ≤ y.length ∧ pre x (y.drop i) = true := by
  unfold StrLaws.At
  rw [StrLaws.subAt_eq, toStr_len, toStr_len, toStr_cps, toStr_cps, pre_eq]
theorem pre_len {x y : Tx} (h : pre x y = true) : x.length ≤ y.length := by
  rw [pre_eq] at h
  have e := congrArg List.length (eq_of_beq h)
  rw [List.length_take] at e
  omega
/-- the model's first place is ours -/
theorem occ_place (x y : Tx) : (∃ k r, place x y 0 = some k ∧ Builtin.Str.occurrences (toStr y) (toStr x) 0 (toStr y).length 1 = k :: r) ∨ (place x y 0 = none ∧ Builtin.Str.occurrences (toStr y) (toStr x) 0 (toStr y).length 1 = []) := by
  have fit : ∀ i, pre x (y.drop i) = true → i ≤ y.length → i + x.length ≤ y.length := fun i h hi => by
    have := pre_len h
    rw [List.length_drop] at this
    omega
  rcases StrLaws.occ_head (toStr y) (toStr x) 1 (Nat.le_refl _) with ⟨h, hn⟩ | ⟨i, r, h, hi, hn⟩
  · right
    refine ⟨?_, h⟩
    cases e : place x y 0 with
    | none => rfl
    | some k =>
      obtain ⟨_, h2, h3, _⟩ := place_some x y 0 k e
      exact (hn k ((at_pre x y k).mpr ⟨fit k (by simpa using h3) (by simpa using h2), by simpa using h3⟩)).elim
  · left
    obtain ⟨q1, q2⟩ := (at_pre x y i).mp hi
    cases e : place x y 0 with
    | none => rw [place_none x y 0 e i (by omega)] at q2; cases q2
    | some k =>
      obtain ⟨_, h2, h3, h4⟩ := place_some x y 0 k e
      have h3' : pre x (y.drop k) = true := by simpa using h3
      have hk : ¬ k < i := fun z => hn k z ((at_pre x y k).mpr ⟨fit k h3' (by simpa using h2), h3'⟩)
      have hk2 : ¬ i < k := fun z => by rw [h4 i (by omega)] at q2; cases q2
      have : k = i := by omega
      subst this
      exact ⟨k, r, rfl, h⟩
theorem occ_in (x y : Tx) : (!(Builtin.Str.occurrences (toStr y) (toStr x) 0 (toStr y).length 1).isEmpty) = (place x y 0).isSome := by
  rcases occ_place x y with ⟨k, r, h1, h2⟩ | ⟨h1, h2⟩ <;> rw [h1, h2] <;> rfl

/-! ### places and cuts -/
theorem atIx_eq {α : Type} (xs : List α) (i : Int) : atIx xs i = L2.atI xs i := by
  unfold atIx L2.atI L2.ixN
  cases i with
  | ofNat n =>
    simp only
    rw [nth_eq, Int.ofNat_eq_natCast, if_pos (Int.natCast_nonneg n)]
    by_cases h : n < xs.length
    · rw [if_pos (show (n : Int) < (xs.length : Int) by omega)]
      rfl
    · rw [if_neg (show ¬ (n : Int) < (xs.length : Int) by omega), List.getElem?_eq_none (by omega)]
      rfl
  | negSucc n =>
    simp only
    rw [if_neg (by omega)]
    cases h : Nat.blt n xs.length with
    | true =>
      have h1 : n < xs.length := by rwa [Nat.blt_eq] at h
      rw [if_pos (show -(xs.length : Int) ≤ Int.negSucc n by omega)]
      simp only [Option.bind_some]
      rw [nth_eq]
      congr 1
      omega
    | false =>
      have h1 : ¬ n < xs.length := fun z => by rw [← Nat.blt_eq, h] at z; cases z
      rw [if_neg (show ¬ -(xs.length : Int) ≤ Int.negSucc n by omega)]
      rfl
theorem sIx_eq (n d : Nat) (o : Option Int) : sIx n d o = HT.sIx n d o := by
  cases o with
  | none => rfl
  | some v =>
    cases v with
    | ofNat k =>
      exact (HT.sIx_nat n d k).symm
    | negSucc k =>
      show n - (k + 1) = (if Int.negSucc k < 0 then (Int.negSucc k + (n : Int)).toNat else _)
      rw [if_pos (by omega)]
      omega
theorem cut_eq {α : Type} (xs : List α) (lo hi : Option Int) : cut xs lo hi = (xs.drop (HT.sIx xs.length 0 lo)).take (HT.sIx xs.length xs.length hi - HT.sIx xs.length 0 lo) := by
  unfold cut
  simp only [sIx_eq]

/-! ### data as the kit has it -/
mutual
def toPD : PV → PyData
  | .non => .none
  | .bl b => .bool b
  | .int i => .int i
  | .str s => .str (toStr s)
  | .tup xs => .tuple (toPDs xs)
  | .lst xs => .list (toPDs xs)
def toPDs : List PV → List PyData
  | [] => []
  | x :: xs => toPD x :: toPDs xs
end
theorem b2n_eq (b : Bool) : b2n b = if b then 1 else 0 := by cases b <;> rfl
mutual
theorem eqv_eq : ∀ (a b : PV), PV.eqv a b = PyData.eqv (toPD a) (toPD b)
  | .non, b => by cases b <;> simp [PV.eqv, toPD, PyData.eqv]
  | .bl x, b => by
    cases b <;> simp [PV.eqv, toPD, PyData.eqv, beqB_eq, ieq_eq, b2n_eq]
    · rw [Bool.eq_iff_iff]; simp
  | .int x, b => by
    cases b <;> simp [PV.eqv, toPD, PyData.eqv, beqB_eq, ieq_eq, b2n_eq] <;> (rw [Bool.eq_iff_iff]; simp)
  | .str x, b => by
    cases b <;> simp [PV.eqv, toPD, PyData.eqv, txEq_eq]
    · rw [Bool.eq_iff_iff]; simp
      exact ⟨fun h => by rw [h], toStr_inj⟩
  | .tup xs, b => by
    cases b <;> simp [PV.eqv, toPD, PyData.eqv]
    exact eqvs_eq xs _
  | .lst xs, b => by
    cases b <;> simp [PV.eqv, toPD, PyData.eqv]
    exact eqvs_eq xs _
theorem eqvs_eq : ∀ (a b : List PV), PV.eqvs a b = PyData.eqvAll (toPDs a) (toPDs b)
  | [], b => by cases b <;> simp [PV.eqvs, toPDs, PyData.eqvAll]
  | x :: xs, b => by
    cases b with
    | nil => simp [PV.eqvs, toPDs, PyData.eqvAll]
    | cons y ys =>
      simp only [PV.eqvs, toPDs, PyData.eqvAll, ← eqv_eq x y, ← eqvs_eq xs ys]
      cases PV.eqv x y <;> rfl
end
theorem dep_depth : ∀ (n : Nat) (p : PV), p.dep n = true → (toPD p).depth ≤ n
  | n, .non, _ | n, .bl _, _ | n, .int _, _ | n, .str _, _ => by simp [toPD, PyData.depth]
  | 0, .tup _, h | 0, .lst _, h => by simp [PV.dep] at h
  | n + 1, .tup xs, h | n + 1, .lst xs, h => by
    have all : ∀ ys : List PV, ys.all (PV.dep n) = true → PyData.depthAll (toPDs ys) ≤ n := by
      intro ys
      induction ys with
      | nil => intro _; simp [toPDs, PyData.depthAll]
      | cons y ys ih =>
        intro q
        rw [List.all_cons, Bool.and_eq_true] at q
        have h1 := dep_depth n y q.1
        have h2 := ih q.2
        simp only [toPDs, PyData.depthAll]
        omega
    have q := all xs (by simpa [PV.dep] using h)
    simp only [toPD, PyData.depth]
    omega
end Sx
end

section
set_option autoImplicit false
set_option linter.all false
set_option Elab.async false
/-! Operators: what the evaluator gives, the kit's rules give. -/
namespace Sx
open PySem
open L2 (V St SqL SqT Rd upd upd_same upd_ne HO PE PT PA PS PSs VK OpR)
section
variable {c : Cf} {d : Wd} {h : LH} {H : AH}

theorem items_ok {w : W} {v : V} {ws : List W} (r : RH c d h H) (hv : RW c d H w v) (e : itemsOf w h = some ws) :
    ∃ a vs, v = .ref a ∧ RWs c d H ws vs ∧ ((isTup w = false ∧ SqL c.K H a vs) ∨ (isTup w = true ∧ SqT c.K H a vs)) := by
  cases hv with
  | pv hp =>
    cases hp with
    | tup ha hr =>
      simp only [itemsOf, Option.some.injEq] at e
      subst e
      exact ⟨_, _, rfl, hr.ws, .inr ⟨rfl, ha.sq⟩⟩
    | lst ha hr =>
      simp only [itemsOf, Option.some.injEq] at e
      subst e
      exact ⟨_, _, rfl, hr.ws, .inl ⟨rfl, ha.sq⟩⟩
    | _ => simp [itemsOf] at e
  | @ref n v l f =>
    simp only [itemsOf] at e
    cases q : nth h n with
    | none => rw [q] at e; cases e
    | some o =>
      rw [q] at e
      cases o with
      | lst xs =>
        simp only [Option.some.injEq] at e
        subst e
        obtain ⟨a, ea, _, vs, h1, h2⟩ := r.live (.ref l f) q (by simp)
        exact ⟨a, vs, ea, h2, .inl ⟨rfl, .inl (.inl h1)⟩⟩
      | _ => simp at e
  | _ => simp [itemsOf] at e

theorem list_cat {l b : Addr} {us ws : List Value} {P : Program} {w : World} {A : Around} {E : Value → Shared → Prop} {s : Shared} {Q : Value → Shared → Prop}
    (hl : s.heap.IsList l us.toArray) (hb : s.heap.IsList b ws.toArray) (hsz : us.length + ws.length ≤ sizeLine)
    (q : Q (.ref s.heap.objs.size) { s with heap := s.heap.push { cls := .type "list", data := .seq (us ++ ws).toArray } }) : wpAny (model P w) A (binaryOp .Add (.ref l) (.ref b)) Q E s := by
  obtain ⟨⟨c1, dd, dt, sl⟩, ho, hc, n, hd⟩ := id hl
  obtain ⟨⟨c2, dd2, dt2, sl2⟩, ho2, hc2, n2, hd2⟩ := id hb
  simp only at hc hd hc2 hd2
  subst hc hd hc2 hd2
  refine concat_meets ⟨_, ho, rfl⟩ ⟨_, ho2, rfl⟩ noFill_list_add seq_list_add PySem.F.slot_list_add PySem.F.entry_list_add (PySem.F.args_list_add_2 _ _)
    (PyProof.Rows.list_addW l b us.toArray ws.toArray n n2 dd dd2 sl sl2 (by simpa using hsz)) ⟨ho, ho2, ?_⟩
  rw [show us.toArray ++ ws.toArray = (us ++ ws).toArray by simp]
  exact q
def rCatL (K : PySem.W.Frag) : L2.R2 := fun x y H Q => ∃ a b us ws, x = .ref a ∧ y = .ref b ∧ SqL K H a us ∧ SqL K H b ws ∧ us.length + ws.length ≤ sizeLine ∧
  ∀ p, H p = none → Q (.ref p) (upd H p (.lst (us ++ ws)))
theorem op_catL {X : L2.Cx} : OpR X (binaryOp .Add) (rCatL X.K) := by
  intro pins s σ H x y v u Q I rx ry h
  obtain ⟨a, b, us, ws, rfl, rfl, ha, hb, hz, q⟩ := h
  cases rx
  cases ry
  obtain ⟨i1, r1, p1, _⟩ := I.list ha
  obtain ⟨i2, r2, p2, _⟩ := I.list hb
  have e1 := r1.length
  have e2 := r2.length
  refine list_cat p1.isList p2.isList (by omega) ?_
  exact ⟨.ref s.heap.objs.size, _, I.laid (t' := s.toks) (o := .lst (us ++ ws)) (fun b o e => Heap.get?_push_of_some _ e) (Nat.le_refl _)
    ⟨by rw [List.length_append]; exact hz, _, 0, r1.append r2, Heap.get?_push_size _ rfl⟩, rfl, q _ (I.hok.fresh (Nat.le_refl _))⟩
/-- t * k -/
theorem op_mulS {X : L2.Cx} : OpR X (binaryOp .Mult) (fun x y H Q => ∃ (s : Tx) (k : Nat), x = .str (toStr s) ∧ y = .int (k : Int) ∧ k ≤ 100000 ∧ s.length ≤ 100 ∧ Q (.str (toStr (List.replicate k s).flatten)) H) := by
  intro pins st σ H x y v u Q I rx ry h
  obtain ⟨s, k, rfl, rfl, hk, hs, q⟩ := h
  obtain ⟨t, rfl⟩ := rx
  obtain ⟨t', rfl⟩ := ry
  have hsz : sizeLine = 16777216 := PySem.sizeLine_eq
  have hp : s.length * k ≤ 10000000 := Nat.le_trans (Nat.mul_le_mul hs hk) (by decide)
  refine PySem.P.mul_str ?_ (fun h1 h2 => ?_) (fun h1 h2 => ?_) ?_
  · rw [decide_eq_false (by omega), decide_eq_false (by omega)]; rfl
  · rw [toStr_len]
    have : (100 : Int) ≤ (2 ^ 63 - 1) / (k : Int) := by
      rw [Int.le_ediv_iff_mul_le (by omega)]
      omega
    omega
  · rw [toStr_len, Int.toNat_natCast]
    unfold Builtin.Str.tooLong
    exact decide_eq_false (by omega)
  · have fin : ∀ (u : Tok) (s' : Shared), L2.Inv X pins σ H s' → L2.EP X pins σ Q (.str (toStr (List.replicate k s).flatten) u) s' := fun u s' I' => ⟨.str _, H, I', ⟨_, rfl⟩, q⟩
    by_cases h1 : (k : Int) < 1
    · rw [if_pos h1]
      have : k = 0 := by omega
      subst this
      exact ⟨by decide, fin _ _ (I.tok _)⟩
    · rw [if_neg h1]
      by_cases h2 : ((k : Int) == 1 || (toStr s).length == 0) = true
      · rw [if_pos h2]
        rw [Bool.or_eq_true, beq_iff_eq, beq_iff_eq, toStr_len] at h2
        have e : (List.replicate k s).flatten = s := by
          rcases h2 with h2 | h2
          · have : k = 1 := by omega
            subst this; simp
          · have : s = [] := List.length_eq_zero_iff.mp h2
            subst this; simp
        have := fin t st I
        rw [e] at this
        exact this
      · rw [if_neg h2]
        have e : (⟨(List.replicate (k : Int).toNat (toStr s).cps).foldl (· ++ ·) #[]⟩ : Str) = toStr (List.replicate k s).flatten := by
          rw [Int.toNat_natCast]
          have gen : ∀ (n : Nat) (acc : Array Nat), ((List.replicate n s.toArray).foldl (· ++ ·) acc).toList = acc.toList ++ (List.replicate n s).flatten := by
            intro n
            induction n with
            | zero => intro acc; simp
            | succ n ih => intro acc; rw [List.replicate_succ, List.foldl_cons, ih, List.replicate_succ]; simp
          have g := gen k #[]
          unfold toStr
          congr 1
          apply Array.toList_inj.mp
          rw [g]; simp
        rw [e]
        exact ⟨by rw [toStr_len, List.length_flatten, List.map_replicate, List.sum_replicate_nat]; rw [hsz, Nat.mul_comm]; omega, fin _ _ (I.tok _)⟩
end
end Sx
end

section
set_option autoImplicit false
set_option linter.all false
set_option Elab.async false
namespace Sx
open PySem
open L2 (V St SqL SqT Rd upd upd_same upd_ne HO PE PT PA PS PSs VK OpR Dp DpAll)
section
variable {c : Cf} {d : Wd} {h : LH} {H : AH}

mutual
theorem RP.dp {F : Addr → Prop} : ∀ {p : PV} {v : V}, RP c F H p v → Dp c.K H v (toPD p)
  | _, _, .non => by simp only [toPD]; exact .non
  | _, _, .bl b => by simp only [toPD]; exact .bl b
  | _, _, .int i => by simp only [toPD]; exact .int i
  | _, _, .str s _ => by simp only [toPD]; exact .str _
  | _, _, .tup h r => by simp only [toPD]; exact .tup h.sq r.dp
  | _, _, .lst h r => by simp only [toPD]; exact .lst h.sq r.dp
theorem RPs.dp {F : Addr → Prop} : ∀ {ps : List PV} {vs : List V}, RPs c F H ps vs → DpAll c.K H vs (toPDs ps)
  | _, _, .nil => by simp only [toPDs]; exact .nil
  | _, _, .cons h r => by simp only [toPDs]; exact .cons h.dp r.dp
end
theorem okTx_lay {s : Tx} (h : okTx s) : PyData.strOk (toStr s) = true := by
  unfold PyData.strOk
  rw [← Array.all_toList, toStr_cps, List.all_eq_true]
  intro x hx
  exact decide_eq_true (h x hx)
mutual
theorem RP.lay {F : Addr → Prop} : ∀ {p : PV} {v : V}, RP c F H p v → (toPD p).canLay0 = true
  | _, _, .non => by simp [toPD, PyData.canLay0]
  | _, _, .bl b => by simp [toPD, PyData.canLay0]
  | _, _, .int i => by simp [toPD, PyData.canLay0]
  | _, _, .str s h => by simp only [toPD, PyData.canLay0]; exact okTx_lay h
  | _, _, .tup h r => by simp only [toPD, PyData.canLay0]; exact r.lay
  | _, _, .lst h r => by simp only [toPD, PyData.canLay0]; exact r.lay
theorem RPs.lay {F : Addr → Prop} : ∀ {ps : List PV} {vs : List V}, RPs c F H ps vs → PyData.canLayAll0 (toPDs ps) = true
  | _, _, .nil => by simp [toPDs, PyData.canLayAll0]
  | _, _, .cons h r => by simp only [toPDs, PyData.canLayAll0, h.lay, r.lay, Bool.and_self]
end

/-- data, whether it may change or not -/
theorem data_ok {w : W} {v : V} {p : PV} (r : RH c d h H) (hv : RW c d H w v) (e : dataOf w h = some p) : Dp c.K H v (toPD p) ∧ (toPD p).canLay0 = true := by
  cases hv with
  | pv hp =>
    simp only [dataOf, Option.some.injEq] at e
    subst e
    exact ⟨hp.dp, hp.lay⟩
  | @ref n v l f =>
    simp only [dataOf] at e
    cases q : nth h n with
    | none => rw [q] at e; cases e
    | some o =>
      rw [q] at e
      cases o with
      | lst xs =>
        simp only at e
        cases q2 : pvsOf xs with
        | none => rw [q2] at e; cases e
        | some ps =>
          rw [q2] at e
          simp only [Option.some.injEq] at e
          subst e
          obtain ⟨a, ea, _, vs, h1, h2⟩ := r.live (.ref l f) q (by simp)
          subst ea
          have hr := pvs_of h2 q2
          exact ⟨by simp only [toPD]; exact .lst (.inl (.inl h1)) hr.dp, by simp only [toPD, PyData.canLay0]; exact hr.lay⟩
      | _ => simp at e
  | _ => simp [dataOf] at e

def rEqP (K : PySem.W.Frag) (neg : Bool) : L2.R2 := fun x y H Q => ∃ a b, Dp K H x a ∧ Dp K H y b ∧ a.canLay0 = true ∧ b.canLay0 = true ∧ min a.depth b.depth ≤ 60 ∧
  Q (.bl (if neg then !PyData.eqv a b else PyData.eqv a b)) H
theorem op_eqP {X : L2.Cx} (hu : X.A.units + 64 < cLine) : OpR X (compareOp .Eq) (rEqP X.K false) := by
  intro pins s σ H x y v u Q I rx ry h
  obtain ⟨a, b, ha, hb, la, lb, hm, q⟩ := h
  obtain ⟨as, r1⟩ := Dp.reads I a x v ha rx
  obtain ⟨bs, r2⟩ := Dp.reads I b y u hb ry
  exact SeqAt.compareEq_reads r1 r2 la lb (by omega) ⟨.bl _, H, I, rfl, q⟩
theorem op_neP {X : L2.Cx} (hu : X.A.units + 64 < cLine) : OpR X (compareOp .NotEq) (rEqP X.K true) := by
  intro pins s σ H x y v u Q I rx ry h
  obtain ⟨a, b, ha, hb, la, lb, hm, q⟩ := h
  obtain ⟨as, r1⟩ := Dp.reads I a x v ha rx
  obtain ⟨bs, r2⟩ := Dp.reads I b y u hb ry
  exact SeqAt.compareNe_reads r1 r2 la lb (by omega) ⟨.bl _, H, I, rfl, q⟩
/-- x in a list or tuple of data -/
def rInP (K : PySem.W.Frag) (neg : Bool) : L2.R2 := fun x y H Q => ∃ a ds, Dp K H x a ∧ (Dp K H y (.list ds) ∨ Dp K H y (.tuple ds)) ∧ a.canLay0 = true ∧ PyData.canLayAll0 ds = true ∧ a.depth ≤ 60 ∧
  Q (.bl (if neg then !ds.any (fun z => PyData.eqv z a) else ds.any fun z => PyData.eqv z a)) H
theorem op_inP {X : L2.Cx} (hu : X.A.units + 65 < cLine) : OpR X (compareOp .In) (rInP X.K false) := by
  intro pins s σ H x y v u Q I rx ry h
  obtain ⟨a, ds, ha, hb, la, lb, hm, q⟩ := h
  obtain ⟨as, r1⟩ := Dp.reads I a x v ha rx
  rcases hb with hb | hb
  · obtain ⟨bs, r2⟩ := Dp.reads I (.list ds) y u hb ry
    exact SeqAt.in_list_reads r2 r1 lb la (by omega) ⟨.bl _, H, I, rfl, q⟩
  · obtain ⟨bs, r2⟩ := Dp.reads I (.tuple ds) y u hb ry
    exact SeqAt.in_tuple_reads r2 r1 lb la (by omega) ⟨.bl _, H, I, rfl, q⟩
theorem op_ninP {X : L2.Cx} (hu : X.A.units + 65 < cLine) : OpR X (compareOp .NotIn) (rInP X.K true) := by
  intro pins s σ H x y v u Q I rx ry h
  obtain ⟨a, ds, ha, hb, la, lb, hm, q⟩ := h
  obtain ⟨as, r1⟩ := Dp.reads I a x v ha rx
  rcases hb with hb | hb
  · obtain ⟨bs, r2⟩ := Dp.reads I (.list ds) y u hb ry
    exact SeqAt.notIn_list_reads r2 r1 lb la (by omega) ⟨.bl _, H, I, rfl, q⟩
  · obtain ⟨bs, r2⟩ := Dp.reads I (.tuple ds) y u hb ry
    exact SeqAt.notIn_tuple_reads r2 r1 lb la (by omega) ⟨.bl _, H, I, rfl, q⟩
theorem any_eqv (p : PV) : ∀ ys : List PV, anyEqv p ys = (toPDs ys).any fun z => PyData.eqv z (toPD p)
  | [] => rfl
  | y :: r => by
    simp only [anyEqv, toPDs, List.any_cons, ← eqv_eq y p, ← any_eqv p r]
    cases PV.eqv y p <;> rfl
end
end Sx
end

section
set_option autoImplicit false
set_option linter.all false
set_option Elab.async false
namespace Sx
open PySem
open L2 (V St SqL SqT Rd upd upd_same upd_ne HO PE PT PA PS PSs VK OpR)

theorem mulOk_eq {i j : Int} (h : mulOk i j = true) : L2.CMul i j := by
  have sm : ∀ k : Int, small64 k = true → -(2 ^ 64) < k ∧ k < 2 ^ 64 := fun k q => by
    unfold small64 at q
    rw [ilt_eq, ilt_eq] at q
    by_cases h1 : Int.negSucc 18446744073709551615 < k
    · rw [decide_eq_true h1] at q
      exact ⟨by omega, of_decide_eq_true q⟩
    · rw [decide_eq_false h1] at q; cases q
  unfold mulOk at h
  cases e : small64 i with
  | true => exact .inl (sm i e)
  | false => rw [e] at h; exact .inr (sm j h)

section
variable {c : Cf} {d : Wd} {h : LH} {H : AH} {Xw : Xn → Wd → AH → Prop}
theorem okIf_ok {b : Bool} {w : W} {P : Wd → LH → W → AH → Prop} (r : RH c d h H) (s : Sat c d H Xw (okIf b w h) P) : b = true ∧ Sat c d H Xw (.ok w h) P := by
  cases b with
  | true => exact ⟨rfl, s⟩
  | false => exact (show False from s).elim
theorem sat_no {P : Wd → LH → W → AH → Prop} (s : Sat c d H Xw .no P) : False := s
theorem ofP_ok {o : Option PV} {P : Wd → LH → W → AH → Prop} (r : RH c d h H) (s : Sat c d H Xw (R.ofP o h) P) : ∃ p, o = some p ∧ P d h (.pv p) H := by
  cases o with
  | none => exact (show False from s).elim
  | some p => exact ⟨p, rfl, Sat.ok (show Sat c d H Xw (.ok (.pv p) h) P from s) r⟩
theorem ofO_ok {o : Option W} {P : Wd → LH → W → AH → Prop} (r : RH c d h H) (s : Sat c d H Xw (R.ofO o h) P) : ∃ p, o = some p ∧ P d h p H := by
  cases o with
  | none => exact (show False from s).elim
  | some p => exact ⟨p, rfl, Sat.ok (show Sat c d H Xw (.ok p h) P from s) r⟩

/-! ### one operator -/
def rAdd (K : PySem.W.Frag) : L2.R2 := fun x y H Q =>
  (∃ i j, x = .int i ∧ y = .int j ∧ Q (.int (i + j)) H) ∨ (∃ i j, x = .str i ∧ y = .str j ∧ i.length + j.length ≤ sizeLine ∧ Q (.str (i ++ j)) H) ∨ L2.rCatA K x y H Q ∨ rCatL K x y H Q
theorem op_add {X : L2.Cx} : OpR X (binaryOp .Add) (rAdd X.K) := L2.op_add.or (L2.op_add_str.or (L2.op_catA.or op_catL))
theorem okTx_app {x y : Tx} (hx : okTx x) (hy : okTx y) : okTx (x ++ y) := fun a ha => by
  rcases List.mem_append.mp ha with q | q
  · exact hx a q
  · exact hy a q
theorem RPs.append {F : Addr → Prop} : ∀ {ps qs : List PV} {vs us : List V}, RPs c F H ps vs → RPs c F H qs us → RPs c F H (ps ++ qs) (vs ++ us)
  | _, _, _, _, .nil, q => q
  | _, _, _, _, .cons h r, q => .cons h (RPs.append r q)
theorem RWs.append : ∀ {ps qs : List W} {vs us : List V}, RWs c d H ps vs → RWs c d H qs us → RWs c d H (ps ++ qs) (vs ++ us)
  | _, _, _, _, .nil, q => q
  | _, _, _, _, .cons h r, q => .cons h (RWs.append r q)
theorem RPs.nil_iff {F : Addr → Prop} {ps : List PV} {vs : List V} (h : RPs c F H ps vs) : ps = [] ↔ vs = [] := by cases h <;> simp
theorem addList {m : Bool} {a b : W} {x y : V} {Q : VK} (r : RH c d h H) (ra : RW c d H a x) (rb : RW c d H b y) (ta : isTup a = false) (tb : isTup b = false)
    (s : Sat c d H Xw (match itemsOf a h, itemsOf b h with
      | some x, some y => newL m (x ++ y) h
      | _, _ => .no) (wV c Q)) : rCatL c.K x y H Q := by
  cases ea : itemsOf a h with
  | none => rw [ea] at s; exact (sat_no s).elim
  | some us =>
    cases eb : itemsOf b h with
    | none => rw [ea, eb] at s; exact (sat_no s).elim
    | some ws =>
      rw [ea, eb] at s
      obtain ⟨p, u1, e1, q1, k1⟩ := items_ok r ra ea
      obtain ⟨q, u2, e2, q2, k2⟩ := items_ok r rb eb
      have l1 : SqL c.K H p u1 := by
        rcases k1 with ⟨_, k⟩ | ⟨t, _⟩
        · exact k
        · rw [ta] at t; cases t
      have l2 : SqL c.K H q u2 := by
        rcases k2 with ⟨_, k⟩ | ⟨t, _⟩
        · exact k
        · rw [tb] at t; cases t
      obtain ⟨z1, z2⟩ := newL_ok r (q1.append q2) s
      rw [List.length_append] at z1
      exact ⟨p, q, u1, u2, e1, e2, l1, l2, z1, z2⟩

theorem add_hr {m : Bool} {a b : W} {x y : V} {Q : VK} (r : RH c d h H) (ra : RW c d H a x) (rb : RW c d H b y) (s : Sat c d H Xw (bop .add m a b h) (wV c Q)) : rAdd c.K x y H Q := by
  have viaL : isTup a = false → (bop .add m a b h = (match Bop.add, isTup b with
    | .add, false => match itemsOf a h, itemsOf b h with
      | some x, some y => newL m (x ++ y) h
      | _, _ => .no
    | _, _ => .no)) → rAdd c.K x y H Q := fun ta e => by
    rw [e] at s
    cases tb : isTup b with
    | true => rw [tb] at s; exact (sat_no s).elim
    | false => rw [tb] at s; exact .inr (.inr (.inr (addList r ra rb ta tb s)))
  cases ra with
  | pv hp =>
    cases hp with
    | int i =>
      cases rb with
      | pv hq =>
        cases hq with
        | int j => exact .inl ⟨i, j, rfl, rfl, by rw [← iadd_eq]; exact s.ok r _ (.pv (.int _))⟩
        | _ => exact (sat_no s).elim
      | _ => exact (sat_no s).elim
    | str t ht =>
      cases rb with
      | pv hq =>
        cases hq with
        | str u hu =>
          obtain ⟨e, q⟩ := okIf_ok r s
          refine .inr (.inl ⟨_, _, rfl, rfl, by rw [toStr_len, toStr_len]; exact line_ok e, ?_⟩)
          rw [toStr_app]
          exact q.ok r _ (.pv (.str _ (okTx_app ht hu)))
        | _ => exact (sat_no s).elim
      | _ => exact (sat_no s).elim
    | @tup a1 v1 p1 ha hr =>
      cases rb with
      | pv hq =>
        cases hq with
        | @tup a2 v2 p2 hb hs =>
          obtain ⟨e, q⟩ := okIf_ok r s
          refine .inr (.inr (.inl ⟨_, _, _, _, rfl, rfl, ha.sq, hb.sq, by rw [← hr.length, ← hs.length]; exact line_ok e, fun z => ?_, fun _ z => ?_, fun _ _ p hp => ?_⟩))
          · have := hr.nil_iff.mpr z
            subst this
            exact q.ok r _ (.pv (.tup hb hs))
          · have := hs.nil_iff.mpr z
            subst this
            rw [List.append_nil] at q
            exact q.ok r _ (.pv (.tup ha hr))
          · have ex := Ext.alloc (o := .tup (v1 ++ v2)) r hp
            exact q d _ ex (r.alloc hp) _ (.pv (.tup (.inl ⟨.inl upd_same, r.notF hp⟩) ((hr.append hs).ext ex)))
        | _ => exact (sat_no s).elim
      | _ => exact (sat_no s).elim
    | lst ha hr => exact viaL rfl rfl
    | non => exact viaL rfl rfl
    | bl b => exact viaL rfl rfl
  | ref l f => exact viaL rfl rfl
  | fn e => exact viaL rfl rfl
  | cl e => exact viaL rfl rfl
  | obj k e n q => exact viaL rfl rfl
end
end Sx
end

section
set_option autoImplicit false
set_option linter.all false
set_option Elab.async false
namespace Sx
open PySem
open L2 (V St SqL SqT Rd upd upd_same upd_ne HO PE PT PA PS PSs VK OpR Dp)
section
variable {c : Cf} {d : Wd} {h : LH} {H : AH} {Xw : Xn → Wd → AH → Prop}

/-- what the operator o of the small language asks -/
def rB (K : PySem.W.Frag) : Bop → L2.R2
  | .add => rAdd K
  | .sub => L2.rI0 fun i j => .int (i - j)
  | .mul => fun x y H Q => L2.rI L2.CMul (fun i j => .int (i * j)) x y H Q ∨ ((∃ (s : Tx) (k : Nat), x = .str (toStr s) ∧ y = .int (k : Int) ∧ k ≤ 100000 ∧ s.length ≤ 100 ∧ Q (.str (toStr (List.replicate k s).flatten)) H) ∨ L2.rRepT K x y H Q)
  | .fdv => L2.rI L2.CDiv fun i j => .int (i / j)
  | .mod => L2.rI (fun _ j => 0 < j) fun i j => .int (i % j)
  | .pow => L2.rI L2.CPow fun i j => .int (i ^ j.toNat)
def pyB : Bop → Operator
  | .add => .Add
  | .sub => .Sub
  | .mul => .Mult
  | .fdv => .FloorDiv
  | .mod => .Mod
  | .pow => .Pow
theorem op_B {X : L2.Cx} (o : Bop) : OpR X (binaryOp (pyB o)) (rB X.K o) := by
  cases o with
  | add => exact op_add
  | sub => exact L2.op_sub
  | mul => exact L2.op_mul.or (op_mulS.or L2.op_repT)
  | fdv => exact L2.op_fdiv
  | mod => exact L2.op_mod
  | pow => exact L2.op_pow
theorem okTx_rep {s : Tx} (hs : okTx s) : ∀ k : Nat, okTx (List.replicate k s).flatten := fun k a ha => by
  obtain ⟨l, hl, q⟩ := List.mem_flatten.mp ha
  rw [List.eq_of_mem_replicate hl] at q
  exact hs a q
theorem RPs.rep {F : Addr → Prop} {ps : List PV} {vs : List V} (r : RPs c F H ps vs) : ∀ k : Nat, RPs c F H (List.replicate k ps).flatten (List.replicate k vs).flatten
  | 0 => .nil
  | k + 1 => by
    rw [List.replicate_succ, List.replicate_succ, List.flatten_cons, List.flatten_cons]
    exact r.append (RPs.rep r k)
theorem bopI_hr {o : Bop} {i j : Int} {Q : VK} (ho : o ≠ .add) (r : RH c d h H) (s : Sat c d H Xw (bopI o i j h) (wV c Q)) : rB c.K o (.int i) (.int j) H Q := by
  cases o with
  | add => exact (ho rfl).elim
  | sub => exact ⟨i, j, rfl, rfl, by show Q (.int (i - j)) H; rw [← isub_eq]; exact s.ok r _ (.pv (.int _))⟩
  | mul =>
    obtain ⟨e, q⟩ := okIf_ok r s
    exact .inl ⟨i, j, rfl, rfl, mulOk_eq e, by show Q (.int (i * j)) H; rw [← imul_eq]; exact q.ok r _ (.pv (.int _))⟩
  | fdv =>
    obtain ⟨e, q⟩ := okIf_ok r s
    rw [Bool.and_eq_true, ilt_eq, ilt_eq] at e
    exact ⟨i, j, rfl, rfl, ⟨of_decide_eq_true e.1, of_decide_eq_true e.2⟩, by show Q (.int (i / j)) H; rw [← idiv_eq]; exact q.ok r _ (.pv (.int _))⟩
  | mod =>
    obtain ⟨e, q⟩ := okIf_ok r s
    rw [ilt_eq] at e
    exact ⟨i, j, rfl, rfl, of_decide_eq_true e, by show Q (.int (i % j)) H; rw [← imod_eq]; exact q.ok r _ (.pv (.int _))⟩
  | pow =>
    cases i with
    | negSucc _ => exact (sat_no s).elim
    | ofNat a =>
      cases j with
      | negSucc _ => exact (sat_no s).elim
      | ofNat b =>
        obtain ⟨e, q⟩ := okIf_ok r s
        rw [Bool.and_eq_true] at e
        have e1 : a < 1000 := by have := e.1; rwa [Nat.blt_eq] at this
        have e2 : b ≤ 1000 := Nat.le_of_ble_eq_true e.2
        refine ⟨_, _, rfl, rfl, ⟨Int.natCast_nonneg b, by show (b : Int) ≤ _; omega, by show a < _; omega⟩, ?_⟩
        have e3 : (Int.ofNat a) ^ (Int.ofNat b).toNat = Int.ofNat (a ^ b) := by
          show (a : Int) ^ b = ((a ^ b : Nat) : Int)
          exact (Int.natCast_pow a b).symm
        show Q (.int ((Int.ofNat a) ^ (Int.ofNat b).toNat)) H
        rw [e3]
        exact q.ok r _ (.pv (.int _))
theorem b_hr {o : Bop} {m : Bool} {a b : W} {x y : V} {Q : VK} (r : RH c d h H) (ra : RW c d H a x) (rb : RW c d H b y) (s : Sat c d H Xw (bop o m a b h) (wV c Q)) : rB c.K o x y H Q := by
  by_cases ho : o = .add
  · subst ho; exact add_hr r ra rb s
  have nadd : ∀ z : Bool, (match o, z with
      | .add, false => match itemsOf a h, itemsOf b h with
        | some x, some y => newL m (x ++ y) h
        | _, _ => .no
      | _, _ => (.no : R W)) = .no := fun z => by cases o <;> first | exact (ho rfl).elim | rfl
  have dead : bop o m a b h = (match o, isTup b with
      | .add, false => match itemsOf a h, itemsOf b h with
        | some x, some y => newL m (x ++ y) h
        | _, _ => .no
      | _, _ => .no) → False := fun e => by rw [e, nadd] at s; exact sat_no s
  cases ra with
  | pv hp =>
    cases hp with
    | int i =>
      cases rb with
      | pv hq =>
        cases hq with
        | int j => exact bopI_hr ho r s
        | _ => exact (sat_no s).elim
      | _ => exact (sat_no s).elim
    | str t ht =>
      cases o with
      | mul =>
        cases rb with
        | pv hq =>
          cases hq with
          | int j =>
            cases j with
            | negSucc _ => exact (sat_no s).elim
            | ofNat k =>
              obtain ⟨e, q⟩ := okIf_ok r s
              rw [Bool.and_eq_true] at e
              exact .inr (.inl ⟨t, k, rfl, rfl, Nat.le_of_ble_eq_true e.1, Nat.le_of_ble_eq_true e.2, q.ok r _ (.pv (.str _ (okTx_rep ht k)))⟩)
          | _ => exact (sat_no s).elim
        | _ => exact (sat_no s).elim
      | add => exact (ho rfl).elim
      | _ => exact (sat_no s).elim
    | @tup a1 v1 p1 ha hr =>
      cases o with
      | mul =>
        cases rb with
        | pv hq =>
          cases hq with
          | int j =>
            cases j with
            | negSucc _ => exact (sat_no s).elim
            | ofNat k =>
              obtain ⟨e, q⟩ := okIf_ok r s
              simp only [Bool.and_eq_true, Bool.not_eq_true'] at e
              obtain ⟨⟨⟨e1, e2⟩, e3⟩, e4⟩ := e
              have e1' := Nat.le_of_ble_eq_true e1
              have e2' := Nat.le_of_ble_eq_true e2
              have e3' := Nat.le_of_ble_eq_true e3
              refine .inr (.inr ⟨_, _, _, rfl, rfl, ha.sq, ?_, by show (2 : Int) ≤ (k : Int); omega, by show (k : Int) ≤ 1000; omega, by rw [← hr.length]; exact e3', fun p hp => ?_⟩)
              · intro z
                have := hr.nil_iff.mpr z
                subst this
                simp at e4
              · have ex := Ext.alloc (o := .tup (List.replicate k v1).flatten) r hp
                exact q d _ ex (r.alloc hp) _ (.pv (.tup (.inl ⟨.inl upd_same, r.notF hp⟩) ((hr.rep k).ext ex)))
          | _ => exact (sat_no s).elim
        | _ => exact (sat_no s).elim
      | add => exact (ho rfl).elim
      | _ => exact (sat_no s).elim
    | lst ha hr => exact (dead rfl).elim
    | non => exact (dead rfl).elim
    | bl b => exact (dead rfl).elim
  | ref l f => exact (dead rfl).elim
  | fn e => exact (dead rfl).elim
  | cl e => exact (dead rfl).elim
  | obj k e n q => exact (dead rfl).elim

/-! ### comparisons -/
def pyC : Cop → CmpOp
  | .eq => .Eq
  | .ne => .NotEq
  | .lt => .Lt
  | .le => .LtE
  | .gt => .Gt
  | .ge => .GtE
  | .inn => .In
  | .nin => .NotIn
  | .isN => .Is
  | .nisN => .IsNot
def rOrd (p : Int → Int → Bool) (q : Str → Str → Bool) : L2.R2 := fun x y H Q => (∃ i j, x = .int i ∧ y = .int j ∧ Q (.bl (p i j)) H) ∨ (∃ i j, x = .str i ∧ y = .str j ∧ Q (.bl (q i j)) H)
def rInA (K : PySem.W.Frag) (neg : Bool) : L2.R2 := fun x y H Q => (∃ i j, x = .str i ∧ y = .str j ∧ Q (.bl (if neg then !(!(Builtin.Str.occurrences j i 0 j.length 1).isEmpty) else !(Builtin.Str.occurrences j i 0 j.length 1).isEmpty)) H) ∨ rInP K neg x y H Q
def rC (K : PySem.W.Frag) : Cop → L2.R2
  | .eq => rEqP K false
  | .ne => rEqP K true
  | .lt => rOrd (fun i j => decide (i < j)) fun i j => decide (i.cps.toList < j.cps.toList)
  | .le => rOrd (fun i j => decide (i ≤ j)) fun i j => !decide (j.cps.toList < i.cps.toList)
  | .gt => rOrd (fun i j => decide (j < i)) fun i j => decide (j.cps.toList < i.cps.toList)
  | .ge => rOrd (fun i j => decide (j ≤ i)) fun i j => !decide (i.cps.toList < j.cps.toList)
  | .inn => rInA K false
  | .nin => rInA K true
  | .isN => fun x y H Q => (y = .non ∧ Q (.bl (decide (x = .non))) H) ∨ L2.rIsB x y H Q
  | .nisN => fun x y H Q => y = .non ∧ Q (.bl (!decide (x = .non))) H
theorem op_C {X : L2.Cx} (hu : X.A.units + 65 < cLine) (o : Cop) : OpR X (compareOp (pyC o)) (rC X.K o) := by
  cases o with
  | eq => exact op_eqP (by omega)
  | ne => exact op_neP (by omega)
  | lt => exact L2.op_lt.or L2.op_lt_str
  | le => exact L2.op_le.or L2.op_le_str
  | gt => exact L2.op_gt.or L2.op_gt_str
  | ge => exact L2.op_ge.or L2.op_ge_str
  | inn => exact L2.op_in_str.or (op_inP hu)
  | nin => exact L2.op_notin_str.or (op_ninP hu)
  | isN => exact L2.op_isN.or L2.op_isBl
  | nisN => exact L2.op_notN
theorem cmpI_hr {o : Cop} {i j : Int} {b : Bool} {Q : VK} (e : cmpI o i j = some b) (q : Q (.bl b) H) : rC c.K o (.int i) (.int j) H Q := by
  cases o <;> simp only [cmpI, Option.some.injEq] at e <;> first
    | (cases e; done)
    | (subst e
       simp only [ilt_eq, ile_eq] at q
       exact .inl ⟨i, j, rfl, rfl, q⟩)
theorem cmpS_hr {o : Cop} {i j : Tx} {b : Bool} {Q : VK} (e : cmpS o i j = some b) (q : Q (.bl b) H) : rC c.K o (.str (toStr i)) (.str (toStr j)) H Q := by
  cases o <;> simp only [cmpS, Option.some.injEq] at e <;> first
    | (cases e; done)
    | (subst e
       simp only [txLt_eq] at q
       refine .inr ⟨_, _, rfl, rfl, ?_⟩
       simp only [toStr_cps]
       exact q)
theorem inn_hr {a b : W} {x y : V} {k neg : Bool} {Q : VK} (r : RH c d h H) (ra : RW c d H a x) (rb : RW c d H b y) (e : inn a b h = some k) (q : Q (.bl (if neg then !k else k)) H) : rInA c.K neg x y H Q := by
  have viaL : ∀ {p : PV} {ys : List PV}, RP c d.F H p x → inL p ys = some k → (Dp c.K H y (.list (toPDs ys)) ∨ Dp c.K H y (.tuple (toPDs ys))) → PyData.canLayAll0 (toPDs ys) = true → rInA c.K neg x y H Q := fun {p ys} hp e2 hd hl => by
    unfold inL at e2
    cases ed : p.dep 60 with
    | false => rw [ed] at e2; cases e2
    | true =>
      rw [ed] at e2
      simp only [Option.some.injEq] at e2
      refine .inr ⟨_, _, hp.dp, hd, hp.lay, hl, dep_depth 60 p ed, ?_⟩
      rw [← any_eqv, e2]
      exact q
  cases rb with
  | pv hq =>
    cases hq with
    | str u hu =>
      cases ra with
      | pv hp =>
        cases hp with
        | str t ht =>
          have e2 : some (place t u 0).isSome = some k := e
          simp only [Option.some.injEq] at e2
          subst e2
          exact .inl ⟨_, _, rfl, rfl, by rw [occ_in]; exact q⟩
        | _ => simp [inn] at e
      | _ => simp [inn] at e
    | tup hb hs =>
      have hd : Dp c.K H (.ref _) (.tuple _) := .tup hb.sq hs.dp
      cases ra with
      | pv hp => exact viaL hp e (.inr hd) hs.lay
      | _ => simp [inn] at e
    | lst hb hs =>
      have hd : Dp c.K H (.ref _) (.list _) := .lst hb.sq hs.dp
      cases ra with
      | pv hp => exact viaL hp e (.inl hd) hs.lay
      | _ => simp [inn] at e
    | _ => simp [inn] at e
  | @ref n _ l f =>
    cases ra with
    | pv hp =>
      simp only [inn] at e
      cases q1 : nth h n with
      | none => rw [q1] at e; cases e
      | some o =>
        rw [q1] at e
        cases o with
        | lst ws =>
          simp only at e
          cases q2 : pvsOf ws with
          | none => rw [q2] at e; cases e
          | some ys =>
            rw [q2] at e
            obtain ⟨a, ea, _, vs, h1, h2⟩ := r.live (.ref l f) q1 (by simp)
            subst ea
            have hr := pvs_of h2 q2
            exact viaL hp e (.inl (.lst (.inl (.inl h1)) hr.dp)) hr.lay
        | _ => simp at e
    | _ => simp [inn] at e
  | _ => simp [inn] at e
theorem eqW_hr {a b : W} {x y : V} {k neg : Bool} {Q : VK} (r : RH c d h H) (ra : RW c d H a x) (rb : RW c d H b y) (e : eqW a b h = some k) (q : Q (.bl (if neg then !k else k)) H) : rEqP c.K neg x y H Q := by
  unfold eqW at e
  cases ea : dataOf a h with
  | none => rw [ea] at e; cases e
  | some p =>
    cases eb : dataOf b h with
    | none => rw [ea, eb] at e; cases e
    | some p' =>
      rw [ea, eb] at e
      simp only at e
      obtain ⟨d1, l1⟩ := data_ok r ra ea
      obtain ⟨d2, l2⟩ := data_ok r rb eb
      cases e1 : p'.dep 60 with
      | true =>
        rw [e1] at e
        simp only [Option.some.injEq] at e
        have hm := dep_depth 60 p' e1
        exact ⟨_, _, d1, d2, l1, l2, by omega, by rw [← eqv_eq, e]; exact q⟩
      | false =>
        rw [e1] at e
        simp only at e
        cases e2 : p.dep 60 with
        | true =>
          rw [e2] at e
          simp only [Option.some.injEq] at e
          have hm := dep_depth 60 p e2
          exact ⟨_, _, d1, d2, l1, l2, by omega, by rw [← eqv_eq, e]; exact q⟩
        | false => rw [e2] at e; cases e
end
/-- what the table of defs and classes never is -/
structure Cf.Ok (c : Cf) : Prop where
  fn : ∀ f v, c.fnV f = some v → ∃ a, v = .ref a
  cl : ∀ f v, c.clV f = some v → ∃ a, v = .ref a
section
variable {c : Cf} {d : Wd} {h : LH} {H : AH} {Xw : Xn → Wd → AH → Prop}
theorem isN_ok {w : W} {v : V} (ok : c.Ok) (r : RH c d h H) (hv : RW c d H w v) {k : Bool} (e : noneW w h = some k) : k = decide (v = .non) := by
  cases hv with
  | pv hp => cases hp <;> simp [noneW, isNone] at e ⊢ <;> exact e
  | @ref n _ l f =>
    simp only [noneW] at e
    cases q : nth h n with
    | none => rw [q] at e; cases e
    | some o =>
      rw [q] at e
      by_cases hd : o = .dead
      · subst hd; cases e
      · obtain ⟨a, ea, _⟩ := r.live (.ref l f) q hd
        subst ea
        cases o <;> simp at e hd ⊢ <;> exact e
  | fn e2 =>
    obtain ⟨a, ea⟩ := ok.fn _ _ e2
    subst ea
    simpa [noneW, isNone] using e
  | cl e2 =>
    obtain ⟨a, ea⟩ := ok.cl _ _ e2
    subst ea
    simpa [noneW, isNone] using e
  | obj k e n q => simpa [noneW, isNone] using e
theorem c_hr {o : Cop} {a b : W} {x y : V} {Q : VK} {k : Bool} (ok : c.Ok) (r : RH c d h H) (ra : RW c d H a x) (rb : RW c d H b y) (e : cop o a b h = some k) (q : Q (.bl k) H) : rC c.K o x y H Q := by
  have viaO : ordW o a b = some k → rC c.K o x y H Q := fun e2 => by
    cases ra with
    | pv hp =>
      cases hp with
      | int i =>
        cases rb with
        | pv hq =>
          cases hq with
          | int j => exact cmpI_hr e2 q
          | _ => simp [ordW] at e2
        | _ => simp [ordW] at e2
      | str i hi =>
        cases rb with
        | pv hq =>
          cases hq with
          | str j hj => exact cmpS_hr e2 q
          | _ => simp [ordW] at e2
        | _ => simp [ordW] at e2
      | _ => simp [ordW] at e2
    | _ => simp [ordW] at e2
  have neg : ∀ {o : Option Bool}, o.map (!·) = some k → o = some (!k) := fun {o} z => by
    cases o with
    | none => cases z
    | some b => simp at z; simp [← z]
  cases o with
  | eq => exact eqW_hr (neg := false) r ra rb e q
  | ne => exact eqW_hr (neg := true) r ra rb (neg e) (by simpa using q)
  | lt => exact viaO e
  | le => exact viaO e
  | gt => exact viaO e
  | ge => exact viaO e
  | inn => exact inn_hr (neg := false) r ra rb e q
  | nin => exact inn_hr (neg := true) r ra rb (neg e) (by simpa using q)
  | isN =>
    simp only [cop] at e
    cases rb with
    | pv hq =>
      cases hq with
      | non =>
        have := isN_ok ok r ra e
        subst this
        exact .inl ⟨rfl, q⟩
      | bl z =>
        cases ra with
        | pv hp =>
          cases hp with
          | bl z2 =>
            simp only [Option.some.injEq, beqB_eq] at e
            subst e
            refine .inr ⟨z2, z, rfl, rfl, ?_⟩
            have : decide (z2 = z) = (z2 == z) := by cases z2 <;> cases z <;> rfl
            rw [this]
            exact q
          | _ => simp at e
        | _ => simp at e
      | _ => simp at e
    | _ => simp at e
  | nisN =>
    simp only [cop] at e
    cases rb with
    | pv hq =>
      cases hq with
      | non =>
        have := isN_ok ok r ra (neg e)
        refine ⟨rfl, ?_⟩
        rw [← this, Bool.not_not]
        exact q
      | _ => simp at e
    | _ => simp at e

/-! ### truth -/
theorem truth_ok {w : W} {v : V} {k : Bool} (r : RH c d h H) (hv : RW c d H w v) (e : truth w h = some k) : L2.TruV c.K v H k := by
  cases hv with
  | pv hp =>
    cases hp with
    | non => simp only [truth, Option.some.injEq] at e; exact e.symm
    | bl b => simp only [truth, Option.some.injEq] at e; exact e.symm
    | int i =>
      simp only [truth, Option.some.injEq] at e
      rw [ieq_eq] at e
      show k = (i != 0)
      rw [← e]
      show (!decide (i = 0)) = !(i == 0)
      rw [Bool.beq_eq_decide_eq]
    | str s hs =>
      simp only [truth] at e
      cases q : line s.length with
      | false => rw [q] at e; cases e
      | true =>
        rw [q] at e
        simp only [Option.some.injEq] at e
        refine ⟨by rw [toStr_len]; exact line_ok q, ?_⟩
        rw [toStr_len, ← e]
        cases s with
        | nil => rfl
        | cons a s =>
          show true = _
          symm
          rw [bne_iff_ne]
          simp
          omega
    | tup ha hr =>
      simp only [truth, Option.some.injEq] at e
      refine .inr (.inl ⟨_, ha.sq, ?_⟩)
      rw [← e]
      cases hr <;> rfl
    | lst ha hr =>
      simp only [truth, Option.some.injEq] at e
      refine .inl ⟨_, ha.sq, ?_⟩
      rw [← e]
      cases hr <;> rfl
  | @ref n _ l f =>
    simp only [truth] at e
    cases q : nth h n with
    | none => rw [q] at e; cases e
    | some o =>
      rw [q] at e
      cases o with
      | lst ws =>
        simp only [Option.some.injEq] at e
        obtain ⟨a, ea, _, vs, h1, h2⟩ := r.live (.ref l f) q (by simp)
        subst ea
        refine .inl ⟨_, .inl (.inl h1), ?_⟩
        rw [← e]
        cases h2 <;> rfl
      | _ => simp at e
  | _ => simp [truth] at e

/-! ### an item -/
def rIxA (K : PySem.W.Frag) : L2.R2 := fun x y H Q => L2.rIxL K x y H Q ∨ (L2.rIxT K x y H Q ∨ L2.rIxS x y H Q)
theorem ix_all {X : L2.Cx} : L2.IxR X (rIxA X.K) := L2.ix_list.or (L2.ix_tup.or L2.ix_str)
theorem RPs.get {F : Addr → Prop} : ∀ {ps : List PV} {vs : List V} (n : Nat) {p : PV}, RPs c F H ps vs → ps[n]? = some p → ∃ v, vs[n]? = some v ∧ RP c F H p v
  | _, _, n, _, .nil, e => by simp at e
  | _, _, 0, _, .cons h r, e => by
    simp only [List.getElem?_cons_zero, Option.some.injEq] at e
    subst e
    exact ⟨_, by simp, h⟩
  | _, _, n + 1, _, .cons h r, e => by
    simp only [List.getElem?_cons_succ] at e
    obtain ⟨v, h1, h2⟩ := RPs.get n r e
    exact ⟨v, by simpa using h1, h2⟩
theorem RWs.get : ∀ {ps : List W} {vs : List V} (n : Nat) {p : W}, RWs c d H ps vs → ps[n]? = some p → ∃ v, vs[n]? = some v ∧ RW c d H p v
  | _, _, n, _, .nil, e => by simp at e
  | _, _, 0, _, .cons h r, e => by
    simp only [List.getElem?_cons_zero, Option.some.injEq] at e
    subst e
    exact ⟨_, by simp, h⟩
  | _, _, n + 1, _, .cons h r, e => by
    simp only [List.getElem?_cons_succ] at e
    obtain ⟨v, h1, h2⟩ := RWs.get n r e
    exact ⟨v, by simpa using h1, h2⟩
theorem ixN_lt {n j : Nat} {i : Int} (e : L2.ixN n i = some j) : j < n := (L2.ixN_seq e).2.1
theorem atI_rel {α β : Type} {xs : List α} {ys : List β} {i : Int} {a : α} {P : α → β → Prop} (hl : xs.length = ys.length) (get : ∀ (n : Nat) (a : α), xs[n]? = some a → ∃ b, ys[n]? = some b ∧ P a b) (e : L2.atI xs i = some a) :
    ∃ b, L2.atI ys i = some b ∧ P a b := by
  unfold L2.atI at e ⊢
  rw [← hl]
  cases q : L2.ixN xs.length i with
  | none => rw [q] at e; cases e
  | some j =>
    rw [q] at e
    simp only [Option.bind_some] at e ⊢
    exact get j a e
theorem ix_hr {a b w : W} {x y : V} {Q : VK} (r : RH c d h H) (ra : RW c d H a x) (rb : RW c d H b y) (e : ixOf a b h = some w) (q : ∀ v, RW c d H w v → Q v H) : rIxA c.K x y H Q := by
  cases ra with
  | pv hp =>
    cases hp with
    | str s hs =>
      cases rb with
      | pv hq =>
        cases hq with
        | int i =>
          simp only [ixOf] at e
          cases ql : line s.length with
          | false => rw [ql] at e; cases e
          | true =>
            rw [ql] at e
            simp only at e
            cases qa : atIx s i with
            | none => rw [qa] at e; cases e
            | some ch =>
              rw [qa] at e
              simp only [Option.map_some, Option.some.injEq] at e
              subst e
              rw [atIx_eq] at qa
              refine .inr (.inr ⟨_, _, ch, rfl, rfl, by rw [toStr_len]; exact line_ok ql, by rw [toStr_cps]; exact qa, ?_⟩)
              refine q _ (.pv (.str [ch] ?_))
              intro z hz
              have : z = ch := by simpa using hz
              subst this
              unfold L2.atI at qa
              cases qi : L2.ixN s.length i with
              | none => rw [qi] at qa; cases qa
              | some j =>
                rw [qi] at qa
                exact hs _ (List.mem_of_getElem? (show s[j]? = some z from qa))
        | _ => simp [ixOf] at e
      | _ => simp [ixOf] at e
    | tup ha hr =>
      cases rb with
      | pv hq =>
        cases hq with
        | int i =>
          simp only [ixOf] at e
          cases qa : atIx _ i with
          | none => rw [qa] at e; cases e
          | some p =>
            rw [qa] at e
            simp only [Option.map_some, Option.some.injEq] at e
            subst e
            rw [atIx_eq] at qa
            obtain ⟨v, h1, h2⟩ := atI_rel (P := fun p v => RP c d.F H p v) hr.length (fun n a z => hr.get n z) qa
            exact .inr (.inl ⟨_, _, _, v, rfl, rfl, ha.sq, h1, q v (.pv h2)⟩)
        | _ => simp [ixOf] at e
      | _ => simp [ixOf] at e
    | lst ha hr =>
      cases rb with
      | pv hq =>
        cases hq with
        | int i =>
          simp only [ixOf] at e
          cases qa : atIx _ i with
          | none => rw [qa] at e; cases e
          | some p =>
            rw [qa] at e
            simp only [Option.map_some, Option.some.injEq] at e
            subst e
            rw [atIx_eq] at qa
            obtain ⟨v, h1, h2⟩ := atI_rel (P := fun p v => RP c d.F H p v) hr.length (fun n a z => hr.get n z) qa
            exact .inl ⟨_, _, _, v, rfl, rfl, ha.sq, h1, q v (.pv h2)⟩
        | _ => simp [ixOf] at e
      | _ => simp [ixOf] at e
    | _ => simp [ixOf] at e
  | @ref n _ l f =>
    cases rb with
    | pv hq =>
      simp only [ixOf] at e
      cases q1 : nth h n with
      | none => rw [q1] at e; cases e
      | some o =>
        rw [q1] at e
        cases o with
        | lst ws =>
          obtain ⟨a, ea, _, vs, h1, h2⟩ := r.live (.ref l f) q1 (by simp)
          subst ea
          cases hq with
          | int i =>
            simp only at e
            rw [atIx_eq] at e
            obtain ⟨v, e1, e2⟩ := atI_rel (P := fun p v => RW c d H p v) h2.length (fun n a z => h2.get n z) e
            exact .inl ⟨_, _, _, v, rfl, rfl, .inl (.inl h1), e1, q v e2⟩
          | _ => simp at e
        | _ => simp at e
    | _ => simp [ixOf] at e
  | _ => simp [ixOf] at e
end
end Sx
end

section
set_option autoImplicit false
set_option linter.all false
set_option Elab.async false
namespace Sx
open PySem
open L2 (V St SqL SqT Rd upd upd_same upd_ne HO PE PT PW PA PS PSs VK OpR Dp)
section
variable {c : Cf} {X : L2.Cx} {Wx : L2.WX}

theorem he_B {o : Bop} {m : Bool} {ea eb : Sl → LH → R W} {a b : Expr} {pos : Pos} (hK : X.K = c.K) (ha : HE c X Wx ea a) (hb : HE c X Wx eb b) :
    HE c X Wx (fun ρ h => (ea ρ h).bind fun x h1 => (eb ρ h1).bind fun y h2 => bop o m x y h2) (.BinOp a (pyB o) b pos) :=
  he_bin ha hb (r := rB c.K o) (fun pa pb => L2.pe_op (hK ▸ op_B o) pa pb) fun d h σ H x y wx wy Q r rx ry s => b_hr r rx ry s
theorem he_C {o : Cop} {ea eb : Sl → LH → R W} {a b : Expr} {pos : Pos} (ok : c.Ok) (hK : X.K = c.K) (hu : X.A.units + 65 < cLine) (hm : behindInMarks (pyC o) b = false) (ha : HE c X Wx ea a) (hb : HE c X Wx eb b) :
    HE c X Wx (fun ρ h => (ea ρ h).bind fun x h1 => (eb ρ h1).bind fun y h2 => R.ofP ((cop o x y h2).map .bl) h2) (.Compare a [pyC o] [b] pos) := by
  refine he_bin ha hb (r := rC c.K o) (fun pa pb => L2.pe_cmpR (hK ▸ op_C hu o) pa pb hm) fun d h σ H x y wx wy Q r rx ry s => ?_
  obtain ⟨p, e, q⟩ := ofP_ok r s
  cases e2 : cop o wx wy h with
  | none => rw [e2] at e; cases e
  | some k =>
    rw [e2] at e
    simp only [Option.map_some, Option.some.injEq] at e
    subst e
    exact c_hr ok r rx ry e2 (q _ (.pv (.bl k)))
/-- a comparison as a test -/
theorem ht_C {o : Cop} {ea eb : Sl → LH → R W} {a b : Expr} {pos : Pos} (ok : c.Ok) (hK : X.K = c.K) (hu : X.A.units + 65 < cLine) (hm : behindInMarks (pyC o) b = false) (ha : HE c X Wx ea a) (hb : HE c X Wx eb b) :
    HT c X Wx (fun ρ h => (ea ρ h).bind fun x h1 => (eb ρ h1).bind fun y h2 => R.ofP ((cop o x y h2).map .bl) h2) (.Compare a [pyC o] [b] pos) := by
  obtain ⟨ta, pa, qa⟩ := ha
  obtain ⟨tb, pb, qb⟩ := hb
  refine ⟨_, L2.pt_cmpR (hK ▸ op_C (X := X) hu o : OpR X _ (rC c.K o)) pa pb hm, fun d ρ h σ H Q re rh s => ?_⟩
  refine qa d ρ h σ H _ re rh ((s.bind rh.has).imp (fun d1 h1 w1 H1 x1 r1 s1 => ?_) (fun _ _ _ _ z => z))
  intro v1 rv1
  refine qb d1 ρ h1 σ H1 _ (re.ext x1) r1 ((s1.bind r1.has).imp (fun d2 h2 w2 H2 x2 r2 s2 => ?_) (fun _ _ _ _ z => z))
  intro v2 rv2
  obtain ⟨p, e, q⟩ := ofP_ok r2 s2
  cases e2 : cop o w1 w2 h2 with
  | none => rw [e2] at e; cases e
  | some k =>
    rw [e2] at e
    simp only [Option.map_some, Option.some.injEq] at e
    subst e
    exact c_hr ok r2 (rv1.ext x2) rv2 e2 ⟨k, rfl, q⟩
theorem he_chain {o o2 : Cop} {ea eb ec : Sl → LH → R W} {a b e : Expr} {pos : Pos} (ok : c.Ok) (hK : X.K = c.K) (hu : X.A.units + 65 < cLine) (hm : lastMarks [pyC o, pyC o2] [b, e] = false)
    (ha : HE c X Wx ea a) (hb : HE c X Wx eb b) (hc : HE c X Wx ec e) :
    HE c X Wx (fun ρ h => (ea ρ h).bind fun x h1 => (eb ρ h1).bind fun y h2 => match cop o x y h2 with
      | some true => (ec ρ h2).bind fun z h3 => R.ofP ((cop o2 y z h3).map .bl) h3
      | some false => .ok (.pv (.bl false)) h2
      | none => .no) (.Compare a [pyC o, pyC o2] [b, e] pos) := by
  obtain ⟨ta, pa, qa⟩ := ha
  obtain ⟨tb, pb, qb⟩ := hb
  obtain ⟨tc, pc, qc⟩ := hc
  refine ⟨_, L2.pe_chain (hK ▸ op_C (X := X) hu o : OpR X _ (rC c.K o)) (hK ▸ op_C (X := X) hu o2 : OpR X _ (rC c.K o2)) pa pb pc hm, fun d ρ h σ H Q re rh s => ?_⟩
  refine qa d ρ h σ H _ re rh ((s.bind rh.has).imp (fun d1 h1 w1 H1 x1 r1 s1 => ?_) (fun _ _ _ _ z => z))
  intro v1 rv1
  refine qb d1 ρ h1 σ H1 _ (re.ext x1) r1 ((s1.bind r1.has).imp (fun d2 h2 w2 H2 x2 r2 s2 => ?_) (fun _ _ _ _ z => z))
  intro v2 rv2
  cases e2 : cop o w1 w2 h2 with
  | none => rw [e2] at s2; exact s2.elim
  | some k =>
    rw [e2] at s2
    refine c_hr ok r2 (rv1.ext x2) rv2 e2 ⟨k, rfl, ?_⟩
    cases k with
    | false => exact s2.ok r2 _ (.pv (.bl false))
    | true =>
      rw [if_pos rfl]
      refine qc d2 ρ h2 σ H2 _ ((re.ext x1).ext x2) r2 ((s2.bind r2.has).imp (fun d3 h3 w3 H3 x3 r3 s3 => ?_) (fun _ _ _ _ z => z))
      intro v3 rv3
      obtain ⟨p, e4, q⟩ := ofP_ok r3 s3
      cases e3 : cop o2 w2 w3 h3 with
      | none => rw [e3] at e4; cases e4
      | some k2 =>
        rw [e3] at e4
        simp only [Option.map_some, Option.some.injEq] at e4
        subst e4
        exact c_hr ok r3 (rv2.ext x3) rv3 e3 (q _ (.pv (.bl k2)))
theorem ht_chain {o o2 : Cop} {ea eb ec : Sl → LH → R W} {a b e : Expr} {pos : Pos} (ok : c.Ok) (hK : X.K = c.K) (hu : X.A.units + 65 < cLine) (hm : lastMarks [pyC o, pyC o2] [b, e] = false)
    (ha : HE c X Wx ea a) (hb : HE c X Wx eb b) (hc : HE c X Wx ec e) :
    HT c X Wx (fun ρ h => (ea ρ h).bind fun x h1 => (eb ρ h1).bind fun y h2 => match cop o x y h2 with
      | some true => (ec ρ h2).bind fun z h3 => R.ofP ((cop o2 y z h3).map .bl) h3
      | some false => .ok (.pv (.bl false)) h2
      | none => .no) (.Compare a [pyC o, pyC o2] [b, e] pos) := by
  obtain ⟨ta, pa, qa⟩ := ha
  obtain ⟨tb, pb, qb⟩ := hb
  obtain ⟨tc, pc, qc⟩ := hc
  refine ⟨_, L2.pt_chain (hK ▸ op_C (X := X) hu o : OpR X _ (rC c.K o)) (hK ▸ op_C (X := X) hu o2 : OpR X _ (rC c.K o2)) pa pb pc hm, fun d ρ h σ H Q re rh s => ?_⟩
  refine qa d ρ h σ H _ re rh ((s.bind rh.has).imp (fun d1 h1 w1 H1 x1 r1 s1 => ?_) (fun _ _ _ _ z => z))
  intro v1 rv1
  refine qb d1 ρ h1 σ H1 _ (re.ext x1) r1 ((s1.bind r1.has).imp (fun d2 h2 w2 H2 x2 r2 s2 => ?_) (fun _ _ _ _ z => z))
  intro v2 rv2
  cases e2 : cop o w1 w2 h2 with
  | none => rw [e2] at s2; exact s2.elim
  | some k =>
    rw [e2] at s2
    refine c_hr ok r2 (rv1.ext x2) rv2 e2 ⟨k, rfl, ?_⟩
    cases k with
    | false => exact ⟨false, rfl, s2.ok r2⟩
    | true =>
      rw [if_pos rfl]
      refine qc d2 ρ h2 σ H2 _ ((re.ext x1).ext x2) r2 ((s2.bind r2.has).imp (fun d3 h3 w3 H3 x3 r3 s3 => ?_) (fun _ _ _ _ z => z))
      intro v3 rv3
      obtain ⟨p, e4, q⟩ := ofP_ok r3 s3
      cases e3 : cop o2 w2 w3 h3 with
      | none => rw [e3] at e4; cases e4
      | some k2 =>
        rw [e3] at e4
        simp only [Option.map_some, Option.some.injEq] at e4
        subst e4
        exact c_hr ok r3 (rv2.ext x3) rv3 e3 ⟨k2, rfl, q⟩

/-! ### and, or, not, if -/
theorem he_one {ea : Sl → LH → R W} {a : Expr} {op : PySem.BoolOp} {pos : Pos} (ha : HE c X Wx ea a) : HE c X Wx ea (.BoolOp op [a] pos) := by
  obtain ⟨t, p, q⟩ := ha
  exact ⟨t, L2.pe_one p, q⟩
theorem he_nd {ea eb : Sl → LH → R W} {a b : Expr} {rest : List Expr} {pos : Pos} (hK : X.K = c.K) (ha : HE c X Wx ea a) (hb : HE c X Wx eb (.BoolOp .And (b :: rest) pos)) :
    HE c X Wx (fun ρ h => (ea ρ h).bind fun x h1 => match truth x h1 with
      | some true => eb ρ h1
      | some false => .ok x h1
      | none => .no) (.BoolOp .And (a :: b :: rest) pos) := by
  obtain ⟨ta, pa, qa⟩ := ha
  obtain ⟨tb, pb, qb⟩ := hb
  refine ⟨_, L2.pe_andT pa pb, fun d ρ h σ H Q re rh s => ?_⟩
  refine qa d ρ h σ H _ re rh ((s.bind rh.has).imp (fun d1 h1 w1 H1 x1 r1 s1 => ?_) (fun _ _ _ _ z => z))
  intro v1 rv1
  cases e : truth w1 h1 with
  | none => rw [e] at s1; exact s1.elim
  | some k =>
    rw [e] at s1
    refine ⟨k, hK ▸ truth_ok r1 rv1 e, ?_⟩
    cases k with
    | true => rw [if_pos rfl]; exact qb d1 ρ h1 σ H1 Q (re.ext x1) r1 s1
    | false => exact s1.ok r1 _ rv1
theorem he_or {ea eb : Sl → LH → R W} {a b : Expr} {rest : List Expr} {pos : Pos} (hK : X.K = c.K) (ha : HE c X Wx ea a) (hb : HE c X Wx eb (.BoolOp .Or (b :: rest) pos)) :
    HE c X Wx (fun ρ h => (ea ρ h).bind fun x h1 => match truth x h1 with
      | some false => eb ρ h1
      | some true => .ok x h1
      | none => .no) (.BoolOp .Or (a :: b :: rest) pos) := by
  obtain ⟨ta, pa, qa⟩ := ha
  obtain ⟨tb, pb, qb⟩ := hb
  refine ⟨_, L2.pe_orT pa pb, fun d ρ h σ H Q re rh s => ?_⟩
  refine qa d ρ h σ H _ re rh ((s.bind rh.has).imp (fun d1 h1 w1 H1 x1 r1 s1 => ?_) (fun _ _ _ _ z => z))
  intro v1 rv1
  cases e : truth w1 h1 with
  | none => rw [e] at s1; exact s1.elim
  | some k =>
    rw [e] at s1
    refine ⟨k, hK ▸ truth_ok r1 rv1 e, ?_⟩
    cases k with
    | true => rw [if_pos rfl]; exact s1.ok r1 _ rv1
    | false => exact qb d1 ρ h1 σ H1 Q (re.ext x1) r1 s1
/-- a test whatever its whole is -/
def HW (c : Cf) (X : L2.Cx) (Wx : L2.WX) (ev : Sl → LH → R W) (e : Expr) : Prop :=
  ∃ t : L2.TT, PW X e t ∧ ∀ d ρ h σ H (Q : Bool → AH → Prop), RE c d H ρ σ → RH c d h H → Sat c d H (wX c Wx σ) (ev ρ h) (wB Q) → t σ H Q
theorem HW.ht {ev : Sl → LH → R W} {e : Expr} (h : HW c X Wx ev e) : HT c X Wx ev e := by
  obtain ⟨t, p, q⟩ := h
  exact ⟨t, p.pt, q⟩
theorem hw_one {op : PySem.BoolOp} {ea : Sl → LH → R W} {a : Expr} {pos : Pos} (ha : HT c X Wx ea a) : HW c X Wx ea (.BoolOp op [a] pos) := by
  obtain ⟨t, p, q⟩ := ha
  cases op with
  | And => exact ⟨t, L2.pw_and1 p, q⟩
  | Or => exact ⟨t, L2.pw_or1 p, q⟩
theorem hw_nd {ea eb : Sl → LH → R W} {a b : Expr} {rest : List Expr} {pos : Pos} (ha : HT c X Wx ea a) (hb : HW c X Wx eb (.BoolOp .And (b :: rest) pos)) :
    HW c X Wx (fun ρ h => (ea ρ h).bind fun x h1 => match truth x h1 with
      | some true => eb ρ h1
      | some false => .ok x h1
      | none => .no) (.BoolOp .And (a :: b :: rest) pos) := by
  obtain ⟨ta, pa, qa⟩ := ha
  obtain ⟨tb, pb, qb⟩ := hb
  refine ⟨_, L2.pw_and pa pb, fun d ρ h σ H Q re rh s => ?_⟩
  refine qa d ρ h σ H _ re rh ((s.bind rh.has).imp (fun d1 h1 w1 H1 x1 r1 s1 => ?_) (fun _ _ _ _ z => z))
  unfold wB
  cases e : truth w1 h1 with
  | none => rw [e] at s1; exact s1.elim
  | some k =>
    rw [e] at s1
    cases k with
    | true => exact qb d1 ρ h1 σ H1 Q (re.ext x1) r1 s1
    | false =>
      have q := s1.ok r1
      unfold wB at q
      rw [e] at q
      exact q
theorem hw_or {ea eb : Sl → LH → R W} {a b : Expr} {rest : List Expr} {pos : Pos} (ha : HT c X Wx ea a) (hb : HW c X Wx eb (.BoolOp .Or (b :: rest) pos)) :
    HW c X Wx (fun ρ h => (ea ρ h).bind fun x h1 => match truth x h1 with
      | some false => eb ρ h1
      | some true => .ok x h1
      | none => .no) (.BoolOp .Or (a :: b :: rest) pos) := by
  obtain ⟨ta, pa, qa⟩ := ha
  obtain ⟨tb, pb, qb⟩ := hb
  refine ⟨_, L2.pw_or pa pb, fun d ρ h σ H Q re rh s => ?_⟩
  refine qa d ρ h σ H _ re rh ((s.bind rh.has).imp (fun d1 h1 w1 H1 x1 r1 s1 => ?_) (fun _ _ _ _ z => z))
  unfold wB
  cases e : truth w1 h1 with
  | none => rw [e] at s1; exact s1.elim
  | some k =>
    rw [e] at s1
    cases k with
    | false => exact qb d1 ρ h1 σ H1 Q (re.ext x1) r1 s1
    | true =>
      have q := s1.ok r1
      unfold wB at q
      rw [e] at q
      exact q
theorem he_not {ea : Sl → LH → R W} {a : Expr} {pos : Pos} (hK : X.K = c.K) (ha : HE c X Wx ea a) :
    HE c X Wx (fun ρ h => (ea ρ h).bind fun x h1 => R.ofP ((truth x h1).map fun b => .bl (!b)) h1) (.UnaryOp .Not a pos) := by
  obtain ⟨ta, pa, qa⟩ := ha
  refine ⟨_, L2.pe_notT pa, fun d ρ h σ H Q re rh s => ?_⟩
  refine qa d ρ h σ H _ re rh ((s.bind rh.has).imp (fun d1 h1 w1 H1 x1 r1 s1 => ?_) (fun _ _ _ _ z => z))
  intro v1 rv1
  obtain ⟨p, e, q⟩ := ofP_ok r1 s1
  cases e2 : truth w1 h1 with
  | none => rw [e2] at e; cases e
  | some k =>
    rw [e2] at e
    simp only [Option.map_some, Option.some.injEq] at e
    subst e
    exact ⟨k, hK ▸ truth_ok r1 rv1 e2, q _ (.pv (.bl _))⟩
theorem ht_not {ea : Sl → LH → R W} {a : Expr} {pos : Pos} (ha : HT c X Wx ea a) :
    HT c X Wx (fun ρ h => (ea ρ h).bind fun x h1 => R.ofP ((truth x h1).map fun b => .bl (!b)) h1) (.UnaryOp .Not a pos) := by
  obtain ⟨ta, pa, qa⟩ := ha
  refine ⟨_, L2.pt_not pa, fun d ρ h σ H Q re rh s => ?_⟩
  refine qa d ρ h σ H _ re rh ((s.bind rh.has).imp (fun d1 h1 w1 H1 x1 r1 s1 => ?_) (fun _ _ _ _ z => z))
  obtain ⟨p, e, q⟩ := ofP_ok r1 s1
  unfold wB
  cases e2 : truth w1 h1 with
  | none => rw [e2] at e; cases e
  | some k =>
    rw [e2] at e
    simp only [Option.map_some, Option.some.injEq] at e
    subst e
    exact q
theorem he_neg {ea : Sl → LH → R W} {a : Expr} {pos : Pos} (ha : HE c X Wx ea a) :
    HE c X Wx (fun ρ h => (ea ρ h).bind fun x h1 => match x with
      | .pv (.int i) => .ok (.pv (.int (ineg i))) h1
      | _ => .no) (.UnaryOp .USub a pos) := by
  refine he_un ha (r := L2.rU fun i => .int (-i)) (fun pa => L2.pe_un L2.un_neg pa) fun d h σ H x wx Q r rx s => ?_
  cases rx with
  | pv hp =>
    cases hp with
    | int i => exact ⟨i, rfl, by show Q (.int (-i)) H; rw [← ineg_eq]; exact Sat.ok s r _ (.pv (.int _))⟩
    | _ => exact (sat_no s).elim
  | _ => exact (sat_no s).elim
theorem he_ite {et ea eb : Sl → LH → R W} {t a b : Expr} {pos : Pos} (ht : HT c X Wx et t) (ha : HE c X Wx ea a) (hb : HE c X Wx eb b) :
    HE c X Wx (fun ρ h => (et ρ h).bind fun x h1 => match truth x h1 with
      | some true => ea ρ h1
      | some false => eb ρ h1
      | none => .no) (.IfExp t a b pos) := by
  obtain ⟨tt, pt, qt⟩ := ht
  obtain ⟨ta, pa, qa⟩ := ha
  obtain ⟨tb, pb, qb⟩ := hb
  refine ⟨_, L2.pe_ifExp pt pa pb, fun d ρ h σ H Q re rh s => ?_⟩
  refine qt d ρ h σ H _ re rh ((s.bind rh.has).imp (fun d1 h1 w1 H1 x1 r1 s1 => ?_) (fun _ _ _ _ z => z))
  unfold wB
  cases e : truth w1 h1 with
  | none => rw [e] at s1; exact s1.elim
  | some k =>
    rw [e] at s1
    cases k with
    | true => exact qa d1 ρ h1 σ H1 Q (re.ext x1) r1 s1
    | false => exact qb d1 ρ h1 σ H1 Q (re.ext x1) r1 s1

/-! ### items, slices -/
theorem he_ix {ea eb : Sl → LH → R W} {a b : Expr} {pos : Pos} (hK : X.K = c.K) (hp : L2.PlainIx b) (ha : HE c X Wx ea a) (hb : HE c X Wx eb b) :
    HE c X Wx (fun ρ h => (ea ρ h).bind fun x h1 => (eb ρ h1).bind fun y h2 => R.ofO (ixOf x y h2) h2) (.Subscript a b pos) := by
  refine he_bin ha hb (r := rIxA c.K) (fun pa pb => L2.pe_ix (hK ▸ ix_all) pa pb hp) fun d h σ H x y wx wy Q r rx ry s => ?_
  obtain ⟨w, e, q⟩ := ofO_ok r s
  exact ix_hr r rx ry e q
def HO_ (c : Cf) (X : L2.Cx) (Wx : L2.WX) (ev : Sl → LH → R (Option Int)) (e : Option Expr) : Prop :=
  ∃ t : L2.TO, L2.PO X e t ∧ ∀ d ρ h σ H (Q : Option Int → AH → Prop), RE c d H ρ σ → RH c d h H → Sat c d H (wX c Wx σ) (ev ρ h) (fun _ _ o H => Q o H) → t σ H Q
theorem ho_none : HO_ c X Wx (fun _ h => .ok none h) none := ⟨_, L2.po_none, fun d ρ h σ H Q re rh s => s.ok rh⟩
theorem ho_some {ea : Sl → LH → R W} {a : Expr} (ha : HE c X Wx ea a) :
    HO_ c X Wx (fun ρ h => (ea ρ h).bind fun x h1 => match x with
      | .pv (.int j) => .ok (some j) h1
      | _ => .no) (some a) := by
  obtain ⟨ta, pa, qa⟩ := ha
  refine ⟨_, L2.po_some pa, fun d ρ h σ H Q re rh s => ?_⟩
  refine qa d ρ h σ H _ re rh ((s.bind rh.has).imp (fun d1 h1 w1 H1 x1 r1 s1 => ?_) (fun _ _ _ _ z => z))
  intro v1 rv1
  cases rv1 with
  | pv hp =>
    cases hp with
    | int i => exact ⟨i, rfl, Sat.ok s1 r1⟩
    | _ => exact (show False from s1).elim
  | _ => exact (show False from s1).elim
def rSlAll (K : PySem.W.Frag) : V → Option Int → Option Int → AH → VK → Prop := fun x lo hi H Q => L2.rSlS x lo hi H Q ∨ (L2.rSlA K x lo hi H Q ∨ L2.rSlL K x lo hi H Q)
theorem sl_all {X : L2.Cx} : L2.SlR X (rSlAll X.K) := L2.sl_str.or (L2.sl_tupA.or L2.sl_list)
theorem RPs.take {F : Addr → Prop} {H : AH} : ∀ {ps : List PV} {vs : List V} (n : Nat), RPs c F H ps vs → RPs c F H (ps.take n) (vs.take n)
  | _, _, 0, _ => by simp; exact .nil
  | _, _, n + 1, .nil => by simp; exact .nil
  | _, _, n + 1, .cons h r => by simp; exact .cons h (RPs.take n r)
theorem RPs.drop {F : Addr → Prop} {H : AH} : ∀ {ps : List PV} {vs : List V} (n : Nat), RPs c F H ps vs → RPs c F H (ps.drop n) (vs.drop n)
  | _, _, 0, r => r
  | _, _, n + 1, .nil => by simp; exact .nil
  | _, _, n + 1, .cons h r => by simp; exact RPs.drop n r
theorem RWs.take {d : Wd} {H : AH} : ∀ {ps : List W} {vs : List V} (n : Nat), RWs c d H ps vs → RWs c d H (ps.take n) (vs.take n)
  | _, _, 0, _ => by simp; exact .nil
  | _, _, n + 1, .nil => by simp; exact .nil
  | _, _, n + 1, .cons h r => by simp; exact .cons h (RWs.take n r)
theorem RWs.drop {d : Wd} {H : AH} : ∀ {ps : List W} {vs : List V} (n : Nat), RWs c d H ps vs → RWs c d H (ps.drop n) (vs.drop n)
  | _, _, 0, r => r
  | _, _, n + 1, .nil => by simp; exact .nil
  | _, _, n + 1, .cons h r => by simp; exact RWs.drop n r
theorem RPs.cut {F : Addr → Prop} {H : AH} {ps : List PV} {vs : List V} (r : RPs c F H ps vs) (lo hi : Option Int) : RPs c F H (Sx.cut ps lo hi) (L2.cutV vs lo hi) := by
  rw [cut_eq]
  unfold L2.cutV
  rw [← r.length]
  exact (r.drop _).take _
theorem RWs.cut {d : Wd} {H : AH} {ps : List W} {vs : List V} (r : RWs c d H ps vs) (lo hi : Option Int) : RWs c d H (Sx.cut ps lo hi) (L2.cutV vs lo hi) := by
  rw [cut_eq]
  unfold L2.cutV
  rw [← r.length]
  exact (r.drop _).take _
theorem cutS_eq (s : Tx) (lo hi : Option Int) : L2.cutS (toStr s) lo hi = toStr (cut s lo hi) := by
  unfold L2.cutS
  rw [toStr_cps, toStr_len, cut_eq]
  rfl
theorem cut_mem {α : Type} {s : List α} {lo hi : Option Int} {x : α} (h : x ∈ cut s lo hi) : x ∈ s := List.mem_of_mem_drop (List.mem_of_mem_take h)
theorem map_pv_cut (ps : List PV) (lo hi : Option Int) : (cut ps lo hi).map W.pv = cut (ps.map W.pv) lo hi := by
  rw [cut_eq, cut_eq, List.length_map, List.map_take, List.map_drop]
theorem sl_hr {m : Bool} {a : W} {x : V} {lo hi : Option Int} {d : Wd} {h : LH} {H : AH} {Xw : Xn → Wd → AH → Prop} {Q : VK} (r : RH c d h H) (ra : RW c d H a x) (s : Sat c d H Xw (sliceOf m a lo hi h) (wV c Q)) : rSlAll c.K x lo hi H Q := by
  cases ra with
  | pv hp =>
    cases hp with
    | str t ht =>
      obtain ⟨e, q⟩ := okIf_ok r s
      exact .inl ⟨_, rfl, by rw [toStr_len]; exact line_ok e, by rw [cutS_eq]; exact q.ok r _ (.pv (.str _ fun z hz => ht z (cut_mem hz)))⟩
    | @tup a1 v1 p1 ha hr =>
      refine .inr (.inl ⟨_, _, rfl, ha.sq, fun z => ?_, fun _ p hp => ?_⟩)
      · have e : cut p1 lo hi = p1 := by
          rw [cut_eq, hr.length, z.1, z.2, Nat.sub_zero, List.drop_zero, ← hr.length, List.take_length]
        have q := Sat.ok (show Sat c d H Xw (.ok (.pv (.tup (cut p1 lo hi))) h) (wV c Q) from s) r
        rw [e] at q
        exact q _ (.pv (.tup ha hr))
      · have ex := Ext.alloc (o := .tup (L2.cutV v1 lo hi)) r hp
        exact (show Sat c d H Xw (.ok (.pv (.tup (cut p1 lo hi))) h) (wV c Q) from s) d _ ex (r.alloc hp) _ (.pv (.tup (.inl ⟨.inl upd_same, r.notF hp⟩) ((hr.cut lo hi).ext ex)))
    | lst ha hr =>
      have hw := hr.ws.cut lo hi
      rw [← map_pv_cut] at hw
      obtain ⟨_, z2⟩ := newL_ok r hw s
      exact .inr (.inr ⟨_, _, rfl, ha.sq, z2⟩)
    | _ => exact (sat_no s).elim
  | @ref n _ l f =>
    unfold sliceOf at s
    simp only at s
    cases q1 : nth h n with
    | none => rw [q1] at s; exact (sat_no s).elim
    | some o =>
      rw [q1] at s
      cases o with
      | lst ws =>
        obtain ⟨a, ea, _, vs, h1, h2⟩ := r.live (.ref l f) q1 (by simp)
        subst ea
        obtain ⟨_, z2⟩ := newL_ok r (h2.cut lo hi) s
        exact .inr (.inr ⟨_, _, rfl, .inl (.inl h1), z2⟩)
      | _ => exact (sat_no s).elim
  | _ => exact (sat_no s).elim
theorem he_slc {m : Bool} {ea : Sl → LH → R W} {el eh : Sl → LH → R (Option Int)} {a : Expr} {lo hi : Option Expr} {p2 pos : Pos} (hK : X.K = c.K) (ha : HE c X Wx ea a) (hl : HO_ c X Wx el lo) (hh : HO_ c X Wx eh hi) :
    HE c X Wx (fun ρ h => (ea ρ h).bind fun x h1 => (el ρ h1).bind fun i h2 => (eh ρ h2).bind fun j h3 => sliceOf m x i j h3) (.Subscript a (.Slice lo hi none p2) pos) := by
  obtain ⟨ta, pa, qa⟩ := ha
  obtain ⟨tl, pl, ql⟩ := hl
  obtain ⟨th, ph, qh⟩ := hh
  refine ⟨_, L2.pe_slice (hK ▸ sl_all (X := X) : L2.SlR X (rSlAll c.K)) pa pl ph, fun d ρ h σ H Q re rh s => ?_⟩
  refine qa d ρ h σ H _ re rh ((s.bind rh.has).imp (fun d1 h1 w1 H1 x1 r1 s1 => ?_) (fun _ _ _ _ z => z))
  intro v1 rv1
  refine ql d1 ρ h1 σ H1 _ (re.ext x1) r1 ((s1.bind r1.has).imp (fun d2 h2 i H2 x2 r2 s2 => ?_) (fun _ _ _ _ z => z))
  refine qh d2 ρ h2 σ H2 _ ((re.ext x1).ext x2) r2 ((s2.bind r2.has).imp (fun d3 h3 j H3 x3 r3 s3 => ?_) (fun _ _ _ _ z => z))
  exact sl_hr r3 ((rv1.ext x2).ext x3) s3
end
end Sx
end

section
set_option autoImplicit false
set_option linter.all false
set_option Elab.async false
/-! Defs: their promise, calls of them, their bodies. -/
namespace Sx
open PySem
open L2 (V St SqL SqT Rd upd upd_same upd_ne HO PE PT PW PA PS PSs VK OpR Dp Room Env0)

/-! ### how parameters are bound -/
theorem lookup_zip : ∀ (ps : List Str) (us : List Value), us.length = ps.length → ∀ n ∈ ps, ((ps.zip us).lookup n).isNone = false
  | [], _, _, n, h => by cases h
  | p :: ps, [], h, _, _ => by simp at h
  | p :: ps, u :: us, h, n, hn => by
    rw [List.zip_cons_cons, List.lookup_cons]
    cases q : n == p with
    | true => rfl
    | false =>
      rcases List.mem_cons.mp hn with e | e
      · subst e; simp at q
      · exact lookup_zip ps us (by simpa using h) n e
theorem filterMap_same {α β : Type} {f g : α → Option β} : ∀ {l : List α}, (∀ a ∈ l, f a = g a) → l.filterMap f = l.filterMap g
  | [], _ => rfl
  | a :: l, h => by
    rw [List.filterMap_cons, List.filterMap_cons, h a (by simp), filterMap_same fun b hb => h b (List.mem_cons_of_mem _ hb)]
theorem zip_by_lookup : ∀ (ps : List Str) (us : List Value), ps.Nodup → us.length = ps.length → ps.filterMap (fun n => ((ps.zip us).lookup n).map fun v => (n, v)) = ps.zip us
  | [], us, _, _ => by simp
  | p :: ps, [], _, h => by simp at h
  | p :: ps, u :: us, nd, h => by
    obtain ⟨n1, n2⟩ := List.nodup_cons.mp nd
    have ih := zip_by_lookup ps us n2 (by simpa using h)
    rw [List.zip_cons_cons, List.filterMap_cons]
    have e0 : (p == p) = true := by simp
    simp only [List.lookup_cons, e0, Option.map_some]
    congr 1
    refine Eq.trans ?_ ih
    apply filterMap_same
    intro n hn
    have e1 : (n == p) = false := by
      rw [beq_eq_false_iff_ne]
      intro z
      rw [z] at hn
      exact n1 hn
    simp only [e1]
theorem bind_plain (x qual : Str) (body : List Stmt) (scope : Scope) (kV doc pm : Value) (an : Option Addr) (cdv ct : Value) (as : List Arg) (us : List Value) (nd : (as.map (·.arg)).Nodup) (hl : us.length = as.length) :
    bindArgs (PySem.W.fnOf x qual { posonlyargs := [], args := as, vararg := none, kwonlyargs := [], kw_defaults := [], kwarg := none, defaults := [] } body scope .none kV doc pm an cdv ct) ⟨us, []⟩ = pure ((as.map (·.arg)).zip us) := by
  have hl' : us.length = (as.map (·.arg)).length := by rw [List.length_map]; exact hl
  have hm : (as.map (·.arg)).filter (fun n => (((as.map (·.arg)).zip us).lookup n).isNone) = [] := by
    rw [List.filter_eq_nil_iff]
    intro n hn
    rw [lookup_zip _ us hl' n hn]
    exact Bool.false_ne_true
  have hs : seqItems? Value.none = pure none := rfl
  have ht : (as.map (·.arg)).take as.length = as.map (·.arg) := List.take_of_length_le (by simp)
  have hd : (as.map (·.arg)).drop as.length = [] := List.drop_of_length_le (by simp)
  have hz := zip_by_lookup _ us nd hl'
  rw [List.filterMap_map] at hz
  unfold bindArgs PySem.W.fnOf
  simp [hs, hl, hm, ht, hd, hz]

/-! ### a def's promise, where no text is being made of an object (guards) -/
structure FnG (P : Program) (w : World) (K : PySem.W.Frag) (mg : Str → Option Value) (base : Heap) (k : Nat) (f : Addr) (fd : FuncData) (ps : List Str) (sp : L2.Sp) : Prop where
  len : ∀ vs H Q E, sp vs H Q E → vs.length = ps.length
  run : ∀ (A : Around) (outer : List PySem.Env) (s : Shared) (H : AH) (args : Args) (us : List Value) (vs : List V) (Q : VK) (E : L2.XK), Room k A → A.guards = some [] → Env0 P w K mg base A outer s H →
    BindsTo s fd args (ps.zip us) → L2.Vals vs us → sp vs H Q E → codeAny (model P w) A (.call (.ref f) args) (L2.CR (L2.CX P w) outer P w H s Q E) s
section
variable {X : L2.Cx} {k : Nat} {f : Addr} {fd : FuncData} {ps : List Str} {sp : L2.Sp} {Wx : L2.WX}
theorem FnG.mono {P : Program} {w : World} {K : PySem.W.Frag} {mg : Str → Option Value} {base : Heap} {j : Nat} (F : FnG P w K mg base j f fd ps sp) (h : j ≤ k) : FnG P w K mg base k f fd ps sp :=
  ⟨F.len, fun A outer s H args us vs Q E hr => F.run A outer s H args us vs Q E (hr.mono h)⟩
theorem run_g {pins : List (Addr × Obj)} {σ : St} {H : AH} {s : Shared} {Q : VK} {us : List Value} {vs : List V} (F : FnG X.prog X.w X.K X.mg X.base k f fd ps sp) (hr : Room k X.A) (hg : X.A.guards = some [])
    (hb : L2.Binds X.K fd ps []) (tk : L2.Takes X Wx) (I : L2.Inv X pins σ H s) (r : L2.Vals vs us) (h : sp vs H Q (L2.WE Wx σ)) :
    wpAny (model X.prog X.w) X.A (call (.ref f) us) (L2.EP X pins σ Q) X.xe s := by
  have hl : us.length = ps.length := by rw [← r.length]; exact F.len _ _ _ _ h
  have hbs := hb s us I.kIn (by rw [List.append_nil]; exact hl)
  rw [List.append_nil] at hbs
  refine wpAny_call (codeAny_mono (F.run X.A X.stack s H ⟨us, []⟩ us vs Q _ hr hg I.env0 hbs r h) fun r s' hq => ?_)
  cases r with
  | error e => exact L2.passAt tk σ pins H s e s' I hq
  | ok fl =>
    cases fl with
    | ret u => exact I.after hq
    | next => exact False.elim hq
    | brk => exact False.elim hq
    | cont => exact False.elim hq
def tCallG (sp : L2.Sp) (Wx : L2.WX) (t : L2.TA) : L2.TE := fun σ H Q => t σ H fun vs H1 => sp vs H1 Q (L2.WE Wx σ)
theorem pe_callG {x : Str} {p pos : Pos} {e : Expr} {es : List Expr} {t : L2.TA} (F : FnG X.prog X.w X.K X.mg X.base k f fd ps sp) (hr : Room k X.A) (hgu : X.A.guards = some []) (hg : L2.Gl X x) (hm : X.mg x = some (.ref f))
    (hk : PySem.W.keepIn X.K (.ref f) = true) (hb : L2.Binds X.K fd ps []) (tk : L2.Takes X Wx) (ha : PA X (e :: es) t) (hdb : (x == ("__debug__" : Str)) = false)
    (he : starEach (e :: es) X.env = (false, eval e X.env) :: starEach es X.env) (hpl : (backTo pos (starEach es X.env)).any (·.1) = false) : PE X (.Call (.Name x p) (e :: es) [] pos) (tCallG sp Wx t) := by
  refine ⟨fun pins s σ H Q I h => ?_⟩
  refine wpAny_Call_Name_kw (L2.ld_glob I hg hm ?_ hdb)
  refine PySem.W.callWith_K (h₀ := X.base) I.ok.mod.kin hk (L2.thn (ha.run pos pins s σ H _ I h) fun us s1 ⟨vs, H1, I1, r, q⟩ => ⟨I1.kIn, ?_⟩) he hpl
  exact run_g F hr hgu hb tk I1 r q
theorem pe_callG0 {x : Str} {p pos : Pos} (F : FnG X.prog X.w X.K X.mg X.base k f fd ps sp) (hr : Room k X.A) (hgu : X.A.guards = some []) (hg : L2.Gl X x) (hm : X.mg x = some (.ref f))
    (hk : PySem.W.keepIn X.K (.ref f) = true) (hb : L2.Binds X.K fd ps []) (tk : L2.Takes X Wx) (hdb : (x == ("__debug__" : Str)) = false) : PE X (.Call (.Name x p) [] [] pos) (tCallG sp Wx L2.tNil) := by
  refine ⟨fun pins s σ H Q I h => ?_⟩
  refine wpAny_Call_Name_kw (L2.ld_glob I hg hm ?_ hdb)
  exact PySem.W.callWith_K0 I.kIn hk (run_g (us := []) F hr hgu hb tk I .nil h)
end

/-- a def, by its body -/
theorem fnG_of {P : Program} {w : World} {K : PySem.W.Frag} {mg : Str → Option Value} {base : Heap} {k : Nat} {f : Addr} {fd : FuncData} {x qual : Str} {params : Arguments} {body : List Stmt} {scope : Scope}
    {dvs : List V} {kws : List (Str × V)} {N ps : List Str} {sp : L2.Sp} (F : L2.FunD K x qual params body scope dvs kws f fd) (S : L2.FnScope N ps scope) (len : ∀ vs H Q E, sp vs H Q E → vs.length = ps.length)
    (hbody : ∀ (cdv : Value) (A : Around) (outer : List PySem.Env) (s : Shared) (H : AH) (vs : List V) (Q : VK) (E : L2.XK), Room k (A.deeper (PyProof.Rows.envOfC qual scope s.heap.objs.size f cdv)) → A.guards = some [] → sp vs H Q E →
      ∃ t, PSs (L2.cxOf (L2.CX P w) P w K mg base N qual scope f cdv A outer s H E) body t ∧ t { nx := fun _ H' => Q .non H', rt := Q } (L2.start N vs) H) :
    FnG P w K mg base (k + 1) f fd ps sp := by
  obtain ⟨oc, od, dV, kV, doc, pm, an, cdv, ct, osl, rfl, lk, hcd, _, _⟩ := F.ex
  refine ⟨len, fun A outer s H args us vs Q E hr hgu e0 hb r hsp => ?_⟩
  have kin : K.In s.heap := e0.mod.kin.keeps fun b o e => (e0.bs b o e).1
  have lim : s.heap.NoLimit := e0.mod.nolimit.keeps fun b o e => (e0.bs b o e).1
  refine codeAny_call_function hr.depth (kin _ _ lk) rfl S.co S.gen rfl (PySem.W.codeRec_of kin hcd) (hb _ _ _ _ ?_)
  refine wpAny_newFunctionEnv_cells S.kind (fun ⟨n, v⟩ hy => ?_) fun env he s1 ic => ?_
  · rcases S.par n (List.of_mem_zip hy).1 with q | q
    · exact .inl q
    · exact .inr ⟨q, PySem.W.cellsFrom_some _ _ _ (.inl q)⟩
  · subst he
    refine ⟨lim.keeps ic.toInCall.keep, codeAny_func ?_⟩
    obtain ⟨t, ht, hq⟩ := hbody cdv A outer s H vs Q E (hr.deeper _) hgu hsp
    have I := L2.inv_start (CX := L2.CX P w) (E := E) S hr.hd e0 (len _ _ _ _ hsp) r ic
    refine wpAny_mono (ht.run [] s1 (L2.start N vs) H _ I hq) (fun fl s' hs => ?_) fun _ _ hs => hs
    cases fl with
    | ret u =>
      obtain ⟨v, σ', H', J, rv, q⟩ := hs
      exact ⟨v, H', J.os, J.bare, J.base, J.hok, rv, q⟩
    | next =>
      obtain ⟨σ', H', J, q⟩ := hs
      exact ⟨.non, H', J.os, J.bare, J.base, J.hok, rfl, q⟩
    | brk =>
      obtain ⟨_, _, _, q⟩ := hs
      exact False.elim q
    | cont =>
      obtain ⟨_, _, _, q⟩ := hs
      exact False.elim q
end Sx
end

section
set_option autoImplicit false
set_option linter.all false
set_option Elab.async false
namespace Sx
open PySem
open L2 (V St SqL SqT Rd upd upd_same upd_ne HO PE PT PW PA PS PSs VK OpR Dp Room Env0)

/-- what a run of the def f is worth -/
def spR (c : Cf) (Γ : Gl) (n f : Nat) : L2.Sp := fun vs H Q E => ∃ d ws h, RH c d h H ∧ RWs c d H ws vs ∧ Sat c d H (fun x d' H' => ∀ cls dx, RX c d' H' x cls dx → E cls dx H') (run Γ n f ws h) (wV c Q)

section
variable {c : Cf} {d : Wd} {h : LH} {H : AH}
/-- nothing of one's own -/
def Wd.bare (d : Wd) : Wd := ⟨[], d.F⟩
theorem RH.bare (r : RH c d h H) : RH c d.bare [] H :=
  ⟨rfl, fun n o e => by simp [nth] at e, fun n m a e => by simp [Wd.bare] at e, fun n a e => by simp [Wd.bare] at e, r.has⟩
def Wd.with (d e : Wd) : Wd := ⟨d.ι, e.F⟩
theorem Ext.back {e : Wd} {H' : AH} (r : RH c d h H) (x : Ext d.bare H e H') : Ext d H (d.with e) H' :=
  have nb : ∀ a, ¬ Sx.inI d.bare a := fun a ⟨n, z⟩ => by simp [Wd.bare] at z
  ⟨Nat.le_refl _, fun _ _ _ z => z, fun _ z => .inl z, fun a o _ z => x.keep a o (nb a) z, x.pure, fun a f _ => x.forb a f (nb a), fun a z => r.inI z⟩
theorem RH.back {e : Wd} {h2 : LH} {H' : AH} (r : RH c d h H) (x : Ext d.bare H e H') (r2 : RH c e h2 H') : RH c (d.with e) h H' := by
  have nb : ∀ a, ¬ Sx.inI d.bare a := fun a ⟨n, z⟩ => by simp [Wd.bare] at z
  have ex := x.back r
  refine ⟨r.len, fun n o z => ?_, r.inj, fun n a z => x.forb a (r.sub n a z) (nb a), r2.has⟩
  rcases r.obj n o z with q | ⟨a, ea, q⟩
  · exact .inl q
  · refine .inr ⟨a, ea, q.ext ex ?_⟩
    cases hh : H a with
    | none => exact (r.has a (r.sub n a ea) hh).elim
    | some u => exact x.keep a u (nb a) hh
mutual
/-- what holds no changing object means the same wherever -/
theorem RW.moved {e : Wd} (hF : d.F = e.F) : ∀ {w : W} {v : V}, isPure w = true → RW c d H w v → RW c e H w v
  | _, _, _, .pv h => .pv (hF ▸ h)
  | _, _, p, .ref _ _ => by simp [isPure] at p
  | _, _, _, .fn h => .fn h
  | _, _, _, .cl h => .cl h
  | _, _, p, .obj k e n q => .obj k e (hF ▸ n) (RFs.moved hF (by simpa [isPure] using p) q)
theorem RFs.moved {e : Wd} (hF : d.F = e.F) : ∀ {fs : List (Nat × W)} {vs : List (Str × V)}, pureFs fs = true → RFs c d H fs vs → RFs c e H fs vs
  | _, _, _, .nil => .nil
  | (f, w) :: _, _, p, .cons h r => by
    simp only [pureFs, pureFd] at p
    cases q : isPure w with
    | false => rw [q] at p; cases p
    | true =>
      rw [q] at p
      exact .cons (RW.moved hF q h) (RFs.moved hF p r)
end
theorem RWs.moved {e : Wd} (hF : d.F = e.F) : ∀ {ws : List W} {vs : List V}, ws.all isPure = true → RWs c d H ws vs → RWs c e H ws vs
  | _, _, _, .nil => .nil
  | _, _, p, .cons h r => by
    rw [List.all_cons, Bool.and_eq_true] at p
    exact .cons (h.moved hF p.1) (RWs.moved hF p.2 r)
/-- a call gives what the def promises -/
theorem doCall_hr {Γ : Gl} {n f : Nat} {pf : Bool} {ws : List W} {vs : List V} {σ : St} {Wx : L2.WX} {Q : VK} (r : RH c d h H) (hw : RWs c d H ws vs) (s : Sat c d H (wX c Wx σ) (doCall (run Γ n) pf f ws h) (wV c Q)) :
    spR c Γ n f vs H Q (L2.WE Wx σ) := by
  cases pf with
  | false => exact ⟨d, ws, h, r, hw, s⟩
  | true =>
    unfold doCall at s
    simp only at s
    cases e : ws.all isPure with
    | false => rw [e] at s; exact s.elim
    | true =>
      rw [e] at s
      simp only at s
      refine ⟨d.bare, ws, [], r.bare, RWs.moved (d := d) (e := d.bare) rfl e hw, ?_⟩
      cases e2 : run Γ n f ws [] with
      | no => rw [e2] at s; exact s.elim
      | ok w h2 =>
        rw [e2] at s
        simp only at s
        cases e3 : isPure w with
        | false => rw [e3] at s; exact s.elim
        | true =>
          rw [e3] at s
          intro d' H' x r2 v rv
          exact s (d.with d') H' (x.back r) (r.back x r2) v (RW.moved (d := d') (e := d.with d') rfl e3 rv)
      | ex x h2 =>
        rw [e2] at s
        simp only at s
        cases e3 : pureFs x.fs with
        | false => rw [e3] at s; exact s.elim
        | true =>
          rw [e3] at s
          intro d' H' x2 r2 cls dx ⟨C, k1, k2, k3⟩
          refine s (d.with d') H' (x2.back r) (r.back x2 r2) cls dx ⟨C, k1, k2, ?_⟩
          rcases k3 with k3 | ⟨a, us, q1, q2, q3, q4⟩
          · exact .inl k3
          · exact .inr ⟨a, us, q1, q2, q3, RFs.moved (d := d') (e := d.with d') rfl e3 q4⟩
end

/-- the names of the defs -/
structure Nm where
  fn : Nat → Option Str
  gl : Nat → Option Str

/-- a def stands in the module, and keeps its promise to the depth n -/
def FnAt (c : Cf) (Γ : Gl) (n f : Nat) (x : Str) (P : Program) (w : World) (mg : Str → Option Value) (base : Heap) : Prop :=
  ∃ a fd ps, mg x = some (.ref a) ∧ PySem.W.keepIn c.K (.ref a) = true ∧ L2.Binds c.K fd ps [] ∧ FnG P w c.K mg base n a fd ps (spR c Γ n f)
def GlAt (c : Cf) (Γ : Gl) (g : Nat) (x : Str) (mg : Str → Option Value) : Prop :=
  ∃ u v w, mg x = some u ∧ L2.RelV v u ∧ Γ.glob.get g = some w ∧ ∀ d H, RW c d H w v

/-- the built-in names that are used as such -/
def bltNames : List Str := ["len", "abs", "int", "str", "list", "tuple", "range", "repr", "isinstance", "sorted", "set", "enumerate", "zip", "max", "min", "sum", "any", "all", "ord", "dict", "bool"]
/-- where a body runs -/
structure Ct (c : Cf) (Γ : Gl) (nm : Nm) (n : Nat) (X : L2.Cx) (Wx : L2.WX) : Prop where
  ok : c.Ok
  K : X.K = c.K
  nd : X.N.Nodup
  kind : X.env.scope.kind = .function
  calm : X.calm = true
  gu : X.A.guards = some []
  room : Room n X.A
  takes : L2.Takes X Wx
  fns : ∀ f x, nm.fn f = some x → FnAt c Γ n f x X.prog X.w X.mg X.base
  gls : ∀ g x, nm.gl g = some x → GlAt c Γ g x X.mg
  blt : ∀ x : Str, x ∈ bltNames → X.mg x = none

section
variable {c : Cf} {Γ : Gl} {nm : Nm} {n : Nat} {X : L2.Cx} {Wx : L2.WX}
theorem he_call {f : Nat} {pf : Bool} {x : Str} {p pos : Pos} {e : Expr} {es : List Expr} {evs : Sl → LH → R (List W)} (ct : Ct c Γ nm n X Wx) (hf : nm.fn f = some x) (hg : L2.Gl X x) (hdb : (x == ("__debug__" : Str)) = false)
    (ha : HA c X Wx evs (e :: es)) (he : starEach (e :: es) X.env = (false, eval e X.env) :: starEach es X.env) (hpl : (backTo pos (starEach es X.env)).any (·.1) = false) :
    HE c X Wx (fun ρ h => (evs ρ h).bind fun ws h1 => doCall (run Γ n) pf f ws h1) (.Call (.Name x p) (e :: es) [] pos) := by
  obtain ⟨ta, pa, qa⟩ := ha
  obtain ⟨a, fd, ps, m1, k1, b1, F⟩ := ct.fns f x hf
  refine ⟨_, pe_callG (ct.K ▸ F) ct.room ct.gu hg m1 (ct.K ▸ k1) (ct.K ▸ b1) ct.takes pa hdb he hpl, fun d ρ h σ H Q re rh s => ?_⟩
  refine qa d ρ h σ H _ re rh ((s.bind rh.has).imp (fun d1 h1 ws H1 x1 r1 s1 => ?_) (fun _ _ _ _ z => z))
  intro vs rv
  exact doCall_hr r1 rv s1
theorem he_call0 {f : Nat} {pf : Bool} {x : Str} {p pos : Pos} (ct : Ct c Γ nm n X Wx) (hf : nm.fn f = some x) (hg : L2.Gl X x) (hdb : (x == ("__debug__" : Str)) = false) :
    HE c X Wx (fun ρ h => (R.ok ([] : List W) h).bind fun ws h1 => doCall (run Γ n) pf f ws h1) (.Call (.Name x p) [] [] pos) := by
  obtain ⟨a, fd, ps, m1, k1, b1, F⟩ := ct.fns f x hf
  refine ⟨_, pe_callG0 (ct.K ▸ F) ct.room ct.gu hg m1 (ct.K ▸ k1) (ct.K ▸ b1) ct.takes hdb, fun d ρ h σ H Q re rh s => ?_⟩
  exact doCall_hr rh .nil s
end
end Sx
end

section
set_option autoImplicit false
set_option linter.all false
set_option Elab.async false
namespace Sx
open PySem
open L2 (V St SqL SqT Rd upd upd_same upd_ne HO PE PT PW PA PS PSs VK OpR Dp Room Env0 CallR)

/-! ### arguments without stars -/
def noStar : Expr → Bool
  | .Starred _ _ => false
  | _ => true
theorem star_cons {e : Expr} {es : List Expr} {env : PySem.Env} (h : noStar e = true) : starEach (e :: es) env = (false, eval e env) :: starEach es env := by
  cases e <;> first | rfl | cases h
theorem star_any {pos : Pos} {env : PySem.Env} : ∀ {es : List Expr}, es.all noStar = true → (backTo pos (starEach es env)).any (·.1) = false
  | [], _ => rfl
  | e :: es, h => by
    rw [List.all_cons, Bool.and_eq_true] at h
    rw [star_cons h.1]
    show (false || (backTo pos (starEach es env)).any (·.1)) = false
    rw [star_any h.2]
    rfl
theorem star_few {pos : Pos} {env : PySem.Env} {es : List Expr} (h : es.all noStar = true) (hl : es.length < 30) : ((backTo pos (starEach es env)).all (fun x => !x.1) && (backToKw pos (keywordEach [] env)).all (fun x => x.1.isSome)
      && decide (es.length + ([] : List Keyword).length + (if ([] : List Keyword).isEmpty then 0 else 1) < 30)) = true := by
  have h1 : (backTo pos (starEach es env)).all (fun x => !x.1) = true := by
    have := star_any (pos := pos) (env := env) h
    rw [List.all_eq_not_any_not, Bool.not_eq_true', ← this]
    congr 1
    funext x
    simp
  rw [h1]
  have h2 : (backToKw pos (keywordEach [] env)).all (fun x => x.1.isSome) = true := rfl
  rw [h2]
  simp [hl]
/-- what an attribute is asked of: no call of super -/
def plainBase : Expr → Bool
  | .Call (.Name _ _) [] [] _ => false
  | _ => true
theorem base_ok {o : Expr} {name : Str} {env : PySem.Env} (h : plainBase o = true) : attributeBase o name env (eval o env) = eval o env := by
  unfold attributeBase
  split
  · cases h
  · rfl

section
variable {c : Cf} {X : L2.Cx} {Wx : L2.WX}

/-! ### built-in functions and types -/
theorem he_blt {id : String} {r : List V → AH → VK → Prop} {x : Str} {p pos : Pos} {e : Expr} {es : List Expr} {evs : Sl → LH → R (List W)} {f : List W → LH → R W}
    (hc : CallR X (.builtin id) r) (hg : L2.Gl X x) (hm : X.mg x = none) (hv : bootBuiltins x = some (.builtin id)) (hn : x ≠ "__name__") (hdb : (x == ("__debug__" : Str)) = false)
    (hs : (e :: es).all noStar = true) (ha : HA c X Wx evs (e :: es))
    (k : ∀ {d : Wd} {h : LH} {σ : St} {H : AH} {ws : List W} {vs : List V} {Q : VK}, RH c d h H → RWs c d H ws vs → Sat c d H (wX c Wx σ) (f ws h) (wV c Q) → r vs H Q) :
    HE c X Wx (fun ρ h => (evs ρ h).bind f) (.Call (.Name x p) (e :: es) [] pos) := by
  obtain ⟨ta, pa, qa⟩ := ha
  have hs' := hs
  rw [List.all_cons, Bool.and_eq_true] at hs'
  refine ⟨_, L2.pe_callB hc hg hm hv pa hn hdb (star_cons hs'.1) (star_any hs'.2), fun d ρ h σ H Q re rh s => ?_⟩
  refine qa d ρ h σ H _ re rh ((s.bind rh.has).imp (fun d1 h1 ws H1 x1 r1 s1 => ?_) (fun _ _ _ _ z => z))
  intro vs rv
  exact k r1 rv s1
theorem he_ty {id : String} {r : List V → AH → VK → Prop} {x : Str} {p pos : Pos} {e : Expr} {es : List Expr} {evs : Sl → LH → R (List W)} {f : List W → LH → R W}
    (hc : CallR X (.type id) r) (hg : L2.Gl X x) (hm : X.mg x = none) (hv : bootBuiltins x = some (.type id)) (hn : x ≠ "__name__") (hdb : (x == ("__debug__" : Str)) = false)
    (hs : (e :: es).all noStar = true) (ha : HA c X Wx evs (e :: es))
    (k : ∀ {d : Wd} {h : LH} {σ : St} {H : AH} {ws : List W} {vs : List V} {Q : VK}, RH c d h H → RWs c d H ws vs → Sat c d H (wX c Wx σ) (f ws h) (wV c Q) → r vs H Q) :
    HE c X Wx (fun ρ h => (evs ρ h).bind f) (.Call (.Name x p) (e :: es) [] pos) := by
  obtain ⟨ta, pa, qa⟩ := ha
  have hs' := hs
  rw [List.all_cons, Bool.and_eq_true] at hs'
  refine ⟨_, L2.pe_callTy hc hg hm hv pa hn hdb (star_cons hs'.1) (star_any hs'.2), fun d ρ h σ H Q re rh s => ?_⟩
  refine qa d ρ h σ H _ re rh ((s.bind rh.has).imp (fun d1 h1 ws H1 x1 r1 s1 => ?_) (fun _ _ _ _ z => z))
  intro vs rv
  exact k r1 rv s1

/-! ### what each of them is worth -/
section
variable {d : Wd} {h : LH} {H : AH} {Xw : Xn → Wd → AH → Prop} {ws : List W} {vs : List V} {Q : VK} {m : Bool}
theorem one_of {w : W} (hw : RWs c d H [w] vs) : ∃ v, vs = [v] ∧ RW c d H w v := by
  cases hw with
  | cons a b => cases b with
    | nil => exact ⟨_, rfl, a⟩
theorem two_of {w u : W} (hw : RWs c d H [w, u] vs) : ∃ v x, vs = [v, x] ∧ RW c d H w v ∧ RW c d H u x := by
  cases hw with
  | cons a b => cases b with
    | cons a2 b2 => cases b2 with
      | nil => exact ⟨_, _, rfl, a, a2⟩
theorem len_hr {w : W} {v : V} {n : Nat} (r : RH c d h H) (rv : RW c d H w v) (e : lenOf w h = some n) : L2.LenV c.K v H n := by
  cases rv with
  | pv hp =>
    cases hp with
    | str t ht =>
      unfold lenOf at e
      simp only at e
      cases q : line t.length with
      | false => rw [q] at e; cases e
      | true =>
        rw [q] at e
        cases e
        exact ⟨by rw [toStr_len]; exact line_ok q, (toStr_len t).symm⟩
    | tup ha hr => cases e; exact .inr ⟨_, ha.sq, hr.length⟩
    | lst ha hr => cases e; exact .inl ⟨_, ha.sq, hr.length⟩
    | _ => cases e
  | @ref n2 _ l f =>
    unfold lenOf at e
    simp only at e
    cases q1 : nth h n2 with
    | none => rw [q1] at e; cases e
    | some o =>
      rw [q1] at e
      cases o with
      | lst ws =>
        cases e
        obtain ⟨a, ea, _, vs, h1, h2⟩ := r.live (.ref l f) q1 (by simp)
        subst ea
        exact .inl ⟨_, .inl (.inl h1), h2.length⟩
      | _ => cases e
  | _ => cases e
theorem prim1 {p : Prim} {f : W → LH → R W} {r : List V → AH → VK → Prop} (e : ∀ w h, prim p m [w] h = f w h) (e0 : ∀ h, prim p m [] h = .no) (e2 : ∀ a b l h, prim p m (a :: b :: l) h = .no)
    (r1 : RH c d h H) (hw : RWs c d H ws vs) (s : Sat c d H Xw (prim p m ws h) (wV c Q)) (k : ∀ w v, RW c d H w v → Sat c d H Xw (f w h) (wV c Q) → r [v] H Q) : r vs H Q := by
  cases hw with
  | nil => rw [e0] at s; exact s.elim
  | @cons w v ws2 vs2 a b => cases b with
    | nil => rw [e] at s; exact k w v a s
    | cons a2 b2 => rw [e2] at s; exact s.elim
theorem p_len (r1 : RH c d h H) (hw : RWs c d H ws vs) (s : Sat c d H Xw (prim .len m ws h) (wV c Q)) : (fun xs H Q => ∃ x n, xs = [x] ∧ L2.LenV c.K x H n ∧ Q (.int (n : Nat)) H : List V → AH → VK → Prop) vs H Q := by
  refine prim1 (r := (fun xs H Q => ∃ x n, xs = [x] ∧ L2.LenV c.K x H n ∧ Q (.int (n : Nat)) H : List V → AH → VK → Prop)) (fun _ _ => rfl) (fun _ => rfl) (fun _ _ l _ => by cases l <;> rfl) r1 hw s fun w v rv s => ?_
  obtain ⟨p, e, q⟩ := ofP_ok r1 s
  cases e2 : lenOf w h with
  | none => rw [e2] at e; cases e
  | some n =>
    rw [e2] at e
    simp only [Option.map_some, Option.some.injEq] at e
    subst e
    exact ⟨v, n, rfl, len_hr r1 rv e2, q _ (.pv (.int _))⟩
theorem p_abs (r1 : RH c d h H) (hw : RWs c d H ws vs) (s : Sat c d H Xw (prim .abs m ws h) (wV c Q)) : (fun xs H Q => ∃ i, xs = [.int i] ∧ Q (.int (if i < 0 then -i else i)) H : List V → AH → VK → Prop) vs H Q := by
  refine prim1 (r := (fun xs H Q => ∃ i, xs = [.int i] ∧ Q (.int (if i < 0 then -i else i)) H : List V → AH → VK → Prop)) (fun _ _ => rfl) (fun _ => rfl) (fun _ _ l _ => by cases l <;> rfl) r1 hw s fun w v rv s => ?_
  cases rv with
  | pv hp =>
    cases hp with
    | int i =>
      have e : (Int.ofNat i.natAbs) = if i < 0 then -i else i := by
        show ((i.natAbs : Nat) : Int) = _
        split <;> omega
      refine ⟨i, rfl, ?_⟩
      show Q (.int (if i < 0 then -i else i)) H
      rw [← e]
      exact Sat.ok s r1 _ (.pv (.int _))
    | _ => exact (sat_no s).elim
  | _ => exact (sat_no s).elim
theorem p_int (r1 : RH c d h H) (hw : RWs c d H ws vs) (s : Sat c d H Xw (prim .int m ws h) (wV c Q)) :
    (fun xs H Q => (∃ i, xs = [.int i] ∧ Q (.int i) H) ∨ ∃ k, xs = [.bl k] ∧ Q (.int (if k then 1 else 0)) H : List V → AH → VK → Prop) vs H Q := by
  refine prim1 (r := (fun xs H Q => (∃ i, xs = [.int i] ∧ Q (.int i) H) ∨ ∃ k, xs = [.bl k] ∧ Q (.int (if k then 1 else 0)) H : List V → AH → VK → Prop)) (fun _ _ => rfl) (fun _ => rfl) (fun _ _ l _ => by cases l <;> rfl) r1 hw s fun w v rv s => ?_
  cases rv with
  | pv hp =>
    cases hp with
    | int i => exact .inl ⟨i, rfl, Sat.ok s r1 _ (.pv (.int _))⟩
    | bl b => exact .inr ⟨b, rfl, by show Q (.int (if b then 1 else 0)) H; rw [← b2n_eq]; exact Sat.ok s r1 _ (.pv (.int _))⟩
    | _ => exact (sat_no s).elim
  | _ => exact (sat_no s).elim
theorem dig_tx (n : Nat) : (Str.ofString (Nat.repr n)) = toStr (digTx n) := by
  refine (toStr_eq _).symm.trans (congrArg toStr ?_)
  rw [PyProof.Rows.signs_ofString]
  show (String.ofList (Nat.toDigits 10 n)).toList.map Char.toNat = _
  rw [String.toList_ofList]
  rfl
theorem int_tx (i : Int) : (Str.ofString (toString i)) = toStr (intTx i) := by
  cases i with
  | ofNat n => exact dig_tx n
  | negSucc n =>
    refine (toStr_eq _).symm.trans (congrArg toStr ?_)
    rw [PyProof.Rows.signs_ofString]
    show ("-" ++ String.ofList (Nat.toDigits 10 (n + 1))).toList.map Char.toNat = _
    rw [String.toList_append]
    show List.map Char.toNat (['-'] ++ (String.ofList (Nat.toDigits 10 (n + 1))).toList) = _
    rw [String.toList_ofList]
    rfl
theorem dig_ok : ∀ (n : Nat), okTx (digTx n) := fun n a ha => by
  obtain ⟨ch, hc, e⟩ := List.mem_map.mp ha
  have := ch.valid
  subst e
  show ch.val.toNat < _
  unfold UInt32.isValidChar Nat.isValidChar at this
  rcases this with h | h
  · exact Nat.lt_trans h (by decide)
  · exact h.2
theorem int_ok (i : Int) : okTx (intTx i) := by
  cases i with
  | ofNat n => exact dig_ok n
  | negSucc n =>
    intro a ha
    rcases List.mem_cons.mp ha with e | e
    · rw [e]; decide
    · exact dig_ok _ a e
def rStr : List V → AH → VK → Prop := fun xs H Q => (∃ i, xs = [.int i] ∧ i.natAbs.log2 < 1920 ∧ Q (.str (toString i)) H) ∨ ∃ a, xs = [.str a] ∧ Q (.str a) H
theorem cr_str : CallR X (.type "str") rStr := L2.call_str_int.or SkE.call_str_str
theorem p_str (r1 : RH c d h H) (hw : RWs c d H ws vs) (s : Sat c d H Xw (prim .str m ws h) (wV c Q)) : rStr vs H Q := by
  refine prim1 (r := rStr) (fun _ _ => rfl) (fun _ => rfl) (fun _ _ l _ => by cases l <;> rfl) r1 hw s fun w v rv s => ?_
  cases rv with
  | pv hp =>
    cases hp with
    | int i =>
      obtain ⟨e, q⟩ := okIf_ok r1 s
      refine .inl ⟨i, rfl, by rwa [Nat.blt_eq] at e, ?_⟩
      show Q (.str (Str.ofString (toString i))) H
      rw [int_tx]
      exact q.ok r1 _ (.pv (.str _ (int_ok i)))
    | str t ht => exact .inr ⟨_, rfl, Sat.ok s r1 _ (.pv (.str _ ht))⟩
    | _ => exact (sat_no s).elim
  | _ => exact (sat_no s).elim
def rLst (K : PySem.W.Frag) : List V → AH → VK → Prop := fun xs H Q => ∃ p ys, xs = [.ref p] ∧ (SqL K H p ys ∨ SqT K H p ys) ∧ ∀ l, H l = none → Q (.ref l) (upd H l (.lst ys))
def rTup (K : PySem.W.Frag) : List V → AH → VK → Prop := fun xs H Q => ∃ p ys, xs = [.ref p] ∧ ((SqL K H p ys ∧ ∀ l, H l = none → Q (.ref l) (upd H l (.tup ys))) ∨ (SqT K H p ys ∧ Q (.ref p) H))
theorem p_lst (r1 : RH c d h H) (hw : RWs c d H ws vs) (s : Sat c d H Xw (prim .lst m ws h) (wV c Q)) : rLst c.K vs H Q := by
  refine prim1 (r := rLst c.K) (fun _ _ => rfl) (fun _ => rfl) (fun _ _ l _ => by cases l <;> rfl) r1 hw s fun w v rv s => ?_
  replace s : Sat c d H Xw (match itemsOf w h with
      | some ws => newL m ws h
      | none => .no) (wV c Q) := s
  cases e : itemsOf w h with
  | none => rw [e] at s; exact (sat_no s).elim
  | some us =>
    rw [e] at s
    obtain ⟨a, xs, rfl, hl, hq⟩ := items_ok r1 rv e
    obtain ⟨_, z⟩ := newL_ok r1 hl s
    exact ⟨a, xs, rfl, hq.imp (·.2) (·.2), z⟩
theorem pvsOf_map : ∀ ps : List PV, pvsOf (ps.map W.pv) = some ps
  | [] => rfl
  | p :: r => by rw [List.map_cons, pvsOf, pvsOf_map r]
theorem p_tup (r1 : RH c d h H) (hw : RWs c d H ws vs) (s : Sat c d H Xw (prim .tup m ws h) (wV c Q)) : rTup c.K vs H Q := by
  refine prim1 (r := rTup c.K) (fun _ _ => rfl) (fun _ => rfl) (fun _ _ l _ => by cases l <;> rfl) r1 hw s fun w v rv s => ?_
  replace s : Sat c d H Xw (match itemsOf w h with
      | some ws => newT ws h
      | none => .no) (wV c Q) := s
  cases e : itemsOf w h with
  | none => rw [e] at s; exact (sat_no s).elim
  | some us =>
    rw [e] at s
    obtain ⟨a, xs, rfl, hl, hq⟩ := items_ok r1 rv e
    rcases hq with ⟨_, hq⟩ | ⟨ht, hq⟩
    · obtain ⟨_, z⟩ := newT_ok r1 hl s
      exact ⟨a, xs, rfl, .inl ⟨hq, z⟩⟩
    · cases rv with
      | pv hp =>
        cases hp with
        | @tup _ _ ps ha hr =>
          cases e
          refine ⟨a, _, rfl, .inr ⟨ha.sq, ?_⟩⟩
          replace s : Sat c d H Xw (newT (List.map W.pv ps) h) (wV c Q) := s
          unfold newT at s
          cases q : line (List.map W.pv ps).length with
          | false => rw [q] at s; exact s.elim
          | true =>
            rw [q, pvsOf_map] at s
            exact Sat.ok s r1 _ (.pv (.tup ha hr))
        | _ => cases ht
      | _ => cases ht
end
end
end Sx
end

section
set_option autoImplicit false
set_option linter.all false
set_option Elab.async false
namespace Sx
open PySem
open L2 (V St SqL SqT Rd upd upd_same upd_ne HO PE PT PW PA PS PSs VK OpR Dp Room Env0 CallR)
section
variable {c : Cf} {X : L2.Cx} {Wx : L2.WX}

/-- the built-in functions and types in use, by name -/
def primNm : Prim → Option Str
  | .len => some "len"
  | .abs => some "abs"
  | .int => some "int"
  | .str => some "str"
  | .lst => some "list"
  | .tup => some "tuple"
  | _ => none
theorem he_prim {q : Prim} {m : Bool} {x : Str} {p pos : Pos} {e : Expr} {es : List Expr} {evs : Sl → LH → R (List W)} (hK : X.K = c.K) (hx : primNm q = some x) (hg : L2.Gl X x) (hm : X.mg x = none)
    (hs : (e :: es).all noStar = true) (ha : HA c X Wx evs (e :: es)) : HE c X Wx (fun ρ h => (evs ρ h).bind (prim q m)) (.Call (.Name x p) (e :: es) [] pos) := by
  cases q with
  | len => cases hx; exact he_blt L2.call_len hg hm PySem.boot_len (by decide) (by decide) hs ha fun r w s => hK ▸ p_len r w s
  | abs => cases hx; exact he_blt L2.call_abs hg hm (by decide +kernel) (by decide) (by decide) hs ha fun r w s => p_abs r w s
  | int => cases hx; exact he_ty L2.call_int1 hg hm (by decide +kernel) (by decide) (by decide) hs ha fun r w s => p_int r w s
  | str => cases hx; exact he_ty cr_str hg hm (by decide +kernel) (by decide) (by decide) hs ha fun r w s => p_str r w s
  | lst => cases hx; exact he_ty L2.call_list_of hg hm (by decide +kernel) (by decide) (by decide) hs ha fun r w s => hK ▸ p_lst r w s
  | tup => cases hx; exact he_ty L2.call_tuple_of hg hm (by decide +kernel) (by decide) (by decide) hs ha fun r w s => hK ▸ p_tup r w s
  | _ => cases hx

/-! ### methods -/
theorem up_all : ∀ k : Fin 128, Unicode.upperOf k.val = [upC k.val] := by decide +kernel
theorem upper_eq {s : Tx} (h : ascii s = true) : Txt.upper (toStr s) = toStr (s.map upC) := by
  unfold Txt.upper placed toStr
  congr 1
  have e : (List.toArray s).mapIdx (fun i k => (Unicode.upperOf k).toArray) = ((s.map fun k => [upC k].toArray).toArray : Array (Array Nat)) := by
    apply Array.ext
    · simp
    · intro i h1 h2
      simp only [Array.getElem_mapIdx, List.getElem_toArray, List.getElem_map]
      have hi : i < s.length := by simpa using h1
      have := List.all_eq_true.mp h s[i] (List.getElem_mem hi)
      rw [Nat.blt_eq] at this
      rw [up_all ⟨s[i], this⟩]
  rw [e]
  apply Array.ext'
  rw [Array.toList_flatten]
  have k : ∀ l : Tx, (l.map fun k => ([upC k].toArray.toList)).flatten = l.map upC := fun l => by
    induction l with
    | nil => rfl
    | cons a r ih => rw [List.map_cons, List.flatten_cons, ih]; rfl
  rw [← k]
  simp [List.map_map, Function.comp_def]
theorem upC_ok {s : Tx} (h : ascii s = true) : okTx (s.map upC) := fun a ha => by
  obtain ⟨b, hb, rfl⟩ := List.mem_map.mp ha
  have := List.all_eq_true.mp h b hb
  rw [Nat.blt_eq] at this
  unfold upC
  split <;> omega
def bmName : BM → Option Str
  | .append => some "append"
  | .upper => some "upper"
  | _ => none
theorem ty_str {w : W} {v : V} {d : Wd} {H : AH} {K : PySem.W.Frag} (rv : RW c d H w v) (e : isStr w = true) : L2.tyV K "str" v H := by
  cases rv with
  | pv hp =>
    cases hp with
    | str _ _ => rfl
    | _ => cases e
  | _ => cases e
theorem ty_lst {w : W} {v : V} {d : Wd} {h : LH} {H : AH} (r : RH c d h H) (rv : RW c d H w v) (e : isLst h w = true) : L2.tyV c.K "list" v H := by
  cases rv with
  | @ref n _ l f =>
    unfold isLst at e
    simp only at e
    cases q1 : nth h n with
    | none => rw [q1] at e; cases e
    | some o =>
      rw [q1] at e
      cases o with
      | lst ws =>
        obtain ⟨a, ea, _, vs, h1, h2⟩ := r.live (.ref l f) q1 (by simp)
        subst ea
        exact .inl ⟨rfl, vs, .inl (.inl h1)⟩
      | _ => cases e
  | _ => cases e
theorem he_upper {m : Bool} {o : Expr} {apos cpos : Pos} {evo : Sl → LH → R W} (hb : plainBase o = true) (hl : (apos.endLine == cpos.line) = true) (ho : HE c X Wx evo o) :
    HE c X Wx (fun ρ h => (evo ρ h).bind fun x h1 => match bmTy .upper x h1 with
      | true => (R.ok ([] : List W) h1).bind fun ws h2 => bmeth .upper m x ws h2
      | false => .no) (.Call (.Attribute o "upper" apos) [] [] cpos) := by
  obtain ⟨to, po, qo⟩ := ho
  refine ⟨_, L2.pe_bm0 PySem.F.plainAttrs_str PySem.F.slot_str_upper PySem.F.type_str_upper L2.mt_upper po (base_ok hb) hl, fun d ρ h σ H Q re rh s => ?_⟩
  refine qo d ρ h σ H _ re rh ((s.bind rh.has).imp (fun d1 h1 w1 H1 x1 r1 s1 => ?_) (fun _ _ _ _ z => z))
  intro v1 rv1
  have e : isStr w1 = true := by
    cases q : isStr w1 with
    | true => rfl
    | false => replace s1 : Sat c d1 H1 (wX c Wx σ) (match isStr w1 with
        | true => (R.ok [] h1).bind fun ws h2 => bmeth .upper m w1 ws h2
        | false => .no) (wV c Q) := s1
               rw [q] at s1; exact (sat_no s1).elim
  refine ⟨ty_str rv1 e, ?_⟩
  replace s1 : Sat c d1 H1 (wX c Wx σ) (match isStr w1 with
        | true => (R.ok [] h1).bind fun ws h2 => bmeth .upper m w1 ws h2
        | false => .no) (wV c Q) := s1
  rw [e] at s1
  cases rv1 with
  | pv hp =>
    cases hp with
    | str t ht =>
      obtain ⟨e1, q⟩ := okIf_ok r1 s1
      rw [Bool.and_eq_true] at e1
      exact ⟨_, rfl, rfl, by rw [toStr_len]; exact Nat.le_of_ble_eq_true e1.2, by rw [upper_eq e1.1]; exact q.ok r1 _ (.pv (.str _ (upC_ok e1.1)))⟩
    | _ => cases e
  | _ => cases e
theorem he_append {m : Bool} {o a : Expr} {apos cpos : Pos} {evo : Sl → LH → R W} {evs : Sl → LH → R (List W)} (hK : X.K = c.K) (hb : plainBase o = true) (hl : (apos.endLine == cpos.line) = true) (hs : noStar a = true) (ho : HE c X Wx evo o)
    (ha : HA c X Wx evs [a]) :
    HE c X Wx (fun ρ h => (evo ρ h).bind fun x h1 => match bmTy .append x h1 with
      | true => (evs ρ h1).bind fun ws h2 => bmeth .append m x ws h2
      | false => .no) (.Call (.Attribute o "append" apos) [a] [] cpos) := by
  obtain ⟨to, po, qo⟩ := ho
  obtain ⟨ta, pa, qa⟩ := ha
  refine ⟨_, L2.pe_bm PySem.F.plainAttrs_list PySem.F.slot_list_append PySem.F.type_list_append (L2.mt_append) po pa (base_ok hb) (star_few (by simp [hs]) (by simp)) hl (star_cons hs) (star_any (by rfl)), fun d ρ h σ H Q re rh s => ?_⟩
  refine qo d ρ h σ H _ re rh ((s.bind rh.has).imp (fun d1 h1 w1 H1 x1 r1 s1 => ?_) (fun _ _ _ _ z => z))
  intro v1 rv1
  replace s1 : Sat c d1 H1 (wX c Wx σ) (match isLst h1 w1 with
        | true => (evs ρ h1).bind fun ws h2 => bmeth .append m w1 ws h2
        | false => .no) (wV c Q) := s1
  cases e : isLst h1 w1 with
  | false => rw [e] at s1; exact (sat_no s1).elim
  | true =>
  rw [e] at s1
  refine ⟨hK ▸ ty_lst r1 rv1 e, ?_⟩
  refine qa d1 ρ h1 σ H1 _ (re.ext x1) r1 ((Sat.bind r1.has s1).imp (fun d2 h2 ws H2 x2 r2 s2 => ?_) (fun _ _ _ _ z => z))
  intro vs rvs
  have rv2 := rv1.ext x2
  cases rvs with
  | nil => exact (sat_no s2).elim
  | @cons wa va wr vr ra rr => cases rr with
    | cons _ _ => exact (sat_no s2).elim
    | nil =>
      cases rv2 with
      | @ref n _ l f =>
        replace s2 : Sat c d2 H2 (wX c Wx σ) (match nth h2 n with
          | some (.lst xs) => okIf (Nat.blt xs.length 16777216) (.pv .non) (setN h2 n (.lst (xs ++ [wa])))
          | _ => .no) (wV c Q) := s2
        cases q1 : nth h2 n with
        | none => rw [q1] at s2; exact (sat_no s2).elim
        | some o =>
          rw [q1] at s2
          cases o with
          | lst xs =>
            obtain ⟨a, ea, hi, vs, h3, h4⟩ := r2.live (.ref l f) q1 (by simp)
            subst ea
            have z : Nat.blt xs.length 16777216 = true := by
              cases z : Nat.blt xs.length 16777216 with
              | true => rfl
              | false => simp only [z, okIf] at s2; exact (sat_no s2).elim
            simp only [z, okIf] at s2
            rw [Nat.blt_eq] at z
            have ex := Ext.write (o := .lst (vs ++ [va])) r2 ⟨n, hi⟩
            refine ⟨a, vs, va, rfl, rfl, h3, by rw [← h4.length, PySem.sizeLine_eq]; exact z, ?_⟩
            exact s2 d2 _ ex (r2.write hi ⟨_, upd_same, (h4.ext ex).append (.cons (ra.ext ex) .nil)⟩) _ (.pv .non)
          | _ => exact (sat_no s2).elim
      | pv hp => exact (sat_no s2).elim
      | fn => exact (sat_no s2).elim
      | cl => exact (sat_no s2).elim
      | obj => exact (sat_no s2).elim
end
end Sx
end

section
set_option autoImplicit false
set_option linter.all false
set_option Elab.async false
namespace Sx
open PySem
open L2 (V St SqL SqT Rd upd upd_same upd_ne HO PE PT PW PA PS PSs VK OpR Dp Room Env0 CallR)

/-! ### one data as another -/
mutual
theorem beq_eq : ∀ (a b : PV), PV.beq a b = true → a = b
  | .non, .non, _ => rfl
  | .bl a, .bl b, h => by rw [PV.beq, beqB_eq] at h; rw [eq_of_beq h]
  | .int i, .int j, h => by rw [PV.beq, ieq_eq] at h; rw [of_decide_eq_true h]
  | .str x, .str y, h => by rw [PV.beq, txEq_eq] at h; rw [of_decide_eq_true h]
  | .tup xs, .tup ys, h => by rw [PV.beq] at h; rw [beqs_eq xs ys h]
  | .lst xs, .lst ys, h => by rw [PV.beq] at h; rw [beqs_eq xs ys h]
  | .non, .bl _, h | .non, .int _, h | .non, .str _, h | .non, .tup _, h | .non, .lst _, h => by simp [PV.beq] at h
  | .bl _, .non, h | .bl _, .int _, h | .bl _, .str _, h | .bl _, .tup _, h | .bl _, .lst _, h => by simp [PV.beq] at h
  | .int _, .non, h | .int _, .bl _, h | .int _, .str _, h | .int _, .tup _, h | .int _, .lst _, h => by simp [PV.beq] at h
  | .str _, .non, h | .str _, .bl _, h | .str _, .int _, h | .str _, .tup _, h | .str _, .lst _, h => by simp [PV.beq] at h
  | .tup _, .non, h | .tup _, .bl _, h | .tup _, .int _, h | .tup _, .str _, h | .tup _, .lst _, h => by simp [PV.beq] at h
  | .lst _, .non, h | .lst _, .bl _, h | .lst _, .int _, h | .lst _, .str _, h | .lst _, .tup _, h => by simp [PV.beq] at h
theorem beqs_eq : ∀ (a b : List PV), PV.beqs a b = true → a = b
  | [], [], _ => rfl
  | x :: xs, y :: ys, h => by
    rw [PV.beqs] at h
    cases q : PV.beq x y with
    | false => rw [q] at h; cases h
    | true => rw [q] at h; rw [beq_eq x y q, beqs_eq xs ys h]
  | [], _ :: _, h | _ :: _, [], h => by simp [PV.beqs] at h
end
mutual
theorem shw_ok : ∀ p : PV, p.shw = true → (toPD p).showable = true
  | .non, _ => rfl
  | .bl _, _ => rfl
  | .int i, h => by
    rw [PV.shw, Nat.blt_eq] at h
    exact decide_eq_true h
  | .str _, _ => rfl
  | .tup xs, h => shws_ok xs (by rw [PV.shw] at h; exact h)
  | .lst xs, h => shws_ok xs (by rw [PV.shw] at h; exact h)
theorem shws_ok : ∀ p : List PV, PV.shws p = true → PyData.showableAll (toPDs p) = true
  | [], _ => rfl
  | x :: xs, h => by
    rw [PV.shws] at h
    cases q : PV.shw x with
    | false => rw [q] at h; cases h
    | true =>
      rw [q] at h
      show ((toPD x).showable && PyData.showableAll (toPDs xs)) = true
      rw [shw_ok x q, shws_ok xs h]
      rfl
end
mutual
theorem no_dict : ∀ p : PV, (toPD p).hasDict = false
  | .non => rfl
  | .bl _ => rfl
  | .int _ => rfl
  | .str _ => rfl
  | .tup xs => no_dicts xs
  | .lst xs => no_dicts xs
theorem no_dicts : ∀ p : List PV, PyData.hasDictAll (toPDs p) = false
  | [] => rfl
  | x :: xs => by
    show ((toPD x).hasDict || PyData.hasDictAll (toPDs xs)) = false
    rw [no_dict x, no_dicts xs]
    rfl
end
section
variable {c : Cf} {F : Addr → Prop} {H : AH}
theorem repr_str_len {s : Tx} (h : okTx s) : (reprText (toStr s)).length ≤ 10 * s.length + 2 := by
  have := StrLaws.reprText_len (toStr s) (fun k hk => by
    rw [toStr_cps] at hk
    exact Nat.lt_trans (h k hk) (by decide))
  rwa [toStr_len] at this
mutual
theorem rsz_ok : ∀ {p : PV} {v : V}, RP c F H p v → p.shw = true → (toPD p).shown.length ≤ p.rsz
  | _, _, .non, _ => Nat.le_refl 4
  | _, _, .bl b, _ => by cases b <;> decide
  | _, _, .int i, h => by
    rw [PV.shw, Nat.blt_eq] at h
    exact PyProof.Rows.int_text_len_1921 h
  | _, _, .str s hs, _ => repr_str_len hs
  | _, _, .tup (ps := ps) _ r, h => by
    rw [PV.shw] at h
    have h1 := rszs_ok r h
    have h2 := tupleText_len_le (PyData.shownAll (toPDs ps))
    have h3 := PyData.shownAll_length (toPDs ps)
    have h4 : (toPD (.tup ps)).shown = tupleText (PyData.shownAll (toPDs ps)) := rfl
    rw [h4, PV.rsz]
    omega
  | _, _, .lst (ps := ps) _ r, h => by
    rw [PV.shw] at h
    have h1 := rszs_ok r h
    have h2 := listText_len_le (PyData.shownAll (toPDs ps))
    have h3 := PyData.shownAll_length (toPDs ps)
    have h4 : (toPD (.lst ps)).shown = listText (PyData.shownAll (toPDs ps)) := rfl
    rw [h4, PV.rsz]
    omega
theorem rszs_ok : ∀ {ps : List PV} {vs : List V}, RPs c F H ps vs → PV.shws ps = true → ((PyData.shownAll (toPDs ps)).map (·.length)).sum + 2 * (toPDs ps).length ≤ PV.rszs ps
  | _, _, .nil, _ => Nat.le_refl 0
  | _, _, .cons (p := p) (ps := ps) h r, e => by
    rw [PV.shws] at e
    cases q : PV.shw p with
    | false => rw [q] at e; cases e
    | true =>
      rw [q] at e
      have h1 := rsz_ok h q
      have h2 := rszs_ok r e
      show ((toPD p).shown.length + ((PyData.shownAll (toPDs ps)).map (·.length)).sum) + 2 * ((toPDs ps).length + 1) ≤ _
      rw [PV.rszs]
      omega
end
end
/-! ### repr -/
def rRepr (K : PySem.W.Frag) : List V → AH → VK → Prop := fun xs H Q => ∃ x d, xs = [x] ∧ Dp K H x d ∧ d.showable = true ∧ d.hasDict = false ∧ d.shown.length ≤ sizeLine ∧ d.depth ≤ 60 ∧ Q (.str d.shown) H
section
variable {X : L2.Cx}
theorem call_repr (hg : X.A.guards = some []) (hu : X.A.units + 61 < cLine) : CallR X (.builtin "repr") (rRepr X.K) := by
  intro pins s σ H xs us Q I r h
  obtain ⟨x, d, rfl, hd, h1, h2, h3, h4, q⟩ := h
  obtain ⟨u, rfl, rx⟩ := L2.vals1 r
  obtain ⟨as, hr⟩ := L2.Dp.reads I d x u hd rx
  cases hd with
  | non => cases rx; exact P.repr_of_none ⟨.str _, H, I.tok _, ⟨_, rfl⟩, q⟩
  | bl b => cases rx; exact P.repr_of_bool ⟨.str _, H, I.tok _, ⟨_, rfl⟩, q⟩
  | int i =>
    obtain ⟨t, rfl⟩ := rx
    exact P.repr_of_int (of_decide_eq_true h1) ⟨.str _, H, I.tok _, ⟨_, rfl⟩, q⟩
  | str y =>
    obtain ⟨t, rfl⟩ := rx
    exact P.repr_of_str ⟨.str _, H, I.tok _, ⟨_, rfl⟩, q⟩ h3
  | lst _ _ =>
    cases rx
    exact repr_of_reads' hr h1 (PyData.noDict_hsm h2) hg (by omega) (fun _ _ e => e) (fun h' u tk hk => ⟨.str _, H, I.kept hk, ⟨_, rfl⟩, q⟩) h3
  | tup _ _ =>
    cases rx
    exact repr_of_reads' hr h1 (PyData.noDict_hsm h2) hg (by omega) (fun _ _ e => e) (fun h' u tk hk => ⟨.str _, H, I.kept hk, ⟨_, rfl⟩, q⟩) h3
end
section
variable {c : Cf} {X : L2.Cx} {Wx : L2.WX}
theorem rsz_data {w : W} {v : V} {p : PV} {d : Wd} {h : LH} {H : AH} (r : RH c d h H) (hv : RW c d H w v) (e : dataOf w h = some p) (hs : p.shw = true) : (toPD p).shown.length ≤ p.rsz := by
  cases hv with
  | pv hp =>
    simp only [dataOf, Option.some.injEq] at e
    subst e
    exact rsz_ok hp hs
  | @ref n v l f =>
    simp only [dataOf] at e
    cases q : nth h n with
    | none => rw [q] at e; cases e
    | some o =>
      rw [q] at e
      cases o with
      | lst xs =>
        simp only at e
        cases q2 : pvsOf xs with
        | none => rw [q2] at e; cases e
        | some ps =>
          rw [q2] at e
          simp only [Option.some.injEq] at e
          subst e
          obtain ⟨a, ea, _, vs, h1, h2⟩ := r.live (.ref l f) q (by simp)
          have hr := pvs_of h2 q2
          have h3 := rszs_ok hr (by rw [PV.shw] at hs; exact hs)
          have h4 := listText_len_le (PyData.shownAll (toPDs ps))
          have h5 := PyData.shownAll_length (toPDs ps)
          have h6 : (toPD (.lst ps)).shown = listText (PyData.shownAll (toPDs ps)) := rfl
          rw [h6, PV.rsz]
          omega
      | _ => simp at e
  | _ => simp [dataOf] at e
theorem likeOk_at {p : PV} (h : likeOk p = true) : p.dep 60 = true ∧ p.shw = true ∧ line p.rsz = true := by
  unfold likeOk at h
  split at h
  · rename_i e
    split at h
    · rename_i e2
      exact ⟨e, e2, h⟩
    · cases h
  · cases h
/-- what repr is worth -/
theorem repr_hr {w : W} {v : V} {p : PV} {d : Wd} {h : LH} {H : AH} {Q : VK} (r : RH c d h H) (hv : RW c d H w v) (e : dataOf w h = some p) (hl : likeOk p = true) (q : Q (.str (toPD p).shown) H) : rRepr c.K [v] H Q := by
  obtain ⟨e1, e2, e3⟩ := likeOk_at hl
  exact ⟨v, toPD p, rfl, (data_ok r hv e).1, shw_ok p e2, no_dict p, Nat.le_trans (rsz_data r hv e e2) (line_ok e3), dep_depth 60 p e1, q⟩
theorem he_like {ea eb : Sl → LH → R W} {a b : Expr} {p1 p2 q1 q2 pos : Pos} (hK : X.K = c.K) (hgu : X.A.guards = some []) (hu : X.A.units + 61 < cLine) (hg : L2.Gl X "repr") (hm : X.mg "repr" = none)
    (na : noStar a = true) (nb : noStar b = true) (ha : HE c X Wx ea a) (hb : HE c X Wx eb b) :
    HE c X Wx (fun ρ h => (ea ρ h).bind fun x h1 => match likeP x h1 with
      | some p => (eb ρ h1).bind fun y h2 => R.ofP (likeQ p y h2) h2
      | none => .no)
      (.Compare (.Call (.Name "repr" p1) [a] [] q1) [.Eq] [.Call (.Name "repr" p2) [b] [] q2] pos) := by
  obtain ⟨ta, pa, qa⟩ := ha
  obtain ⟨tb, pb, qb⟩ := hb
  have cr := hK ▸ call_repr (X := X) hgu hu
  have hbr : bootBuiltins "repr" = some (.builtin "repr") := by decide +kernel
  refine ⟨_, L2.pe_cmpR L2.op_eq (L2.pe_callB cr hg hm hbr (L2.pa_cons pa L2.pa_nil (star_cons na)) (by decide) (by decide) (star_cons na) rfl)
    (L2.pe_callB cr hg hm hbr (L2.pa_cons pb L2.pa_nil (star_cons nb)) (by decide) (by decide) (star_cons nb) rfl) (L2.nomark _), fun d ρ h σ H Q re rh s => ?_⟩
  refine qa d ρ h σ H _ re rh ((s.bind rh.has).imp (fun d1 h1 w1 H1 x1 r1 s1 => ?_) (fun _ _ _ _ z => z))
  intro v1 rv1
  unfold likeP at s1
  cases e1 : dataOf w1 h1 with
  | none => rw [e1] at s1; exact (sat_no s1).elim
  | some p =>
    rw [e1] at s1
    simp only at s1
    cases e2 : likeOk p with
    | false => rw [e2] at s1; exact (sat_no s1).elim
    | true =>
      rw [e2] at s1
      show rRepr c.K [v1] H1 (fun x H2 => L2.tCB (rRepr c.K) (L2.tCons tb L2.tNil) σ H2 fun y H3 => L2.rEq x y H3 Q)
      refine repr_hr r1 rv1 e1 e2 ?_
      refine qb d1 ρ h1 σ H1 _ (re.ext x1) r1 ((Sat.bind r1.has s1).imp (fun d2 h2 w2 H2 x2 r2 s2 => ?_) (fun _ _ _ _ z => z))
      intro v2 rv2
      obtain ⟨z, e3, q⟩ := ofP_ok r2 s2
      unfold likeQ at e3
      cases e4 : dataOf w2 h2 with
      | none => rw [e4] at e3; cases e3
      | some p2 =>
        rw [e4] at e3
        simp only at e3
        cases e5 : PV.beq p p2 with
        | false => rw [e5] at e3; cases e3
        | true =>
          rw [e5] at e3
          cases e3
          have := beq_eq p p2 e5
          subst this
          show rRepr c.K [v2] H2 (fun y H3 => L2.rEq (V.str (toPD p).shown) y H3 Q)
          refine repr_hr r2 rv2 e4 e2 ⟨rfl, ?_⟩
          rw [decide_eq_true rfl]
          exact q _ (.pv (.bl true))
end
end Sx
end

section
set_option autoImplicit false
set_option linter.all false
set_option Elab.async false
namespace Sx
open PySem
open L2 (V St SqL SqT Rd upd upd_same upd_ne HO PE PT PW PA PS PSs PG PGs PI VK OpR Dp Room Env0 CallR Ends Loc Vis)

/-- an item that is stored -/
def RI (c : Cf) (d : Wd) (H : AH) : Item → V → Prop
  | .one w, v => RW c d H w v
  | .row ws, v => ∃ a vs, v = .ref a ∧ TA c d.F H a vs ∧ RWs c d H ws vs
/-- the slots outside ch stay -/
def Same (ch : Nat → Prop) (σ σ' : St) : Prop := σ'.length = σ.length ∧ ∀ j, ¬ ch j → σ'[j]? = σ[j]?
/-- .. may be taken as known -/
def up (D : Ends) (ch : Nat → Prop) (σ : St) : Ends := { D with nx := fun σ' H' => Same ch σ σ' → D.nx σ' H' }
theorem SatS.weak {c : Cf} {d : Wd} {H : AH} {Wx : L2.WX} {r : SR} {D D2 : Ends} (s : SatS c d H Wx r D) (h1 : ∀ σ H, D.nx σ H → D2.nx σ H) (h2 : ∀ v H, D.rt v H → D2.rt v H) (h3 : ∀ σ H, D.ct σ H → D2.ct σ H) : SatS c d H Wx r D2 := by
  cases r with
  | nx ρ h => exact fun d' H' σ' x r' e => h1 _ _ (s d' H' σ' x r' e)
  | rt w h => exact fun d' H' v x r' e => h2 _ _ (s d' H' v x r' e)
  | ct ρ h => exact fun d' H' σ' x r' e => h3 _ _ (s d' H' σ' x r' e)
  | ex x ρ h => exact s
  | no => exact s
theorem SatS.up {c : Cf} {d : Wd} {H : AH} {Wx : L2.WX} {r : SR} {D : Ends} {ch : Nat → Prop} {σ : St} (s : SatS c d H Wx r D) : SatS c d H Wx r (up D ch σ) := s.weak (fun _ _ q _ => q) (fun _ _ q => q) (fun _ _ q => q)
def HG (c : Cf) (X : L2.Cx) (Wx : L2.WX) (ch : Nat → Prop) (ev : Item → Sl → LH → SR) (tg : Expr) : Prop :=
  ∃ g : L2.TG, PG X tg g ∧ ∀ d ρ h σ H it x (D : Ends), RE c d H ρ σ → RH c d h H → RI c d H it x → SatS c d H Wx (ev it ρ h) (up D ch σ) → g x σ H D.nx
def HGs (c : Cf) (X : L2.Cx) (Wx : L2.WX) (ch : Nat → Prop) (ev : List W → Sl → LH → SR) (ts : List Expr) : Prop :=
  ∃ g : L2.TGs, PGs X ts g ∧ (∀ ws ρ h, ev ws ρ h ≠ .no → ws.length = ts.length) ∧ ∀ d ρ h σ H ws vs (D : Ends), RE c d H ρ σ → RH c d h H → RWs c d H ws vs → SatS c d H Wx (ev ws ρ h) (up D ch σ) → g vs σ H D.nx
theorem RI.mv {c : Cf} {d d' : Wd} {H H' : AH} (x : Mv d H d' H') : ∀ {it : Item} {v : V}, RI c d H it v → RI c d' H' it v
  | .one w, v, h => RW.mv x h
  | .row ws, v, ⟨a, vs, e, t, r⟩ => ⟨a, vs, e, t.mv x, r.mv x⟩
theorem RI.ext {c : Cf} {d d' : Wd} {H H' : AH} (x : Ext d H d' H') : ∀ {it : Item} {v : V}, RI c d H it v → RI c d' H' it v
  | .one w, v, h => RW.ext x h
  | .row ws, v, ⟨a, vs, e, t, r⟩ => ⟨a, vs, e, t.ext x, r.ext x⟩
/-- a name takes a value -/
theorem RE.set {c : Cf} {d : Wd} {H : AH} {ρ : Sl} {σ : St} {i : Nat} {w : W} {v : V} (r : RE c d H ρ σ) (rv : RW c d H w v) : RE c d H (setN ρ i (some w)) (σ.set i (some v)) := by
  refine ⟨by rw [setN_length, List.length_set]; exact r.len, fun j u e => ?_⟩
  rw [nth_set] at e
  by_cases hj : j = i
  · rw [if_pos hj] at e
    split at e
    · rename_i hl
      cases e
      exact ⟨v, by rw [hj, List.getElem?_set_self (by rw [← r.len]; exact hl)], rv⟩
    · cases e
  · rw [if_neg hj] at e
    obtain ⟨x, h1, h2⟩ := r.at_ j u e
    exact ⟨x, by rw [List.getElem?_set_ne (fun z => hj z.symm)]; exact h1, h2⟩

section
variable {c : Cf} {X : L2.Cx} {Wx : L2.WX} {ch : Nat → Prop}
theorem SatS.nx {d : Wd} {h : LH} {H : AH} {ρ : Sl} {σ : St} {D : Ends} (s : SatS c d H Wx (.nx ρ h) D) (r : RH c d h H) (e : RE c d H ρ σ) : D.nx σ H := s d H σ (Ext.refl r) r e

/-! ### targets -/
theorem RI.tup {d : Wd} {H : AH} {ws : List W} {ps : List PV} {x : V} (r : RI c d H (.row ws) x) (e : pvsOf ws = some ps) : RW c d H (.pv (.tup ps)) x := by
  obtain ⟨a, vs, rfl, t, rw_⟩ := r
  exact .pv (.tup t (pvs_of rw_ e))
theorem Same.set {σ : St} {i : Nat} {v : V} (h : ch i) : Same ch σ (σ.set i (some v)) := ⟨List.length_set, fun j n => List.getElem?_set_ne (fun (z : i = j) => n (z ▸ h))⟩
theorem hg_name {i : Nat} {x : Str} {pos : Pos} (hch : ch i) (hN : X.N.Nodup) (hi : X.N[i]? = some x) (hx : Loc X.env.scope x) (hf : X.fn x = true ∨ X.env.scope.names.lookup x = some .local) :
    HG c X Wx ch (fun it ρ h => match it with
      | .one w => .nx (setN ρ i (some w)) h
      | .row ws => match pvsOf ws with
        | some ps => .nx (setN ρ i (some (.pv (.tup ps)))) h
        | none => .no) (.Name x pos) := by
  refine ⟨_, L2.pg_name hN hi hx hf, fun d ρ h σ H it v D re rh ri s => ?_⟩
  cases it with
  | one w => exact s.nx rh (re.set ri) (Same.set hch)
  | row ws =>
    simp only at s
    cases e : pvsOf ws with
    | none => rw [e] at s; exact s.elim
    | some ps =>
      rw [e] at s
      exact s.nx rh (re.set (ri.tup e)) (Same.set hch)
theorem hgs_nil : HGs c X Wx ch (fun ws ρ h => match ws with
      | [] => .nx ρ h
      | _ :: _ => .no) [] := by
  refine ⟨_, L2.pgs_nil, fun ws ρ h n => ?_, fun d ρ h σ H ws vs D re rh r s => ?_⟩
  · cases ws with
    | nil => rfl
    | cons _ _ => exact (n rfl).elim
  · cases r with
    | nil => exact ⟨rfl, s.nx rh re ⟨rfl, fun _ _ => rfl⟩⟩
    | cons _ _ => exact s.elim
theorem each_cons {e : Expr} {es : List Expr} {env : PySem.Env} (h : noStar e = true) : assignEach (e :: es) env = (false, assign e env) :: assignEach es env := by
  cases e <;> first | rfl | cases h
theorem each_len {env : PySem.Env} : ∀ {es : List Expr}, es.all noStar = true → (assignEach es env).length = es.length ∧ (assignEach es env).findIdx? (·.1) = none
  | [], _ => ⟨rfl, rfl⟩
  | e :: es, h => by
    rw [List.all_cons, Bool.and_eq_true] at h
    obtain ⟨h1, h2⟩ := each_len (env := env) h.2
    rw [each_cons h.1]
    exact ⟨by rw [List.length_cons, h1]; rfl, by rw [List.findIdx?_cons]; simp [h2]⟩
theorem hgs_cons {e : Expr} {es : List Expr} {ev : Item → Sl → LH → SR} {evs : List W → Sl → LH → SR} (hs : noStar e = true) (h1 : HG c X Wx ch ev e) (h2 : HGs c X Wx ch evs es) :
    HGs c X Wx ch (fun ws ρ h => match ws with
      | [] => .no
      | w :: r => match ev (.one w) ρ h with
        | .nx ρ1 h1 => evs r ρ1 h1
        | _ => .no) (e :: es) := by
  obtain ⟨g, pg, qg⟩ := h1
  obtain ⟨gs, pgs, ql, qgs⟩ := h2
  refine ⟨_, L2.pgs_cons pg pgs (by rw [each_cons hs]; rfl), fun ws ρ h n => ?_, fun d ρ h σ H ws vs D re rh r s => ?_⟩
  · cases ws with
    | nil => exact (n rfl).elim
    | cons w r =>
      simp only at n
      cases q : ev (.one w) ρ h with
      | nx ρ1 h1 => rw [q] at n; rw [List.length_cons, List.length_cons, ql r ρ1 h1 n]
      | _ => rw [q] at n; exact (n rfl).elim
  · cases r with
    | nil => exact s.elim
    | @cons w v ws vs rv rr =>
      refine ⟨v, vs, rfl, ?_⟩
      simp only at s
      refine qg d ρ h σ H (.one w) v { D with nx := fun σ' H' => gs vs σ' H' D.nx } re rh rv ?_
      cases q : ev (.one w) ρ h with
      | nx ρ1 h1 =>
        rw [q] at s
        intro d' H' σ' x r' e' sm
        exact qgs d' ρ1 h1 σ' H' ws vs D e' r' (rr.ext x) ((SatS.ext rh.has x s).weak (fun _ _ q sm2 => q ⟨sm2.1.trans sm.1, fun j n => (sm2.2 j n).trans (sm.2 j n)⟩) (fun _ _ q => q) (fun _ _ q => q))
      | _ => rw [q] at s; exact s.elim
theorem hg_tup {es : List Expr} {k : Nat} {pos : Pos} {evs : List W → Sl → LH → SR} (hK : X.K = c.K) (hc : X.calm = true) (hs : es.all noStar = true) (h : HGs c X Wx ch evs es) :
    HG c X Wx ch (fun it ρ h => match it with
      | .one (.pv (.tup ps)) => evs (ps.map W.pv) ρ h
      | .one _ => .no
      | .row ws => evs ws ρ h) (.Tuple es k pos) := by
  obtain ⟨gs, pgs, ql, qgs⟩ := h
  refine ⟨_, L2.pg_tup hc pgs (each_len hs).1 (each_len hs).2, fun d ρ h σ H it v D re rh ri s => ?_⟩
  have nn : ∀ {r : SR}, SatS c d H Wx r (up D ch σ) → r ≠ .no := fun s z => by rw [z] at s; exact s
  cases it with
  | one w =>
    cases ri with
    | pv hp =>
      cases hp with
      | @tup a vs ps ha hr =>
        have s' : SatS c d H Wx (evs (ps.map W.pv) ρ h) (up D ch σ) := s
        exact ⟨a, vs, rfl, hK ▸ ha.sq, by rw [← hr.length, ← ql _ ρ h (nn s'), List.length_map], qgs d ρ h σ H _ vs D re rh hr.ws s'⟩
      | _ => exact s.elim
    | _ => exact s.elim
  | row ws =>
    obtain ⟨a, vs, rfl, t, rr⟩ := ri
    have s' : SatS c d H Wx (evs ws ρ h) (up D ch σ) := s
    exact ⟨a, vs, rfl, hK ▸ t.sq, by rw [← rr.length, ← ql _ ρ h (nn s')], qgs d ρ h σ H _ vs D re rh rr s'⟩

/-! ### small statements -/
theorem toS_sat {d : Wd} {H : AH} {r : R W} {ρ : Sl} {σ : St} {h : LH} {k : W → LH → SR} {D : Ends} {P : Wd → LH → W → AH → Prop} (rh : RH c d h H) (re : RE c d H ρ σ) (s : SatS c d H Wx (r.toS ρ k) D)
    (f : ∀ d' h' w H', Ext d H d' H' → RH c d' h' H' → SatS c d' H' Wx (k w h') D → P d' h' w H') : Sat c d H (wX c Wx σ) r P := by
  cases r with
  | ok w h1 => exact fun d' H' x r' => f d' h1 w H' x r' (SatS.ext rh.has x s)
  | ex x h1 => exact fun d' H' y r' => s d' H' σ y r' (re.ext y)
  | no => exact s
theorem hs_ret {ea : Sl → LH → R W} {a : Expr} {pos : Pos} (ha : HE c X Wx ea a) : HS c X Wx (fun ρ h => (ea ρ h).toS ρ fun w h1 => .rt w h1) (.Return (some a) pos) := by
  obtain ⟨ta, pa, qa⟩ := ha
  refine ⟨_, L2.ps_ret pa, fun d ρ h σ H D re rh s => ?_⟩
  refine qa d ρ h σ H _ re rh (toS_sat rh re s fun d1 h1 w1 H1 x1 r1 s1 v1 rv1 => ?_)
  exact s1 d1 H1 v1 (Ext.refl r1) r1 rv1
theorem hs_retN {pos : Pos} : HS c X Wx (fun ρ h => .rt (.pv .non) h) (.Return none pos) :=
  ⟨_, L2.ps_retN, fun d ρ h σ H D re rh s => s d H .non (Ext.refl rh) rh (.pv .non)⟩
theorem hs_pass {pos : Pos} : HS c X Wx (fun ρ h => .nx ρ h) (.Pass pos) := ⟨_, L2.ps_pass, fun d ρ h σ H D re rh s => s.nx rh re⟩
theorem hs_cont {pos : Pos} : HS c X Wx (fun ρ h => .ct ρ h) (.Continue pos) := ⟨_, L2.ps_continue, fun d ρ h σ H D re rh s => s d H σ (Ext.refl rh) rh re⟩
theorem hs_expr {ea : Sl → LH → R W} {a : Expr} {pos : Pos} (hs : swapsWith a none pos.line X.env = pure false) (ha : HE c X Wx ea a) : HS c X Wx (fun ρ h => (ea ρ h).toS ρ fun _ h1 => .nx ρ h1) (.Expr a pos) := by
  obtain ⟨ta, pa, qa⟩ := ha
  refine ⟨_, L2.ps_expr pa hs, fun d ρ h σ H D re rh s => ?_⟩
  refine qa d ρ h σ H _ re rh (toS_sat rh re s fun d1 h1 w1 H1 x1 r1 s1 v1 rv1 => ?_)
  exact s1.nx r1 (re.ext x1)
theorem hs_if {et : Sl → LH → R W} {ea eb : Sl → LH → SR} {t : Expr} {a b : List Stmt} {pos : Pos} (ht : HT c X Wx et t) (ha : HSs c X Wx ea a) (hb : HSs c X Wx eb b) :
    HS c X Wx (fun ρ h => (et ρ h).toS ρ fun x h1 => match truth x h1 with
      | some true => ea ρ h1
      | some false => eb ρ h1
      | none => .no) (.If t a b pos) := by
  obtain ⟨tt, pt, qt⟩ := ht
  obtain ⟨ta, pa, qa⟩ := ha
  obtain ⟨tb, pb, qb⟩ := hb
  refine ⟨_, L2.ps_if pt pa pb, fun d ρ h σ H D re rh s => ?_⟩
  refine qt d ρ h σ H _ re rh (toS_sat rh re s fun d1 h1 w1 H1 x1 r1 s1 => ?_)
  unfold wB
  cases e : truth w1 h1 with
  | none => rw [e] at s1; exact s1.elim
  | some k =>
    rw [e] at s1
    cases k with
    | true => exact qa d1 ρ h1 σ H1 D (re.ext x1) r1 s1
    | false => exact qb d1 ρ h1 σ H1 D (re.ext x1) r1 s1
theorem hss_nil : HSs c X Wx (fun ρ h => .nx ρ h) [] := ⟨_, L2.pss_nil, fun d ρ h σ H D re rh s => s.nx rh re⟩
theorem hss_cons {es : Sl → LH → SR} {er : Sl → LH → SR} {st : Stmt} {rest : List Stmt} (h1 : HS c X Wx es st) (h2 : HSs c X Wx er rest) :
    HSs c X Wx (fun ρ h => match es ρ h with
      | .nx ρ1 h1 => er ρ1 h1
      | r => r) (st :: rest) := by
  obtain ⟨t, p, q⟩ := h1
  obtain ⟨t2, p2, q2⟩ := h2
  refine ⟨_, L2.pss_cons p p2, fun d ρ h σ H D re rh s => ?_⟩
  refine q d ρ h σ H { D with nx := t2 D } re rh ?_
  simp only at s
  cases e : es ρ h with
  | nx ρ1 h1 =>
    rw [e] at s
    intro d' H' σ' x r' e'
    exact q2 d' ρ1 h1 σ' H' D e' r' (SatS.ext rh.has x s)
  | rt w h1 => rw [e] at s; exact s
  | ct ρ1 h1 => rw [e] at s; exact s
  | ex x ρ1 h1 => rw [e] at s; exact s
  | no => rw [e] at s; exact s

/-! ### stores -/
theorem hs_set {i : Nat} {x : Str} {p pos : Pos} {ea : Sl → LH → R W} {a : Expr} (hN : X.N.Nodup) (hi : X.N[i]? = some x) (hx : Loc X.env.scope x) (hf : X.fn x = true ∨ X.env.scope.names.lookup x = some .local)
    (hs : swapsWith a (some (.Name x p)) pos.line X.env = pure false) (ha : HE c X Wx ea a) :
    HS c X Wx (fun ρ h => (ea ρ h).toS ρ fun w h1 => .nx (setN ρ i (some w)) h1) (.Assign [.Name x p] a pos) := by
  obtain ⟨ta, pa, qa⟩ := ha
  refine ⟨_, L2.ps_set hN hi hx pa hs hf, fun d ρ h σ H D re rh s => ?_⟩
  refine qa d ρ h σ H _ re rh (toS_sat rh re s fun d1 h1 w1 H1 x1 r1 s1 v1 rv1 => ?_)
  exact s1.nx r1 ((re.ext x1).set rv1)
theorem hs_asg {tg a : Expr} {pos : Pos} {ea : Sl → LH → R W} {et : Item → Sl → LH → SR} (hs : swapsWithSole [tg] a pos.line X.env = pure false) (hw : swappedStores [tg] a X.env = pure none) (ns : noStar tg = true)
    (ha : HE c X Wx ea a) (ht : HG c X Wx ch et tg) : HS c X Wx (fun ρ h => (ea ρ h).toS ρ fun w h1 => et (.one w) ρ h1) (.Assign [tg] a pos) := by
  obtain ⟨ta, pa, qa⟩ := ha
  obtain ⟨g, pg, qg⟩ := ht
  refine ⟨_, L2.ps_asg pa pg hs hw (by rw [each_cons ns]; rfl), fun d ρ h σ H D re rh s => ?_⟩
  refine qa d ρ h σ H _ re rh (toS_sat rh re s fun d1 h1 w1 H1 x1 r1 s1 v1 rv1 => ?_)
  exact qg d1 ρ h1 σ H1 (.one w1) v1 D (re.ext x1) r1 rv1 s1.up
theorem setN_comm {α : Type} (l : List α) {i j : Nat} (h : i ≠ j) (a b : α) : setN (setN l i a) j b = setN (setN l j b) i a := by
  rw [setN_eq, setN_eq, setN_eq, setN_eq, List.set_comm _ _ h]
theorem hs_par2 {i j : Nat} {x y : Str} {a b : Expr} {px py pt pos : Pos} {kt k2 : Nat} {pt2 : Pos} {ea eb : Sl → LH → R W} (hc : X.calm = true) (hN : X.N.Nodup) (hi : X.N[i]? = some x) (hj : X.N[j]? = some y) (hij : i ≠ j)
    (hx : X.env.scope.names.lookup x = some .local) (hy : X.env.scope.names.lookup y = some .local) (na : noStar a = true) (nb : noStar b = true)
    (hw : swappedStores [.Tuple [.Name x px, .Name y py] kt pt] (.Tuple [a, b] k2 pt2) X.env = pure (some [x, y])) (ha : HE c X Wx ea a) (hb : HE c X Wx eb b) :
    HS c X Wx (fun ρ h => (ea ρ h).toS ρ fun x h1 => (eb ρ h1).toS ρ fun y h2 => .nx (setN (setN ρ i (some x)) j (some y)) h2) (.Assign [.Tuple [.Name x px, .Name y py] kt pt] (.Tuple [a, b] k2 pt2) pos) := by
  obtain ⟨ta, pa, qa⟩ := ha
  obtain ⟨tb, pb, qb⟩ := hb
  refine ⟨_, L2.ps_par hc hN hi hj hij hx hy (L2.pa_cons pa (L2.pa_cons pb L2.pa_nil (star_cons nb)) (star_cons na)) hw, fun d ρ h σ H D re rh s => ?_⟩
  refine qa d ρ h σ H _ re rh (toS_sat rh re s fun d1 h1 w1 H1 x1 r1 s1 v1 rv1 => ?_)
  refine qb d1 ρ h1 σ H1 _ (re.ext x1) r1 (toS_sat r1 (re.ext x1) s1 fun d2 h2 w2 H2 x2 r2 s2 v2 rv2 => ?_)
  exact ⟨v1, v2, rfl, s2.nx r2 ((((re.ext x1).ext x2).set (rv1.ext x2)).set rv2)⟩
theorem hs_par3 {i j l : Nat} {x y z : Str} {a b e : Expr} {px py pz pt pos : Pos} {kt k2 : Nat} {pt2 : Pos} {ea eb ee : Sl → LH → R W} (hc : X.calm = true) (hN : X.N.Nodup) (hi : X.N[i]? = some x) (hj : X.N[j]? = some y) (hl : X.N[l]? = some z)
    (hij : i ≠ j) (hil : i ≠ l) (hjl : j ≠ l)
    (hx : X.env.scope.names.lookup x = some .local) (hy : X.env.scope.names.lookup y = some .local) (hz : X.env.scope.names.lookup z = some .local) (na : noStar a = true) (nb : noStar b = true) (ne : noStar e = true)
    (hw : swappedStores [.Tuple [.Name x px, .Name y py, .Name z pz] kt pt] (.Tuple [a, b, e] k2 pt2) X.env = pure (some [x, y, z])) (ha : HE c X Wx ea a) (hb : HE c X Wx eb b) (he : HE c X Wx ee e) :
    HS c X Wx (fun ρ h => (ea ρ h).toS ρ fun x h1 => (eb ρ h1).toS ρ fun y h2 => (ee ρ h2).toS ρ fun z h3 => .nx (setN (setN (setN ρ i (some x)) j (some y)) l (some z)) h3)
      (.Assign [.Tuple [.Name x px, .Name y py, .Name z pz] kt pt] (.Tuple [a, b, e] k2 pt2) pos) := by
  obtain ⟨ta, pa, qa⟩ := ha
  obtain ⟨tb, pb, qb⟩ := hb
  obtain ⟨te, pe, qe⟩ := he
  refine ⟨_, L2.ps_par3 hc hN hi hj hl hij hil hjl hx hy hz (L2.pa_cons pa (L2.pa_cons pb (L2.pa_cons pe L2.pa_nil (star_cons ne)) (star_cons nb)) (star_cons na)) hw, fun d ρ h σ H D re rh s => ?_⟩
  refine qa d ρ h σ H _ re rh (toS_sat rh re s fun d1 h1 w1 H1 x1 r1 s1 v1 rv1 => ?_)
  refine qb d1 ρ h1 σ H1 _ (re.ext x1) r1 (toS_sat r1 (re.ext x1) s1 fun d2 h2 w2 H2 x2 r2 s2 v2 rv2 => ?_)
  refine qe d2 ρ h2 σ H2 _ ((re.ext x1).ext x2) r2 (toS_sat r2 ((re.ext x1).ext x2) s2 fun d3 h3 w3 H3 x3 r3 s3 v3 rv3 => ?_)
  exact ⟨v1, v2, v3, rfl, s3.nx r3 ((((((re.ext x1).ext x2).ext x3).set ((rv1.ext x2).ext x3)).set (rv2.ext x3)).set rv3)⟩
end
end Sx
end

section
set_option autoImplicit false
set_option linter.all false
set_option Elab.async false
namespace Sx
open PySem
open L2 (V St SqL SqT Rd upd upd_same upd_ne HO PE PT PW PA PS PSs PG PGs PI VK OpR Dp Room Env0 CallR Ends Loc Vis)
section
variable {c : Cf} {X : L2.Cx} {Wx : L2.WX} {ch : Nat → Prop}
theorem ixNorm_eq (n : Nat) (i : Int) : ixNorm n i = L2.ixN n i := by
  unfold ixNorm L2.ixN
  cases i with
  | ofNat k =>
    have h0 : (0 : Int) ≤ Int.ofNat k := Int.natCast_nonneg k
    simp only [h0, if_true]
    have e : (Int.ofNat k < (n : Int)) ↔ k < n := by show ((k : Int) < (n : Int)) ↔ _; omega
    cases q : Nat.blt k n with
    | true =>
      rw [Nat.blt_eq] at q
      rw [if_pos (e.mpr q)]
      rfl
    | false =>
      have : ¬ k < n := fun z => by rw [← Nat.blt_eq] at z; rw [z] at q; cases q
      rw [if_neg fun z => this (e.mp z)]
  | negSucc k =>
    have h0 : ¬ (0 : Int) ≤ Int.negSucc k := by have := Int.negSucc_lt_zero k; omega
    rw [if_neg h0]
    have e : (-(n : Int) ≤ Int.negSucc k) ↔ k < n := by rw [Int.negSucc_eq]; omega
    cases q : Nat.blt k n with
    | true =>
      rw [Nat.blt_eq] at q
      rw [if_pos (e.mpr q)]
      simp only [Nat.blt_eq.mpr q]
      congr 1
      rw [Int.negSucc_eq]; omega
    | false =>
      have : ¬ k < n := fun z => by rw [← Nat.blt_eq] at z; rw [z] at q; cases q
      rw [if_neg fun z => this (e.mp z)]
      simp only [q]
theorem RWs.set {d : Wd} {H : AH} : ∀ {ws : List W} {vs : List V} {n : Nat} {w : W} {v : V}, RWs c d H ws vs → RW c d H w v → RWs c d H (setN ws n w) (vs.set n v)
  | _, _, _, _, _, .nil, _ => .nil
  | _, _, 0, _, _, .cons a b, r => .cons r b
  | _, _, n + 1, _, _, .cons a b, r => .cons a (RWs.set (n := n) b r)
theorem set_hr {d : Wd} {h h' : LH} {H : AH} {o i w : W} {x y v : V} {Q : AH → Prop} (r : RH c d h H) (ro : RW c d H o x) (ri : RW c d H i y) (rv : RW c d H w v) (e : setItem o i w h = some h')
    (q : ∀ d' H', Ext d H d' H' → RH c d' h' H' → Q H') : L2.rSetL x y v H Q := by
  unfold setItem at e
  cases ro with
  | @ref n _ l f =>
    cases ri with
    | @pv p _ hp =>
      simp only at e
      cases q1 : nth h n with
      | none => rw [q1] at e; cases e
      | some ob =>
        rw [q1] at e
        cases ob with
        | lst ws =>
          cases hp with
          | int j =>
            simp only at e
            cases q2 : ixNorm ws.length j with
            | none => rw [q2] at e; cases e
            | some k =>
              rw [q2] at e
              cases e
              obtain ⟨a, ea, hi, vs, h1, h2⟩ := r.live (.ref l f) q1 (by simp)
              subst ea
              have ex := Ext.write (o := .lst (vs.set k v)) r ⟨n, hi⟩
              exact ⟨a, vs, j, k, rfl, rfl, h1, by rw [← h2.length, ← ixNorm_eq]; exact q2, q d _ ex (r.write hi ⟨_, upd_same, (h2.ext ex).set (rv.ext ex)⟩)⟩
          | _ => cases e
        | _ => cases e
    | _ => cases e
  | _ => cases e
/-- no slice -/
def noSlc : Expr → Bool
  | .Slice _ _ _ _ => false
  | _ => true
theorem ix_plain {b : Expr} (h : noSlc b = true) : L2.PlainIx b := by
  intro o i
  cases b <;> first | rfl | cases h
theorem hg_sub {o i : Expr} {pos : Pos} {eo ei : Sl → LH → R W} (hn : noSlc i = true) (ho : HE c X Wx eo o) (hi : HE c X Wx ei i) :
    HG c X Wx ch (fun it ρ h => match it with
      | .one w => (eo ρ h).toS ρ fun ow h1 => (ei ρ h1).toS ρ fun iw h2 => match setItem ow iw w h2 with
        | some h3 => .nx ρ h3
        | none => .no
      | .row _ => .no) (.Subscript o i pos) := by
  obtain ⟨to, po, qo⟩ := ho
  obtain ⟨ti, pi, qi⟩ := hi
  refine ⟨_, L2.pg_sub po pi L2.set_list (by intro v; cases i <;> first | rfl | cases hn), fun d ρ h σ H it v D re rh ri s => ?_⟩
  cases it with
  | row ws => exact s.elim
  | one w =>
    refine qo d ρ h σ H _ re rh (toS_sat rh re s fun d1 h1 w1 H1 x1 r1 s1 v1 rv1 => ?_)
    refine qi d1 ρ h1 σ H1 _ (re.ext x1) r1 (toS_sat r1 (re.ext x1) s1 fun d2 h2 w2 H2 x2 r2 s2 v2 rv2 => ?_)
    cases e : Sx.setItem w1 w2 w h2 with
    | none => rw [e] at s2; exact s2.elim
    | some h3 =>
      rw [e] at s2
      have rw_ : RW c d H w v := ri
      exact set_hr r2 (rv1.ext x2) rv2 ((rw_.ext x1).ext x2) e fun d' H' x r => s2 d' H' σ x r (((re.ext x1).ext x2).ext x) ⟨rfl, fun _ _ => rfl⟩
end
end Sx
end

section
set_option autoImplicit false
set_option linter.all false
set_option Elab.async false
namespace Sx
open PySem
open L2 (V St SqL SqT Rd upd upd_same upd_ne HO PE PT PW PA PS PSs PG PGs PI VK OpR Dp Room Env0 CallR Ends Loc Vis)

/-- an iterator that gives these items, whatever else goes on -/
structure WkI (c : Cf) (d : Wd) (H : AH) (xs : List Item) (J : L2.It) : Prop where
  go : ∀ i d' H', Mv d H d' H' → i < xs.length → J.go i H'
  stop : ∀ i d' H', Mv d H d' H' → xs.length ≤ i → J.stop i H'
  yld : ∀ i d' h' H' x H'', Mv d H d' H' → RH c d' h' H' → J.yld i H' x H'' → ∀ it, xs[i]? = some it → Ext d' H' d' H'' ∧ RH c d' h' H'' ∧ RI c d' H'' it x
/-- what is walked: its iterator -/
def WkOk (c : Cf) (d : Wd) (H : AH) (wk : Wk) (J : L2.It) : Prop :=
  match wk with
  | .items xs => WkI c d H xs J
  | .live n _ => ∃ a, d.ι[n]? = some (some a) ∧ J = L2.Itl c.K a
def HI (c : Cf) (X : L2.Cx) (Wx : L2.WX) (ev : Sl → LH → R Wk) (tg iter : Expr) : Prop :=
  ∃ wi : L2.TI, PI X tg iter wi ∧ ∀ d ρ h σ H (Q : L2.It → AH → Prop), RE c d H ρ σ → RH c d h H →
    Sat c d H (wX c Wx σ) (ev ρ h) (fun d' h' wk H' => ∀ J, WkOk c d' H' wk J → Q J H') → wi σ H Q

section
variable {c : Cf} {X : L2.Cx} {Wx : L2.WX} {ch : Nat → Prop}
/-! ### for -/
theorem forL_hr {asg : Item → Sl → LH → SR} {body : Sl → LH → SR} {g : L2.TG} {tb : L2.TS} {D : Ends} {d0 : Wd} {H0 : AH} {xs : List Item} {J : L2.It} {ρ : Sl} {h : LH} {σ : St}
    (qg : ∀ d ρ h σ H it x (D : Ends), RE c d H ρ σ → RH c d h H → RI c d H it x → SatS c d H Wx (asg it ρ h) (up D ch σ) → g x σ H D.nx)
    (qb : ∀ d ρ h σ H (D : Ends), RE c d H ρ σ → RH c d h H → SatS c d H Wx (body ρ h) D → tb D σ H)
    (wk : WkI c d0 H0 xs J) (re0 : RE c d0 H0 ρ σ) (rh0 : RH c d0 h H0) (s : SatS c d0 H0 Wx (forL asg body xs ρ h) D) :
    ∃ W : Nat → Nat → St → AH → Prop, (∃ m, W 0 m σ H0) ∧ ∀ i m σ H, W i m σ H →
      (J.stop i H ∧ D.nx σ H) ∨ (J.go i H ∧ ∃ N : St → AH → Prop, (∀ σ' H', N σ' H' → ∃ m', m' < m ∧ W (i + 1) m' σ' H') ∧
        ∀ x H', J.yld i H x H' → g x σ H' fun σ2 H2 => tb { D with nx := N, ct := N, bk := D.nx } σ2 H2) := by
  let I : Nat → Nat → St → AH → Prop := fun i m σ H => i ≤ xs.length ∧ m = xs.length - i ∧ ∃ d ρ h, Ext d0 H0 d H ∧ RE c d H ρ σ ∧ RH c d h H ∧ SatS c d H Wx (forL asg body (xs.drop i) ρ h) D
  refine ⟨I, ⟨xs.length, Nat.zero_le _, rfl, d0, ρ, h, Ext.refl rh0, re0, rh0, s⟩, ?_⟩
  rintro i m σ H ⟨hi, hm, d, ρ, h, ex, re, rh, s⟩
  by_cases e : i < xs.length
  · refine .inr ⟨wk.go i d H ex.mv e, fun σ' H' => I (i + 1) (xs.length - (i + 1)) σ' H', fun σ' H' z => ⟨_, by omega, z⟩, fun x H' y => ?_⟩
    obtain ⟨ex2, rh2, ri⟩ := wk.yld i d h H x H' ex.mv rh y xs[i] (List.getElem?_eq_getElem e)
    have ed : xs.drop i = xs[i] :: xs.drop (i + 1) := List.drop_eq_getElem_cons e
    rw [ed] at s
    simp only [forL] at s
    have s' := SatS.ext rh.has ex2 s
    have ex' := ex.trans rh0.has ex2
    refine qg d ρ h σ H' xs[i] x ⟨fun σ2 H2 => tb { D with nx := fun σ' H' => I (i + 1) (xs.length - (i + 1)) σ' H', ct := fun σ' H' => I (i + 1) (xs.length - (i + 1)) σ' H', bk := D.nx } σ2 H2, D.rt, D.bk, D.ct⟩ (re.ext ex2) rh2 ri ?_
    cases q : asg xs[i] ρ h with
    | nx ρ1 h1 =>
      rw [q] at s'
      intro d3 H3 σ3 x3 r3 e3 _
      refine qb d3 ρ1 h1 σ3 H3 _ e3 r3 ?_
      have s3 := SatS.ext rh2.has x3 s'
      have ex3 := ex'.trans rh0.has x3
      cases q2 : body ρ1 h1 with
      | nx ρ2 h2 =>
        simp only [q2] at s3
        intro d4 H4 σ4 x4 r4 e4
        refine ⟨e, rfl, d4, ρ2, h2, ex3.trans rh0.has x4, e4, r4, SatS.ext r3.has x4 s3⟩
      | ct ρ2 h2 =>
        simp only [q2] at s3
        intro d4 H4 σ4 x4 r4 e4
        refine ⟨e, rfl, d4, ρ2, h2, ex3.trans rh0.has x4, e4, r4, SatS.ext r3.has x4 s3⟩
      | rt w h2 => simp only [q2] at s3; exact s3
      | ex x ρ2 h2 => simp only [q2] at s3; exact s3
      | no => simp only [q2] at s3; exact s3
    | _ => rw [q] at s'; exact s'.elim
  · have e2 : i = xs.length := by omega
    refine .inl ⟨wk.stop i d H ex.mv (by omega), ?_⟩
    rw [e2, List.drop_length] at s
    exact SatS.nx s rh re
theorem forV_hr {asg : Item → Sl → LH → SR} {body : Sl → LH → SR} {g : L2.TG} {tb : L2.TS} {D : Ends} {d0 : Wd} {H0 : AH} {ws : List W} {n total : Nat} {a : Addr} {ρ : Sl} {h : LH} {σ : St}
    (qg : ∀ d ρ h σ H it x (D : Ends), RE c d H ρ σ → RH c d h H → RI c d H it x → SatS c d H Wx (asg it ρ h) (up D ch σ) → g x σ H D.nx)
    (qb : ∀ d ρ h σ H (D : Ends), RE c d H ρ σ → RH c d h H → SatS c d H Wx (body ρ h) D → tb D σ H)
    (ha : d0.ι[n]? = some (some a)) (hl : ws.length = total) (re0 : RE c d0 H0 ρ σ) (rh0 : RH c d0 h H0) (s : SatS c d0 H0 Wx (forV n total asg body ws 0 ρ h) D) :
    ∃ W : Nat → Nat → St → AH → Prop, (∃ m, W 0 m σ H0) ∧ ∀ i m σ H, W i m σ H →
      ((L2.Itl c.K a).stop i H ∧ D.nx σ H) ∨ ((L2.Itl c.K a).go i H ∧ ∃ N : St → AH → Prop, (∀ σ' H', N σ' H' → ∃ m', m' < m ∧ W (i + 1) m' σ' H') ∧
        ∀ x H', (L2.Itl c.K a).yld i H x H' → g x σ H' fun σ2 H2 => tb { D with nx := N, ct := N, bk := D.nx } σ2 H2) := by
  let I : Nat → Nat → St → AH → Prop := fun i m σ H => i ≤ ws.length ∧ m = ws.length - i ∧ ∃ d ρ h, Ext d0 H0 d H ∧ RE c d H ρ σ ∧ RH c d h H ∧ SatS c d H Wx (forV n total asg body (ws.drop i) i ρ h) D
  have hn : n < d0.ι.length := (List.getElem?_eq_some_iff.mp ha).1
  have cur_of : ∀ {d : Wd} {h : LH} {H : AH} {cur : List W}, Ext d0 H0 d H → RH c d h H → nth h n = some (.lst cur) → ∃ vs, H a = some (.lst vs) ∧ RWs c d H cur vs := fun {d h H cur} ex rh q => by
    have rv : RW c d0 H0 (.ref n) (.ref a) := .ref hn fun b eb => by rw [ha] at eb; cases eb; rfl
    obtain ⟨b, eb, _, vs, h1, h2⟩ := rh.live (rv.ext ex) q (by simp)
    cases eb
    exact ⟨vs, h1, h2⟩
  refine ⟨I, ⟨ws.length, Nat.zero_le _, rfl, d0, ρ, h, Ext.refl rh0, re0, rh0, s⟩, ?_⟩
  rintro i m σ H ⟨hi, hm, d, ρ, h, ex, re, rh, s⟩
  have look : ∃ cur, nth h n = some (.lst cur) ∧ Nat.beq cur.length total = true := by
    by_cases e : i < ws.length
    · have ed : ws.drop i = ws[i] :: ws.drop (i + 1) := List.drop_eq_getElem_cons e
      rw [ed] at s
      simp only [forV] at s
      cases q : nth h n with
      | none => rw [q] at s; exact s.elim
      | some o =>
        rw [q] at s
        cases o with
        | lst cur =>
          simp only at s
          cases q2 : Nat.beq cur.length total with
          | false => rw [q2] at s; exact s.elim
          | true => exact ⟨cur, rfl, q2⟩
        | _ => exact s.elim
    · rw [List.drop_of_length_le (by omega)] at s
      simp only [forV] at s
      cases q : nth h n with
      | none => rw [q] at s; exact s.elim
      | some o =>
        rw [q] at s
        cases o with
        | lst cur =>
          simp only at s
          cases q2 : Nat.beq cur.length total with
          | false => rw [q2] at s; exact s.elim
          | true => exact ⟨cur, rfl, q2⟩
        | _ => exact s.elim
  obtain ⟨cur, hc, ht⟩ := look
  have ht' : cur.length = total := Nat.eq_of_beq_eq_true ht
  obtain ⟨vs, hv1, hv2⟩ := cur_of ex rh hc
  have hvl := hv2.length
  by_cases e : i < ws.length
  · have hgo : ∃ w, cur[i]? = some w := ⟨cur[i]'(by omega), List.getElem?_eq_getElem _⟩
    obtain ⟨w, hw⟩ := hgo
    obtain ⟨v, hv3, hv4⟩ := hv2.get i hw
    refine .inr ⟨⟨vs, v, .inl (.inl hv1), hv3⟩, fun σ' H' => I (i + 1) (ws.length - (i + 1)) σ' H', fun σ' H' z => ⟨_, by omega, z⟩, fun x H' y => ?_⟩
    obtain ⟨eH, y2⟩ := y
    subst eH
    have ex_ := y2 vs (.inl (.inl hv1))
    rw [hv3] at ex_
    cases ex_
    have ed : ws.drop i = ws[i] :: ws.drop (i + 1) := List.drop_eq_getElem_cons e
    rw [ed] at s
    simp only [forV, hc, ht] at s
    rw [nth_eq, hw] at s
    simp only at s
    refine qg d ρ h σ H' (.one w) v ⟨fun σ2 H2 => tb { D with nx := fun σ' H' => I (i + 1) (ws.length - (i + 1)) σ' H', ct := fun σ' H' => I (i + 1) (ws.length - (i + 1)) σ' H', bk := D.nx } σ2 H2, D.rt, D.bk, D.ct⟩ re rh hv4 ?_
    cases q : asg (.one w) ρ h with
    | nx ρ1 h1 =>
      rw [q] at s
      intro d3 H3 σ3 x3 r3 e3 _
      refine qb d3 ρ1 h1 σ3 H3 _ e3 r3 ?_
      have s3 := SatS.ext rh.has x3 s
      have ex3 := ex.trans rh0.has x3
      cases q2 : body ρ1 h1 with
      | nx ρ2 h2 =>
        simp only [q2] at s3
        intro d4 H4 σ4 x4 r4 e4
        exact ⟨e, rfl, d4, ρ2, h2, ex3.trans rh0.has x4, e4, r4, SatS.ext r3.has x4 s3⟩
      | ct ρ2 h2 =>
        simp only [q2] at s3
        intro d4 H4 σ4 x4 r4 e4
        exact ⟨e, rfl, d4, ρ2, h2, ex3.trans rh0.has x4, e4, r4, SatS.ext r3.has x4 s3⟩
      | rt w h2 => simp only [q2] at s3; exact s3
      | ex x ρ2 h2 => simp only [q2] at s3; exact s3
      | no => simp only [q2] at s3; exact s3
    | _ => rw [q] at s; exact s.elim
  · have e2 : i = ws.length := by omega
    refine .inl ⟨⟨vs, .inl (.inl hv1), by omega⟩, ?_⟩
    rw [e2, List.drop_length] at s
    simp only [forV, hc, ht] at s
    exact SatS.nx s rh re
theorem hs_for {tg iter : Expr} {b : List Stmt} {pos : Pos} {ei : Sl → LH → R Wk} {et : Item → Sl → LH → SR} {eb : Sl → LH → SR} (hK : X.K = c.K) (hp : PassesOwn (model X.prog X.w) X.A X.env X.xe) (hc : X.calm = true)
    (hs : ∀ x, foldedSetIterable iter X.env x = pure x) (hi : HI c X Wx ei tg iter) (ht : HG c X Wx ch et tg) (hb : HSs c X Wx eb b) :
    HS c X Wx (fun ρ h => match ei ρ h with
      | .ok wk h1 => forW wk et eb ρ h1
      | .ex x h1 => .ex x ρ h1
      | .no => .no) (.For tg iter b [] pos) := by
  obtain ⟨wi, pi, qi⟩ := hi
  obtain ⟨g, pg, qg⟩ := ht
  obtain ⟨tb, pb, qb⟩ := hb
  refine ⟨_, L2.ps_for hp hc pi pg pb hs, fun d ρ h σ H D re rh s => ?_⟩
  refine qi d ρ h σ H _ re rh ?_
  simp only at s
  cases e : ei ρ h with
  | no => rw [e] at s; exact s.elim
  | ex x h1 => rw [e] at s; exact fun d' H' y r' => s d' H' σ y r' (re.ext y)
  | ok wk h1 =>
    rw [e] at s
    intro d1 H1 x1 r1 J hJ
    have s1 := SatS.ext rh.has x1 s
    cases wk with
    | items xs => exact forL_hr qg qb hJ (re.ext x1) r1 s1
    | live n ws =>
      obtain ⟨a, ha, rfl⟩ := hJ
      exact forV_hr qg qb ha rfl (re.ext x1) r1 s1
/-! ### while -/
theorem while_hr {et : Sl → LH → R W} {body : Sl → LH → SR} {tc : L2.TT} {tb : L2.TS} {D : Ends} {d0 : Wd} {H0 : AH} {N : Nat} {ρ : Sl} {h : LH} {σ : St}
    (qc : ∀ d ρ h σ H (Q : Bool → AH → Prop), RE c d H ρ σ → RH c d h H → Sat c d H (wX c Wx σ) (et ρ h) (wB Q) → tc σ H Q)
    (qb : ∀ d ρ h σ H (D : Ends), RE c d H ρ σ → RH c d h H → SatS c d H Wx (body ρ h) D → tb D σ H)
    (re0 : RE c d0 H0 ρ σ) (rh0 : RH c d0 h H0) (s : SatS c d0 H0 Wx (whileL et body N ρ h) D) :
    ∃ W : Nat → St → AH → Prop, (∃ m, W m σ H0) ∧ ∀ m σ H, W m σ H →
      tc σ H fun b H1 => if b = true then ∃ N : St → AH → Prop, (∀ σ' H', N σ' H' → ∃ m', m' < m ∧ W m' σ' H') ∧ tb { D with nx := N, ct := N, bk := D.nx } σ H1 else D.nx σ H1 := by
  let I : Nat → St → AH → Prop := fun m σ H => ∃ d ρ h, RE c d H ρ σ ∧ RH c d h H ∧ SatS c d H Wx (whileL et body m ρ h) D
  refine ⟨I, ⟨N, d0, ρ, h, re0, rh0, s⟩, ?_⟩
  rintro m σ H ⟨d, ρ, h, re, rh, s⟩
  cases m with
  | zero => exact s.elim
  | succ m =>
    simp only [whileL] at s
    refine qc d ρ h σ H _ re rh ?_
    cases e : et ρ h with
    | no => rw [e] at s; exact s.elim
    | ex x h1 => rw [e] at s; exact fun d' H' y r' => s d' H' σ y r' (re.ext y)
    | ok w h1 =>
      rw [e] at s
      intro d1 H1 x1 r1
      have s1 := SatS.ext rh.has x1 s
      unfold wB
      simp only at s1
      cases e2 : truth w h1 with
      | none => rw [e2] at s1; exact s1.elim
      | some k =>
        rw [e2] at s1
        cases k with
        | false =>
          simp only [Bool.false_eq_true, if_false]
          exact SatS.nx s1 r1 (re.ext x1)
        | true =>
          simp only [if_true]
          refine ⟨I m, fun σ' H' z => ⟨m, Nat.lt_succ_self m, z⟩, ?_⟩
          refine qb d1 ρ h1 σ H1 _ (re.ext x1) r1 ?_
          simp only at s1
          cases q2 : body ρ h1 with
          | nx ρ2 h2 =>
            simp only [q2] at s1
            intro d4 H4 σ4 x4 r4 e4
            exact ⟨d4, ρ2, h2, e4, r4, SatS.ext r1.has x4 s1⟩
          | ct ρ2 h2 =>
            simp only [q2] at s1
            intro d4 H4 σ4 x4 r4 e4
            exact ⟨d4, ρ2, h2, e4, r4, SatS.ext r1.has x4 s1⟩
          | rt w h2 => simp only [q2] at s1; exact s1
          | ex x ρ2 h2 => simp only [q2] at s1; exact s1
          | no => simp only [q2] at s1; exact s1
theorem hs_whl {n : Nat} {t : Expr} {b : List Stmt} {pos : Pos} {et : Sl → LH → R W} {eb : Sl → LH → SR} (hp : PassesOwn (model X.prog X.w) X.A X.env X.xe) (ht : HT c X Wx et t) (hb : HSs c X Wx eb b) :
    HS c X Wx (fun ρ h => whileL et eb n ρ h) (.While t b [] pos) := by
  obtain ⟨tc, pc, qc⟩ := ht
  obtain ⟨tb, pb, qb⟩ := hb
  exact ⟨_, L2.ps_while hp pc pb, fun d ρ h σ H D re rh s => while_hr qc qb re rh s⟩
end
end Sx
end

section
set_option autoImplicit false
set_option linter.all false
set_option Elab.async false
namespace Sx
open PySem PySem.Spec PyProof.Rows
open L2 (V St SqL SqT Rd upd upd_same upd_ne HO PE PT PW PA PS PSs PG PGs PI PIE VK OpR Dp Room Env0 CallR Ends Loc Vis thn Itl Itt Its Itr turn_list turn_tuple turn_str pi_one)

/-! ### a list, a tuple or a text is walked -/
def rSeq (K : PySem.W.Frag) (x : V) (H : AH) (R : L2.It → AH → Prop) : Prop :=
  (∃ a, x = .ref a ∧ (∃ xs, SqL K H a xs) ∧ R (Itl K a) H) ∨ (∃ a, x = .ref a ∧ (∃ xs, SqT K H a xs) ∧ R (Itt K a) H) ∨ ∃ y, x = .str y ∧ R (Its y) H
def iSeq (K : PySem.W.Frag) (te : L2.TE) : L2.TI := fun σ H R => te σ H fun x H1 => rSeq K x H1 R
theorem pi_seq {X : L2.Cx} {tg e : Expr} {te : L2.TE} (he : PE X e te) : PI X tg e (iSeq X.K te) := by
  refine ⟨fun pins s σ H R I h => ?_⟩
  refine thn (he.run pins s σ H _ I h) fun v s1 ⟨x, H1, I1, r1, q1⟩ => ?_
  rcases q1 with ⟨a, e, ⟨xs, hq⟩, q⟩ | ⟨a, e, ⟨xs, hq⟩, q⟩ | ⟨y, e, q⟩
  · subst e
    cases r1
    obtain ⟨its, rv, p, hz⟩ := I1.list hq
    refine wpAny_pyIter_list p.isList ?_
    refine ⟨s1.heap.objs.size, [s1.heap.objs.size], _, _, H1, rfl, I1.kept (t' := s1.toks) fun b o e => Heap.get?_push_of_some _ e, turn_list a _, ⟨_, Heap.get?_push_size _ rfl, rfl, rfl⟩, fun b hb => ?_, q⟩
    have e : b = s1.heap.objs.size := by simpa using hb
    subst e
    exact I1.fpOk (Nat.le_refl _) (I1.hok.fresh (Nat.le_refl _))
  · subst e
    cases r1
    obtain ⟨its, rv, p, hz⟩ := I1.tuple hq
    refine wpAny_pyIter_tuple (show s1.heap.IsTuple a its.toArray from p) ?_
    refine ⟨s1.heap.objs.size, [s1.heap.objs.size], _, _, H1, rfl, I1.kept (t' := s1.toks) fun b o e => Heap.get?_push_of_some _ e, turn_tuple a _, ⟨_, Heap.get?_push_size _ rfl, rfl, rfl⟩, fun b hb => ?_, q⟩
    have e : b = s1.heap.objs.size := by simpa using hb
    subst e
    exact I1.fpOk (Nat.le_refl _) (I1.hok.fresh (Nat.le_refl _))
  · subst e
    obtain ⟨t, rfl⟩ := r1
    cases ha : y.cps.all (· < 128)
    · exact wpAny_pyIter_wide ha (pi_one (tk := s1.toks) I1 _ (turn_str _ y t "str_iterator" (.inr rfl)) ⟨_, Heap.get?_push_size _ rfl, rfl, rfl⟩ q)
    · exact wpAny_pyIter_ascii ha (pi_one (tk := s1.toks) I1 _ (turn_str _ y t "str_ascii_iterator" (.inl rfl)) ⟨_, Heap.get?_push_size _ rfl, rfl, rfl⟩ q)

section
variable {c : Cf} {d : Wd} {h : LH} {H : AH}
theorem wk_lst {a : Addr} {vs : List V} {ps : List PV} (ha : LA c d.F H a vs) (hr : RPs c d.F H ps vs) : WkI c d H (ps.map fun p => .one (.pv p)) (Itl c.K a) := by
  have hl := hr.length
  refine ⟨fun i d' H' x e => ?_, fun i d' H' x e => ⟨vs, (ha.mv x).sq, by simpa [hl] using e⟩, fun i d' h' H' v H'' x r y it e => ?_⟩
  · have e' : i < vs.length := by simpa [hl] using e
    exact ⟨vs, vs[i], (ha.mv x).sq, List.getElem?_eq_getElem e'⟩
  · obtain ⟨eH, y2⟩ := y
    subst eH
    have e2 := y2 vs (ha.mv x).sq
    rw [List.getElem?_map] at e
    obtain ⟨p, hp, rfl⟩ := Option.map_eq_some_iff.mp e
    obtain ⟨u, hu, ru⟩ := hr.get i hp
    rw [hu] at e2
    cases e2
    exact ⟨Ext.refl r, r, .pv (ru.mv x)⟩
theorem wk_tup {a : Addr} {vs : List V} {ps : List PV} (ha : TA c d.F H a vs) (hr : RPs c d.F H ps vs) : WkI c d H (ps.map fun p => .one (.pv p)) (Itt c.K a) := by
  have hl := hr.length
  refine ⟨fun i d' H' x e => ?_, fun i d' H' x e => ⟨vs, (ha.mv x).sq, by simpa [hl] using e⟩, fun i d' h' H' v H'' x r y it e => ?_⟩
  · have e' : i < vs.length := by simpa [hl] using e
    exact ⟨vs, vs[i], (ha.mv x).sq, List.getElem?_eq_getElem e'⟩
  · obtain ⟨eH, y2⟩ := y
    subst eH
    have e2 := y2 vs (ha.mv x).sq
    rw [List.getElem?_map] at e
    obtain ⟨p, hp, rfl⟩ := Option.map_eq_some_iff.mp e
    obtain ⟨u, hu, ru⟩ := hr.get i hp
    rw [hu] at e2
    cases e2
    exact ⟨Ext.refl r, r, .pv (ru.mv x)⟩
theorem wk_str {s : Tx} (hs : okTx s) : WkI c d H (s.map fun k => .one (.pv (.str [k]))) (Its (toStr s)) := by
  have hl : (toStr s).cps.size = s.length := by simp [toStr]
  refine ⟨fun i d' H' x e => ?_, fun i d' H' x e => ?_, fun i d' h' H' v H'' x r y it e => ?_⟩
  · show i < (toStr s).cps.size
    rw [hl]; simpa using e
  · show (toStr s).cps.size ≤ i
    rw [hl]; simpa using e
  · obtain ⟨eH, k, e2, rfl⟩ := y
    subst eH
    rw [List.getElem?_map] at e
    obtain ⟨k2, hk, rfl⟩ := Option.map_eq_some_iff.mp e
    have e3 : (toStr s).cps[i]? = s[i]? := by simp [toStr]
    rw [e3, hk] at e2
    cases e2
    exact ⟨Ext.refl r, r, .pv (.str [k] fun z hz => by
      have : z = k := by simpa using hz
      rw [this]; exact hs k (List.mem_of_getElem? hk))⟩
theorem rng_get (lo : Int) : ∀ (n i : Nat) (it : Item), (rngL lo 1 n)[i]? = some it → it = .one (.pv (.int (lo + i))) := by
  intro n
  induction n generalizing lo with
  | zero => intro i it e; simp [rngL] at e
  | succ n ih =>
    intro i it e
    cases i with
    | zero => simp [rngL] at e; rw [← e]; simp
    | succ i =>
      simp only [rngL, List.getElem?_cons_succ] at e
      have := ih _ i it e
      rw [iadd_eq] at this
      rw [this]
      congr 3
      omega
theorem rng_len (lo st : Int) : ∀ n : Nat, (rngL lo st n).length = n := by
  intro n
  induction n generalizing lo with
  | zero => rfl
  | succ n ih => simp [rngL, ih]
theorem wk_rng {lo : Int} {n : Nat} : WkI c d H (rngL lo 1 n) (Itr lo n) := by
  refine ⟨fun i d' H' x e => ?_, fun i d' H' x e => ?_, fun i d' h' H' v H'' x r y it e => ?_⟩
  · rw [rng_len] at e; exact e
  · rw [rng_len] at e; exact e
  · obtain ⟨eH, rfl⟩ := y
    subst eH
    rw [rng_get _ _ _ _ e]
    exact ⟨Ext.refl r, r, .pv (.int _)⟩
end
section
variable {c : Cf} {X : L2.Cx} {Wx : L2.WX}
theorem wk_ok {d : Wd} {h : LH} {H : AH} {Xw : Xn → Wd → AH → Prop} {wk : Wk} {P : Wd → LH → Wk → AH → Prop} (s : Sat c d H Xw (.ok wk h) P) (r : RH c d h H) : P d h wk H := Sat.ok s r
theorem hi_seq {tg e : Expr} {ev : Sl → LH → R W} (hK : X.K = c.K) (he : HE c X Wx ev e) : HI c X Wx (fun ρ h => (ev ρ h).bind walkOf) tg e := by
  obtain ⟨te, pe, qe⟩ := he
  refine ⟨_, hK ▸ pi_seq pe, fun d ρ h σ H Q re rh s => ?_⟩
  refine qe d ρ h σ H _ re rh ((s.bind rh.has).imp (fun d1 h1 w1 H1 x1 r1 s1 => ?_) (fun _ _ _ _ z => z))
  intro v1 rv1
  cases rv1 with
  | pv hp =>
    cases hp with
    | str t ht => exact .inr (.inr ⟨_, rfl, wk_ok s1 r1 _ (wk_str ht)⟩)
    | @tup a vs ps ha hr => exact .inr (.inl ⟨_, rfl, ⟨_, ha.sq⟩, wk_ok s1 r1 _ (wk_tup ha hr)⟩)
    | @lst a vs ps ha hr => exact .inl ⟨_, rfl, ⟨_, ha.sq⟩, wk_ok s1 r1 _ (wk_lst ha hr)⟩
    | _ => exact (show False from s1).elim
  | @ref n _ l f =>
    unfold walkOf at s1
    simp only at s1
    cases q1 : nth h1 n with
    | none => rw [q1] at s1; exact (show False from s1).elim
    | some o =>
      rw [q1] at s1
      cases o with
      | lst ws =>
        obtain ⟨a, ea, hi, vs, h2, h3⟩ := r1.live (.ref l f) q1 (by simp)
        subst ea
        exact .inl ⟨a, rfl, ⟨vs, .inl (.inl h2)⟩, Sat.ok s1 r1 _ ⟨a, hi, rfl⟩⟩
      | _ => exact (show False from s1).elim
  | _ => exact (show False from s1).elim
theorem rngOk_at {i : Int} (h : rngOk i = true) : -1000000000001 ≤ i ∧ i ≤ 1000000000000 := by
  unfold rngOk at h
  rw [Bool.and_eq_true, ile_eq, ile_eq] at h
  have h1 := of_decide_eq_true h.1
  have h2 := of_decide_eq_true h.2
  constructor
  · exact h1
  · exact h2
theorem hi_rng1 {tg a : Expr} {p pos : Pos} {ev : Sl → LH → R W} (hg : L2.Gl X "range") (hm : X.mg "range" = none) (ns : noStar a = true) (ha : HE c X Wx ev a) :
    HI c X Wx (fun ρ h => (ev ρ h).bind fun x h1 => match x with
      | .pv (.int j) => match rngOk j with
        | true => .ok (.items (rngL (.ofNat 0) (.ofNat 1) j.toNat)) h1
        | false => .no
      | _ => .no) tg (.Call (.Name "range" p) [a] [] pos) := by
  obtain ⟨ta, pa, qa⟩ := ha
  refine ⟨_, L2.pi_range1 hg hm (L2.pa_cons pa L2.pa_nil (star_cons ns)) (star_cons ns), fun d ρ h σ H Q re rh s => ?_⟩
  refine qa d ρ h σ H _ re rh ((s.bind rh.has).imp (fun d1 h1 w1 H1 x1 r1 s1 => ?_) (fun _ _ _ _ z => z))
  intro v1 rv1
  cases rv1 with
  | pv hp =>
    cases hp with
    | int j =>
      simp only at s1
      cases q : rngOk j with
      | false => rw [q] at s1; exact (show False from s1).elim
      | true =>
        rw [q] at s1
        obtain ⟨b1, b2⟩ := rngOk_at q
        refine ⟨j, rfl, by omega, by omega, ?_⟩
        exact Sat.ok s1 r1 _ (wk_rng (lo := 0))
    | _ => exact (show False from s1).elim
  | _ => exact (show False from s1).elim
theorem hi_rng2 {tg a b : Expr} {p pos : Pos} {ea eb : Sl → LH → R W} (hg : L2.Gl X "range") (hm : X.mg "range" = none) (na : noStar a = true) (nb : noStar b = true) (ha : HE c X Wx ea a) (hb : HE c X Wx eb b) :
    HI c X Wx (fun ρ h => (ea ρ h).bind fun x h1 => (eb ρ h1).bind fun y h2 => match x, y with
      | .pv (.int i), .pv (.int j) => match rngOk i && rngOk j with
        | true => .ok (.items (rngL i (.ofNat 1) (isub j i).toNat)) h2
        | false => .no
      | _, _ => .no) tg (.Call (.Name "range" p) [a, b] [] pos) := by
  obtain ⟨ta, pa, qa⟩ := ha
  obtain ⟨tb, pb, qb⟩ := hb
  refine ⟨_, L2.pi_range2 hg hm (L2.pa_cons pa (L2.pa_cons pb L2.pa_nil (star_cons nb)) (star_cons na)) (by rw [star_cons na, star_cons nb]; rfl) (by rw [star_cons nb]; rfl), fun d ρ h σ H Q re rh s => ?_⟩
  refine qa d ρ h σ H _ re rh ((s.bind rh.has).imp (fun d1 h1 w1 H1 x1 r1 s1 => ?_) (fun _ _ _ _ z => z))
  intro v1 rv1
  refine qb d1 ρ h1 σ H1 _ (re.ext x1) r1 ((s1.bind r1.has).imp (fun d2 h2 w2 H2 x2 r2 s2 => ?_) (fun _ _ _ _ z => z))
  intro v2 rv2
  have rv1 := rv1.ext x2
  cases rv1 with
  | pv hp =>
    cases hp with
    | int i =>
      cases rv2 with
      | pv hp2 =>
        cases hp2 with
        | int j =>
          simp only at s2
          cases q : rngOk i && rngOk j with
          | false => rw [q] at s2; exact (show False from s2).elim
          | true =>
            rw [q] at s2
            rw [Bool.and_eq_true] at q
            obtain ⟨b1, b2⟩ := rngOk_at q.1
            obtain ⟨b3, b4⟩ := rngOk_at q.2
            refine ⟨i, j, rfl, ⟨by omega, by omega, by omega, by omega⟩, ?_⟩
            rw [isub_eq] at s2
            exact Sat.ok s2 r2 _ (wk_rng (lo := i))
        | _ => exact (show False from s2).elim
      | _ => exact (show False from s2).elim
    | _ => exact (show False from s2).elim
  | _ => exact (show False from s2).elim
end
end Sx
end

section
set_option autoImplicit false
set_option linter.all false
set_option Elab.async false
namespace Sx
open PySem
open L2 (V St SqL SqT Rd upd upd_same upd_ne HO PE PT PW PA PS PSs PG PGs PI PTs VK OpR Dp Room Env0 CallR Ends Loc Vis TE TT TI)

/-! ### a state with one more object that only the comprehension knows -/
def minus (H : AH) (D : Addr) : AH := fun a => if a = D then none else H a
def Wd.plus (d : Wd) (D : Addr) : Wd := ⟨d.ι, fun a => d.F a ∨ a = D⟩
def Wd.less (d : Wd) (D : Addr) : Wd := ⟨d.ι, fun a => d.F a ∧ a ≠ D⟩
theorem minus_same {H : AH} {D : Addr} : minus H D D = none := if_pos rfl
theorem minus_ne {H : AH} {D a : Addr} (h : a ≠ D) : minus H D a = H a := if_neg h
theorem upd_minus {H : AH} {D : Addr} {o : HO} : upd (minus H D) D o = upd H D o := by
  funext a
  by_cases e : a = D
  · rw [e, upd_same, upd_same]
  · rw [upd_ne e, upd_ne e, minus_ne e]
theorem upd_self {H : AH} {D : Addr} {o : HO} (h : H D = some o) : upd H D o = H := by
  funext a
  by_cases e : a = D
  · rw [e, upd_same, h]
  · rw [upd_ne e]
theorem upd_upd {H : AH} {D : Addr} {o o' : HO} : upd (upd H D o) D o' = upd H D o' := by
  funext a
  by_cases e : a = D
  · rw [e, upd_same, upd_same]
  · rw [upd_ne e, upd_ne e, upd_ne e]
section
variable {c : Cf} {d : Wd} {h : LH} {G : AH} {D : Addr} {o : HO}
theorem Ext.plus (r : RH c d h G) (hD : G D = none) : Ext d G (d.plus D) (upd G D o) :=
  ⟨Nat.le_refl _, fun _ _ _ e => e, fun _ e => .inl e, fun a u _ e => by rw [upd_ne (L2.ne_of_none e hD)]; exact e,
    fun a n e z => z.elim n fun z => e (by rw [z]; exact hD), fun a f _ => .inl f, fun a z => r.inI z⟩
theorem RH.plus (r : RH c d h G) (hD : G D = none) : RH c (d.plus D) h (upd G D o) := by
  refine ⟨r.len, fun n u e => ?_, r.inj, fun n a e => .inl (r.sub n a e), fun a f => ?_⟩
  · rcases r.obj n u e with q | ⟨a, ea, q⟩
    · exact .inl q
    · have ha : G a ≠ none := r.has a (r.sub n a ea)
      exact .inr ⟨a, ea, q.mv (Ext.plus r hD).mv (upd_ne fun z => ha (by rw [z]; exact hD))⟩
  · by_cases e : a = D
    · rw [e, upd_same]; simp
    · rw [upd_ne e]; exact r.has a (f.resolve_right e)
variable {d' : Wd} {h' : LH} {H' : AH}
/-- .. and back -/
theorem mv_less (hF : d'.F D) : Mv d' H' (d'.less D) (minus H' D) :=
  ⟨Nat.le_refl _, fun _ _ _ e => e, fun a u n e => have ne : a ≠ D := fun z => n (z ▸ hF); ⟨by rw [minus_ne ne]; exact e, fun z => n z.1⟩⟩
theorem kept_D (r : RH c d h G) (hD : G D = none) (x : Ext (d.plus D) (upd G D o) d' H') : H' D = some o ∧ d'.F D ∧ ¬ inI d' D := by
  have ni : ¬ inI (d.plus D) D := fun ⟨n, e⟩ => r.has D (r.sub n D e) hD
  refine ⟨x.keep D o ni upd_same, x.forb D (.inr rfl) ni, fun z => ?_⟩
  rcases x.new D z with q | q
  · exact ni q
  · rw [upd_same] at q; cases q
theorem Ext.less (r : RH c d h G) (hD : G D = none) (x : Ext (d.plus D) (upd G D o) d' H') : Ext d G (d'.less D) (minus H' D) := by
  obtain ⟨k1, k2, k3⟩ := kept_D r hD x
  have ne : ∀ {a u}, G a = some u → a ≠ D := fun e z => by rw [z, hD] at e; cases e
  refine ⟨x.le, x.old, fun a z => ?_, fun a u n e => ?_, fun a n e z => ?_, fun a f n => ?_, fun a z => r.inI z⟩
  · rcases x.new a z with q | q
    · exact .inl q
    · by_cases e : a = D
      · rw [e, upd_same] at q; cases q
      · rw [upd_ne e] at q; exact .inr q
  · rw [minus_ne (ne e)]
    exact x.keep a u n (by rw [upd_ne (ne e)]; exact e)
  · cases w : G a with
    | none => exact e w
    | some u => exact x.pure a (fun z2 => z2.elim n (ne w)) (by rw [upd_ne (ne w), w]; simp) z.1
  · refine ⟨x.forb a (.inl f) n, fun z => ?_⟩
    rw [z] at f
    exact r.has D f hD
theorem RH.less (r' : RH c d' h' H') (hF : d'.F D) (ni : ¬ Sx.inI d' D) : RH c (d'.less D) h' (minus H' D) := by
  have ne : ∀ {n : Nat} {a : Addr}, d'.ι[n]? = some (some a) → a ≠ D := fun e z => ni ⟨_, z ▸ e⟩
  refine ⟨r'.len, fun n u e => ?_, r'.inj, fun n a e => ⟨r'.sub n a e, ne e⟩, fun a f => by rw [minus_ne f.2]; exact r'.has a f.1⟩
  rcases r'.obj n u e with q | ⟨a, ea, q⟩
  · exact .inl q
  · exact .inr ⟨a, ea, q.mv (mv_less hF) (minus_ne (ne ea))⟩
end

/-! ### slots forgotten -/
theorem RE.wipe {c : Cf} {d : Wd} {H : AH} {ρ : Sl} {σ : St} (r : RE c d H ρ σ) : ∀ vs : List Nat, RE c d H (wipe ρ vs) (L2.wipe σ vs)
  | [] => r
  | v :: vs => by
    have ih := RE.wipe r vs
    refine ⟨by show (setN (Sx.wipe ρ vs) v none).length = ((L2.wipe σ vs).set v none).length; rw [setN_length, List.length_set]; exact ih.len, fun i w e => ?_⟩
    have e' : nth (setN (Sx.wipe ρ vs) v none) i = some (some w) := e
    rw [nth_set] at e'
    by_cases hi : i = v
    · rw [if_pos hi] at e'
      split at e' <;> cases e'
    · rw [if_neg hi] at e'
      obtain ⟨u, h1, h2⟩ := ih.at_ i w e'
      exact ⟨u, by show ((L2.wipe σ vs).set v none)[i]? = _; rw [List.getElem?_set_ne fun z => hi z.symm]; exact h1, h2⟩
theorem wipe_get (σ : St) (j : Nat) : ∀ vs : List Nat, (L2.wipe σ vs)[j]? = if j ∈ vs then (if j < σ.length then some none else none) else σ[j]?
  | [] => by simp [L2.wipe]
  | v :: vs => by
    show ((L2.wipe σ vs).set v none)[j]? = _
    by_cases e : j = v
    · subst e
      rw [if_pos (List.mem_cons_self)]
      by_cases hl : j < σ.length
      · rw [if_pos hl, List.getElem?_set_self (by rw [L2.wipe_length]; exact hl)]
      · rw [if_neg hl]; exact List.getElem?_eq_none (by rw [List.length_set, L2.wipe_length]; omega)
    · rw [List.getElem?_set_ne fun z => e z.symm, wipe_get σ j vs]
      by_cases m : j ∈ vs
      · rw [if_pos m, if_pos (List.mem_cons_of_mem _ m)]
      · rw [if_neg m, if_neg (by simp [e, m])]
theorem wipe_same {σ σ' : St} {vs vs0 : List Nat} (hs : Same (· ∈ vs) (L2.wipe σ vs0) σ') (hv : ∀ j ∈ vs0, j ∈ vs) : L2.wipe σ' vs = L2.wipe σ vs := by
  obtain ⟨hl, hq⟩ := hs
  rw [L2.wipe_length] at hl
  apply List.ext_getElem?
  intro j
  rw [wipe_get, wipe_get]
  by_cases m : j ∈ vs
  · rw [if_pos m, if_pos m, hl]
  · rw [if_neg m, if_neg m, hq j m, wipe_get, if_neg fun z => m (hv j z)]

/-! ### rules that do not depend on the context -/
section
variable {c : Cf}
def WxF : L2.WX := fun _ _ _ _ => False
def uE (c : Cf) (Wx : L2.WX) (ev : Sl → LH → R W) : TE := fun σ H Q => ∃ d ρ h, RE c d H ρ σ ∧ RH c d h H ∧ Sat c d H (wX c Wx σ) (ev ρ h) (wV c Q)
theorem HE.uni {X : L2.Cx} {Wx : L2.WX} {ev : Sl → LH → R W} {e : Expr} (h : HE c X Wx ev e) : PE X e (uE c Wx ev) := by
  obtain ⟨t, p, q⟩ := h
  exact ⟨fun pins s σ H Q I ⟨d, ρ, h, re, rh, sa⟩ => p.run pins s σ H Q I (q d ρ h σ H Q re rh sa)⟩
/-- a clause's tests -/
def HTs (c : Cf) (X : L2.Cx) (Wx : L2.WX) (ev : Sl → LH → R Bool) (es : List Expr) : Prop :=
  ∃ t : TT, PTs X es t ∧ ∀ d ρ h σ H (Q : Bool → AH → Prop), RE c d H ρ σ → RH c d h H → Sat c d H (wX c Wx σ) (ev ρ h) (fun _ _ b H => Q b H) → t σ H Q
theorem hts_nil {X : L2.Cx} {Wx : L2.WX} : HTs c X Wx (fun _ h => .ok true h) [] := ⟨_, L2.pts_nil, fun d ρ h σ H Q re rh s => s.ok rh⟩
theorem hts_one {X : L2.Cx} {Wx : L2.WX} {ev : Sl → LH → R W} {e : Expr} (h : HT c X Wx ev e) :
    HTs c X Wx (fun ρ h => (ev ρ h).bind fun x h1 => match truth x h1 with
      | some b => .ok b h1
      | none => .no) [e] := by
  obtain ⟨t, p, q⟩ := h
  refine ⟨_, L2.pts_one p, fun d ρ h σ H Q re rh s => ?_⟩
  refine q d ρ h σ H _ re rh ((s.bind rh.has).imp (fun d1 h1 w1 H1 x1 r1 s1 => ?_) (fun _ _ _ _ z => z))
  unfold wB
  cases e : truth w1 h1 with
  | none => rw [e] at s1; exact s1.elim
  | some b => rw [e] at s1; exact Sat.ok s1 r1
def uT (c : Cf) (Wx : L2.WX) (ev : Sl → LH → R Bool) : TT := fun σ H Q => ∃ d ρ h, RE c d H ρ σ ∧ RH c d h H ∧ Sat c d H (wX c Wx σ) (ev ρ h) (fun _ _ b H => Q b H)
theorem HTs.uni {X : L2.Cx} {Wx : L2.WX} {ev : Sl → LH → R Bool} {e : List Expr} (h : HTs c X Wx ev e) : PTs X e (uT c Wx ev) := by
  obtain ⟨t, p, q⟩ := h
  exact ⟨fun pins s σ H Q I ⟨d, ρ, h, re, rh, sa⟩ => p.run pins s σ H Q I (q d ρ h σ H Q re rh sa)⟩
def nxD (Q : St → AH → Prop) : Ends := { nx := Q, rt := fun _ _ => False, bk := fun _ _ => False, ct := fun _ _ => False }
def uG (c : Cf) (Wx : L2.WX) (ch : Nat → Prop) (ev : Item → Sl → LH → SR) : L2.TG := fun x σ H Q => ∃ d ρ h it, RE c d H ρ σ ∧ RH c d h H ∧ RI c d H it x ∧ SatS c d H Wx (ev it ρ h) (up (nxD Q) ch σ)
theorem HG.uni {X : L2.Cx} {Wx : L2.WX} {ch : Nat → Prop} {ev : Item → Sl → LH → SR} {e : Expr} (h : HG c X Wx ch ev e) : PG X e (uG c Wx ch ev) := by
  obtain ⟨t, p, q⟩ := h
  exact ⟨fun pins s σ H v u Q I r ⟨d, ρ, h, it, re, rh, ri, sa⟩ => p.run pins s σ H v u Q I r (q d ρ h σ H it v (nxD Q) re rh ri sa)⟩
def uI (c : Cf) (Wx : L2.WX) (ev : Sl → LH → R Wk) : TI := fun σ H R => ∃ d ρ h, RE c d H ρ σ ∧ RH c d h H ∧ Sat c d H (wX c Wx σ) (ev ρ h) (fun d' _ wk H' => ∀ J, WkOk c d' H' wk J → R J H')
theorem HI.uni {X : L2.Cx} {Wx : L2.WX} {ev : Sl → LH → R Wk} {tg e : Expr} (h : HI c X Wx ev tg e) : PI X tg e (uI c Wx ev) := by
  obtain ⟨t, p, q⟩ := h
  exact ⟨fun pins s σ H R I ⟨d, ρ, h, re, rh, sa⟩ => p.run pins s σ H R I (q d ρ h σ H R re rh sa)⟩
end

/-! ### one turn of a comprehension -/
section
variable {c : Cf}
/-- what the loop is to reach: K goes on with the items so far -/
def LcI (c : Cf) (d1 : Wd) (G1 : AH) (D : Addr) (K : List W → LH → R W) (rest : LH → R (List W)) (P : Wd → LH → W → AH → Prop) (Xw : Xn → Wd → AH → Prop) (H : AH) : Prop :=
  ∃ d h acc accw G, H = upd G D (.lst acc) ∧ G D = none ∧ Ext d1 G1 d G ∧ RH c d h G ∧ RWs c d G accw acc ∧ Sat c d G Xw ((rest h).strict fun ws h' => K (accw ++ ws) h') P
theorem strict_ok {α β : Type} {d : Wd} {H : AH} {Xw : Xn → Wd → AH → Prop} {r : R α} {f : α → LH → R β} {P : Wd → LH → β → AH → Prop} (s : Sat c d H Xw (r.strict f) P) : ∃ a h, r = .ok a h ∧ Sat c d H Xw (f a h) P := by
  cases r with
  | ok a h => exact ⟨a, h, rfl, s⟩
  | ex x h => exact s.elim
  | no => exact s.elim
theorem turn_hr {asg : Item → Sl → LH → SR} {evc : Sl → LH → R Bool} {eve : Sl → LH → R W} {d1 : Wd} {G1 : AH} {D : Addr} {K : List W → LH → R W} {rest : LH → R (List W)} {P : Wd → LH → W → AH → Prop} {Xw : Xn → Wd → AH → Prop}
    {vs vs0 : List Nat} {σ : St} {ρ : Sl} {d : Wd} {h : LH} {acc : List V} {accw : List W} {G H' : AH} {it : Item} {x : V} (hK : ∀ {a h d H P Xw}, Sat c d H Xw (K a h) P → a.length ≤ sizeLine)
    (hF1 : ∀ a, d1.F a → G1 a ≠ none) (hD : G D = none) (ex : Ext d1 G1 d G) (rh : RH c d h G) (hw : RWs c d G accw acc) (hv : ∀ j ∈ vs0, j ∈ vs) (re : RE c d1 G1 (Sx.wipe ρ vs0) (L2.wipe σ vs0))
    (ey : Ext (d.plus D) (upd G D (.lst acc)) (d.plus D) H') (ry : RH c (d.plus D) h H') (ri : RI c (d.plus D) H' it x)
    (s : Sat c d G Xw ((lcT asg (fun ρ1 h2 => (evc ρ1 h2).strict fun b h3 => match b with
      | true => (eve ρ1 h3).strict fun w h4 => .ok [w] h4
      | false => .ok [] h3) rest it (Sx.wipe ρ vs0) h).strict fun ws h' => K (accw ++ ws) h') P) :
    uG c WxF (· ∈ vs) asg x (L2.wipe σ vs0) H' fun σ2 H2 => L2.wipe σ2 vs = L2.wipe σ vs ∧ uT c WxF evc σ2 H2 fun b H3 =>
      if b = true then uE c WxF eve σ2 H3 fun y H4 => ∃ acc, H4 D = some (.lst acc) ∧ acc.length < sizeLine ∧ LcI c d1 G1 D K rest P Xw (upd H4 D (.lst (acc ++ [y]))) else LcI c d1 G1 D K rest P Xw H3 := by
  have px := Ext.plus (o := .lst acc) rh hD
  refine ⟨d.plus D, Sx.wipe ρ vs0, h, it, ((re.ext ex).ext px).ext ey, ry, ri, ?_⟩
  obtain ⟨wall, h9, e9, s9⟩ := strict_ok s
  unfold lcT at e9
  cases q1 : asg it (Sx.wipe ρ vs0) h with
  | nx ρ1 h1 =>
    rw [q1] at e9
    simp only at e9
    intro d3 H3 σ3 x3 r3 e3 sm
    refine ⟨wipe_same sm hv, d3, ρ1, h1, e3, r3, ?_⟩
    cases q2 : evc ρ1 h1 with
    | no => rw [q2] at e9; cases e9
    | ex _ _ => rw [q2] at e9; cases e9
    | ok b h3 =>
      rw [q2] at e9
      intro d4 H4 x4 r4
      have hFy : ∀ a, (d.plus D).F a → (upd G D (.lst acc)) a ≠ none := (RH.plus (o := .lst acc) rh hD).has
      have xx := (ey.trans hFy x3).trans hFy x4
      cases b with
      | false =>
        simp only [Bool.false_eq_true, if_false]
        obtain ⟨k1, k2, k3⟩ := kept_D rh hD xx
        refine ⟨d4.less D, h3, acc, accw, minus H4 D, ?_, minus_same, ex.trans hF1 (xx.less rh hD), r4.less k2 k3, (hw.mv (xx.less rh hD).mv), ?_⟩
        · rw [upd_minus, upd_self k1]
        · refine Sat.ext rh.has (xx.less rh hD) ?_
          have e8 : (rest h3).strict (fun ws2 h3 => R.ok ([] ++ ws2) h3) = .ok wall h9 := e9
          cases q3 : rest h3 with
          | no => rw [q3] at e8; cases e8
          | ex _ _ => rw [q3] at e8; cases e8
          | ok w2 h5 =>
            rw [q3] at e8
            cases e8
            exact s9
      | true =>
        simp only [if_true]
        refine ⟨d4, ρ1, h3, e3.ext x4, r4, ?_⟩
        have e8 : (((eve ρ1 h3).strict fun w h4 => R.ok [w] h4).strict fun ws h2 => (rest h2).strict fun ws2 h3 => .ok (ws ++ ws2) h3) = .ok wall h9 := e9
        cases q4 : eve ρ1 h3 with
        | no => rw [q4] at e8; cases e8
        | ex _ _ => rw [q4] at e8; cases e8
        | ok w h5 =>
          rw [q4] at e8
          intro d5 H5 x5 r5 v rv
          have xz := xx.trans hFy x5
          obtain ⟨k1, k2, k3⟩ := kept_D rh hD xz
          have e7 : (rest h5).strict (fun ws2 h3 => R.ok ([w] ++ ws2) h3) = .ok wall h9 := e8
          cases q3 : rest h5 with
          | no => rw [q3] at e7; cases e7
          | ex _ _ => rw [q3] at e7; cases e7
          | ok w2 h6 =>
            rw [q3] at e7
            cases e7
            have hl := hK s9
            refine ⟨acc, k1, ?_, d5.less D, h5, acc ++ [v], accw ++ [w], minus H5 D, ?_, minus_same, ex.trans hF1 (xz.less rh hD), r5.less k2 k3, ?_, ?_⟩
            · rw [← hw.length]
              rw [List.length_append, List.length_append] at hl
              simp at hl
              omega
            · rw [upd_minus]
            · exact (hw.mv (xz.less rh hD).mv).append (.cons (rv.mv (mv_less k2)) .nil)
            · refine Sat.ext rh.has (xz.less rh hD) ?_
              rw [q3]
              show Sat c d G Xw (K ((accw ++ [w]) ++ w2) _) P
              rw [List.append_assoc]
              exact s9
  | _ => rw [q1] at e9; cases e9

/-- the loop over what is walked: K at the end gives Fin -/
theorem loop_hr {asg : Item → Sl → LH → SR} {evc : Sl → LH → R Bool} {eve : Sl → LH → R W} {d1 : Wd} {h1 : LH} {H1 G1 : AH} {D : Addr} {acc1 : List V} {accw1 : List W} {K : List W → LH → R W} {P : Wd → LH → W → AH → Prop} {Xw : Xn → Wd → AH → Prop}
    {vs vs0 : List Nat} {σ : St} {ρ : Sl} {wk : Wk} {J : L2.It} {Fin : AH → Prop} (hK : ∀ {a h d H P Xw}, Sat c d H Xw (K a h) P → a.length ≤ sizeLine)
    (hJ : WkOk c d1 H1 wk J) (hm : ∀ {o}, Mv d1 H1 (d1.plus D) (upd G1 D o)) (hD : G1 D = none) (r1 : RH c d1 h1 G1) (hw : RWs c d1 G1 accw1 acc1) (hv : ∀ j ∈ vs0, j ∈ vs) (re : RE c d1 G1 (Sx.wipe ρ vs0) (L2.wipe σ vs0))
    (s : Sat c d1 G1 Xw ((lcW wk asg (fun ρ1 h2 => (evc ρ1 h2).strict fun b h3 => match b with
      | true => (eve ρ1 h3).strict fun w h4 => .ok [w] h4
      | false => .ok [] h3) (Sx.wipe ρ vs0) h1).strict fun ws h' => K (accw1 ++ ws) h') P)
    (fin : ∀ d h acc accw G, G D = none → Ext d1 G1 d G → RH c d h G → RWs c d G accw acc → Sat c d G Xw (K accw h) P → Fin (upd G D (.lst acc))) :
    ∃ W : Nat → Nat → AH → Prop, (∃ m, W 0 m (upd G1 D (.lst acc1))) ∧ ∀ i m H, W i m H →
      (J.stop i H ∧ Fin H) ∨ (J.go i H ∧ ∃ Nx : AH → Prop, (∀ H', Nx H' → ∃ m', m' < m ∧ W (i + 1) m' H') ∧ ∀ x H', J.yld i H x H' →
        uG c WxF (· ∈ vs) asg x (L2.wipe σ vs0) H' fun σ2 H2 => L2.wipe σ2 vs = L2.wipe σ vs ∧ uT c WxF evc σ2 H2 fun b H3 =>
          if b = true then uE c WxF eve σ2 H3 fun y H4 => ∃ acc, H4 D = some (.lst acc) ∧ acc.length < sizeLine ∧ Nx (upd H4 D (.lst (acc ++ [y]))) else Nx H3) := by
  have mv_of : ∀ {d : Wd} {h : LH} {G : AH} {acc : List V}, Ext d1 G1 d G → RH c d h G → G D = none → Mv d1 H1 (d.plus D) (upd G D (.lst acc)) := fun {d h G acc} ex rh hD2 => by
    have a1 := hm (o := .lst acc)
    refine ⟨ex.le, ex.old, fun a o n e => ?_⟩
    obtain ⟨b1, b2⟩ := a1.pk a o n e
    have ne : a ≠ D := fun z => b2 (.inr z)
    rw [upd_ne ne] at b1
    have nf : ¬ d1.F a := fun z => b2 (.inl z)
    obtain ⟨c1, c2⟩ := ex.mv.pk a o nf b1
    exact ⟨by rw [upd_ne ne]; exact c1, fun z => z.elim c2 ne⟩
  have hF1 := r1.has
  let step : Sl → LH → R (List W) := fun ρ1 h2 => (evc ρ1 h2).strict fun b h3 => match b with
      | true => (eve ρ1 h3).strict fun w h4 => .ok [w] h4
      | false => .ok [] h3
  cases wk with
  | items xs =>
    have wk' : WkI c d1 H1 xs J := hJ
    let I : Nat → Nat → AH → Prop := fun i m H => i ≤ xs.length ∧ m = xs.length - i ∧ LcI c d1 G1 D K (lcL asg step (xs.drop i) (Sx.wipe ρ vs0)) P Xw H
    refine ⟨I, ⟨xs.length, Nat.zero_le _, rfl, d1, h1, acc1, accw1, G1, rfl, hD, Ext.refl r1, r1, hw, s⟩, ?_⟩
    rintro i m H ⟨hi, hm2, d, h, acc, accw, G, rfl, hDG, ex, rh, hw2, s2⟩
    have mv := mv_of (acc := acc) ex rh hDG
    by_cases e : i < xs.length
    · refine .inr ⟨wk'.go i _ _ mv e, fun H' => I (i + 1) (xs.length - (i + 1)) H', fun H' z => ⟨_, by omega, z⟩, fun x H' y => ?_⟩
      obtain ⟨ey, ry, ri⟩ := wk'.yld i _ h _ x H' mv (RH.plus rh hDG) y xs[i] (List.getElem?_eq_getElem e)
      have ed : xs.drop i = xs[i] :: xs.drop (i + 1) := List.drop_eq_getElem_cons e
      rw [ed] at s2
      have t := turn_hr (D := D) (vs := vs) (vs0 := vs0) (σ := σ) (K := K) (P := P) (Xw := Xw) (rest := lcL asg step (xs.drop (i + 1)) (Sx.wipe ρ vs0)) hK hF1 hDG ex rh hw2 hv re ey ry ri s2
      obtain ⟨d', ρ', h', it, g1, g2, g3, g4⟩ := t
      refine ⟨d', ρ', h', it, g1, g2, g3, g4.weak (fun σ2 H2 q sm => ?_) (fun _ _ q => q) (fun _ _ q => q)⟩
      obtain ⟨q1, d5, ρ5, h5, q2, q3, q4⟩ := q sm
      refine ⟨q1, d5, ρ5, h5, q2, q3, q4.imp (fun d6 h6 b H6 _ _ q => ?_) fun _ _ _ _ q => q⟩
      cases b with
      | true =>
        simp only [if_true] at q ⊢
        obtain ⟨d7, ρ7, h7, p1, p2, p3⟩ := q
        refine ⟨d7, ρ7, h7, p1, p2, p3.imp (fun d8 h8 w8 H8 _ _ q v rv => ?_) fun _ _ _ _ q => q⟩
        obtain ⟨acc, z1, z2, z3⟩ := q v rv
        exact ⟨acc, z1, z2, e, rfl, z3⟩
      | false =>
        simp only [Bool.false_eq_true, if_false] at q ⊢
        exact ⟨e, rfl, q⟩
    · refine .inl ⟨wk'.stop i _ _ mv (by omega), ?_⟩
      rw [List.drop_of_length_le (by omega)] at s2
      have s3 : Sat c d G Xw (K (accw ++ []) h) P := s2
      rw [List.append_nil] at s3
      exact fin d h acc accw G hDG ex rh hw2 s3
  | live n ws =>
    obtain ⟨a, ha, rfl⟩ := hJ
    let I : Nat → Nat → AH → Prop := fun i m H => i ≤ ws.length ∧ m = ws.length - i ∧ LcI c d1 G1 D K (lcV n ws.length asg step (ws.drop i) i (Sx.wipe ρ vs0)) P Xw H
    refine ⟨I, ⟨ws.length, Nat.zero_le _, rfl, d1, h1, acc1, accw1, G1, rfl, hD, Ext.refl r1, r1, hw, s⟩, ?_⟩
    rintro i m H ⟨hi, hm2, d, h, acc, accw, G, rfl, hDG, ex, rh, hw2, s2⟩
    have hn : n < d1.ι.length := (List.getElem?_eq_some_iff.mp ha).1
    have look : ∃ cur, nth h n = some (.lst cur) ∧ Nat.beq cur.length ws.length = true := by
      by_cases e : i < ws.length
      · have ed : ws.drop i = ws[i] :: ws.drop (i + 1) := List.drop_eq_getElem_cons e
        rw [ed] at s2
        obtain ⟨_, _, e9, _⟩ := strict_ok s2
        simp only [lcV] at e9
        cases q : nth h n with
        | none => rw [q] at e9; cases e9
        | some o =>
          rw [q] at e9
          cases o with
          | lst cur =>
            simp only at e9
            cases q2 : Nat.beq cur.length ws.length with
            | false => rw [q2] at e9; cases e9
            | true => exact ⟨cur, rfl, q2⟩
          | _ => cases e9
      · rw [List.drop_of_length_le (by omega)] at s2
        obtain ⟨_, _, e9, _⟩ := strict_ok s2
        simp only [lcV] at e9
        cases q : nth h n with
        | none => rw [q] at e9; cases e9
        | some o =>
          rw [q] at e9
          cases o with
          | lst cur =>
            simp only at e9
            cases q2 : Nat.beq cur.length ws.length with
            | false => rw [q2] at e9; cases e9
            | true => exact ⟨cur, rfl, q2⟩
          | _ => cases e9
    obtain ⟨cur, hc, ht⟩ := look
    have ht' : cur.length = ws.length := Nat.eq_of_beq_eq_true ht
    have rv : RW c d1 G1 (.ref n) (.ref a) := .ref hn fun b eb => by rw [ha] at eb; cases eb; rfl
    obtain ⟨b, eb, hb, vs2, hv1, hv2⟩ := rh.live (rv.ext ex) hc (by simp)
    cases eb
    have aD : a ≠ D := fun z => rh.has D (rh.sub n D (z ▸ hb)) hDG
    have hv1' : upd G D (.lst acc) a = some (.lst vs2) := by rw [upd_ne aD]; exact hv1
    have px := Ext.plus (o := .lst acc) rh hDG
    have hvl := hv2.length
    by_cases e : i < ws.length
    · have hgo : ∃ w, cur[i]? = some w := ⟨cur[i]'(by omega), List.getElem?_eq_getElem _⟩
      obtain ⟨w, hw3⟩ := hgo
      obtain ⟨v, hv3, hv4⟩ := hv2.get i hw3
      refine .inr ⟨⟨vs2, v, .inl (.inl hv1'), hv3⟩, fun H' => I (i + 1) (ws.length - (i + 1)) H', fun H' z => ⟨_, by omega, z⟩, fun x H' y => ?_⟩
      obtain ⟨eH, y2⟩ := y
      subst eH
      have ex_ := y2 vs2 (.inl (.inl hv1'))
      rw [hv3] at ex_
      cases ex_
      have ed : ws.drop i = ws[i] :: ws.drop (i + 1) := List.drop_eq_getElem_cons e
      rw [ed] at s2
      simp only [lcV, hc, ht] at s2
      rw [nth_eq, hw3] at s2
      simp only at s2
      have t := turn_hr (it := .one w) (x := v) (D := D) (vs := vs) (vs0 := vs0) (σ := σ) (K := K) (P := P) (Xw := Xw) (rest := lcV n ws.length asg step (ws.drop (i + 1)) (i + 1) (Sx.wipe ρ vs0)) hK hF1 hDG ex rh hw2 hv re (Ext.refl (RH.plus rh hDG)) (RH.plus rh hDG) (hv4.ext px) s2
      obtain ⟨d', ρ', h', it, g1, g2, g3, g4⟩ := t
      refine ⟨d', ρ', h', it, g1, g2, g3, g4.weak (fun σ2 H2 q sm => ?_) (fun _ _ q => q) (fun _ _ q => q)⟩
      obtain ⟨q1, d5, ρ5, h5, q2, q3, q4⟩ := q sm
      refine ⟨q1, d5, ρ5, h5, q2, q3, q4.imp (fun d6 h6 b H6 _ _ q => ?_) fun _ _ _ _ q => q⟩
      cases b with
      | true =>
        simp only [if_true] at q ⊢
        obtain ⟨d7, ρ7, h7, p1, p2, p3⟩ := q
        refine ⟨d7, ρ7, h7, p1, p2, p3.imp (fun d8 h8 w8 H8 _ _ q v rv => ?_) fun _ _ _ _ q => q⟩
        obtain ⟨acc, z1, z2, z3⟩ := q v rv
        exact ⟨acc, z1, z2, e, rfl, z3⟩
      | false =>
        simp only [Bool.false_eq_true, if_false] at q ⊢
        exact ⟨e, rfl, q⟩
    · refine .inl ⟨⟨vs2, .inl (.inl hv1'), by omega⟩, ?_⟩
      rw [List.drop_of_length_le (by omega)] at s2
      simp only [lcV, hc, ht] at s2
      have s3 : Sat c d G Xw (K (accw ++ []) h) P := s2
      rw [List.append_nil] at s3
      exact fin d h acc accw G hDG ex rh hw2 s3
theorem newL_line {m : Bool} {a : List W} {h : LH} {d : Wd} {H : AH} {P : Wd → LH → W → AH → Prop} {Xw : Xn → Wd → AH → Prop} (s : Sat c d H Xw (newL m a h) P) : a.length ≤ sizeLine := by
  unfold newL at s
  cases e : line a.length with
  | false => rw [e] at s; exact s.elim
  | true => exact line_ok e
theorem he_lc {X : L2.Cx} {Wx : L2.WX} {m : Bool} {elt tg iter : Expr} {ifs : List Expr} {scope : Scope} {own : List (Str × Nat)} {pos : Pos} {ei : Sl → LH → R Wk} {et : Item → Sl → LH → SR} {evc : Sl → LH → R Bool} {eve : Sl → LH → R W}
    (hc : X.calm = true) (hN : X.N.Nodup) (ok : L2.BlkOk X.N X.env.scope scope own) (hs : ∀ x, foldedSetIterable iter X.env x = pure x) (hi : HI c X Wx ei tg iter)
    (hg : ∀ (s : Shared) (H : AH) (C : Addr) (cl : List (Str × Addr)) (fp : List Addr), HG c (X.blk s H scope (PySem.compEnvC scope cl C X.env) fp) WxF (· ∈ own.map (·.2)) et tg)
    (ht : ∀ (s : Shared) (H : AH) (C : Addr) (cl : List (Str × Addr)) (fp : List Addr), HTs c (X.blk s H scope (PySem.compEnvC scope cl C X.env) fp) WxF evc ifs)
    (he : ∀ (s : Shared) (H : AH) (C : Addr) (cl : List (Str × Addr)) (fp : List Addr), HE c (X.blk s H scope (PySem.compEnvC scope cl C X.env) fp) WxF eve elt) :
    HE c X Wx (fun ρ h => (ei ρ h).bind fun wk h1 => (lcW wk et (fun ρ1 h2 => (evc ρ1 h2).strict fun b h3 => match b with
      | true => (eve ρ1 h3).strict fun w h4 => .ok [w] h4
      | false => .ok [] h3) (Sx.wipe ρ (own.map (·.2))) h1).strict (newL m)) (.ListComp elt [⟨tg, iter, ifs, 0⟩] scope pos) := by
  obtain ⟨wi, pi, qi⟩ := hi
  refine ⟨_, L2.pe_lc hc hN pi ok (fun s H C cl fp => (hg s H C cl fp).uni) (fun s H C cl fp => (ht s H C cl fp).uni) (fun s H C cl fp => (he s H C cl fp).uni) hs, fun d ρ h σ H Q re rh s => ?_⟩
  refine qi d ρ h σ H _ re rh ((s.bind rh.has).imp (fun d1 h1 wk H1 x1 r1 s1 => ?_) (fun _ _ _ _ z => z))
  intro J hJ D hD
  exact loop_hr (K := newL m) (Fin := fun H => Q (.ref D) H) newL_line hJ (Ext.plus r1 hD).mv hD r1 .nil (fun _ z => z) ((re.ext x1).wipe _) s1 fun d h acc accw G hDG ex rh hw s => (newL_ok rh hw s).2 D hDG
/-- name = [..] on one line, a plain local -/
theorem hs_lc {X : L2.Cx} {Wx : L2.WX} {m : Bool} {i : Nat} {y : Str} {py spos : Pos} {elt tg iter : Expr} {ifs : List Expr} {scope : Scope} {own : List (Str × Nat)} {pos : Pos} {ei : Sl → LH → R Wk} {et : Item → Sl → LH → SR} {evc : Sl → LH → R Bool} {eve : Sl → LH → R W}
    (hc : X.calm = true) (hN : X.N.Nodup) (hy : X.N[i]? = some y) (hyl : X.env.scope.names.lookup y = some .local)
    (hsw : swapsWith (.ListComp elt [⟨tg, iter, ifs, 0⟩] scope pos) (some (.Name y py)) spos.line X.env = pure true)
    (ok : L2.BlkOk X.N X.env.scope scope own) (hs : ∀ x, foldedSetIterable iter X.env x = pure x) (hi : HI c X Wx ei tg iter)
    (hg : ∀ (s : Shared) (H : AH) (C : Addr) (cl : List (Str × Addr)) (fp : List Addr), HG c (X.blk s H scope (PySem.compEnvC scope cl C X.env) fp) WxF (· ∈ own.map (·.2)) et tg)
    (ht : ∀ (s : Shared) (H : AH) (C : Addr) (cl : List (Str × Addr)) (fp : List Addr), HTs c (X.blk s H scope (PySem.compEnvC scope cl C X.env) fp) WxF evc ifs)
    (he : ∀ (s : Shared) (H : AH) (C : Addr) (cl : List (Str × Addr)) (fp : List Addr), HE c (X.blk s H scope (PySem.compEnvC scope cl C X.env) fp) WxF eve elt) :
    HS c X Wx (fun ρ h => ((ei ρ h).bind fun wk h1 => (lcW wk et (fun ρ1 h2 => (evc ρ1 h2).strict fun b h3 => match b with
      | true => (eve ρ1 h3).strict fun w h4 => .ok [w] h4
      | false => .ok [] h3) (Sx.wipe ρ (own.map (·.2))) h1).strict (newL m)).toS ρ fun w h1 => .nx (setN ρ i (some w)) h1) (.Assign [.Name y py] (.ListComp elt [⟨tg, iter, ifs, 0⟩] scope pos) spos) := by
  obtain ⟨wi, pi, qi⟩ := hi
  refine ⟨_, L2.ps_setLc hc hN hy hyl hsw pi ok (fun s H C cl fp => (hg s H C cl fp).uni) (fun s H C cl fp => (ht s H C cl fp).uni) (fun s H C cl fp => (he s H C cl fp).uni) hs, fun d ρ h σ H E re rh s => ?_⟩
  have s' : Sat c d H (wX c Wx σ) ((ei ρ h).bind fun wk h1 => (lcW wk et (fun ρ1 h2 => (evc ρ1 h2).strict fun b h3 => match b with
      | true => (eve ρ1 h3).strict fun w h4 => .ok [w] h4
      | false => .ok [] h3) (Sx.wipe ρ (own.map (·.2))) h1).strict (newL m)) (wV c fun v H' => E.nx (σ.set i (some v)) H') :=
    toS_sat rh re s fun d1 h1 w1 H1 x1 r1 s1 v1 rv1 => s1.nx r1 ((re.ext x1).set rv1)
  refine qi d ρ h σ H _ re rh ((s'.bind rh.has).imp (fun d1 h1 wk H1 x1 r1 s1 => ?_) (fun _ _ _ _ z => z))
  intro J hJ D hD
  exact loop_hr (K := newL m) (Fin := fun H => E.nx (σ.set i (some (.ref D))) H) newL_line hJ (Ext.plus r1 hD).mv hD r1 .nil (fun _ z => z) ((re.ext x1).wipe _) s1 fun d h acc accw G hDG ex rh hw s => (newL_ok rh hw s).2 D hDG
end
end Sx
end

section
set_option autoImplicit false
set_option linter.all false
set_option Elab.async false
namespace Sx
open PySem
open L2 (V St SqL SqT Rd upd upd_same upd_ne HO PE PT PW PA PS PSs PG PGs PI PTs VK OpR Dp Room Env0 CallR Ends Loc Vis TE TT TI)

/-! ### the small language beside the program's own text: a checker -/
/-- what is known of a context: its slots' names, its scope, what it may store -/
structure SC where
  N : List Str
  sc : Scope
  fn : Str → Bool
def seq (a b : Str) : Bool := decide (a = b)
def oEq (a : Option Str) (b : Str) : Bool := match a with
  | some x => seq x b
  | none => false
def dbg (x : Str) : Bool := !(x == ("__debug__" : Str))
def plainNm (x : Str) : Bool := !(x == ("__debug__" : Str)) && !(x == ("__classdict__" : Str))
def visB (k : SC) (x : Str) : Bool := match k.sc.names.lookup x with
  | some .local => true
  | some .cell => true
  | some .free => true
  | _ => false
def glB (k : SC) (x : Str) : Bool := match k.sc.names.lookup x with
  | some .globalImplicit => true
  | _ => false
def lcB (k : SC) (x : Str) : Bool := match k.sc.names.lookup x with
  | some .local => true
  | _ => false
def locB (k : SC) (x : Str) : Bool := match k.sc.names.lookup x with
  | some .local => true
  | some .cell => k.fn x
  | _ => false
def okTxB (s : Tx) : Bool := s.all fun c => Nat.blt c 1114112
def cstB (p : PV) (c : Const) : Bool := match p with
  | .non => match c with
    | .none => true
    | _ => false
  | .bl a => match c with
    | .bool b => beqB a b
    | _ => false
  | .int i => match c with
    | .int j => ieq i j
    | _ => false
  | .str s => match c with
    | .str t => txEq s t.cps.toList && okTxB s
    | _ => false
  | _ => false
/-- a block's own context -/
def SC.blk (k : SC) (scope : Scope) : SC := ⟨k.N, L2.relS scope k.sc, fun x => scope.names.lookup x == some .cell⟩
def ownP (k : SC) (own : List Nat) : List (Str × Nat) := own.map fun i => ((k.N[i]?).getD default, i)
def noSet : Expr → Bool
  | .Set _ _ _ => false
  | _ => true
def noComp : Expr → Bool
  | .ListComp _ _ _ _ => false
  | .SetComp _ _ _ _ => false
  | .DictComp _ _ _ _ _ => false
  | _ => true
def bopEq (a b : Operator) : Bool := decide (a = b)
def copEq (a b : CmpOp) : Bool := decide (a = b)

/-- the checks of the parts -/
structure Ck where
  e : SC → E → Expr → Bool
  t : SC → E → Expr → Bool
  b : SC → BoolOp → E → List Expr → Bool
  w : SC → BoolOp → E → List Expr → Bool
  es : SC → Es → List Expr → Bool
  o : SC → Oe → Option Expr → Bool
  i : SC → It → Expr → Bool
  g : SC → Option (List Nat) → Tg → Expr → Bool
  gs : SC → Option (List Nat) → Tgs → List Expr → Bool
  c : SC → Oe → List Expr → Bool

def bB (r : Ck) (k : SC) (op : BoolOp) (e : E) (es : List Expr) : Bool := match es with
  | [a] => r.e k e a
  | a :: b :: rest => match op with
    | .And => match e with
      | .nd x y => r.e k x a && r.b k .And y (b :: rest)
      | _ => false
    | .Or => match e with
      | .orr x y => r.e k x a && r.b k .Or y (b :: rest)
      | _ => false
  | [] => false
def wB_ (r : Ck) (k : SC) (op : BoolOp) (e : E) (es : List Expr) : Bool := match es with
  | [a] => r.t k e a
  | a :: b :: rest => match op with
    | .And => match e with
      | .nd x y => r.t k x a && r.w k .And y (b :: rest)
      | _ => false
    | .Or => match e with
      | .orr x y => r.t k x a && r.w k .Or y (b :: rest)
      | _ => false
  | [] => false
def esB (r : Ck) (k : SC) (e : Es) (xs : List Expr) : Bool := match e with
  | .nil => match xs with
    | [] => true
    | _ => false
  | .cons a as => match xs with
    | x :: r2 => noStar x && r.e k a x && r.es k as r2
    | [] => false
def oB (r : Ck) (k : SC) (e : Oe) (x : Option Expr) : Bool := match e with
  | .no => match x with
    | none => true
    | _ => false
  | .so a => match x with
    | some y => r.e k a y
    | none => false
def cB (r : Ck) (k : SC) (e : Oe) (x : List Expr) : Bool := match e with
  | .no => match x with
    | [] => true
    | _ => false
  | .so a => match x with
    | [y] => r.t k a y
    | _ => false
def iB (r : Ck) (k : SC) (e : It) (x : Expr) : Bool := match e with
  | .seq a => r.e k a x
  | .rng1 a => match x with
    | .Call (.Name f _) [y] [] _ => seq f "range" && glB k "range" && noStar y && r.e k a y
    | _ => false
  | .rng2 a b => match x with
    | .Call (.Name f _) [y, z] [] _ => seq f "range" && glB k "range" && noStar y && noStar z && r.e k a y && r.e k b z
    | _ => false
  | _ => false
def inO (o : Option (List Nat)) (i : Nat) : Bool := match o with
  | none => true
  | some l => l.contains i
def gB (r : Ck) (k : SC) (ch : Option (List Nat)) (e : Tg) (x : Expr) : Bool := match e with
  | .nm i => match x with
    | .Name y _ => oEq k.N[i]? y && locB k y && inO ch i
    | _ => false
  | .tup ts => match x with
    | .Tuple xs _ _ => xs.all noStar && r.gs k ch ts xs
    | _ => false
  | .sub o i => match x with
    | .Subscript a b _ => noSlc b && r.e k o a && r.e k i b
    | _ => false
  | _ => false
def gsB (r : Ck) (k : SC) (ch : Option (List Nat)) (e : Tgs) (xs : List Expr) : Bool := match e with
  | .nil => match xs with
    | [] => true
    | _ => false
  | .cons t ts => match xs with
    | x :: r2 => noStar x && r.g k ch t x && r.gs k ch ts r2
    | [] => false
/-- a test -/
def tB_ (r : Ck) (k : SC) (e : E) (x : Expr) : Bool := match x with
  | .UnaryOp .Not a _ => match e with
    | .ntt b => r.t k b a
    | _ => false
  | .BoolOp op es _ => r.w k op e es
  | .IfExp _ _ _ _ => false
  | .Compare _ _ _ _ => match e with
    | .cmp _ _ _ => r.e k e x
    | .chain _ _ _ _ _ => r.e k e x
    | _ => false
  | _ => r.e k e x
/-- a list comprehension of one clause -/
def lcB_ (r : Ck) (k : SC) (own : List Nat) (t : Tg) (it : It) (cd : Oe) (e : E) (elt : Expr) (gens : List Comprehension) (scope : Scope) : Bool := match gens with
  | [⟨tg, iter, ifs, a⟩] => decide (a = 0) && L2.blkC k.N k.sc scope (ownP k own) && noSet iter && r.i k it iter && r.g (k.blk scope) (some own) t tg && r.c (k.blk scope) cd ifs && r.e (k.blk scope) e elt
  | _ => false
def eB (nm : Nm) (r : Ck) (k : SC) (e : E) (x : Expr) : Bool := match e with
  | .var i => match x with
    | .Name y _ => oEq k.N[i]? y && visB k y && plainNm y
    | _ => false
  | .glob g => match x with
    | .Name y _ => oEq (nm.gl g) y && glB k y && plainNm y
    | _ => false
  | .cst p => match x with
    | .Constant c _ _ => cstB p c
    | _ => false
  | .tup es => match x with
    | .Tuple xs _ _ => r.es k es xs
    | _ => false
  | .lst _ es => match x with
    | .List xs _ => r.es k es xs
    | _ => false
  | .bin o _ a b => match x with
    | .BinOp p op q _ => bopEq op (pyB o) && r.e k a p && r.e k b q
    | _ => false
  | .neg a => match x with
    | .UnaryOp .USub p _ => r.e k a p
    | _ => false
  | .ntt a => match x with
    | .UnaryOp .Not p _ => r.e k a p
    | _ => false
  | .nd _ _ => match x with
    | .BoolOp op es _ => r.b k op e es
    | _ => false
  | .orr _ _ => match x with
    | .BoolOp op es _ => r.b k op e es
    | _ => false
  | .cmp o a b => match x with
    | .Compare p [op] [q] _ => copEq op (pyC o) && !behindInMarks op q && r.e k a p && r.e k b q
    | _ => false
  | .chain o o2 a b d => match x with
    | .Compare p [op, op2] [q, s] _ => copEq op (pyC o) && copEq op2 (pyC o2) && !lastMarks [op, op2] [q, s] && r.e k a p && r.e k b q && r.e k d s
    | _ => false
  | .like a b => match x with
    | .Compare (.Call (.Name f _) [p] [] _) [.Eq] [.Call (.Name g _) [q] [] _] _ => seq f "repr" && seq g "repr" && glB k "repr" && noStar p && noStar q && r.e k a p && r.e k b q
    | _ => false
  | .ite t a b => match x with
    | .IfExp u p q _ => r.t k t u && r.e k a p && r.e k b q
    | _ => false
  | .ix a b => match x with
    | .Subscript p q _ => noSlc q && r.e k a p && r.e k b q
    | _ => false
  | .slc _ a lo hi => match x with
    | .Subscript p (.Slice l h none _) _ => r.e k a p && r.o k lo l && r.o k hi h
    | _ => false
  | .call _ f es => match x with
    | .Call (.Name y _) xs [] _ => oEq (nm.fn f) y && glB k y && dbg y && match xs with
      | [] => match es with
        | .nil => true
        | _ => false
      | _ :: _ => xs.all noStar && r.es k es xs
    | _ => false
  | .prim p _ es => match x with
    | .Call (.Name y _) (z :: zs) [] _ => oEq (primNm p) y && glB k y && (z :: zs).all noStar && r.es k es (z :: zs)
    | _ => false
  | .bm p _ o es => match x with
    | .Call (.Attribute q name ap) xs [] cp => plainBase q && (ap.endLine == cp.line) && r.e k o q && match p with
      | .upper => match es with
        | .nil => match xs with
          | [] => seq name "upper"
          | _ => false
        | _ => false
      | .append => match xs with
        | [y] => seq name "append" && noStar y && r.es k es [y]
        | _ => false
      | _ => false
    | _ => false
  | .lc _ own t it cd e => match x with
    | .ListComp elt gens scope _ => lcB_ r k own t it cd e elt gens scope
    | _ => false
  | _ => false
def ck (nm : Nm) : Nat → Ck
  | 0 => ⟨fun _ _ _ => false, fun _ _ _ => false, fun _ _ _ _ => false, fun _ _ _ _ => false, fun _ _ _ => false, fun _ _ _ => false, fun _ _ _ => false, fun _ _ _ _ => false, fun _ _ _ _ => false, fun _ _ _ => false⟩
  | n + 1 => ⟨eB nm (ck nm n), tB_ (ck nm n), bB (ck nm n), wB_ (ck nm n), esB (ck nm n), oB (ck nm n), iB (ck nm n), gB (ck nm n), gsB (ck nm n), cB (ck nm n)⟩

/-! ### what a context must keep -/
structure Cs (k : SC) (X : L2.Cx) : Prop where
  N : X.N = k.N
  sc : X.env.scope = k.sc
  fn : ∀ x, k.fn x = true → X.fn x = true
section
variable {c : Cf} {Γ : Gl} {nm : Nm} {n : Nat} {k : SC} {X : L2.Cx} {Wx : L2.WX}
theorem seq_eq {a b : Str} (h : seq a b = true) : a = b := of_decide_eq_true h
theorem oEq_eq {a : Option Str} {b : Str} (h : oEq a b = true) : a = some b := by
  cases a with
  | none => cases h
  | some x => rw [seq_eq h]
theorem Cs.vis {x : Str} (s : Cs k X) (h : visB k x = true) : Vis X.env.scope x := by
  rw [s.sc]
  unfold visB at h
  split at h <;> first | exact .inl (by assumption) | exact .inr (.inl (by assumption)) | exact .inr (.inr (by assumption)) | cases h
theorem Cs.gl {x : Str} (s : Cs k X) (h : glB k x = true) : L2.Gl X x := by
  show X.env.scope.names.lookup x = _
  rw [s.sc]
  unfold glB at h
  split at h
  · assumption
  · cases h
theorem Cs.lc {x : Str} (s : Cs k X) (h : lcB k x = true) : X.env.scope.names.lookup x = some .local := by
  rw [s.sc]
  unfold lcB at h
  split at h
  · assumption
  · cases h
theorem Cs.loc {x : Str} (s : Cs k X) (h : locB k x = true) : Loc X.env.scope x ∧ (X.fn x = true ∨ X.env.scope.names.lookup x = some .local) := by
  rw [s.sc]
  unfold locB at h
  split at h
  · rename_i e; exact ⟨.inl e, .inr e⟩
  · rename_i e; exact ⟨.inr e, .inl (s.fn x h)⟩
  · cases h
theorem Cs.nth {i : Nat} {x : Str} (s : Cs k X) (h : oEq k.N[i]? x = true) : X.N[i]? = some x := by rw [s.N]; exact oEq_eq h
theorem dbg_ok {x : Str} (h : dbg x = true) : (x == ("__debug__" : Str)) = false := by
  unfold dbg at h
  cases e : (x == ("__debug__" : Str)) with
  | false => rfl
  | true => rw [e] at h; cases h
theorem plainNm_ok {x : Str} (h : plainNm x = true) : (x == ("__debug__" : Str)) = false ∧ (x == ("__classdict__" : Str)) = false := by
  unfold plainNm at h
  rw [Bool.and_eq_true] at h
  exact ⟨dbg_ok h.1, by
    cases e : (x == ("__classdict__" : Str)) with
    | false => rfl
    | true => rw [e] at h; cases h.2⟩
theorem okTxB_ok {s : Tx} (h : okTxB s = true) : okTx s := fun a ha => by
  have := List.all_eq_true.mp h a ha
  rwa [Nat.blt_eq] at this
theorem he_cstB {p : PV} {q : Const} {j : Nat} {pos : Pos} (h : cstB p q = true) : HE c X Wx (fun _ h => .ok (.pv p) h) (.Constant q j pos) := by
  cases p with
  | non => cases q <;> first | exact he_cst L2.pe_non fun _ _ => .pv .non | cases h
  | bl a =>
    cases q with
    | bool b =>
      have : a = b := by have h' : beqB a b = true := h; rw [beqB_eq] at h'; exact eq_of_beq h'
      subst this
      exact he_cst L2.pe_bl fun _ _ => .pv (.bl a)
    | _ => cases h
  | int i =>
    cases q with
    | int b =>
      have : i = b := by have h' : ieq i b = true := h; rw [ieq_eq] at h'; exact of_decide_eq_true h'
      subst this
      exact he_cst L2.pe_int fun _ _ => .pv (.int i)
    | _ => cases h
  | str s =>
    cases q with
    | str t =>
      have h' : (txEq s t.cps.toList && okTxB s) = true := h
      rw [Bool.and_eq_true, txEq_eq] at h'
      have e : t = toStr s := by rw [of_decide_eq_true h'.1, toStr_eq]
      subst e
      exact he_cst L2.pe_str fun _ _ => .pv (.str s (okTxB_ok h'.2))
    | _ => cases h
  | _ => cases h
/-- into a block -/
theorem Ct.blk (ct : Ct c Γ nm n X Wx) {s : Shared} {H : AH} {C : Addr} {cl : List (Str × Addr)} {fp : List Addr} {scope : Scope} {own : List (Str × Nat)} (ok : L2.BlkOk X.N X.env.scope scope own) :
    Ct c Γ nm n (X.blk s H scope (PySem.compEnvC scope cl C X.env) fp) WxF :=
  ⟨ct.ok, ct.K, ct.nd, ok.kind, ct.calm, ct.gu, ct.room, fun _ _ ⟨_, _, _, _, _, _, _, _, _, _, _, _, _, _, _, _, w⟩ => w.elim, ct.fns, ct.gls, ct.blt⟩
theorem Cs.blk (s : Cs k X) {sh : Shared} {H : AH} {C : Addr} {cl : List (Str × Addr)} {fp : List Addr} {scope : Scope} : Cs (k.blk scope) (X.blk sh H scope (PySem.compEnvC scope cl C X.env) fp) :=
  ⟨s.N, by show PySem.relabel scope X.env = _; rw [show (k.blk scope).sc = L2.relS scope k.sc from rfl, ← s.sc]; rfl, fun x h => h⟩
end
end Sx
end

section
set_option autoImplicit false
set_option linter.all false
set_option Elab.async false
namespace Sx
open PySem
open L2 (V St SqL SqT Rd upd upd_same upd_ne HO PE PT PW PA PS PSs PG PGs PI PTs VK OpR Dp Room Env0 CallR Ends Loc Vis TE TT TI)

def chP (ch : Option (List Nat)) : Nat → Prop := match ch with
  | none => fun _ => True
  | some l => fun i => i ∈ l
theorem inO_ok {ch : Option (List Nat)} {i : Nat} (h : inO ch i = true) : chP ch i := by
  cases ch with
  | none => trivial
  | some l =>
    have h' : l.contains i = true := h
    exact List.contains_iff_mem.mp h'
/-- the checks are sound -/
structure CkOk (c : Cf) (Γ : Gl) (nm : Nm) (n : Nat) (r : Ck) : Prop where
  e : ∀ {k : SC} {X : L2.Cx} {Wx : L2.WX} {e : E} {x : Expr}, Ct c Γ nm n X Wx → Cs k X → r.e k e x = true → HE c X Wx (evE Γ (run Γ n) e) x
  t : ∀ {k : SC} {X : L2.Cx} {Wx : L2.WX} {e : E} {x : Expr}, Ct c Γ nm n X Wx → Cs k X → r.t k e x = true → HT c X Wx (evE Γ (run Γ n) e) x
  b : ∀ {k : SC} {X : L2.Cx} {Wx : L2.WX} {e : E} {op : PySem.BoolOp} {es : List Expr} (pos : Pos), Ct c Γ nm n X Wx → Cs k X → r.b k op e es = true → HE c X Wx (evE Γ (run Γ n) e) (.BoolOp op es pos)
  w : ∀ {k : SC} {X : L2.Cx} {Wx : L2.WX} {e : E} {op : PySem.BoolOp} {es : List Expr} (pos : Pos), Ct c Γ nm n X Wx → Cs k X → r.w k op e es = true → HW c X Wx (evE Γ (run Γ n) e) (.BoolOp op es pos)
  es : ∀ {k : SC} {X : L2.Cx} {Wx : L2.WX} {e : Es} {x : List Expr}, Ct c Γ nm n X Wx → Cs k X → r.es k e x = true → HA c X Wx (evEs Γ (run Γ n) e) x
  o : ∀ {k : SC} {X : L2.Cx} {Wx : L2.WX} {e : Oe} {x : Option Expr}, Ct c Γ nm n X Wx → Cs k X → r.o k e x = true → HO_ c X Wx (evO Γ (run Γ n) e) x
  i : ∀ {k : SC} {X : L2.Cx} {Wx : L2.WX} {e : It} {x : Expr} (tg : Expr), Ct c Γ nm n X Wx → Cs k X → r.i k e x = true → HI c X Wx (evI Γ (run Γ n) e) tg x
  g : ∀ {k : SC} {X : L2.Cx} {Wx : L2.WX} {ch : Option (List Nat)} {e : Tg} {x : Expr}, Ct c Γ nm n X Wx → Cs k X → r.g k ch e x = true → HG c X Wx (chP ch) (asT Γ (run Γ n) e) x
  gs : ∀ {k : SC} {X : L2.Cx} {Wx : L2.WX} {ch : Option (List Nat)} {e : Tgs} {x : List Expr}, Ct c Γ nm n X Wx → Cs k X → r.gs k ch e x = true → HGs c X Wx (chP ch) (asTs Γ (run Γ n) e) x
  cl : ∀ {k : SC} {X : L2.Cx} {Wx : L2.WX} {e : Oe} {x : List Expr}, Ct c Γ nm n X Wx → Cs k X → r.c k e x = true → HTs c X Wx (evC Γ (run Γ n) e) x
  tc : ∀ {k : SC} {X : L2.Cx} {Wx : L2.WX} {o : Cop} {a b : E} {x : Expr}, Ct c Γ nm n X Wx → Cs k X → r.e k (.cmp o a b) x = true → HT c X Wx (evE Γ (run Γ n) (.cmp o a b)) x
  th : ∀ {k : SC} {X : L2.Cx} {Wx : L2.WX} {o p : Cop} {a b d : E} {x : Expr}, Ct c Γ nm n X Wx → Cs k X → r.e k (.chain o p a b d) x = true → HT c X Wx (evE Γ (run Γ n) (.chain o p a b d)) x

section
variable {c : Cf} {Γ : Gl} {nm : Nm} {n : Nat} {r : Ck} {k : SC} {X : L2.Cx} {Wx : L2.WX}
theorem and2 {a b : Bool} (h : (a && b) = true) : a = true ∧ b = true := by rwa [Bool.and_eq_true] at h
theorem not1 {a : Bool} (h : (!a) = true) : a = false := by cases a <;> first | rfl | cases h
theorem Ct.un (ct : Ct c Γ nm n X Wx) : X.A.units + 65 < cLine := by have := ct.room.un; omega
theorem blt_at (ct : Ct c Γ nm n X Wx) {x : Str} (h : x ∈ bltNames) : X.mg x = none := ct.blt x h
theorem bB_ok (ok : CkOk c Γ nm n r) {e : E} {op : PySem.BoolOp} {es : List Expr} (pos : Pos) (ct : Ct c Γ nm n X Wx) (cs : Cs k X) (h : bB r k op e es = true) : HE c X Wx (evE Γ (run Γ n) e) (.BoolOp op es pos) := by
  unfold bB at h
  split at h
  · exact he_one (ok.e ct cs h)
  · split at h
    · split at h
      · obtain ⟨h1, h2⟩ := and2 h
        exact he_nd ct.K (ok.e ct cs h1) (ok.b pos ct cs h2)
      · cases h
    · split at h
      · obtain ⟨h1, h2⟩ := and2 h
        exact he_or ct.K (ok.e ct cs h1) (ok.b pos ct cs h2)
      · cases h
  · cases h
theorem wB_ok (ok : CkOk c Γ nm n r) {e : E} {op : PySem.BoolOp} {es : List Expr} (pos : Pos) (ct : Ct c Γ nm n X Wx) (cs : Cs k X) (h : wB_ r k op e es = true) : HW c X Wx (evE Γ (run Γ n) e) (.BoolOp op es pos) := by
  unfold wB_ at h
  split at h
  · exact hw_one (ok.t ct cs h)
  · split at h
    · split at h
      · obtain ⟨h1, h2⟩ := and2 h
        exact hw_nd (ok.t ct cs h1) (ok.w pos ct cs h2)
      · cases h
    · split at h
      · obtain ⟨h1, h2⟩ := and2 h
        exact hw_or (ok.t ct cs h1) (ok.w pos ct cs h2)
      · cases h
  · cases h
theorem esB_ok (ok : CkOk c Γ nm n r) {e : Es} {x : List Expr} (ct : Ct c Γ nm n X Wx) (cs : Cs k X) (h : esB r k e x = true) : HA c X Wx (evEs Γ (run Γ n) e) x := by
  unfold esB at h
  split at h
  · split at h
    · exact ha_nil
    · cases h
  · split at h
    · obtain ⟨h1, h3⟩ := and2 h
      obtain ⟨h1, h2⟩ := and2 h1
      exact ha_cons (ok.e ct cs h2) (ok.es ct cs h3) (star_cons h1)
    · cases h
theorem oB_ok (ok : CkOk c Γ nm n r) {e : Oe} {x : Option Expr} (ct : Ct c Γ nm n X Wx) (cs : Cs k X) (h : oB r k e x = true) : HO_ c X Wx (evO Γ (run Γ n) e) x := by
  unfold oB at h
  split at h
  · split at h
    · exact ho_none
    · cases h
  · split at h
    · exact ho_some (ok.e ct cs h)
    · cases h
theorem cB_ok (ok : CkOk c Γ nm n r) {e : Oe} {x : List Expr} (ct : Ct c Γ nm n X Wx) (cs : Cs k X) (h : cB r k e x = true) : HTs c X Wx (evC Γ (run Γ n) e) x := by
  unfold cB at h
  split at h
  · split at h
    · exact hts_nil
    · cases h
  · split at h
    · exact hts_one (ok.t ct cs h)
    · cases h
theorem iB_ok (ok : CkOk c Γ nm n r) {e : It} {x : Expr} (tg : Expr) (ct : Ct c Γ nm n X Wx) (cs : Cs k X) (h : iB r k e x = true) : HI c X Wx (evI Γ (run Γ n) e) tg x := by
  unfold iB at h
  split at h
  · exact hi_seq ct.K (ok.e ct cs h)
  · split at h
    · obtain ⟨h, h4⟩ := and2 h
      obtain ⟨h, h3⟩ := and2 h
      obtain ⟨h1, h2⟩ := and2 h
      rw [seq_eq h1]
      exact hi_rng1 (cs.gl h2) (blt_at ct (by decide +kernel)) h3 (ok.e ct cs h4)
    · cases h
  · split at h
    · obtain ⟨h, h6⟩ := and2 h
      obtain ⟨h, h5⟩ := and2 h
      obtain ⟨h, h4⟩ := and2 h
      obtain ⟨h, h3⟩ := and2 h
      obtain ⟨h1, h2⟩ := and2 h
      rw [seq_eq h1]
      exact hi_rng2 (cs.gl h2) (blt_at ct (by decide +kernel)) h3 h4 (ok.e ct cs h5) (ok.e ct cs h6)
    · cases h
  · cases h
theorem gB_ok (ok : CkOk c Γ nm n r) {ch : Option (List Nat)} {e : Tg} {x : Expr} (ct : Ct c Γ nm n X Wx) (cs : Cs k X) (h : gB r k ch e x = true) : HG c X Wx (chP ch) (asT Γ (run Γ n) e) x := by
  unfold gB at h
  split at h
  · split at h
    · obtain ⟨h, h3⟩ := and2 h
      obtain ⟨h1, h2⟩ := and2 h
      obtain ⟨h4, h5⟩ := cs.loc h2
      exact hg_name (inO_ok h3) ct.nd (cs.nth h1) h4 h5
    · cases h
  · split at h
    · obtain ⟨h1, h2⟩ := and2 h
      exact hg_tup ct.K ct.calm h1 (ok.gs ct cs h2)
    · cases h
  · split at h
    · obtain ⟨h, h3⟩ := and2 h
      obtain ⟨h1, h2⟩ := and2 h
      exact hg_sub h1 (ok.e ct cs h2) (ok.e ct cs h3)
    · cases h
  · cases h
theorem gsB_ok (ok : CkOk c Γ nm n r) {ch : Option (List Nat)} {e : Tgs} {x : List Expr} (ct : Ct c Γ nm n X Wx) (cs : Cs k X) (h : gsB r k ch e x = true) : HGs c X Wx (chP ch) (asTs Γ (run Γ n) e) x := by
  unfold gsB at h
  split at h
  · split at h
    · exact hgs_nil
    · cases h
  · split at h
    · obtain ⟨h, h3⟩ := and2 h
      obtain ⟨h1, h2⟩ := and2 h
      exact hgs_cons h1 (ok.g ct cs h2) (ok.gs ct cs h3)
    · cases h
theorem set_iter {e : Expr} {env : PySem.Env} (h : noSet e = true) : ∀ x, foldedSetIterable e env x = pure x := by
  intro x
  cases e <;> first | rfl | cases h
theorem ownP_ix {own : List Nat} : (ownP k own).map (·.2) = own := by
  unfold ownP
  rw [List.map_map]
  exact List.map_id' own
theorem lcB_ok (ok : CkOk c Γ nm n r) {own : List Nat} {t : Tg} {it : It} {cd : Oe} {e : E} {elt : Expr} {gens : List Comprehension} {scope : Scope} (ct : Ct c Γ nm n X Wx) (cs : Cs k X) (h : lcB_ r k own t it cd e elt gens scope = true) :
    ∃ tg iter ifs, gens = [⟨tg, iter, ifs, 0⟩] ∧ L2.BlkOk X.N X.env.scope scope (ownP k own) ∧ (∀ x, foldedSetIterable iter X.env x = pure x) ∧ HI c X Wx (evI Γ (run Γ n) it) tg iter ∧
      (∀ (s : Shared) (H : AH) (C : Addr) (cl : List (Str × Addr)) (fp : List Addr), HG c (X.blk s H scope (PySem.compEnvC scope cl C X.env) fp) WxF (· ∈ (ownP k own).map (·.2)) (asT Γ (run Γ n) t) tg) ∧
      (∀ (s : Shared) (H : AH) (C : Addr) (cl : List (Str × Addr)) (fp : List Addr), HTs c (X.blk s H scope (PySem.compEnvC scope cl C X.env) fp) WxF (evC Γ (run Γ n) cd) ifs) ∧
      (∀ (s : Shared) (H : AH) (C : Addr) (cl : List (Str × Addr)) (fp : List Addr), HE c (X.blk s H scope (PySem.compEnvC scope cl C X.env) fp) WxF (evE Γ (run Γ n) e) elt) := by
  unfold lcB_ at h
  split at h
  · rename_i tg iter ifs a
    obtain ⟨h, h7⟩ := and2 h
    obtain ⟨h, h6⟩ := and2 h
    obtain ⟨h, h5⟩ := and2 h
    obtain ⟨h, h4⟩ := and2 h
    obtain ⟨h, h3⟩ := and2 h
    obtain ⟨h1, h2⟩ := and2 h
    have ha : a = 0 := of_decide_eq_true h1
    subst ha
    have bo : L2.BlkOk X.N X.env.scope scope (ownP k own) := by rw [cs.N, cs.sc]; exact L2.blkOk_by h2
    refine ⟨tg, iter, ifs, rfl, bo, set_iter h3, ok.i tg ct cs h4, fun s H C cl fp => ?_, fun s H C cl fp => ok.cl (ct.blk bo) cs.blk h6, fun s H C cl fp => ok.e (ct.blk bo) cs.blk h7⟩
    rw [ownP_ix]
    exact ok.g (ch := some own) (ct.blk bo) cs.blk h5
  · cases h
theorem prim_blt {p : Prim} {x : Str} (h : primNm p = some x) : x ∈ bltNames := by
  cases p <;> first | (cases h; decide +kernel) | cases h
theorem eB_ok (ok : CkOk c Γ nm n r) {e : E} {x : Expr} (ct : Ct c Γ nm n X Wx) (cs : Cs k X) (h : eB nm r k e x = true) : HE c X Wx (evE Γ (run Γ n) e) x := by
  unfold eB at h
  split at h
  · split at h
    · obtain ⟨h, h3⟩ := and2 h
      obtain ⟨h1, h2⟩ := and2 h
      obtain ⟨h4, h5⟩ := plainNm_ok h3
      exact he_var (cs.nth h1) (cs.vis h2) h4 h5
    · cases h
  · split at h
    · obtain ⟨h, h3⟩ := and2 h
      obtain ⟨h1, h2⟩ := and2 h
      obtain ⟨u, v, w, g1, g2, g3, g4⟩ := ct.gls _ _ (oEq_eq h1)
      have q := he_glob (c := c) (Wx := Wx) (pos := by assumption) (cs.gl h2) g1 g2 (plainNm_ok h3).1 g4
      have e : (evE Γ (run Γ n) (.glob (by assumption))) = fun _ h => R.ok w h := by
        funext ρ h
        show R.ofO (Γ.glob.get _) h = _
        rw [g3]; rfl
      rw [e]
      exact q
    · cases h
  · split at h
    · exact he_cstB h
    · cases h
  · split at h
    · exact he_tup (ok.es ct cs h)
    · cases h
  · split at h
    · exact he_lst (ok.es ct cs h)
    · cases h
  · split at h
    · obtain ⟨h, h3⟩ := and2 h
      obtain ⟨h1, h2⟩ := and2 h
      rw [of_decide_eq_true h1]
      exact he_B ct.K (ok.e ct cs h2) (ok.e ct cs h3)
    · cases h
  · split at h
    · exact he_neg (ok.e ct cs h)
    · cases h
  · split at h
    · exact he_not ct.K (ok.e ct cs h)
    · cases h
  · split at h
    · exact ok.b _ ct cs h
    · cases h
  · split at h
    · exact ok.b _ ct cs h
    · cases h
  · split at h
    · obtain ⟨h, h4⟩ := and2 h
      obtain ⟨h, h3⟩ := and2 h
      obtain ⟨h1, h2⟩ := and2 h
      have e := of_decide_eq_true h1
      subst e
      exact he_C ct.ok ct.K ct.un (not1 h2) (ok.e ct cs h3) (ok.e ct cs h4)
    · cases h
  · split at h
    · obtain ⟨h, h6⟩ := and2 h
      obtain ⟨h, h5⟩ := and2 h
      obtain ⟨h, h4⟩ := and2 h
      obtain ⟨h, h3⟩ := and2 h
      obtain ⟨h1, h2⟩ := and2 h
      have e1 := of_decide_eq_true h1
      have e2 := of_decide_eq_true h2
      subst e1
      subst e2
      exact he_chain ct.ok ct.K ct.un (not1 h3) (ok.e ct cs h4) (ok.e ct cs h5) (ok.e ct cs h6)
    · cases h
  · split at h
    · obtain ⟨h, h7⟩ := and2 h
      obtain ⟨h, h6⟩ := and2 h
      obtain ⟨h, h5⟩ := and2 h
      obtain ⟨h, h4⟩ := and2 h
      obtain ⟨h, h3⟩ := and2 h
      obtain ⟨h1, h2⟩ := and2 h
      have e1 := seq_eq h1
      have e2 := seq_eq h2
      subst e1
      subst e2
      exact he_like ct.K ct.gu (by have := ct.un; omega) (cs.gl h3) (blt_at ct (by decide +kernel)) h4 h5 (ok.e ct cs h6) (ok.e ct cs h7)
    · cases h
  · split at h
    · obtain ⟨h, h3⟩ := and2 h
      obtain ⟨h1, h2⟩ := and2 h
      exact he_ite (ok.t ct cs h1) (ok.e ct cs h2) (ok.e ct cs h3)
    · cases h
  · split at h
    · obtain ⟨h, h3⟩ := and2 h
      obtain ⟨h1, h2⟩ := and2 h
      exact he_ix ct.K (ix_plain h1) (ok.e ct cs h2) (ok.e ct cs h3)
    · cases h
  · split at h
    · obtain ⟨h, h3⟩ := and2 h
      obtain ⟨h1, h2⟩ := and2 h
      exact he_slc ct.K (ok.e ct cs h1) (ok.o ct cs h2) (ok.o ct cs h3)
    · cases h
  · split at h
    · obtain ⟨h, h4⟩ := and2 h
      obtain ⟨h, h3⟩ := and2 h
      obtain ⟨h1, h2⟩ := and2 h
      split at h4
      · split at h4
        · exact he_call0 ct (oEq_eq h1) (cs.gl h2) (dbg_ok h3)
        · cases h4
      · obtain ⟨h5, h6⟩ := and2 h4
        have h7 := h5
        rw [List.all_cons, Bool.and_eq_true] at h7
        exact he_call ct (oEq_eq h1) (cs.gl h2) (dbg_ok h3) (ok.es ct cs h6) (star_cons h7.1) (star_any h7.2)
    · cases h
  · split at h
    · obtain ⟨h, h4⟩ := and2 h
      obtain ⟨h, h3⟩ := and2 h
      obtain ⟨h1, h2⟩ := and2 h
      have hp := oEq_eq h1
      exact he_prim ct.K hp (cs.gl h2) (blt_at ct (prim_blt hp)) h3 (ok.es ct cs h4)
    · cases h
  · split at h
    · obtain ⟨h, h4⟩ := and2 h
      obtain ⟨h, h3⟩ := and2 h
      obtain ⟨h1, h2⟩ := and2 h
      split at h4
      · split at h4
        · split at h4
          · rw [seq_eq h4]
            exact he_upper h1 h2 (ok.e ct cs h3)
          · cases h4
        · cases h4
      · split at h4
        · obtain ⟨h4, h6⟩ := and2 h4
          obtain ⟨h4, h5⟩ := and2 h4
          rw [seq_eq h4]
          exact he_append ct.K h1 h2 h5 (ok.e ct cs h3) (ok.es ct cs h6)
        · cases h4
      · cases h4
    · cases h
  · split at h
    · obtain ⟨tg, iter, ifs, rfl, bo, hs, hi, hg, ht, he⟩ := lcB_ok ok ct cs h
      have q := he_lc (m := by assumption) (pos := by assumption) ct.calm ct.nd bo hs hi hg ht he
      rw [ownP_ix] at q
      exact q
    · cases h
  · cases h
theorem plain_test {e : Expr} {env : PySem.Env} (h1 : ∀ a p, e ≠ .UnaryOp .Not a p) (h2 : ∀ o es p, e ≠ .BoolOp o es p) (h3 : ∀ a b d p, e ≠ .IfExp a b d p) (h4 : ∀ a b d p, e ≠ .Compare a b d p) :
    ∀ whole, isTrue e env whole = (do let v ← whole; standAt e.pos; holding [v] (truthy v)) := by
  intro whole
  cases e with
  | UnaryOp op a p => cases op <;> first | rfl | exact (h1 _ _ rfl).elim
  | BoolOp o es p => exact (h2 _ _ _ rfl).elim
  | IfExp a b d p => exact (h3 _ _ _ _ rfl).elim
  | Compare a b d p => exact (h4 _ _ _ _ rfl).elim
  | _ => rfl
theorem tB_ok (ok : CkOk c Γ nm n r) {e : E} {x : Expr} (ct : Ct c Γ nm n X Wx) (cs : Cs k X) (h : tB_ r k e x = true) : HT c X Wx (evE Γ (run Γ n) e) x := by
  unfold tB_ at h
  split at h
  · split at h
    · exact ht_not (ok.t ct cs h)
    · cases h
  · exact (ok.w _ ct cs h).ht
  · cases h
  · split at h
    · exact ok.tc ct cs h
    · exact ok.th ct cs h
    · cases h
  · rename_i h1 h2 h3 h4
    exact ht_of (ok.e ct cs h) ct.K (plain_test h1 h2 h3 h4) fun d h H w v k r rv e => truth_ok r rv e
theorem tc_ok (ok : CkOk c Γ nm n r) {o : Cop} {a b : E} {x : Expr} (ct : Ct c Γ nm n X Wx) (cs : Cs k X) (h : eB nm r k (.cmp o a b) x = true) : HT c X Wx (evE Γ (run Γ n) (.cmp o a b)) x := by
  simp only [eB] at h
  split at h
  · obtain ⟨h, h4⟩ := and2 h
    obtain ⟨h, h3⟩ := and2 h
    obtain ⟨h1, h2⟩ := and2 h
    have e := of_decide_eq_true h1
    subst e
    exact ht_C ct.ok ct.K ct.un (not1 h2) (ok.e ct cs h3) (ok.e ct cs h4)
  · cases h
theorem th_ok (ok : CkOk c Γ nm n r) {o p : Cop} {a b d : E} {x : Expr} (ct : Ct c Γ nm n X Wx) (cs : Cs k X) (h : eB nm r k (.chain o p a b d) x = true) : HT c X Wx (evE Γ (run Γ n) (.chain o p a b d)) x := by
  simp only [eB] at h
  split at h
  · obtain ⟨h, h6⟩ := and2 h
    obtain ⟨h, h5⟩ := and2 h
    obtain ⟨h, h4⟩ := and2 h
    obtain ⟨h, h3⟩ := and2 h
    obtain ⟨h1, h2⟩ := and2 h
    have e1 := of_decide_eq_true h1
    have e2 := of_decide_eq_true h2
    subst e1
    subst e2
    exact ht_chain ct.ok ct.K ct.un (not1 h3) (ok.e ct cs h4) (ok.e ct cs h5) (ok.e ct cs h6)
  · cases h
end
theorem ck_ok {c : Cf} {Γ : Gl} {nm : Nm} {n : Nat} : ∀ m : Nat, CkOk c Γ nm n (ck nm m)
  | 0 => by constructor <;> (intros; rename_i h; exact (Bool.false_ne_true h).elim)
  | m + 1 => by
    have ok := ck_ok (c := c) (Γ := Γ) (nm := nm) (n := n) m
    exact ⟨fun ct cs h => eB_ok ok ct cs h, fun ct cs h => tB_ok ok ct cs h, fun pos ct cs h => bB_ok ok pos ct cs h, fun pos ct cs h => wB_ok ok pos ct cs h, fun ct cs h => esB_ok ok ct cs h, fun ct cs h => oB_ok ok ct cs h,
      fun tg ct cs h => iB_ok ok tg ct cs h, fun ct cs h => gB_ok ok ct cs h, fun ct cs h => gsB_ok ok ct cs h, fun ct cs h => cB_ok ok ct cs h, fun ct cs h => tc_ok ok ct cs h, fun ct cs h => th_ok ok ct cs h⟩
end Sx
end

section
set_option autoImplicit false
set_option linter.all false
set_option Elab.async false
namespace Sx
open PySem
open L2 (V St SqL SqT Rd upd upd_same upd_ne HO PE PT PW PA PS PSs PG PGs PI PTs VK OpR Dp Room Env0 CallR Ends Loc Vis TE TT TI)

/-! ### statements -/
/-- whether a stored comprehension is stored as it is made -/
def swB (k : SC) (v : Expr) (y : Str) (p : Pos) : Option Bool := match v with
  | .ListComp _ _ s lp => some (lcB k y && (p.line == lp.line) && !(s.names.any fun (n, kd) => n == y && (kd == .local || kd == .cell)))
  | .SetComp _ _ _ _ => none
  | .DictComp _ _ _ _ _ => none
  | _ => some false
/-- the names of a, b = x, y that are stored from the right -/
def swT (k : SC) (ts vs : List Expr) : Option (Option (List Str)) :=
  if !(ts.length == 2 || ts.length == 3) || vs.length != ts.length then some none
  else if vs.any fun | .Starred .. => true | _ => false then some none
  else
    let line := (ts.head?.map (·.pos.line)).getD 0
    let names := ts.filterMap fun
      | .Name id pos => if k.sc.names.lookup id == some .local && pos.line == line then some id else none
      | _ => none
    if names.length != ts.length || names.eraseDups.length != names.length then some none
    else if vs.all (foldedForSure 8) then some none
    else if vs.all (constantsAlone 8) then none
    else some (some names)
def swS (k : SC) (tg v : Expr) : Option (Option (List Str)) := match tg with
  | .Tuple ts _ _ => match v with
    | .Tuple vs _ _ => swT k ts vs
    | _ => some none
  | .List _ _ => none
  | _ => some none
def isNone2 (o : Option (Option (List Str))) : Bool := match o with
  | some none => true
  | _ => false
def isSome2 (o : Option (Option (List Str))) (l : List Str) : Bool := match o with
  | some (some m) => decide (m = l)
  | _ => false
def noName : Expr → Bool
  | .Name _ _ => false
  | _ => true
structure CkS where
  s : SC → S → Stmt → Bool
  ss : SC → Ss → List Stmt → Bool
def ssB (q : CkS) (k : SC) (e : Ss) (x : List Stmt) : Bool := match e with
  | .nil => match x with
    | [] => true
    | _ => false
  | .cons s ss => match x with
    | y :: r2 => q.s k s y && q.ss k ss r2
    | [] => false
def setB (r : Ck) (k : SC) (t : Tg) (e : E) (tg v : Expr) : Bool := match tg with
  | .Name y p => match t with
    | .nm i => oEq k.N[i]? y && match swB k v y p with
      | some false => locB k y && r.e k e v
      | some true => lcB k y && match e with
        | .lc _ own t2 it cd e2 => match v with
          | .ListComp elt gens scope _ => lcB_ r k own t2 it cd e2 elt gens scope
          | _ => false
        | _ => false
      | none => false
    | _ => false
  | _ => noName tg && noStar tg && isNone2 (swS k tg v) && r.g k none t tg && r.e k e v
def sB (r : Ck) (q : CkS) (k : SC) (st : S) (x : Stmt) : Bool := match st with
  | .set t e => match x with
    | .Assign [tg] v _ => setB r k t e tg v
    | _ => false
  | .par2 i j a b => match x with
    | .Assign [.Tuple [.Name x px, .Name y py] kt pt] (.Tuple [p, s] k2 pt2) _ =>
      oEq k.N[i]? x && oEq k.N[j]? y && decide (i ≠ j) && lcB k x && lcB k y && noStar p && noStar s && isSome2 (swT k [.Name x px, .Name y py] [p, s]) [x, y] && r.e k a p && r.e k b s
    | _ => false
  | .par3 i j l a b d => match x with
    | .Assign [.Tuple [.Name x px, .Name y py, .Name z pz] kt pt] (.Tuple [p, s, u] k2 pt2) _ =>
      oEq k.N[i]? x && oEq k.N[j]? y && oEq k.N[l]? z && decide (i ≠ j) && decide (i ≠ l) && decide (j ≠ l) && lcB k x && lcB k y && lcB k z && noStar p && noStar s && noStar u &&
        isSome2 (swT k [.Name x px, .Name y py, .Name z pz] [p, s, u]) [x, y, z] && r.e k a p && r.e k b s && r.e k d u
    | _ => false
  | .expr e => match x with
    | .Expr v _ => noComp v && r.e k e v
    | _ => false
  | .sif t a b => match x with
    | .If u p s _ => r.t k t u && q.ss k a p && q.ss k b s
    | _ => false
  | .for_ t it b => match x with
    | .For tg iter body [] _ => noSet iter && r.i k it iter && r.g k none t tg && q.ss k b body
    | _ => false
  | .whl _ t b => match x with
    | .While u body [] _ => r.t k t u && q.ss k b body
    | _ => false
  | .ret e => match x with
    | .Return (some v) _ => r.e k e v
    | _ => false
  | .retN => match x with
    | .Return none _ => true
    | _ => false
  | .pass => match x with
    | .Pass _ => true
    | _ => false
  | .cont => match x with
    | .Continue _ => true
    | _ => false
  | _ => false
def ckS (nm : Nm) : Nat → CkS
  | 0 => ⟨fun _ _ _ => false, fun _ _ _ => false⟩
  | n + 1 => ⟨sB (ck nm n) (ckS nm n), ssB (ckS nm n)⟩

/-- a def's body: its frame takes what it raises -/
structure Ct1 (c : Cf) (Γ : Gl) (nm : Nm) (n : Nat) (X : L2.Cx) (Wx : L2.WX) : Prop extends Ct c Γ nm n X Wx where
  pass : PassesOwn (model X.prog X.w) X.A X.env X.xe
structure CkSOk (c : Cf) (Γ : Gl) (nm : Nm) (n : Nat) (q : CkS) : Prop where
  s : ∀ {k : SC} {X : L2.Cx} {Wx : L2.WX} {s : S} {x : Stmt}, Ct1 c Γ nm n X Wx → Cs k X → q.s k s x = true → HS c X Wx (evS Γ (run Γ n) s) x
  ss : ∀ {k : SC} {X : L2.Cx} {Wx : L2.WX} {s : Ss} {x : List Stmt}, Ct1 c Γ nm n X Wx → Cs k X → q.ss k s x = true → HSs c X Wx (evSs Γ (run Γ n) s) x

section
variable {c : Cf} {Γ : Gl} {nm : Nm} {n : Nat} {r : Ck} {q : CkS} {k : SC} {X : L2.Cx} {Wx : L2.WX}
theorem ssB_ok (ok : CkSOk c Γ nm n q) {e : Ss} {x : List Stmt} (ct : Ct1 c Γ nm n X Wx) (cs : Cs k X) (h : ssB q k e x = true) : HSs c X Wx (evSs Γ (run Γ n) e) x := by
  unfold ssB at h
  split at h
  · split at h
    · exact hss_nil
    · cases h
  · split at h
    · obtain ⟨h1, h2⟩ := and2 h
      exact hss_cons (ok.s ct cs h1) (ok.ss ct cs h2)
    · cases h
theorem blk_kind (ct : Ct c Γ nm n X Wx) : X.env.blockKind = .function := by
  unfold Env.blockKind
  rw [ct.kind]
  rfl
theorem swB_ok (ct : Ct c Γ nm n X Wx) (cs : Cs k X) {v : Expr} {y : Str} {p : Pos} {l : Nat} {b : Bool} (h : swB k v y p = some b) : swapsWith v (some (.Name y p)) l X.env = pure b := by
  have hb := blk_kind ct
  unfold swB at h
  split at h
  · rename_i elt gens s lp
    have e : swapsWith (.ListComp elt gens s lp) (some (.Name y p)) l X.env = pure (X.env.blockKind == .function && X.env.kindOf y == some .local && p.line == lp.line && !(s.names.any fun (n, kd) => n == y && (kd == .local || kd == .cell))) := rfl
    rw [e, hb]
    cases h
    congr 1
    have e2 : (X.env.kindOf y == some .local) = lcB k y := by
      show (X.env.scope.names.lookup y == some .local) = _
      rw [cs.sc]
      unfold lcB
      split
      · rename_i e3; rw [e3]; rfl
      · rename_i e3
        rw [beq_eq_false_iff_ne]
        exact fun z => e3 z
    rw [e2]
    rfl
  · cases h
  · cases h
  · cases h
    unfold swapsWith
    split
    · rename_i h1 h2 h3 _ _ e
      split at e
      · exact (h1 _ _ _ _ rfl).elim
      · exact (h2 _ _ _ _ rfl).elim
      · exact (h3 _ _ _ _ _ rfl).elim
      · cases e
    · rfl
theorem sw_expr {v : Expr} {l : Nat} {env : PySem.Env} (h : noComp v = true) : swapsWith v none l env = pure false := by
  cases v <;> first | rfl | cases h
theorem sw_other {tg v : Expr} {l : Nat} {env : PySem.Env} (h : noName tg = true) : swapsWithSole [tg] v l env = pure false := by
  show swapsWith v (some tg) l env = _
  cases v <;> first | rfl | (cases tg <;> first | rfl | cases h)
theorem swT_ok (ct : Ct c Γ nm n X Wx) (cs : Cs k X) {ts vs : List Expr} {k1 k2 : Nat} {p1 p2 : Pos} {o : Option (List Str)} (h : swT k ts vs = some o) : swappedStores [.Tuple ts k1 p1] (.Tuple vs k2 p2) X.env = pure o := by
  have hb := blk_kind ct
  have hk : ∀ id, X.env.kindOf id = k.sc.names.lookup id := fun id => by
    show X.env.scope.names.lookup id = _
    rw [cs.sc]
  unfold swappedStores
  simp only [hb, hk]
  unfold swT at h
  have hbf : (ScopeKind.function != ScopeKind.function) = false := by decide
  simp only [hbf, Bool.or_false] at h ⊢
  split at h
  · rename_i e1; cases h; exact if_pos e1
  · rename_i e1
    refine (if_neg e1).trans ?_
    split at h
    · rename_i e2; cases h; exact if_pos e2
    · rename_i e2
      refine (if_neg e2).trans ?_
      split at h
      · rename_i e3; cases h; exact if_pos e3
      · rename_i e3
        refine (if_neg e3).trans ?_
        split at h
        · rename_i e4; cases h; exact if_pos e4
        · rename_i e4
          refine (if_neg e4).trans ?_
          split at h
          · cases h
          · rename_i e5
            cases h
            exact if_neg e5
theorem isNone2_ok {o : Option (Option (List Str))} (h : isNone2 o = true) : o = some none := by
  unfold isNone2 at h
  split at h
  · rfl
  · cases h
theorem isSome2_ok {o : Option (Option (List Str))} {l : List Str} (h : isSome2 o l = true) : o = some (some l) := by
  unfold isSome2 at h
  split at h
  · rw [of_decide_eq_true h]
  · cases h
theorem swS_ok (ct : Ct c Γ nm n X Wx) (cs : Cs k X) {tg v : Expr} {o : Option (List Str)} (h : swS k tg v = some o) : swappedStores [tg] v X.env = pure o := by
  unfold swS at h
  split at h
  · split at h
    · exact swT_ok ct cs h
    · rename_i h2
      cases h
      cases v <;> first | rfl | exact (h2 _ _ _ rfl).elim
  · cases h
  · rename_i h1 h2
    cases h
    cases tg <;> first | rfl | exact (h1 _ _ _ rfl).elim | exact (h2 _ _ rfl).elim
theorem setB_ok (okE : CkOk c Γ nm n r) {t : Tg} {e : E} {tg v : Expr} {pos : Pos} (ct : Ct1 c Γ nm n X Wx) (cs : Cs k X) (h : setB r k t e tg v = true) : HS c X Wx (evS Γ (run Γ n) (.set t e)) (.Assign [tg] v pos) := by
  unfold setB at h
  split at h
  · split at h
    · obtain ⟨h1, h⟩ := and2 h
      split at h
      · rename_i hsw
        obtain ⟨h2, h3⟩ := and2 h
        obtain ⟨h4, h5⟩ := cs.loc h2
        exact hs_set ct.nd (cs.nth h1) h4 h5 (swB_ok ct.toCt cs hsw) (okE.e ct.toCt cs h3)
      · rename_i hsw
        obtain ⟨h2, h⟩ := and2 h
        split at h
        · split at h
          · obtain ⟨tg, iter, ifs, rfl, bo, hs, hi, hg, ht, he⟩ := lcB_ok okE ct.toCt cs h
            have q := fun m => hs_lc (m := m) ct.calm ct.nd (cs.nth h1) (cs.lc h2) (swB_ok (l := pos.line) ct.toCt cs hsw) bo hs hi hg ht he
            simp only [ownP_ix] at q
            exact q _
          · cases h
        · cases h
      · cases h
    · cases h
  · obtain ⟨h, h5⟩ := and2 h
    obtain ⟨h, h4⟩ := and2 h
    obtain ⟨h, h3⟩ := and2 h
    obtain ⟨h1, h2⟩ := and2 h
    exact hs_asg (sw_other h1) (swS_ok ct.toCt cs (isNone2_ok h3)) h2 (okE.e ct.toCt cs h5) (okE.g (ch := none) ct.toCt cs h4)
theorem sB_ok (okE : CkOk c Γ nm n r) (ok : CkSOk c Γ nm n q) {s : S} {x : Stmt} (ct : Ct1 c Γ nm n X Wx) (cs : Cs k X) (h : sB r q k s x = true) : HS c X Wx (evS Γ (run Γ n) s) x := by
  unfold sB at h
  split at h
  · split at h
    · exact setB_ok okE ct cs h
    · cases h
  · split at h
    · obtain ⟨h, g10⟩ := and2 h
      obtain ⟨h, g9⟩ := and2 h
      obtain ⟨h, g8⟩ := and2 h
      obtain ⟨h, g7⟩ := and2 h
      obtain ⟨h, g6⟩ := and2 h
      obtain ⟨h, g5⟩ := and2 h
      obtain ⟨h, g4⟩ := and2 h
      obtain ⟨h, g3⟩ := and2 h
      obtain ⟨g1, g2⟩ := and2 h
      exact hs_par2 ct.calm ct.nd (cs.nth g1) (cs.nth g2) (of_decide_eq_true g3) (cs.lc g4) (cs.lc g5) g6 g7 (swT_ok ct.toCt cs (isSome2_ok g8)) (okE.e ct.toCt cs g9) (okE.e ct.toCt cs g10)
    · cases h
  · split at h
    · obtain ⟨h, g16⟩ := and2 h
      obtain ⟨h, g15⟩ := and2 h
      obtain ⟨h, g14⟩ := and2 h
      obtain ⟨h, g13⟩ := and2 h
      obtain ⟨h, g12⟩ := and2 h
      obtain ⟨h, g11⟩ := and2 h
      obtain ⟨h, g10⟩ := and2 h
      obtain ⟨h, g9⟩ := and2 h
      obtain ⟨h, g8⟩ := and2 h
      obtain ⟨h, g7⟩ := and2 h
      obtain ⟨h, g6⟩ := and2 h
      obtain ⟨h, g5⟩ := and2 h
      obtain ⟨h, g4⟩ := and2 h
      obtain ⟨h, g3⟩ := and2 h
      obtain ⟨g1, g2⟩ := and2 h
      exact hs_par3 ct.calm ct.nd (cs.nth g1) (cs.nth g2) (cs.nth g3) (of_decide_eq_true g4) (of_decide_eq_true g5) (of_decide_eq_true g6) (cs.lc g7) (cs.lc g8) (cs.lc g9) g10 g11 g12 (swT_ok ct.toCt cs (isSome2_ok g13))
        (okE.e ct.toCt cs g14) (okE.e ct.toCt cs g15) (okE.e ct.toCt cs g16)
    · cases h
  · split at h
    · obtain ⟨g1, g2⟩ := and2 h
      exact hs_expr (sw_expr g1) (okE.e ct.toCt cs g2)
    · cases h
  · split at h
    · obtain ⟨h, g3⟩ := and2 h
      obtain ⟨g1, g2⟩ := and2 h
      exact hs_if (okE.t ct.toCt cs g1) (ok.ss ct cs g2) (ok.ss ct cs g3)
    · cases h
  · split at h
    · obtain ⟨h, g4⟩ := and2 h
      obtain ⟨h, g3⟩ := and2 h
      obtain ⟨g1, g2⟩ := and2 h
      exact hs_for ct.K ct.pass ct.calm (set_iter g1) (okE.i _ ct.toCt cs g2) (okE.g (ch := none) ct.toCt cs g3) (ok.ss ct cs g4)
    · cases h
  · split at h
    · obtain ⟨g1, g2⟩ := and2 h
      exact hs_whl ct.pass (okE.t ct.toCt cs g1) (ok.ss ct cs g2)
    · cases h
  · split at h
    · exact hs_ret (okE.e ct.toCt cs h)
    · cases h
  · split at h
    · exact hs_retN
    · cases h
  · split at h
    · exact hs_pass
    · cases h
  · split at h
    · exact hs_cont
    · cases h
  · cases h
end
theorem ckS_ok {c : Cf} {Γ : Gl} {nm : Nm} {n : Nat} : ∀ m : Nat, CkSOk c Γ nm n (ckS nm m)
  | 0 => by constructor <;> (intros; rename_i h; exact (Bool.false_ne_true h).elim)
  | m + 1 => by
    have ok := ckS_ok (c := c) (Γ := Γ) (nm := nm) (n := n) m
    exact ⟨fun ct cs h => sB_ok (ck_ok m) ok ct cs h, fun ct cs h => ssB_ok ok ct cs h⟩
end Sx
end

section
set_option autoImplicit false
set_option linter.all false
set_option Elab.async false
namespace Sx
open PySem
open L2 (V St SqL SqT Rd upd upd_same upd_ne HO PE PT PW PA PS PSs PG PGs PI PTs VK OpR Dp Room Env0 CallR Ends Loc Vis TE TT TI)

/-- a def without defaults, as it stands -/
def plainArgs (as : List Arg) : Arguments := { posonlyargs := [], args := as, vararg := none, kwonlyargs := [], kw_defaults := [], kwarg := none, defaults := [] }
/-- the def f by its text: it is what the small language says -/
structure DefAt (c : Cf) (Γ : Gl) (nm : Nm) (m : Nat) (mg : Str → Option Value) (f : Nat) (x : Str) : Prop where
  ex : ∃ (a : Addr) (fd : FuncData) (qual : Str) (as : List Arg) (body : List Stmt) (scope : Scope) (F : Fn) (N : List Str), mg x = some (.ref a) ∧ L2.FunD c.K x qual (plainArgs as) body scope [] [] a fd ∧
    L2.FnScope N (as.map (·.arg)) scope ∧ Γ.fns.get f = some F ∧ F.ns = N.length ∧ F.np = as.length ∧ (ckS nm m).ss ⟨N, scope, fun _ => true⟩ F.body body = true

section
variable {c : Cf} {Γ : Gl} {nm : Nm} {m : Nat} {P : Program} {w : World} {mg : Str → Option Value} {base : Heap}
theorem argEnv_ok {d : Wd} {H : AH} {ws : List W} {vs : List V} {N : List Str} (r : RWs c d H ws vs) : RE c d H (argEnv ws N.length) (L2.start N vs) := by
  have hl := r.length
  refine ⟨by simp [argEnv, L2.start, hl], fun i u e => ?_⟩
  rw [nth_eq] at e
  unfold argEnv at e
  unfold L2.start
  by_cases hi : i < ws.length
  · rw [List.getElem?_append_left (by simpa using hi), List.getElem?_map] at e
    obtain ⟨w, hw, e2⟩ := Option.map_eq_some_iff.mp e
    cases e2
    obtain ⟨v, hv, rv⟩ := r.get i hw
    exact ⟨v, by rw [List.getElem?_append_left (by simpa using (by omega : i < vs.length)), List.getElem?_map, hv]; rfl, rv⟩
  · rw [List.getElem?_append_right (by simpa using hi)] at e
    rw [List.getElem?_replicate] at e
    split at e <;> cases e
theorem binds_ok {K : PySem.W.Frag} {x qual : Str} {as : List Arg} {body : List Stmt} {scope : Scope} {a : Addr} {fd : FuncData} (D : L2.FunD K x qual (plainArgs as) body scope [] [] a fd) (nd : (as.map (·.arg)).Nodup) : L2.Binds K fd (as.map (·.arg)) [] := by
  obtain ⟨oc, od, dV, kV, doc, pm, an, cdv, ct, osl, rfl, lk, hcd, dv, _⟩ := D.ex
  rcases dv with ⟨_, rfl⟩ | ⟨z, _⟩
  · refine L2.Binds.all fun us hl => ?_
    exact bind_plain x qual body scope kV doc pm an cdv ct as us nd (by rw [hl, List.length_map])
  · exact (z rfl).elim
theorem run_len {n f : Nat} {ws : List W} {h : LH} {F : Fn} (hf : Γ.fns.get f = some F) {d : Wd} {H : AH} {Xw : Xn → Wd → AH → Prop} {P : Wd → LH → W → AH → Prop} (s : Sat c d H Xw (run Γ (n + 1) f ws h) P) : ws.length = F.np := by
  simp only [run, hf] at s
  cases e : Nat.beq ws.length F.np with
  | true => exact Nat.eq_of_beq_eq_true e
  | false => rw [e] at s; exact s.elim
theorem body_ok {n f : Nat} {ws : List W} {h : LH} {F : Fn} {d : Wd} {H : AH} {Q : VK} {E : L2.XK} (hf : Γ.fns.get f = some F)
    (s : Sat c d H (fun x d' H' => ∀ cls dx, RX c d' H' x cls dx → E cls dx H') (run Γ (n + 1) f ws h) (wV c Q)) :
    SatS c d H (fun cls dx _ H => E cls dx H) (evSs Γ (run Γ n) F.body (argEnv ws F.ns) h) { nx := fun _ H' => Q .non H', rt := Q } := by
  have hl := run_len hf s
  simp only [run, hf] at s
  rw [show Nat.beq ws.length F.np = true from by rw [hl]; exact Nat.beq_refl _] at s
  simp only at s
  cases e : evSs Γ (run Γ n) F.body (argEnv ws F.ns) h with
  | nx ρ h1 => rw [e] at s; exact fun d' H' σ' x r _ => s d' H' x r _ (.pv .non)
  | rt w h1 => rw [e] at s; exact fun d' H' v x r rv => s d' H' x r v rv
  | ct ρ h1 => rw [e] at s; exact s.elim
  | ex x ρ h1 => rw [e] at s; exact fun d' H' σ' y r _ cls dx rx => s d' H' y r cls dx rx
  | no => rw [e] at s; exact s.elim
/-- a def keeps its promise to the depth n, at every base -/
def FnAll (c : Cf) (Γ : Gl) (n f : Nat) (x : Str) (P : Program) (w : World) (mg : Str → Option Value) : Prop :=
  ∃ a fd ps, mg x = some (.ref a) ∧ PySem.W.keepIn c.K (.ref a) = true ∧ L2.Binds c.K fd ps [] ∧ (∀ F, Γ.fns.get f = some F → ps.length = F.np) ∧ ∀ base, FnG P w c.K mg base n a fd ps (spR c Γ n f)
theorem fns_ok (ok : c.Ok) (gls : ∀ g x, nm.gl g = some x → GlAt c Γ g x mg) (blt : ∀ x : Str, x ∈ bltNames → mg x = none)
    (defs : ∀ f x, nm.fn f = some x → DefAt c Γ nm m mg f x) : ∀ n f x, nm.fn f = some x → FnAll c Γ n f x P w mg := by
  intro n
  induction n with
  | zero =>
    intro f x hf
    obtain ⟨a, fd, qual, as, body, scope, F, N, m1, D, S, g1, g2, g3, g4⟩ := (defs f x hf).ex
    have nd : (as.map (·.arg)).Nodup := by rw [← S.pre]; exact (List.take_sublist _ _).nodup S.nd
    exact ⟨a, fd, as.map (·.arg), m1, D.kp, binds_ok D nd, (fun F2 h2 => by rw [g1] at h2; cases h2; rw [g3, List.length_map]), fun base => ⟨fun vs H Q E ⟨d, ws, h, _, _, s⟩ => s.elim, fun A outer s H args us vs Q E _ _ _ _ _ ⟨d, ws, h, _, _, s2⟩ => s2.elim⟩⟩
  | succ n ih =>
    intro f x hf
    obtain ⟨a, fd, qual, as, body, scope, F, N, m1, D, S, g1, g2, g3, g4⟩ := (defs f x hf).ex
    have nd : (as.map (·.arg)).Nodup := by rw [← S.pre]; exact (List.take_sublist _ _).nodup S.nd
    refine ⟨a, fd, as.map (·.arg), m1, D.kp, binds_ok D nd, (fun F2 h2 => by rw [g1] at h2; cases h2; rw [g3, List.length_map]), fun base => ?_⟩
    refine fnG_of D S (fun vs H Q E ⟨d, ws, h, _, rv, s⟩ => ?_) fun cdv A outer s H vs Q E hr hg sp => ?_
    · rw [← rv.length, run_len g1 s, g3, List.length_map]
    · obtain ⟨d, ws, h, rh, rv, s⟩ := sp
      have ct : Ct1 c Γ nm n (L2.cxOf (L2.CX P w) P w c.K mg base N qual scope a cdv A outer ‹Shared› H E) (fun cls dx _ H => E cls dx H) :=
        { ok := ok, K := rfl, nd := S.nd, kind := S.kind, calm := rfl, gu := hg, room := hr, takes := L2.takes_of rfl rfl rfl rfl,
          fns := fun f x hf => let ⟨a, fd, ps, z1, z2, z3, _, z4⟩ := ih f x hf; ⟨a, fd, ps, z1, z2, z3, z4 base⟩, gls := gls, blt := blt, pass := L2.passes_of rfl }
      obtain ⟨t, pt, qt⟩ := (ckS_ok m).ss ct (⟨rfl, rfl, fun _ _ => rfl⟩ : Cs ⟨N, scope, fun _ => true⟩ _) g4
      exact ⟨t, pt, qt d _ h _ H _ (by rw [g2]; exact argEnv_ok rv) rh (body_ok g1 s)⟩
end
end Sx
end

section
set_option autoImplicit false
set_option linter.all false
set_option Elab.async false
set_option maxRecDepth 100000
namespace Sx
open PySem PySem.Spec PyProof.Rows
open L2 (V St SqL SqT Rd upd HO PE VK Room Env0 Mod Only Vals)

/-! ### the law's call -/
section
variable {P : Program} {w : World} {K : PySem.W.Frag} {mg mb : Str → Option Value} {k : Nat} {fa a : Addr} {fd : FuncData} {x : Str} {sp : L2.Sp} {sh : Shared} {us : List Value} {ns : List Int}
/-- at a heap where at most the script is tracked -/
theorem call_core {H : AH} (kin : K.In sh.heap) (n1 : sh.heap.Ns mainGlobals mg) (n2 : sh.heap.Ns builtinsNs mb) (n3 : ∀ y : Str, y ≠ "__name__" → mb y = bootBuiltins y) (n4 : sh.heap.NoLimit) (n5 : sh.gens = #[])
    (at_a : sh.heap.get? a = some { cls := .type "list", data := .seq us.toArray }) (room : Room k callerA)
    (F : ∀ b0 : Heap, K.In b0 → b0.Ns mainGlobals mg → FnG P w K mg b0 k fa fd [x] sp) (bd : ∀ (s : Shared) (u : Value), K.In s.heap → BindsTo s fd ⟨[u], []⟩ [(x, u)])
    (only : Only H) (ok : L2.HOk P w H sh.heap) (just : ∀ b, H b ≠ none → b = a) (out : H a ≠ none → K.lookup a = none) (hsp : sp [.ref a] H (fun v _ => v = .bl true) fun _ _ _ => False) :
    codeAny (model P w) callerA (.call (.ref fa) ⟨[.ref a], []⟩) (fun r s2 => r = .ok (.ret (.bool true)) ∧ OldK sh.heap s2.heap ∧ s2.os = sh.os ∧ AllBare s2.gens) sh := by
  have off : ∀ {b : Addr} {o : Obj} {es : Array DictEntry} {n : Nat}, sh.heap.get? b = some o → o.data = .dict es n → H b = none := fun {b o es n} e1 e2 => by
    cases hb : H b with
    | none => rfl
    | some z =>
      have eb := just b (by rw [hb]; exact Option.some_ne_none z)
      rw [eb, at_a] at e1
      cases e1
      cases (show Data.seq us.toArray _ = Data.dict es n from e2)
  have low : ∀ {b : Addr} {m : Str → Option Value}, sh.heap.Ns b m → (L2.hidT sh.heap H).Ns b m := fun ⟨o, es, n, e1, e2, e3⟩ => ⟨o, es, n, L2.hidT_get e1 (off e1 e2), e2, e3⟩
  have kin0 : K.In (L2.hidT sh.heap H) := fun b o e => by
    refine L2.hidT_get (kin b o e) ?_
    cases hb : H b with
    | none => rfl
    | some z =>
      have eb := just b (by rw [hb]; exact Option.some_ne_none z)
      rw [eb] at e hb
      rw [out (by rw [hb]; exact Option.some_ne_none z)] at e
      cases e
  have md : Mod K mg (L2.hidT sh.heap H) := by
    obtain ⟨mc, l1, l2⟩ := n4
    exact ⟨kin0, low n1, ⟨mb, low n2, n3⟩, ⟨mc, low l1, l2⟩⟩
  have env : Env0 P w K mg (L2.hidT sh.heap H) callerA [] sh H :=
    ⟨rfl, md, fun b o e => L2.of_hidT e, Nat.le_of_eq (L2.hidT_size _ _), trivial, fun b hb => (List.not_mem_nil hb).elim, ok, .of_eq n5⟩
  have run := (F _ kin0 (low n1)).run callerA [] sh H ⟨[.ref a], []⟩ [.ref a] [.ref a] (fun v _ => v = .bl true) (fun _ _ _ => False) room rfl env (bd sh (.ref a) kin) (.cons rfl .nil) hsp
  refine codeAny_mono run fun r s2 h => ?_
  match r, h with
  | .error e, h =>
    obtain ⟨_, _, _, _, _, _, _, _, _, _, _, _, z⟩ := h
    exact z.elim
  | .ok .next, h => exact h.elim
  | .ok .brk, h => exact h.elim
  | .ok .cont, h => exact h.elim
  | .ok (.ret u), h =>
    obtain ⟨v, H2, h1, h2, h3, h4, h5, h6⟩ := h
    cases (show v = .bl true from h6)
    cases (show u = Value.bool true from h5)
    refine ⟨rfl, OldK.of_keep fun b o e => ?_, h1, h2⟩
    cases hb : H b with
    | none => exact h3.keep b o e hb (fun z => (List.not_mem_nil z).elim) (by simp)
    | some z =>
      obtain q | ⟨ob, xs, q⟩ := only b
      · rw [hb] at q; cases q
      · have l1 := (ok b _ q).1
        have l2 := (h4 b _ (h3.frzs b ob _ q)).1
        rw [e] at l1
        cases l1
        exact l2
theorem call_law (kin : K.In sh.heap) (n1 : sh.heap.Ns mainGlobals mg) (n2 : sh.heap.Ns builtinsNs mb) (n3 : ∀ y : Str, y ≠ "__name__" → mb y = bootBuiltins y) (n4 : sh.heap.NoLimit) (n5 : sh.gens = #[])
    (at_a : sh.heap.get? a = some { cls := .type "list", data := .seq us.toArray }) (isN : IntsAre us ns) (few : ns.length ≤ sizeLine) (room : Room k callerA)
    (F : ∀ b0 : Heap, K.In b0 → b0.Ns mainGlobals mg → FnG P w K mg b0 k fa fd [x] sp) (bd : ∀ (s : Shared) (u : Value), K.In s.heap → BindsTo s fd ⟨[u], []⟩ [(x, u)])
    (hsp : ∀ H : AH, SqL K H a (ns.map V.int) → sp [.ref a] H (fun v _ => v = .bl true) fun _ _ _ => False) :
    codeAny (model P w) callerA (.call (.ref fa) ⟨[.ref a], []⟩) (fun r s2 => r = .ok (.ret (.bool true)) ∧ OldK sh.heap s2.heap ∧ s2.os = sh.os ∧ AllBare s2.gens) sh := by
  have rel := L2.vals_ints isN
  have len := isN.length
  cases hk : K.lookup a with
  | some o =>
    have e := kin a o hk
    rw [at_a] at e
    cases e
    have sq : SqL K (fun _ => none) a (ns.map V.int) := .inr ⟨_, us.toArray, _, hk, rfl, rfl, rfl, by rw [List.size_toArray, len]; exact few, by simpa using rel⟩
    exact call_core (H := fun _ => none) kin n1 n2 n3 n4 n5 at_a room F bd (fun _ => .inl rfl) (fun b u z => nomatch (show (none : Option HO) = some u from z)) (fun b z => (z rfl).elim) (fun z => (z rfl).elim) (hsp _ sq)
  | none =>
    let ob : Obj := { cls := .type "list", data := .seq us.toArray }
    let H : AH := upd (fun _ => none) a (.frz ob (.lst (ns.map V.int)))
    have same : H a = some (.frz ob (.lst (ns.map V.int))) := L2.upd_same
    have other : ∀ {b}, b ≠ a → H b = none := fun e => L2.upd_ne e
    refine call_core (H := H) kin n1 n2 n3 n4 n5 at_a room F bd (fun b => ?_) (fun b u z => ?_) (fun b z => ?_) (fun _ => hk) (hsp H (.inl (.inr ⟨ob, same⟩)))
    · by_cases e : b = a
      · exact .inr ⟨ob, _, by rw [e]; exact same⟩
      · exact .inl (other e)
    · by_cases e : b = a
      · rw [e, same] at z
        cases z
        rw [e]
        exact ⟨at_a, by rw [List.length_map]; exact few, us, _, rel, at_a⟩
      · rw [other e] at z; cases z
    · by_cases e : b = a
      · exact e
      · exact (z (other e)).elim
end
/-- the law's end, from the promise of its def -/
theorem walk_G {l : PySem.W.OpenLaw} {n k : Nat} {q : Program} {loose : List Str} {XP : (Str → Option Value) → Heap → Prop} {YP : World → Heap → Prop} {d : DefRec}
    (most : l.most = some n) (few : n ≤ sizeLine) (dfl : d.params.defaults = []) (room : Room k callerA)
    (F : ∀ (w : World) (mg : Str → Option Value) (fa : Addr) (h : Heap), YP w h → h.Ns mainGlobals mg → mg d.name = some (.ref fa) → ∃ (K : PySem.W.Frag) (fd : FuncData) (x : Str) (sp : L2.Sp), K.In h ∧
      (∀ (s : Shared) (u : Value), K.In s.heap → BindsTo s fd ⟨[u], []⟩ [(x, u)]) ∧ (∀ (H : AH) (a : Addr) (ns : List Int), ns.length ≤ n → SqL K H a (ns.map V.int) → sp [.ref a] H (fun v _ => v = .bl true) fun _ _ _ => False) ∧
      ∀ b0 : Heap, K.In b0 → b0.Ns mainGlobals mg → FnG l.prog w K mg b0 k fa fd [x] sp) :
    PySem.W.WalkO q loose XP YP l.row.toRowW d [] (fun f vs => PySem.call f vs) := by
  refine Att.attach_call most dfl fun w s0 s1 mg mb fa o pm cd doc a vs ns G Y e1 e2 e3 e4 e5 e6 e7 e8 => ?_
  obtain ⟨K, fd, x, sp, kin, bd, hsp, hF⟩ := F w mg fa _ Y G.T.g e4
  exact call_law kin G.T.g G.T.b G.T.builtins G.T.nolimit e8 e5 e6 (Nat.le_trans e7 few) room hF bd fun H sq => hsp H a ns e7 sq

/-! ### data of the module -/
mutual
/-- the value stands for this data, in the written part -/
def relP (K : PySem.W.Frag) : PV → Value → Bool
  | .non, u => match u with
    | .none => true
    | _ => false
  | .bl b, u => match u with
    | .bool c => beqB b c
    | _ => false
  | .int i, u => match u with
    | .int j _ => ieq i j
    | _ => false
  | .str s, u => match u with
    | .str t _ => txEq s t.cps.toList && okTxB s
    | _ => false
  | .tup ps, u => match u with
    | .ref a => match K.lookup a with
      | some ⟨.type n, _, .seq its _, _⟩ => decide (n = "tuple") && Nat.ble its.size 16777216 && relPs K ps its.toList
      | _ => false
    | _ => false
  | .lst ps, u => match u with
    | .ref a => match K.lookup a with
      | some ⟨.type n, none, .seq its _, _⟩ => decide (n = "list") && Nat.ble its.size 16777216 && relPs K ps its.toList
      | _ => false
    | _ => false
def relPs (K : PySem.W.Frag) : List PV → List Value → Bool
  | [], us => match us with
    | [] => true
    | _ :: _ => false
  | p :: ps, us => match us with
    | u :: r => relP K p u && relPs K ps r
    | [] => false
end
mutual
theorem relP_ok {c : Cf} : ∀ {p : PV} {u : Value}, relP c.K p u = true → ∃ v, L2.RelV v u ∧ ∀ F H, RP c F H p v
  | .non, u, h => by
    cases u with
    | none => exact ⟨.non, rfl, fun _ _ => .non⟩
    | _ => simp [relP] at h
  | .bl b, u, h => by
    cases u with
    | bool d =>
      simp only [relP, beqB_eq] at h
      rw [← eq_of_beq h]
      exact ⟨.bl b, rfl, fun _ _ => .bl b⟩
    | _ => simp [relP] at h
  | .int i, u, h => by
    cases u with
    | int j t =>
      simp only [relP, ieq_eq] at h
      rw [← of_decide_eq_true h]
      exact ⟨.int i, ⟨_, rfl⟩, fun _ _ => .int i⟩
    | _ => simp [relP] at h
  | .str s, u, h => by
    cases u with
    | str t tk =>
      simp only [relP, Bool.and_eq_true, txEq_eq] at h
      have e : t = toStr s := by rw [of_decide_eq_true h.1, toStr_eq]
      subst e
      exact ⟨.str (toStr s), ⟨_, rfl⟩, fun _ _ => .str s (okTxB_ok h.2)⟩
    | _ => simp [relP] at h
  | .tup ps, u, h => by
    cases u with
    | ref a =>
      simp only [relP] at h
      split at h
      · rename_i n dd its m sl e
        obtain ⟨h, h3⟩ := and2 h
        obtain ⟨h1, h2⟩ := and2 h
        obtain ⟨vs, rv, q⟩ := relPs_ok h3
        have hn := of_decide_eq_true h1
        subst hn
        refine ⟨.ref a, rfl, fun F H => .tup (.inr (.inr ⟨_, its, m, e, rfl, rfl, by rw [PySem.sizeLine_eq]; exact Nat.le_of_ble_eq_true h2, rv⟩)) (q F H)⟩
      · cases h
    | _ => simp [relP] at h
  | .lst ps, u, h => by
    cases u with
    | ref a =>
      simp only [relP] at h
      split at h
      · rename_i n its m sl e
        obtain ⟨h, h3⟩ := and2 h
        obtain ⟨h1, h2⟩ := and2 h
        obtain ⟨vs, rv, q⟩ := relPs_ok h3
        have hn := of_decide_eq_true h1
        subst hn
        refine ⟨.ref a, rfl, fun F H => .lst (.inr (.inr ⟨_, its, m, e, rfl, rfl, rfl, by rw [PySem.sizeLine_eq]; exact Nat.le_of_ble_eq_true h2, rv⟩)) (q F H)⟩
      · cases h
    | _ => simp [relP] at h
theorem relPs_ok {c : Cf} : ∀ {ps : List PV} {us : List Value}, relPs c.K ps us = true → ∃ vs, Vals vs us ∧ ∀ F H, RPs c F H ps vs
  | [], us, h => by
    cases us with
    | nil => exact ⟨[], .nil, fun _ _ => .nil⟩
    | cons _ _ => simp [relPs] at h
  | p :: ps, us, h => by
    cases us with
    | nil => simp [relPs] at h
    | cons u r =>
      simp only [relPs, Bool.and_eq_true] at h
      obtain ⟨v, rv, q⟩ := relP_ok h.1
      obtain ⟨vs, rvs, qs⟩ := relPs_ok h.2
      exact ⟨v :: vs, .cons rv rvs, fun F H => .cons (q F H) (qs F H)⟩
end
/-- the module's name stands for the data -/
def glAt (K : PySem.W.Frag) (g : Str × PV) : Bool := match PySem.W.nsIn K mainGlobals g.1 with
  | some (some u) => relP K g.2 u
  | _ => false
/-- the facts at the end of the module: what the kit's hook says, and the data -/
def hookX (n : Nat) (fa : List He.Fa) (gl : List (Str × PV)) (fn : List He.DefD) : PySem.W.Hook where
  α := He.AlD × Bool
  obs := fun s => (He.obsDG n fa fn s.heap.get?, gl.all (glAt (He.frG s.heap.get? (He.asD s.heap.get? n))))
  val := fun _ => (He.valD fn, true)
  says := fun _ h => ∃ K : PySem.W.Frag, K.In h ∧ He.SaysD fa fn K ∧ gl.all (glAt K) = true
  of := fun _ _ e => ⟨_, He.frG_in, congrArg Prod.fst e, congrArg Prod.snd e⟩
  keeps := fun _ _ _ ⟨K, i, s⟩ k => ⟨K, PySem.W.Frag.In.keeps i k, s⟩
def obX (n : Nat) (fa : List He.Fa) (gl : List (Str × PV)) (fn : List He.DefD) (g : Addr → Option Obj) : He.AlD × Bool := (He.obsDG n fa fn g, gl.all (glAt (He.frG g (He.asD g n))))
theorem obX_eq {n : Nat} {fa : List He.Fa} {gl : List (Str × PV)} {fn : List He.DefD} {g : Addr → Option Obj} {s : Shared} (h : ∀ a, g a = s.heap.get? a) : obX n fa gl fn g = (hookX n fa gl fn).obs s := by
  have e : g = s.heap.get? := funext h
  subst e
  rfl

/-! ### the defs of a program -/
/-- a def: its number is its place in the list; its name, its row of the text, the names of its slots -/
structure Dn where
  x : Str
  i : Nat
  N : List Str
def topAt (P : Program) (i : Nat) : Stmt := P.main.body.getD i (.Pass ⟨0, 0, 0, 0⟩)
def Dn.dd (P : Program) (d : Dn) : He.DefD := ⟨(d.x, none), d.x, d.x, L2.defArgs (topAt P d.i), L2.defBody (topAt P d.i), L2.defScope (topAt P d.i), [], []⟩
def lcK (sc : Scope) (x : Str) : Bool := match sc.names.lookup x with
  | some .local => true
  | some .cell => true
  | _ => false
def noFree (y : Str × NameKind) : Bool := match y.2 with
  | .free => false
  | _ => true
def scB (N ps : List Str) (sc : Scope) : Bool :=
  (match sc.kind with | .function => true | _ => false) && !sc.isCoroutine && !sc.isGenerator && decide N.Nodup && decide (N.take ps.length = ps) && ps.all (lcK sc) && sc.names.all noFree
theorem scB_ok {N ps : List Str} {sc : Scope} (h : scB N ps sc = true) : L2.FnScope N ps sc := by
  unfold scB at h
  obtain ⟨h, h7⟩ := and2 h
  obtain ⟨h, h6⟩ := and2 h
  obtain ⟨h, h5⟩ := and2 h
  obtain ⟨h, h4⟩ := and2 h
  obtain ⟨h, h3⟩ := and2 h
  obtain ⟨h1, h2⟩ := and2 h
  refine ⟨?_, not1 h2, not1 h3, of_decide_eq_true h4, of_decide_eq_true h5, fun x hx => ?_, fun y hy e => ?_⟩
  · split at h1
    · assumption
    · cases h1
  · have := List.all_eq_true.mp h6 x hx
    unfold lcK at this
    split at this <;> first | exact .inl (by assumption) | exact .inr (by assumption) | cases this
  · have := List.all_eq_true.mp h7 y hy
    unfold noFree at this
    rw [e] at this
    cases this
def argsB (a : Arguments) : Bool := match a with
  | ⟨[], _, none, [], [], none, []⟩ => true
  | _ => false
theorem argsB_ok {a : Arguments} (h : argsB a = true) : a = plainArgs a.args := by
  unfold argsB at h
  split at h
  · rfl
  · cases h
/-- one def is what the small language says -/
def dnB (P : Program) (Γ : Gl) (nm : Nm) (m : Nat) (f : Nat) (d : Dn) : Bool := match Γ.fns.get f with
  | none => false
  | some F => argsB (L2.defArgs (topAt P d.i)) && scB d.N ((L2.defArgs (topAt P d.i)).args.map (·.arg)) (L2.defScope (topAt P d.i)) && Nat.beq F.ns d.N.length && Nat.beq F.np (L2.defArgs (topAt P d.i)).args.length &&
    (ckS nm m).ss ⟨d.N, L2.defScope (topAt P d.i), fun _ => true⟩ F.body (L2.defBody (topAt P d.i))
def dnsB (P : Program) (Γ : Gl) (nm : Nm) (m : Nat) : Nat → List Dn → Bool
  | _, [] => true
  | f, d :: r => dnB P Γ nm m f d && dnsB P Γ nm m (f + 1) r
theorem dnsB_at {P : Program} {Γ : Gl} {nm : Nm} {m : Nat} : ∀ {ds : List Dn} {f : Nat}, dnsB P Γ nm m f ds = true → ∀ (i : Nat) (d : Dn), ds[i]? = some d → dnB P Γ nm m (f + i) d = true
  | [], _, _, i, d, e => by simp at e
  | d0 :: r, f, h, i, d, e => by
    rw [dnsB, Bool.and_eq_true] at h
    cases i with
    | zero => simp at e; subst e; exact h.1
    | succ i =>
      have := dnsB_at h.2 i d (by simpa using e)
      rwa [show f + 1 + i = f + (i + 1) by omega] at this
/-- the names, from the lists -/
def nmOf (ds : List Dn) (gs : List Str) : Nm := ⟨fun f => (nth ds f).map (·.x), fun g => nth gs g⟩
theorem defs_ok {c : Cf} {P : Program} {Γ : Gl} {m : Nat} {mg : Str → Option Value} {h : Heap} {fa : List He.Fa} {ds : List Dn} {gs : List Str} (kin : c.K.In h) (hns : h.Ns mainGlobals mg)
    (says : He.SaysD fa (ds.map (Dn.dd P)) c.K) (glo : ∀ d ∈ ds, He.Fa.glo d.x ∈ fa) (ckd : dnsB P Γ (nmOf ds gs) m 0 ds = true) : ∀ f x, (nmOf ds gs).fn f = some x → DefAt c Γ (nmOf ds gs) m mg f x := by
  intro f x hf
  have e1 : ∃ d, ds[f]? = some d ∧ d.x = x := by
    have h2 : (nth ds f).map (·.x) = some x := hf
    rw [nth_eq] at h2
    exact Option.map_eq_some_iff.mp h2
  obtain ⟨d, hd, rfl⟩ := e1
  have hm : d ∈ ds := List.mem_of_getElem? hd
  obtain ⟨fd, D⟩ := says.def_ f (d := d.dd P) (by rw [List.getElem?_map, hd]; rfl)
  obtain ⟨j, hj⟩ := List.getElem?_of_mem (glo d hm)
  have g1 := He.glo_ok kin hns (says.fact j hj)
  have ck1 := dnsB_at ckd f d hd
  rw [Nat.zero_add] at ck1
  unfold dnB at ck1
  split at ck1
  · cases ck1
  · rename_i F hF
    obtain ⟨h, q5⟩ := and2 ck1
    obtain ⟨h, q4⟩ := and2 h
    obtain ⟨h, q3⟩ := and2 h
    obtain ⟨q1, q2⟩ := and2 h
    have ea := argsB_ok q1
    refine ⟨_, fd, d.x, (L2.defArgs (topAt P d.i)).args, L2.defBody (topAt P d.i), L2.defScope (topAt P d.i), F, d.N, g1, ?_, scB_ok q2, hF, Nat.eq_of_beq_eq_true q3, Nat.eq_of_beq_eq_true q4, q5⟩
    rw [← ea]
    exact D
end Sx
end

section
set_option autoImplicit false
set_option linter.all false
set_option Elab.async false
set_option maxRecDepth 100000
namespace Sx
open PySem PySem.Spec PyProof.Rows
open L2 (V St SqL SqT Rd upd HO PE VK Room Env0 Mod Only Vals)

def glsB (Γ : Gl) : Nat → List (Str × PV) → Bool
  | _, [] => true
  | g, (_, p) :: r => (match Γ.glob.get g with
    | some (.pv q) => PV.beq q p
    | _ => false) && glsB Γ (g + 1) r
theorem glsB_at {Γ : Gl} : ∀ {l : List (Str × PV)} {g : Nat}, glsB Γ g l = true → ∀ (i : Nat) (e : Str × PV), l[i]? = some e → Γ.glob.get (g + i) = some (.pv e.2)
  | [], _, _, i, e, h => by simp at h
  | (x, p) :: r, g, h, i, e, h2 => by
    simp only [glsB, Bool.and_eq_true] at h
    cases i with
    | zero =>
      simp at h2
      subst h2
      have h1 := h.1
      rw [Nat.add_zero]
      split at h1
      · rename_i q e2
        rw [e2, beq_eq _ _ h1]
      · cases h1
    | succ i =>
      have := glsB_at h.2 i e (by simpa using h2)
      rwa [show g + 1 + i = g + (i + 1) by omega] at this
def cfOf (K : PySem.W.Frag) : Cf := ⟨K, fun _ => none, fun _ => none, fun _ => ⟨#[]⟩⟩
theorem cfOf_ok (K : PySem.W.Frag) : (cfOf K).Ok := ⟨fun f v e => (nomatch e), fun f v e => (nomatch e)⟩
/-- the facts that the head is to read -/
def fasOf (ds : List Dn) : List He.Fa := ds.map (fun d => .glo d.x) ++ bltNames.map .free
theorem gls_ok {Γ : Gl} {K : PySem.W.Frag} {h : Heap} {mg : Str → Option Value} {ds : List Dn} {gl : List (Str × PV)} (kin : K.In h) (hns : h.Ns mainGlobals mg) (says : gl.all (glAt K) = true) (ck : glsB Γ 0 gl = true) :
    ∀ g x, (nmOf ds (gl.map (·.1))).gl g = some x → GlAt (cfOf K) Γ g x mg := by
  intro g x hx
  have e1 : ∃ e, gl[g]? = some e ∧ e.1 = x := by
    have h2 : nth (gl.map (·.1)) g = some x := hx
    rw [nth_eq, List.getElem?_map] at h2
    exact Option.map_eq_some_iff.mp h2
  obtain ⟨⟨y, p⟩, he, rfl⟩ := e1
  have hs := List.all_eq_true.mp says _ (List.mem_of_getElem? he)
  unfold glAt at hs
  simp only at hs
  split at hs
  · rename_i u hu
    obtain ⟨v, rv, q⟩ := relP_ok (c := cfOf K) hs
    have hg := glsB_at ck g _ he
    rw [Nat.zero_add] at hg
    exact ⟨u, v, .pv p, PySem.W.mg_of kin hns hu, rv, hg, fun d H => .pv (q d.F H)⟩
  · cases hs
theorem blt_ok {K : PySem.W.Frag} {h : Heap} {mg : Str → Option Value} {ds : List Dn} {fn : List He.DefD} (kin : K.In h) (hns : h.Ns mainGlobals mg) (says : He.SaysD (fasOf ds) fn K) : ∀ x : Str, x ∈ bltNames → mg x = none := by
  intro x hx
  obtain ⟨j, hj⟩ := List.getElem?_of_mem (show He.Fa.free x ∈ fasOf ds from List.mem_append_right _ (List.mem_map_of_mem hx))
  exact He.free_ok kin hns (says.fact j hj)
/-- the law's def, where the small language says True at every script -/
theorem law_ok {l : PySem.W.OpenLaw} {Γ : Gl} {ds : List Dn} {gl : List (Str × PV)} {m k n f : Nat} {q : Program} {loose : List Str} {XP : (Str → Option Value) → Heap → Prop} {YP : World → Heap → Prop} {d : DefRec}
    (most : l.most = some n) (few : n ≤ sizeLine) (dfl : d.params.defaults = []) (room : Room k callerA)
    (hY : ∀ w h, YP w h → ∃ K : PySem.W.Frag, K.In h ∧ He.SaysD (fasOf ds) (ds.map (Dn.dd l.prog)) K ∧ gl.all (glAt K) = true)
    (ckd : dnsB l.prog Γ (nmOf ds (gl.map (·.1))) m 0 ds = true) (ckg : glsB Γ 0 gl = true) (hf : (nmOf ds (gl.map (·.1))).fn f = some d.name) (hp : ∃ F, Γ.fns.get f = some F ∧ F.np = 1)
    (law : ∀ ns : List Int, ns.length ≤ n → ∃ h, run Γ k f [.pv (.lst (ns.map .int))] [] = .ok (.pv (.bl true)) h) :
    PySem.W.WalkO q loose XP YP l.row.toRowW d [] (fun f vs => PySem.call f vs) := by
  refine walk_G (k := k) most few dfl room fun w mg fa h Y hns hmg => ?_
  obtain ⟨K, kin, says, sg⟩ := hY w h Y
  have D := defs_ok (c := cfOf K) (m := m) (gs := gl.map (·.1)) kin hns says (fun e he => List.mem_append_left _ (List.mem_map_of_mem he)) ckd
  obtain ⟨a, fd, ps, m1, _, bd, np, F⟩ := fns_ok (P := l.prog) (w := w) (cfOf_ok K) (gls_ok (ds := ds) kin hns sg ckg) (blt_ok kin hns says) D k f d.name hf
  obtain ⟨Fn0, hF0, hn1⟩ := hp
  have hps := np Fn0 hF0
  rw [hn1] at hps
  obtain ⟨x, rfl⟩ : ∃ x, ps = [x] := by
    match ps, hps with
    | [x], _ => exact ⟨x, rfl⟩
  rw [m1] at hmg
  cases hmg
  refine ⟨K, fd, x, spR (cfOf K) Γ k f, kin, fun s u ki => bd s [u] ki rfl, fun H b ns hl sq => ?_, fun b0 _ _ => F b0⟩
  · obtain ⟨h2, e⟩ := law ns hl
    have rl : ∀ (F : Addr → Prop), ∀ l : List Int, RPs (cfOf K) F H (l.map .int) (l.map V.int) := fun F l => by
      induction l with
      | nil => exact .nil
      | cons i r ih => exact .cons (.int i) ih
    refine ⟨⟨[], fun _ => False⟩, [.pv (.lst (ns.map .int))], [], ⟨rfl, fun n o e => by simp [nth] at e, fun n m a e => by simp at e, fun n a e => by simp at e, fun a z => z.elim⟩, .cons (.pv (.lst ?_ (rl _ ns))) .nil, ?_⟩
    · rcases sq with sq | sq
      · exact .inl ⟨sq, fun z => z⟩
      · exact .inr (.inr sq)
    · rw [e]
      intro d' H' _ _ v rv
      cases rv with
      | pv hp => cases hp; rfl
end Sx
end

section
set_option autoImplicit false
set_option linter.all false
/-! Reading a run of the small language by rewriting. -/
namespace Sx
def fin (r : SR) : R W := match r with
  | .nx _ h1 => .ok (.pv .non) h1
  | .rt w h1 => .ok w h1
  | .ex x _ h1 => .ex x h1
  | _ => .no
theorem run_at {Γ : Gl} {f d : Nat} {ws : List W} {h : LH} {F : Fn} (e : Γ.fns.get f = some F) (hl : ws.length = F.np) : run Γ (d + 1) f ws h = fin (evSs Γ (run Γ d) F.body (argEnv ws F.ns) h) := by
  simp only [run, e]
  rw [show Nat.beq ws.length F.np = true from by rw [hl]; exact Nat.beq_refl _]
  simp only
  cases evSs Γ (run Γ d) F.body (argEnv ws F.ns) h <;> rfl
theorem sm_ok {i : Int} (h1 : -18446744073709551616 < i) (h2 : i < 18446744073709551616) : small64 i = true := by
  unfold small64
  rw [ilt_eq, ilt_eq]
  have e1 : decide (Int.negSucc 18446744073709551615 < i) = true := decide_eq_true h1
  have e2 : decide (i < Int.ofNat 18446744073709551616) = true := decide_eq_true h2
  rw [e1, e2]
theorem mul_ok {i j : Int} (h1 : -18446744073709551616 < i) (h2 : i < 18446744073709551616) : mulOk i j = true := by
  unfold mulOk
  rw [sm_ok h1 h2]
theorem mul_ok2 {i j : Int} (h1 : -18446744073709551616 < j) (h2 : j < 18446744073709551616) : mulOk i j = true := by
  unfold mulOk
  rw [sm_ok h1 h2]
  cases small64 i <;> rfl
section
variable {m : Bool} {i j : Int} {h : LH}
theorem b_add : bop .add m (.pv (.int i)) (.pv (.int j)) h = .ok (.pv (.int (i + j))) h := by
  show R.ok (W.pv (.int (iadd i j))) h = _
  rw [iadd_eq]
theorem b_sub : bop .sub m (.pv (.int i)) (.pv (.int j)) h = .ok (.pv (.int (i - j))) h := by
  show R.ok (W.pv (.int (isub i j))) h = _
  rw [isub_eq]
theorem b_mul (e : mulOk i j = true) : bop .mul m (.pv (.int i)) (.pv (.int j)) h = .ok (.pv (.int (i * j))) h := by
  show okIf (mulOk i j) (.pv (.int (imul i j))) h = _
  rw [imul_eq, e]; rfl
theorem b_fdv (e1 : 0 < j) (e2 : j < 1073741824) : bop .fdv m (.pv (.int i)) (.pv (.int j)) h = .ok (.pv (.int (i / j))) h := by
  show okIf (ilt (.ofNat 0) j && ilt j (.ofNat 1073741824)) (.pv (.int (idiv i j))) h = _
  have h1 : ilt (.ofNat 0) j = true := by rw [ilt_eq]; exact decide_eq_true e1
  have h2 : ilt j (.ofNat 1073741824) = true := by rw [ilt_eq]; exact decide_eq_true e2
  rw [h1, h2, idiv_eq]; rfl
theorem b_mod (e1 : 0 < j) : bop .mod m (.pv (.int i)) (.pv (.int j)) h = .ok (.pv (.int (i % j))) h := by
  show okIf (ilt (.ofNat 0) j) (.pv (.int (imod i j))) h = _
  have h1 : ilt (.ofNat 0) j = true := by rw [ilt_eq]; exact decide_eq_true e1
  rw [h1, imod_eq]; rfl
theorem b_cat {x y : Tx} (e : x.length + y.length ≤ 16777216) : bop .add m (.pv (.str x)) (.pv (.str y)) h = .ok (.pv (.str (x ++ y))) h := by
  show okIf (line (x.length + y.length)) _ h = _
  rw [show line (x.length + y.length) = true from Nat.ble_eq_true_of_le e]; rfl
theorem c_lt : cop .lt (.pv (.int i)) (.pv (.int j)) h = some (decide (i < j)) := by show some (ilt i j) = _; rw [ilt_eq]
theorem c_le : cop .le (.pv (.int i)) (.pv (.int j)) h = some (decide (i ≤ j)) := by show some (ile i j) = _; rw [ile_eq]
theorem c_gt : cop .gt (.pv (.int i)) (.pv (.int j)) h = some (decide (j < i)) := by show some (ilt j i) = _; rw [ilt_eq]
theorem c_ge : cop .ge (.pv (.int i)) (.pv (.int j)) h = some (decide (j ≤ i)) := by show some (ile j i) = _; rw [ile_eq]
theorem c_eqI : cop .eq (.pv (.int i)) (.pv (.int j)) h = some (decide (i = j)) := by show some (ieq i j) = _; rw [ieq_eq]
theorem c_neI : cop .ne (.pv (.int i)) (.pv (.int j)) h = some (!decide (i = j)) := by show some (!ieq i j) = _; rw [ieq_eq]
theorem c_eqS {x y : Tx} : cop .eq (.pv (.str x)) (.pv (.str y)) h = some (decide (x = y)) := by show some (txEq x y) = _; rw [txEq_eq]
theorem c_neS {x y : Tx} : cop .ne (.pv (.str x)) (.pv (.str y)) h = some (!decide (x = y)) := by show some (!txEq x y) = _; rw [txEq_eq]
theorem c_neB {x y : Bool} : cop .ne (.pv (.bl x)) (.pv (.bl y)) h = some (!(x == y)) := by show some (!beqB x y) = _; rw [beqB_eq]
theorem c_isN0 : cop .isN (.pv .non) (.pv .non) h = some true := rfl
theorem c_isN1 : cop .isN (.pv (.int i)) (.pv .non) h = some false := rfl
theorem c_isN2 {x : Tx} : cop .isN (.pv (.str x)) (.pv .non) h = some false := rfl
theorem t_bl {b : Bool} : truth (.pv (.bl b)) h = some b := rfl
theorem atIx_nat {α : Type} (xs : List α) (n : Nat) : atIx xs (n : Int) = nth xs n := rfl
theorem pvs_map : ∀ l : List PV, pvsOf (l.map W.pv) = some l
  | [] => rfl
  | p :: r => by rw [List.map_cons, pvsOf, pvs_map r]
theorem line_le {n : Nat} (e : n ≤ 16777216) : line n = true := Nat.ble_eq_true_of_le e
theorem newL_data {ps : List PV} (e : ps.length ≤ 16777216) : newL false (ps.map W.pv) h = .ok (.pv (.lst ps)) h := by
  unfold newL
  rw [List.length_map, line_le e, pvs_map]
theorem newT_data {ps : List PV} (e : ps.length ≤ 16777216) : newT (ps.map W.pv) h = .ok (.pv (.tup ps)) h := by
  unfold newT
  rw [List.length_map, line_le e, pvs_map]
theorem newL_ref {ws : List W} (e : ws.length ≤ 16777216) : newL true ws h = .ok (.ref h.length) (h ++ [.lst ws]) := by
  unfold newL
  rw [line_le e]
theorem p_list {ps : List PV} (e : ps.length ≤ 16777216) : prim .lst false [.pv (.lst ps)] h = .ok (.pv (.lst ps)) h := by
  show (match itemsOf (.pv (.lst ps)) h with
      | some ws => newL false ws h
      | none => .no) = _
  exact newL_data e
theorem b_catL {x y : List PV} (e : (x ++ y).length ≤ 16777216) : bop .add false (.pv (.lst x)) (.pv (.lst y)) h = .ok (.pv (.lst (x ++ y))) h := by
  show newL false (x.map W.pv ++ y.map W.pv) h = _
  rw [← List.map_append]
  exact newL_data e
theorem p_absI : prim .abs m [.pv (.int i)] h = .ok (.pv (.int (i.natAbs : Int))) h := rfl
theorem p_intI : prim .int m [.pv (.int i)] h = .ok (.pv (.int i)) h := rfl
theorem p_lenL {ps : List PV} : prim .len m [.pv (.lst ps)] h = .ok (.pv (.int (ps.length : Int))) h := rfl
theorem p_lenT {ps : List PV} : prim .len m [.pv (.tup ps)] h = .ok (.pv (.int (ps.length : Int))) h := rfl
theorem p_lenS {x : Tx} (e : x.length ≤ 16777216) : prim .len m [.pv (.str x)] h = .ok (.pv (.int (x.length : Int))) h := by
  show R.ofP ((lenOf (.pv (.str x)) h).map _) h = _
  unfold lenOf
  simp only [line_le e]
  rfl
theorem p_strS {x : Tx} : prim .str m [.pv (.str x)] h = .ok (.pv (.str x)) h := rfl
theorem p_strI (e : i.natAbs.log2 < 1920) : prim .str m [.pv (.int i)] h = .ok (.pv (.str (intTx i))) h := by
  show okIf (Nat.blt (Nat.log2 i.natAbs) 1920) _ h = _
  rw [Nat.blt_eq.mpr e]; rfl
theorem i_lst {ps : List PV} {n : Nat} {p : PV} (e : nth ps n = some p) : ixOf (.pv (.lst ps)) (.pv (.int (n : Int))) h = some (.pv p) := by
  show (atIx ps (n : Int)).map W.pv = _
  rw [atIx_nat, e]; rfl
theorem i_tup {ps : List PV} {n : Nat} {p : PV} (e : nth ps n = some p) : ixOf (.pv (.tup ps)) (.pv (.int (n : Int))) h = some (.pv p) := by
  show (atIx ps (n : Int)).map W.pv = _
  rw [atIx_nat, e]; rfl
theorem i_str {x : Tx} {n : Nat} {k : Nat} (hl : x.length ≤ 16777216) (e : nth x n = some k) : ixOf (.pv (.str x)) (.pv (.int (n : Int))) h = some (.pv (.str [k])) := by
  unfold ixOf
  simp only [line_le hl]
  show (atIx x (n : Int)).map _ = _
  rw [atIx_nat, e]; rfl
end
/-- a loop keeps what each turn keeps -/
theorem forL_inv {asg : Item → Sl → LH → SR} {body : Sl → LH → SR} (I : Nat → Sl → LH → Prop) : ∀ (xs : List Item) (k : Nat) (ρ : Sl) (h : LH), I k ρ h →
    (∀ i x ρ h, xs[i]? = some x → I (k + i) ρ h → ∃ ρ1 h1 ρ2 h2, asg x ρ h = .nx ρ1 h1 ∧ (body ρ1 h1 = .nx ρ2 h2 ∨ body ρ1 h1 = .ct ρ2 h2) ∧ I (k + i + 1) ρ2 h2) → ∃ ρ2 h2, forL asg body xs ρ h = .nx ρ2 h2 ∧ I (k + xs.length) ρ2 h2
  | [], k, ρ, h, h0, _ => ⟨ρ, h, rfl, h0⟩
  | x :: xs, k, ρ, h, h0, st => by
    obtain ⟨ρ1, h1, ρ2, h2, e1, e2, h3⟩ := st 0 x ρ h rfl h0
    have ih := forL_inv I xs (k + 1) ρ2 h2 h3 fun i y ρ h e hi => by
      have := st (i + 1) y ρ h (by simpa using e) (by rw [show k + (i + 1) = k + 1 + i by omega]; exact hi)
      rwa [show k + (i + 1) = k + 1 + i by omega] at this
    obtain ⟨ρ3, h4, e3, h5⟩ := ih
    refine ⟨ρ3, h4, ?_, by rw [List.length_cons, show k + (xs.length + 1) = k + 1 + xs.length by omega]; exact h5⟩
    rcases e2 with e2 | e2
    · simp only [forL, e1, e2, e3]
    · simp only [forL, e1, e2, e3]
end Sx
end

section
set_option autoImplicit false
set_option linter.all false
namespace K54
open Sx PySem
/-- number_text: 0=number -/
def f_number_text : Fn := ⟨1, 1,
  (.cons (.ret (.ite (.cmp .isN (.var 0) (.cst (.non))) (.glob 0) (.prim .str false (.cons (.var 0) .nil))))
  .nil)⟩
/-- lettered: 0=number 1=found -/
def f_lettered : Fn := ⟨1, 2,
  (.cons (.set (.nm 1) (.cst (.str [])))
  (.cons (.whl 100000 (.cmp .gt (.var 0) (.cst (.int 0))) (.cons (.set (.nm 1) (.bin .add false (.ix (.glob 1) (.bin .mod false (.bin .sub false (.var 0) (.cst (.int 1))) (.prim .len false (.cons (.glob 1) .nil)))) (.var 1)))
  (.cons (.set (.nm 0) (.bin .fdv false (.bin .sub false (.var 0) (.cst (.int 1))) (.prim .len false (.cons (.glob 1) .nil))))
  .nil)))
  (.cons (.ret (.var 1))
  .nil)))⟩
/-- roman: 0=number 1=found 2=value 3=signs -/
def f_roman : Fn := ⟨1, 4,
  (.cons (.set (.nm 1) (.cst (.str [])))
  (.cons (.for_ (.tup (.cons (.nm 2) (.cons (.nm 3) .nil))) (.seq (.glob 2)) (.cons (.whl 100000 (.cmp .ge (.var 0) (.var 2)) (.cons (.set (.nm 1) (.bin .add false (.var 1) (.var 3)))
  (.cons (.set (.nm 0) (.bin .sub false (.var 0) (.var 2)))
  .nil)))
  .nil))
  (.cons (.ret (.var 1))
  .nil)))⟩
/-- formed: 0=value 1=form -/
def f_formed : Fn := ⟨2, 2,
  (.cons (.sif (.orr (.cmp .isN (.var 0) (.cst (.non))) (.cmp .lt (.var 0) (.cst (.int 1)))) (.cons (.ret (.call true 0 (.cons (.var 0) .nil)))
  .nil) .nil)
  (.cons (.sif (.cmp .inn (.var 1) (.tup (.cons (.cst (.str [97])) (.cons (.cst (.str [65])) .nil)))) (.cons (.ret (.ite (.cmp .eq (.var 1) (.cst (.str [97]))) (.call true 1 (.cons (.var 0) .nil)) (.bm .upper false (.call true 1 (.cons (.var 0) .nil)) .nil)))
  .nil) .nil)
  (.cons (.sif (.nd (.cmp .inn (.var 1) (.tup (.cons (.cst (.str [105])) (.cons (.cst (.str [73])) .nil)))) (.cmp .le (.var 0) (.glob 3))) (.cons (.ret (.ite (.cmp .eq (.var 1) (.cst (.str [105]))) (.call true 2 (.cons (.var 0) .nil)) (.bm .upper false (.call true 2 (.cons (.var 0) .nil)) .nil)))
  .nil) .nil)
  (.cons (.ret (.call true 0 (.cons (.var 0) .nil)))
  .nil))))⟩
/-- _law_cup: 0=script 1=cell -/
def f__law_cup : Fn := ⟨1, 2,
  (.cons (.set (.nm 1) (.prim .abs false (.cons (.ix (.bin .add false (.prim .lst false (.cons (.var 0) .nil)) (.lst false (.cons (.cst (.int 0)) .nil))) (.cst (.int 0))) .nil)))
  (.cons (.ret (.lst true (.cons (.ite (.cmp .ge (.var 1) (.bin .pow false (.cst (.int 10)) (.cst (.int 18)))) (.bin .fdv false (.var 1) (.cst (.int 67))) (.cst (.int 0))) (.cons (.bin .add false (.bin .mod false (.prim .int false (.cons (.bin .add false (.bin .mul false (.var 1) (.cst (.int 277))) (.cst (.int 2609))) .nil)) (.cst (.int 2077503167))) (.cst (.int 163))) .nil))))
  .nil))⟩
/-- _law_roll: 0=cup 1=many 2=found 3=deep -/
def f__law_roll : Fn := ⟨2, 4,
  (.cons (.sif (.cmp .gt (.ix (.var 0) (.cst (.int 0))) (.cst (.int 0))) (.cons (.set (.nm 2) (.bin .mod false (.prim .int false (.cons (.ix (.var 0) (.cst (.int 0))) .nil)) (.var 1)))
  (.cons (.set (.sub (.var 0) (.cst (.int 0))) (.bin .fdv false (.ix (.var 0) (.cst (.int 0))) (.var 1)))
  (.cons (.ret (.var 2))
  .nil))) .nil)
  (.cons (.set (.sub (.var 0) (.cst (.int 1))) (.bin .mod false (.prim .int false (.cons (.bin .add false (.bin .mul false (.ix (.var 0) (.cst (.int 1))) (.cst (.int 31051))) (.cst (.int 7993))) .nil)) (.cst (.int 2147483543))))
  (.cons (.set (.nm 3) (.bin .mod false (.prim .int false (.cons (.bin .mul false (.ix (.var 0) (.cst (.int 1))) (.bin .add false (.ix (.var 0) (.cst (.int 1))) (.cst (.int 229)))) .nil)) (.cst (.int 2147483587))))
  (.cons (.ret (.bin .mod false (.prim .int false (.cons (.bin .fdv false (.var 3) (.cst (.int 821))) .nil)) (.var 1)))
  .nil))))⟩
/-- _law_some: 0=cup 1=things -/
def f__law_some : Fn := ⟨2, 2,
  (.cons (.ret (.ix (.var 1) (.call false 5 (.cons (.var 0) (.cons (.prim .len false (.cons (.var 1) .nil)) .nil)))))
  .nil)⟩
/-- _law_like: 0=one 1=other -/
def f__law_like : Fn := ⟨2, 2,
  (.cons (.ret (.like (.var 0) (.var 1)))
  .nil)⟩
/-- _law_letters: 0=number 1=size 2=many 3=left 4=found 5=turn -/
def f__law_letters : Fn := ⟨1, 6,
  (.cons (.set (.tup (.cons (.nm 1) (.cons (.nm 2) (.cons (.nm 3) (.cons (.nm 4) .nil))))) (.tup (.cons (.cst (.int 1)) (.cons (.cst (.int 26)) (.cons (.bin .sub false (.var 0) (.cst (.int 1))) (.cons (.cst (.str [])) .nil))))))
  (.cons (.whl 100000 (.cmp .ge (.var 3) (.var 2)) (.cons (.par3 3 2 1 (.bin .sub false (.var 3) (.var 2)) (.bin .mul false (.var 2) (.cst (.int 26))) (.bin .add false (.var 1) (.cst (.int 1))))
  .nil))
  (.cons (.for_ (.nm 5) (.rng1 (.var 1)) (.cons (.set (.nm 4) (.bin .add false (.ix (.cst (.str [97,98,99,100,101,102,103,104,105,106,107,108,109,110,111,112,113,114,115,116,117,118,119,120,121,122])) (.bin .sub false (.var 3) (.bin .mul false (.bin .fdv false (.var 3) (.cst (.int 26))) (.cst (.int 26))))) (.var 4)))
  (.cons (.set (.nm 3) (.bin .fdv false (.var 3) (.cst (.int 26))))
  .nil)))
  (.cons (.ret (.var 4))
  .nil))))⟩
/-- _law_roman: 0=number 1=found 2=left 3=one 4=five 5=ten 6=digit 7=rows -/
def f__law_roman : Fn := ⟨1, 8,
  (.cons (.par2 1 2 (.cst (.str [])) (.var 0))
  (.cons (.for_ (.tup (.cons (.nm 3) (.cons (.nm 4) (.cons (.nm 5) .nil)))) (.seq (.tup (.cons (.tup (.cons (.cst (.str [105])) (.cons (.cst (.str [118])) (.cons (.cst (.str [120])) .nil)))) (.cons (.tup (.cons (.cst (.str [120])) (.cons (.cst (.str [108])) (.cons (.cst (.str [99])) .nil)))) (.cons (.tup (.cons (.cst (.str [99])) (.cons (.cst (.str [100])) (.cons (.cst (.str [109])) .nil)))) (.cons (.tup (.cons (.cst (.str [109])) (.cons (.cst (.str [])) (.cons (.cst (.str [])) .nil)))) .nil)))))) (.cons (.par2 6 2 (.bin .sub false (.var 2) (.bin .mul false (.bin .fdv false (.var 2) (.cst (.int 10))) (.cst (.int 10)))) (.bin .fdv false (.var 2) (.cst (.int 10))))
  (.cons (.set (.nm 7) (.lst false (.cons (.cst (.str [])) (.cons (.var 3) (.cons (.bin .mul false (.var 3) (.cst (.int 2))) (.cons (.bin .mul false (.var 3) (.cst (.int 3))) (.cons (.bin .add false (.var 3) (.var 4)) (.cons (.var 4) (.cons (.bin .add false (.var 4) (.var 3)) (.cons (.bin .add false (.var 4) (.bin .mul false (.var 3) (.cst (.int 2)))) (.cons (.bin .add false (.var 4) (.bin .mul false (.var 3) (.cst (.int 3)))) (.cons (.bin .add false (.var 3) (.var 5)) .nil))))))))))))
  (.cons (.set (.nm 1) (.bin .add false (.ix (.var 7) (.var 6)) (.var 1)))
  .nil))))
  (.cons (.ret (.var 1))
  .nil)))⟩
/-- _law_formed: 0=number 1=form -/
def f__law_formed : Fn := ⟨2, 2,
  (.cons (.sif (.cmp .isN (.var 0) (.cst (.non))) (.cons (.ret (.cst (.str [110,111,110,101])))
  .nil) .nil)
  (.cons (.sif (.nd (.cmp .inn (.var 1) (.tup (.cons (.cst (.str [97])) (.cons (.cst (.str [65])) .nil)))) (.cmp .gt (.var 0) (.cst (.int 0)))) (.cons (.ret (.ite (.cmp .eq (.var 1) (.cst (.str [65]))) (.bm .upper false (.call true 8 (.cons (.var 0) .nil)) .nil) (.call true 8 (.cons (.var 0) .nil))))
  .nil) .nil)
  (.cons (.sif (.nd (.cmp .inn (.var 1) (.tup (.cons (.cst (.str [105])) (.cons (.cst (.str [73])) .nil)))) (.chain .lt .lt (.cst (.int 0)) (.var 0) (.cst (.int 4000)))) (.cons (.ret (.ite (.cmp .eq (.var 1) (.cst (.str [73]))) (.bm .upper false (.call true 9 (.cons (.var 0) .nil)) .nil) (.call true 9 (.cons (.var 0) .nil))))
  .nil) .nil)
  (.cons (.ret (.prim .str false (.cons (.var 0) .nil)))
  .nil))))⟩
/-- law: 0=script 1=cup 2=turn 3=near 4=number 5=form 6=one 7=two 8=rows 9=row -/
def f_law : Fn := ⟨1, 10,
  (.cons (.set (.nm 1) (.call false 4 (.cons (.var 0) .nil)))
  (.cons (.for_ (.nm 2) (.rng1 (.cst (.int 20))) (.cons (.set (.nm 3) (.bin .sub false (.bin .add false (.call false 6 (.cons (.var 1) (.cons (.lst false (.cons (.cst (.int 0)) (.cons (.cst (.int 5)) (.cons (.cst (.int 26)) (.cons (.cst (.int 52)) (.cons (.cst (.int 702)) (.cons (.cst (.int 1000)) (.cons (.cst (.int 18278)) (.cons (.cst (.int 3999)) (.cons (.cst (.int 475254)) (.cons (.cst (.int 999999990)) .nil))))))))))) .nil))) (.call false 5 (.cons (.var 1) (.cons (.cst (.int 9)) .nil)))) (.cst (.int 4))))
  (.cons (.set (.nm 4) (.call false 6 (.cons (.var 1) (.cons (.lst false (.cons (.var 3) (.cons (.bin .add false (.cst (.int 1)) (.call false 5 (.cons (.var 1) (.cons (.cst (.int 3999)) .nil)))) (.cons (.call false 5 (.cons (.var 1) (.cons (.bin .pow false (.cst (.int 10)) (.cst (.int 9))) .nil))) (.cons (.neg (.call false 5 (.cons (.var 1) (.cons (.cst (.int 99)) .nil)))) (.cons (.cst (.non)) .nil)))))) .nil))))
  (.cons (.for_ (.nm 5) (.seq (.tup (.cons (.cst (.str [49])) (.cons (.cst (.str [97])) (.cons (.cst (.str [65])) (.cons (.cst (.str [105])) (.cons (.cst (.str [73])) (.cons (.call false 6 (.cons (.var 1) (.cons (.lst false (.cons (.cst (.str [])) (.cons (.cst (.str [48,49])) (.cons (.cst (.str [97,97])) (.cons (.cst (.str [120])) (.cons (.cst (.str [73,73])) (.cons (.cst (.str [105,32])) (.cons (.cst (.str [110,111,110,101])) .nil)))))))) .nil))) .nil)))))))) (.cons (.sif (.ntt (.call true 7 (.cons (.call true 3 (.cons (.var 4) (.cons (.var 5) .nil))) (.cons (.call true 10 (.cons (.var 4) (.cons (.var 5) .nil))) .nil)))) (.cons (.ret (.cst (.bl false)))
  .nil) .nil)
  .nil))
  .nil))))
  (.cons (.par2 6 7 (.bin .add false (.cst (.int 1)) (.call false 5 (.cons (.var 1) (.cons (.cst (.int 20000)) .nil)))) (.bin .add false (.cst (.int 1)) (.call false 5 (.cons (.var 1) (.cons (.cst (.int 20000)) .nil)))))
  (.cons (.sif (.cmp .ne (.cmp .eq (.call true 3 (.cons (.var 6) (.cons (.cst (.str [97])) .nil))) (.call true 3 (.cons (.var 7) (.cons (.cst (.str [97])) .nil)))) (.cmp .eq (.var 6) (.var 7))) (.cons (.ret (.cst (.bl false)))
  .nil) .nil)
  (.cons (.set (.nm 8) (.lst false (.cons (.tup (.cons (.cst (.int 1)) (.cons (.cst (.str [97])) (.cons (.cst (.str [97])) .nil)))) (.cons (.tup (.cons (.cst (.int 26)) (.cons (.cst (.str [97])) (.cons (.cst (.str [122])) .nil)))) (.cons (.tup (.cons (.cst (.int 27)) (.cons (.cst (.str [65])) (.cons (.cst (.str [65,65])) .nil)))) (.cons (.tup (.cons (.cst (.int 52)) (.cons (.cst (.str [97])) (.cons (.cst (.str [97,122])) .nil)))) (.cons (.tup (.cons (.cst (.int 53)) (.cons (.cst (.str [97])) (.cons (.cst (.str [98,97])) .nil)))) (.cons (.tup (.cons (.cst (.int 702)) (.cons (.cst (.str [97])) (.cons (.cst (.str [122,122])) .nil)))) (.cons (.tup (.cons (.cst (.int 703)) (.cons (.cst (.str [97])) (.cons (.cst (.str [97,97,97])) .nil)))) (.cons (.tup (.cons (.cst (.int 18279)) (.cons (.cst (.str [97])) (.cons (.cst (.str [97,97,97,97])) .nil)))) .nil))))))))))
  (.cons (.set (.nm 8) (.bin .add false (.var 8) (.lst false (.cons (.tup (.cons (.cst (.int 4)) (.cons (.cst (.str [105])) (.cons (.cst (.str [105,118])) .nil)))) (.cons (.tup (.cons (.cst (.int 9)) (.cons (.cst (.str [73])) (.cons (.cst (.str [73,88])) .nil)))) (.cons (.tup (.cons (.cst (.int 40)) (.cons (.cst (.str [105])) (.cons (.cst (.str [120,108])) .nil)))) (.cons (.tup (.cons (.cst (.int 90)) (.cons (.cst (.str [105])) (.cons (.cst (.str [120,99])) .nil)))) (.cons (.tup (.cons (.cst (.int 400)) (.cons (.cst (.str [105])) (.cons (.cst (.str [99,100])) .nil)))) (.cons (.tup (.cons (.cst (.int 900)) (.cons (.cst (.str [105])) (.cons (.cst (.str [99,109])) .nil)))) (.cons (.tup (.cons (.cst (.int 1994)) (.cons (.cst (.str [105])) (.cons (.cst (.str [109,99,109,120,99,105,118])) .nil)))) .nil))))))))))
  (.cons (.set (.nm 8) (.bin .add false (.var 8) (.lst false (.cons (.tup (.cons (.cst (.int 3999)) (.cons (.cst (.str [73])) (.cons (.cst (.str [77,77,77,67,77,88,67,73,88])) .nil)))) (.cons (.tup (.cons (.cst (.int 4000)) (.cons (.cst (.str [73])) (.cons (.cst (.str [52,48,48,48])) .nil)))) (.cons (.tup (.cons (.cst (.int 0)) (.cons (.cst (.str [97])) (.cons (.cst (.str [48])) .nil)))) (.cons (.tup (.cons (.cst (.int 0)) (.cons (.cst (.str [105])) (.cons (.cst (.str [48])) .nil)))) (.cons (.tup (.cons (.neg (.cst (.int 5))) (.cons (.cst (.str [65])) (.cons (.cst (.str [45,53])) .nil)))) (.cons (.tup (.cons (.cst (.non)) (.cons (.cst (.str [97])) (.cons (.cst (.str [110,111,110,101])) .nil)))) (.cons (.tup (.cons (.cst (.non)) (.cons (.cst (.str [49])) (.cons (.cst (.str [110,111,110,101])) .nil)))) .nil))))))))))
  (.cons (.set (.nm 8) (.bin .add false (.var 8) (.lst false (.cons (.tup (.cons (.cst (.int 999999999)) (.cons (.cst (.str [97])) (.cons (.cst (.str [99,102,100,103,115,120,107])) .nil)))) (.cons (.tup (.cons (.cst (.int 3888)) (.cons (.cst (.str [105])) (.cons (.cst (.str [109,109,109,100,99,99,99,108,120,120,120,118,105,105,105])) .nil)))) (.cons (.tup (.cons (.neg (.cst (.int 999999999))) (.cons (.cst (.str [49])) (.cons (.cst (.str [45,57,57,57,57,57,57,57,57,57])) .nil)))) (.cons (.tup (.cons (.cst (.int 12)) (.cons (.cst (.str [])) (.cons (.cst (.str [49,50])) .nil)))) .nil)))))))
  (.cons (.ret (.cmp .eq (.lc false [9] (.nm 9) (.seq (.var 8)) (.so (.ntt (.call true 7 (.cons (.call true 3 (.cons (.ix (.var 9) (.cst (.int 0))) (.cons (.ix (.var 9) (.cst (.int 1))) .nil))) (.cons (.ix (.var 9) (.cst (.int 2))) .nil))))) (.var 9)) (.lst false .nil)))
  .nil)))))))))⟩
def g_NONE : W := .pv (.str [110,111,110,101])
def g_LETTERS : W := .pv (.str [97,98,99,100,101,102,103,104,105,106,107,108,109,110,111,112,113,114,115,116,117,118,119,120,121,122])
def g_ROMAN : W := .pv (.tup [(.tup [(.int 1000), (.str [109])]), (.tup [(.int 900), (.str [99,109])]), (.tup [(.int 500), (.str [100])]), (.tup [(.int 400), (.str [99,100])]), (.tup [(.int 100), (.str [99])]), (.tup [(.int 90), (.str [120,99])]), (.tup [(.int 50), (.str [108])]), (.tup [(.int 40), (.str [120,108])]), (.tup [(.int 10), (.str [120])]), (.tup [(.int 9), (.str [105,120])]), (.tup [(.int 5), (.str [118])]), (.tup [(.int 4), (.str [105,118])]), (.tup [(.int 1), (.str [105])])])
def g_GREATEST : W := .pv (.int 3999)
def dns : List Dn := [⟨"number_text", 2, ["number"]⟩,
  ⟨"lettered", 7, ["number", "found"]⟩,
  ⟨"roman", 8, ["number", "found", "value", "signs"]⟩,
  ⟨"formed", 9, ["value", "form"]⟩,
  ⟨"_law_cup", 11, ["script", "cell"]⟩,
  ⟨"_law_roll", 12, ["cup", "many", "found", "deep"]⟩,
  ⟨"_law_some", 13, ["cup", "things"]⟩,
  ⟨"_law_like", 14, ["one", "other"]⟩,
  ⟨"_law_letters", 15, ["number", "size", "many", "left", "found", "turn"]⟩,
  ⟨"_law_roman", 16, ["number", "found", "left", "one", "five", "ten", "digit", "rows"]⟩,
  ⟨"_law_formed", 17, ["number", "form"]⟩,
  ⟨"law", 18, ["script", "cup", "turn", "near", "number", "form", "one", "two", "rows", "row"]⟩]
def gls : List (PySem.Str × PV) := [("NONE", .str [110,111,110,101]),
  ("LETTERS", .str [97,98,99,100,101,102,103,104,105,106,107,108,109,110,111,112,113,114,115,116,117,118,119,120,121,122]),
  ("ROMAN", .tup [(.tup [(.int 1000), (.str [109])]), (.tup [(.int 900), (.str [99,109])]), (.tup [(.int 500), (.str [100])]), (.tup [(.int 400), (.str [99,100])]), (.tup [(.int 100), (.str [99])]), (.tup [(.int 90), (.str [120,99])]), (.tup [(.int 50), (.str [108])]), (.tup [(.int 40), (.str [120,108])]), (.tup [(.int 10), (.str [120])]), (.tup [(.int 9), (.str [105,120])]), (.tup [(.int 5), (.str [118])]), (.tup [(.int 4), (.str [105,118])]), (.tup [(.int 1), (.str [105])])]),
  ("GREATEST", .int 3999)]
def fns : Tree Fn := (.nd (.nd (.nd (.nd .lf (some f__law_like) .lf) (some f_formed) (.nd .lf (some f_law) .lf)) (some f_lettered) (.nd (.nd .lf (some f__law_roman) .lf) (some f__law_roll) .lf)) (some f_number_text) (.nd (.nd (.nd .lf (some f__law_letters) .lf) (some f__law_cup) .lf) (some f_roman) (.nd (.nd .lf (some f__law_formed) .lf) (some f__law_some) .lf)))
def globs : Tree W := (.nd (.nd (.nd (.nd (.nd .lf (some (.fn 11)) .lf) (some (.fn 3)) .lf) (some g_GREATEST) (.nd .lf (some (.fn 7)) .lf)) (some g_LETTERS) (.nd (.nd .lf (some (.fn 5)) .lf) (some (.fn 1)) (.nd .lf (some (.fn 9)) .lf))) (some g_NONE) (.nd (.nd (.nd .lf (some (.fn 4)) .lf) (some (.fn 0)) (.nd .lf (some (.fn 8)) .lf)) (some g_ROMAN) (.nd (.nd .lf (some (.fn 6)) .lf) (some (.fn 2)) (.nd .lf (some (.fn 10)) .lf))))
def Γ : Gl := ⟨globs, fns⟩
abbrev id_number_text : Nat := 0
abbrev id_lettered : Nat := 1
abbrev id_roman : Nat := 2
abbrev id_formed : Nat := 3
abbrev id__law_cup : Nat := 4
abbrev id__law_roll : Nat := 5
abbrev id__law_some : Nat := 6
abbrev id__law_like : Nat := 7
abbrev id__law_letters : Nat := 8
abbrev id__law_roman : Nat := 9
abbrev id__law_formed : Nat := 10
abbrev id_law : Nat := 11
end K54
end

section
set_option Elab.async false
set_option linter.all false
set_option maxRecDepth 100000
set_option maxHeartbeats 0
namespace K54
open PySem PySem.Spec PyProof.Rows L2 Sx
abbrev Rw : PySem.W.OpenRow := PySem.W.OpenLaw.row PySem.Challenge.rw_sheetturn_k54_numbers_in_forms
abbrev hk : PySem.W.Hook := hookX 4 (fasOf dns) gls (dns.map (Dn.dd Rw.prog))
def ob (s : PySem.W.SharedT) : He.AlD × Bool := obX 4 (fasOf dns) gls (dns.map (Dn.dd Rw.prog)) (HandSHeadRun.getT s)
theorem ob_eq (s : PySem.W.SharedT) : ob s = hk.obs s.abs := obX_eq (HandSHeadRun.getT_eq s)
theorem ck1 : dnsB Rw.prog Γ (nmOf dns (gls.map (·.1))) 60 0 dns = true := by decide +kernel
theorem ck2 : glsB Γ 0 gls = true := by decide +kernel
end K54
end

section
set_option autoImplicit false
set_option linter.all false
set_option maxRecDepth 4000
namespace K54
open Sx
/-- the cup -/
abbrev C (a b : Int) : LH := [.lst [.pv (.int a), .pv (.int b)]]
theorem roll1 (d : Nat) (many a b : Int) (ha : 0 < a) (hm : 0 < many) (hm2 : many < 1073741824) :
    run Γ (d + 1) 5 [.ref 0, .pv (.int many)] (C a b) = .ok (.pv (.int (a % many))) (C (a / many) b) := by
  show fin (evSs Γ (run Γ d) f__law_roll.body [some (.ref 0), some (.pv (.int many)), none, none] (C a b)) = _
  simp [f__law_roll, evSs, evS, evE, evEs, R.toS, R.bind, nth, R.ofO, ixOf, atIx, cop, ordW, cmpI, R.ofP, Option.map, truth, ilt_eq, ile_eq, ieq_eq, iadd_eq, isub_eq, imul_eq, idiv_eq, imod_eq, ha, prim, bop, bopI, okIf, hm, hm2, asT, setItem, ixNorm, setN, Bool.and, fin, Nat.blt]
theorem roll2 (d : Nat) (many a b : Int) (ha : ¬ 0 < a) (hm : 0 < many) :
    run Γ (d + 1) 5 [.ref 0, .pv (.int many)] (C a b) = .ok (.pv (.int ((((b * 31051 + 7993) % 2147483543) * ((b * 31051 + 7993) % 2147483543 + 229) % 2147483587 / 821) % many))) (C a ((b * 31051 + 7993) % 2147483543)) := by
  show fin (evSs Γ (run Γ d) f__law_roll.body [some (.ref 0), some (.pv (.int many)), none, none] (C a b)) = _
  have h1 : mulOk b 31051 = true := mul_ok2 (by decide) (by decide)
  have h2 : mulOk ((b * 31051 + 7993) % 2147483543) ((b * 31051 + 7993) % 2147483543 + 229) = true := mul_ok (by omega) (by omega)
  simp [f__law_roll, evSs, evS, evE, evEs, R.toS, R.bind, nth, R.ofO, ixOf, atIx, cop, ordW, cmpI, R.ofP, Option.map, truth, ilt_eq, ile_eq, ieq_eq, iadd_eq, isub_eq, imul_eq, idiv_eq, imod_eq, ha, prim, bop, bopI, okIf, hm, h1, h2, asT, setItem, ixNorm, setN, Bool.and, fin, Nat.blt]
theorem roll (d : Nat) (many a b : Int) (h0 : 0 ≤ a) (hm : 0 < many) (hm2 : many < 1073741824) :
    ∃ r a2 b2, run Γ (d + 1) 5 [.ref 0, .pv (.int many)] (C a b) = .ok (.pv (.int r)) (C a2 b2) ∧ 0 ≤ r ∧ r < many ∧ 0 ≤ a2 := by
  by_cases ha : 0 < a
  · exact ⟨_, _, _, roll1 d many a b ha hm hm2, Int.emod_nonneg _ (by omega), Int.emod_lt_of_pos _ hm, Int.ediv_nonneg h0 (by omega)⟩
  · exact ⟨_, _, _, roll2 d many a b ha hm, Int.emod_nonneg _ (by omega), Int.emod_lt_of_pos _ hm, h0⟩
theorem nth_lt {α : Type} : ∀ (l : List α) (n : Nat), n < l.length → ∃ x, nth l n = some x ∧ x ∈ l := fun l n h => by
  rw [nth_eq]
  exact ⟨l[n], List.getElem?_eq_getElem h, List.getElem_mem h⟩
theorem some_ (d : Nat) (ps : List PV) (a b : Int) (h0 : 0 ≤ a) (hp : ps ≠ []) (hl : ps.length < 1000) :
    ∃ p a2 b2, run Γ (d + 2) 6 [.ref 0, .pv (.lst ps)] (C a b) = .ok (.pv p) (C a2 b2) ∧ p ∈ ps ∧ 0 ≤ a2 := by
  have hl0 : 0 < ps.length := List.length_pos_iff.mpr hp
  obtain ⟨r, a2, b2, e, r0, r1, h2⟩ := roll d ps.length a b h0 (by omega) (by omega)
  obtain ⟨k, rfl⟩ : ∃ k : Nat, r = (k : Int) := ⟨r.toNat, by omega⟩
  obtain ⟨p, hp1, hp2⟩ := nth_lt ps k (by omega)
  refine ⟨p, a2, b2, ?_, hp2, h2⟩
  show fin (evSs Γ (run Γ (d + 1)) f__law_some.body [some (.ref 0), some (.pv (.lst ps))] (C a b)) = _
  simp only [f__law_some, evSs, evS, evE, evEs, R.toS, R.bind, nth, R.ofO, p_lenL, doCall, e, i_lst hp1, fin]
theorem cup (d : Nat) (ns : List Int) (hl : ns.length ≤ 63) : ∃ a b, run Γ (d + 1) 4 [.pv (.lst (ns.map .int))] [] = .ok (.ref 0) (C a b) ∧ 0 ≤ a := by
  have l1 : (ns.map PV.int).length ≤ 16777216 := by rw [List.length_map]; omega
  have l2 : (ns.map PV.int ++ [PV.int 0]).length ≤ 16777216 := by rw [List.length_append, List.length_map]; simp; omega
  have q3 : ∀ h, newL false [W.pv (PV.int 0)] h = .ok (.pv (.lst [.int 0])) h := fun h => rfl
  have q4 : ∀ x y, newL true [W.pv (PV.int x), W.pv (PV.int y)] [] = .ok (.ref 0) (C x y) := fun x y => rfl
  have pw : ∀ h, bop .pow false (.pv (.int 10)) (.pv (.int 18)) h = .ok (.pv (.int 1000000000000000000)) h := fun h => rfl
  have ix0 : ∃ i, ∀ h, ixOf (.pv (.lst (ns.map PV.int ++ [PV.int 0]))) (.pv (.int 0)) h = some (.pv (.int i)) := by
    cases ns with
    | nil => exact ⟨0, fun h => rfl⟩
    | cons i r => exact ⟨i, fun h => rfl⟩
  obtain ⟨i, ix0⟩ := ix0
  have hm : mulOk (i.natAbs : Int) 277 = true := mul_ok2 (by decide) (by decide)
  show ∃ x y, fin (evSs Γ (run Γ d) f__law_cup.body [some (.pv (.lst (ns.map .int))), none] []) = _ ∧ _
  by_cases hc : (1000000000000000000 : Int) ≤ (i.natAbs : Int)
  · refine ⟨(i.natAbs : Int) / 67, ((i.natAbs : Int) * 277 + 2609) % 2077503167 + 163, ?_, Int.ediv_nonneg (Int.natCast_nonneg _) (by decide)⟩
    simp (config := { decide := true }) only [f__law_cup, evSs, evS, evE, evEs, R.toS, R.bind, nth, R.ofO, R.ofP, Option.map, asT, setN, fin, q3, q4, pw, ix0, p_list l1, b_catL l2, p_absI, p_intI, c_ge, t_bl, decide_eq_true hc, b_fdv, b_add, b_mul hm, b_mod]
  · refine ⟨0, ((i.natAbs : Int) * 277 + 2609) % 2077503167 + 163, ?_, by decide⟩
    simp (config := { decide := true }) only [f__law_cup, evSs, evS, evE, evEs, R.toS, R.bind, nth, R.ofO, R.ofP, Option.map, asT, setN, fin, q3, q4, pw, ix0, p_list l1, b_catL l2, p_absI, p_intI, c_ge, t_bl, decide_eq_false hc, b_fdv, b_add, b_mul hm, b_mod]
end K54
end

section
set_option autoImplicit false
set_option linter.all false
set_option maxRecDepth 4000
namespace K54
open Sx
/-! ### letters -/
def lett (n : Nat) : Tx := if h : n = 0 then [] else lett ((n - 1) / 26) ++ [97 + (n - 1) % 26]
termination_by n
decreasing_by omega
theorem lett0 : lett 0 = [] := by rw [lett]; simp
theorem lett1 {n : Nat} (h : n ≠ 0) : lett n = lett ((n - 1) / 26) ++ [97 + (n - 1) % 26] := by rw [lett]; simp [h]
def ABC : Tx := [97,98,99,100,101,102,103,104,105,106,107,108,109,110,111,112,113,114,115,116,117,118,119,120,121,122]
theorem abc (k : Nat) (h : k < 26) : nth ABC k = some (97 + k) := by
  have : ∀ k : Fin 26, nth ABC k.val = some (97 + k.val) := by decide
  exact this ⟨k, h⟩
def lT : E := (.cmp .gt (.var 0) (.cst (.int 0)))
def lB : Ss := (.cons (.set (.nm 1) (.bin .add false (.ix (.glob 1) (.bin .mod false (.bin .sub false (.var 0) (.cst (.int 1))) (.prim .len false (.cons (.glob 1) .nil)))) (.var 1)))
  (.cons (.set (.nm 0) (.bin .fdv false (.bin .sub false (.var 0) (.cst (.int 1))) (.prim .len false (.cons (.glob 1) .nil))))
  .nil))
theorem lett_body (call : Call) (n : Nat) (acc : Tx) (hn : 0 < n) (ha : acc.length ≤ 1000) :
    evSs Γ call lB [some (.pv (.int (n : Int))), some (.pv (.str acc))] [] = .nx [some (.pv (.int (((n - 1) / 26 : Nat) : Int))), some (.pv (.str ((97 + (n - 1) % 26) :: acc)))] [] := by
  have g1 : Γ.glob.get 1 = some (.pv (.str ABC)) := rfl
  have l1 : prim .len false [W.pv (.str ABC)] [] = .ok (.pv (.int 26)) [] := rfl
  have e1 : ((n : Int) - 1) % 26 = (((n - 1) % 26 : Nat) : Int) := by omega
  have e2 : ((n : Int) - 1) / 26 = (((n - 1) / 26 : Nat) : Int) := by omega
  have ix := i_str (h := ([] : LH)) (x := ABC) (by decide) (abc ((n - 1) % 26) (Nat.mod_lt _ (by decide)))
  have ct : bop .add false (W.pv (.str [97 + (n - 1) % 26])) (W.pv (.str acc)) [] = .ok (.pv (.str ([97 + (n - 1) % 26] ++ acc))) [] := b_cat (by simp; omega)
  simp (config := { decide := true }) only [lB, evSs, evS, evE, evEs, R.toS, R.bind, nth, R.ofO, asT, setN, g1, l1, b_sub, b_mod, b_fdv, e1, e2, ix, ct, List.singleton_append]
theorem lett_loop (call : Call) : ∀ (k n fuel : Nat) (acc : Tx), n < 26 ^ k → k < fuel → acc.length + k ≤ 1000 →
    whileL (evE Γ call lT) (evSs Γ call lB) fuel [some (.pv (.int (n : Int))), some (.pv (.str acc))] [] = .nx [some (.pv (.int 0)), some (.pv (.str (lett n ++ acc)))] [] := by
  intro k
  induction k with
  | zero =>
    intro n fuel acc hn hf ha
    have : n = 0 := by simpa using hn
    subst this
    obtain ⟨f, rfl⟩ : ∃ f, fuel = f + 1 := ⟨fuel - 1, by omega⟩
    simp (config := { decide := true }) only [whileL, lT, evE, R.bind, nth, c_gt, R.ofP, Option.map, t_bl, lett0, List.nil_append]
    rfl
  | succ k ih =>
    intro n fuel acc hn hf ha
    obtain ⟨f, rfl⟩ : ∃ f, fuel = f + 1 := ⟨fuel - 1, by omega⟩
    by_cases h0 : n = 0
    · subst h0
      simp (config := { decide := true }) only [whileL, lT, evE, R.bind, nth, c_gt, R.ofP, Option.map, t_bl, lett0, List.nil_append]
      rfl
    · have hp : (0 : Int) < (n : Int) := by omega
      have hb := lett_body call n acc (by omega) (by omega)
      have hi := ih ((n - 1) / 26) f ((97 + (n - 1) % 26) :: acc) (by rw [Nat.pow_succ] at hn; omega) (by omega) (by simp; omega)
      rw [lett1 h0, List.append_assoc, List.singleton_append, ← hi]
      simp (config := { decide := true }) only [whileL, lT, evE, R.bind, nth, c_gt, R.ofP, Option.map, t_bl, decide_eq_true hp, hb]
theorem lettered (d n : Nat) (hn : n < 26 ^ 7) : run Γ (d + 1) 1 [.pv (.int (n : Int))] [] = .ok (.pv (.str (lett n))) [] := by
  show fin (evSs Γ (run Γ d) (.cons (.set (.nm 1) (.cst (.str []))) (.cons (.whl 100000 lT lB) (.cons (.ret (.var 1)) .nil))) [some (.pv (.int (n : Int))), none] []) = _
  have := lett_loop (run Γ d) 7 n 100000 [] hn (by decide) (by decide)
  rw [List.append_nil] at this
  simp only [evSs, evS, evE, R.toS, asT, setN, this, nth, fin]
/-! ### the law's letters -/
def rep1 : Nat → Nat
  | 0 => 0
  | k + 1 => 26 * rep1 k + 1
theorem rep1_pow (k : Nat) : rep1 (k + 1) = rep1 k + 26 ^ k := by
  induction k with
  | zero => rfl
  | succ k ih =>
    have a1 : rep1 (k + 1 + 1) = 26 * rep1 (k + 1) + 1 := rfl
    have a2 : rep1 (k + 1) = 26 * rep1 k + 1 := rfl
    have a3 : 26 ^ (k + 1) = 26 ^ k * 26 := Nat.pow_succ ..
    omega
def fixw : Nat → Nat → Tx
  | 0, _ => []
  | k + 1, l => fixw k (l / 26) ++ [97 + l % 26]
theorem fixw_lett : ∀ (k l : Nat), l < 26 ^ k → fixw k l = lett (l + rep1 k)
  | 0, l, h => by
    have : l = 0 := by simpa using h
    subst this
    rw [fixw, rep1, lett0]
  | k + 1, l, h => by
    rw [fixw, rep1, lett1 (by omega), fixw_lett k (l / 26) (by rw [Nat.pow_succ] at h; omega)]
    have e1 : (l + (26 * rep1 k + 1) - 1) / 26 = l / 26 + rep1 k := by omega
    have e2 : (l + (26 * rep1 k + 1) - 1) % 26 = l % 26 := by omega
    rw [e1, e2]
def wT : E := (.cmp .ge (.var 3) (.var 2))
def wB2 : Ss := (.cons (.par3 3 2 1 (.bin .sub false (.var 3) (.var 2)) (.bin .mul false (.var 2) (.cst (.int 26))) (.bin .add false (.var 1) (.cst (.int 1))))
  .nil)
abbrev rho (n : Nat) (size many left : Nat) : Sl := [some (.pv (.int (n : Int))), some (.pv (.int (size : Int))), some (.pv (.int (many : Int))), some (.pv (.int (left : Int))), some (.pv (.str [])), none]
theorem size_loop (call : Call) (n : Nat) (hn : n < 26 ^ 7) : ∀ (k size left fuel : Nat), k = 8 - size → 1 ≤ size → size ≤ 7 → left + rep1 size = n → k < fuel →
    ∃ s2 l2, whileL (evE Γ call wT) (evSs Γ call wB2) fuel (rho n size (26 ^ size) left) [] = .nx (rho n s2 (26 ^ s2) l2) [] ∧ l2 < 26 ^ s2 ∧ l2 + rep1 s2 = n ∧ s2 ≤ 7 := by
  intro k
  induction k with
  | zero => intro size left fuel h1 h2 h3; omega
  | succ k ih =>
    intro size left fuel h1 h2 h3 h4 h5
    obtain ⟨f, rfl⟩ : ∃ f, fuel = f + 1 := ⟨fuel - 1, by omega⟩
    by_cases hc : 26 ^ size ≤ left
    · have hc' : ((26 ^ size : Nat) : Int) ≤ (left : Int) := by omega
      have h7 : size < 7 := by
        apply Classical.byContradiction
        intro z
        have : size = 7 := by omega
        subst this
        omega
      obtain ⟨s2, l2, e, q⟩ := ih (size + 1) (left - 26 ^ size) f (by omega) (by omega) (by omega) (by rw [rep1_pow]; omega) (by omega)
      refine ⟨s2, l2, ?_, q⟩
      rw [← e]
      have e1 : ((left : Int) - ((26 ^ size : Nat) : Int)) = ((left - 26 ^ size : Nat) : Int) := by omega
      have e2 : ((26 ^ size : Nat) : Int) * 26 = ((26 ^ (size + 1) : Nat) : Int) := by rw [Nat.pow_succ]; omega
      have e3 : (size : Int) + 1 = ((size + 1 : Nat) : Int) := by omega
      have m1 : mulOk ((26 ^ size : Nat) : Int) 26 = true := mul_ok2 (by decide) (by decide)
      simp (config := { decide := true }) only [whileL, wT, wB2, evE, evSs, evS, R.bind, R.toS, nth, c_ge, R.ofP, Option.map, t_bl, decide_eq_true hc', b_sub, b_mul m1, b_add, setN, e1, e2, e3]
    · have hc' : ¬ ((26 ^ size : Nat) : Int) ≤ (left : Int) := by omega
      refine ⟨size, left, ?_, by omega, h4, h3⟩
      simp (config := { decide := true }) only [whileL, wT, evE, R.bind, nth, c_ge, R.ofP, Option.map, t_bl, decide_eq_false hc']
def dB : Ss := (.cons (.set (.nm 4) (.bin .add false (.ix (.cst (.str [97,98,99,100,101,102,103,104,105,106,107,108,109,110,111,112,113,114,115,116,117,118,119,120,121,122])) (.bin .sub false (.var 3) (.bin .mul false (.bin .fdv false (.var 3) (.cst (.int 26))) (.cst (.int 26))))) (.var 4)))
  (.cons (.set (.nm 3) (.bin .fdv false (.var 3) (.cst (.int 26))))
  .nil))
abbrev rho2 (n s m l : Nat) (acc : Tx) (t : Option W) : Sl := [some (.pv (.int (n : Int))), some (.pv (.int (s : Int))), some (.pv (.int (m : Int))), some (.pv (.int (l : Int))), some (.pv (.str acc)), t]
theorem dig_body (call : Call) (n s m l : Nat) (acc : Tx) (t : Option W) (hl : l < 26 ^ 8) (ha : acc.length ≤ 1000) :
    evSs Γ call dB (rho2 n s m l acc t) [] = .nx (rho2 n s m (l / 26) ((97 + l % 26) :: acc) t) [] := by
  have e1 : (l : Int) / 26 = ((l / 26 : Nat) : Int) := by omega
  have e2 : (l : Int) - ((l / 26 : Nat) : Int) * 26 = ((l % 26 : Nat) : Int) := by omega
  have m1 : mulOk ((l / 26 : Nat) : Int) 26 = true := mul_ok2 (by decide) (by decide)
  have ix := i_str (h := ([] : LH)) (x := ABC) (by decide) (abc (l % 26) (Nat.mod_lt _ (by decide)))
  rw [ABC] at ix
  have ct : bop .add false (W.pv (.str [97 + l % 26])) (W.pv (.str acc)) [] = .ok (.pv (.str ([97 + l % 26] ++ acc))) [] := b_cat (by simp; omega)
  simp (config := { decide := true }) only [dB, evSs, evS, evE, R.toS, R.bind, nth, R.ofO, asT, setN, b_sub, b_fdv, b_mul m1, e1, e2, ix, ct, List.singleton_append]
theorem dig_loop (call : Call) (n s m : Nat) : ∀ (k l : Nat) (i : Int) (acc : Tx) (t : Option W), l < 26 ^ 8 → acc.length + k ≤ 1000 →
    ∃ l2 t2, forL (asT Γ call (.nm 5)) (evSs Γ call dB) (rngL i 1 k) (rho2 n s m l acc t) [] = .nx (rho2 n s m l2 (fixw k l ++ acc) t2) [] := by
  intro k
  induction k with
  | zero => intro l i acc t h1 h2; exact ⟨l, t, by simp only [rngL, forL, fixw, List.nil_append]⟩
  | succ k ih =>
    intro l i acc t h1 h2
    obtain ⟨l2, t2, e⟩ := ih (l / 26) (iadd i 1) ((97 + l % 26) :: acc) (some (.pv (.int i))) (by omega) (by simp; omega)
    refine ⟨l2, t2, ?_⟩
    have hb := dig_body call n s m l acc (some (.pv (.int i))) h1 (by omega)
    simp only [rngL, forL, asT, setN, hb, fixw, List.append_assoc, List.singleton_append]
    exact e
theorem letters (d n : Nat) (h1 : 1 ≤ n) (hn : n < 26 ^ 7) : run Γ (d + 1) 8 [.pv (.int (n : Int))] [] = .ok (.pv (.str (lett n))) [] := by
  show fin (evSs Γ (run Γ d) (.cons (.set (.tup (.cons (.nm 1) (.cons (.nm 2) (.cons (.nm 3) (.cons (.nm 4) .nil))))) (.tup (.cons (.cst (.int 1)) (.cons (.cst (.int 26)) (.cons (.bin .sub false (.var 0) (.cst (.int 1))) (.cons (.cst (.str [])) .nil))))))
    (.cons (.whl 100000 wT wB2) (.cons (.for_ (.nm 5) (.rng1 (.var 1)) dB) (.cons (.ret (.var 4)) .nil)))) [some (.pv (.int (n : Int))), none, none, none, none, none] []) = _
  obtain ⟨s2, l2, e, q1, q2, q3⟩ := size_loop (run Γ d) n hn 7 1 (n - 1) 100000 (by omega) (by decide) (by decide) (by show n - 1 + 1 = n; omega) (by decide)
  have hp : 26 ^ s2 ≤ 26 ^ 7 := Nat.pow_le_pow_right (by decide) q3
  obtain ⟨l3, t3, e2⟩ := dig_loop (run Γ d) n s2 (26 ^ s2) s2 l2 0 [] none (by omega) (by simp; omega)
  have e0 : (n : Int) - 1 = ((n - 1 : Nat) : Int) := by omega
  have ew : whileL (evE Γ (run Γ d) wT) (evSs Γ (run Γ d) wB2) 100000 [some (W.pv (PV.int (n : Int))), some (W.pv (PV.int 1)), some (W.pv (PV.int 26)), some (W.pv (PV.int ((n - 1 : Nat) : Int))), some (W.pv (PV.str [])), none] [] = .nx (rho n s2 (26 ^ s2) l2) [] := e
  have nT : ∀ a b x y : PV, newT [W.pv a, W.pv b, W.pv x, W.pv y] [] = .ok (.pv (.tup [a, b, x, y])) [] := fun _ _ _ _ => rfl
  have rk : rngOk (s2 : Int) = true := by
    unfold rngOk
    rw [ile_eq, ile_eq, Bool.and_eq_true]
    refine ⟨decide_eq_true ?_, decide_eq_true ?_⟩
    · show (-1000000000001 : Int) ≤ _; omega
    · show _ ≤ (1000000000000 : Int); omega
  have fx := fixw_lett s2 l2 q1
  rw [q2] at fx
  rw [List.append_nil, fx] at e2
  have e2' : forL (asT Γ (run Γ d) (.nm 5)) (evSs Γ (run Γ d) dB) (rngL (Int.ofNat 0) (Int.ofNat 1) (Int.toNat (s2 : Int))) (rho n s2 (26 ^ s2) l2) [] = _ := e2
  simp only [asT] at e2'
  simp (config := { decide := true }) only [evSs, evS, evE, evEs, evI, R.toS, R.bind, nth, asT, asTs, setN, b_sub, e0, nT, List.map, ew, rk, forW, e2', fin]
/-- the letters tell the number -/
def unl (s : Tx) : Nat := s.foldl (fun v k => v * 26 + (k - 96)) 0
theorem unl_lett (n : Nat) : unl (lett n) = n := by
  induction n using Nat.strongRecOn with
  | _ n ih =>
    by_cases h : n = 0
    · subst h; rw [lett0]; rfl
    · rw [lett1 h]
      unfold unl
      rw [List.foldl_append]
      have := ih ((n - 1) / 26) (by omega)
      unfold unl at this
      rw [this]
      show (n - 1) / 26 * 26 + (97 + (n - 1) % 26 - 96) = n
      omega
theorem lett_inj {m n : Nat} (h : lett m = lett n) : m = n := by rw [← unl_lett m, h, unl_lett]
theorem lett_len : ∀ (k n : Nat), n < 26 ^ k → (lett n).length ≤ k
  | 0, n, h => by
    have : n = 0 := by simpa using h
    subst this; rw [lett0]; exact Nat.le_refl 0
  | k + 1, n, h => by
    by_cases h0 : n = 0
    · subst h0; rw [lett0]; exact Nat.zero_le _
    · rw [lett1 h0, List.length_append]
      have := lett_len k ((n - 1) / 26) (by rw [Nat.pow_succ] at h; omega)
      simp; omega
theorem lett_ok : ∀ n : Nat, ∀ a ∈ lett n, a < 128 := fun n => by
  induction n using Nat.strongRecOn with
  | _ n ih =>
    by_cases h : n = 0
    · subst h; rw [lett0]; intro a ha; cases ha
    · rw [lett1 h]
      intro a ha
      rcases List.mem_append.mp ha with q | q
      · exact ih _ (by omega) a q
      · have : a = 97 + (n - 1) % 26 := by simpa using q
        omega
end K54
end

section
set_option autoImplicit false
set_option linter.all false
set_option maxRecDepth 4000
namespace K54
open Sx
/-! ### Roman signs -/
def romF : List (Nat × Tx) → Nat → Tx
  | [], _ => []
  | e :: r, n => (List.replicate (n / e.1) e.2).flatten ++ romF r (n % e.1)
def TAB : List (Nat × Tx) := [(1000, [109]), (900, [99,109]), (500, [100]), (400, [99,100]), (100, [99]), (90, [120,99]), (50, [108]), (40, [120,108]), (10, [120]), (9, [105,120]), (5, [118]), (4, [105,118]), (1, [105])]
def rT : E := (.cmp .ge (.var 0) (.var 2))
def rB_ : Ss := (.cons (.set (.nm 1) (.bin .add false (.var 1) (.var 3)))
  (.cons (.set (.nm 0) (.bin .sub false (.var 0) (.var 2)))
  .nil))
abbrev rr (n v : Nat) (acc s : Tx) : Sl := [some (.pv (.int (n : Int))), some (.pv (.str acc)), some (.pv (.int (v : Int))), some (.pv (.str s))]
theorem rom_while (call : Call) (v : Nat) (s : Tx) (hv : 1 ≤ v) (hs : s.length ≤ 2) : ∀ (k n fuel : Nat) (acc : Tx), n / v = k → k < fuel → acc.length + 2 * k ≤ 16777216 →
    whileL (evE Γ call rT) (evSs Γ call rB_) fuel (rr n v acc s) [] = .nx (rr (n % v) v (acc ++ (List.replicate k s).flatten) s) [] := by
  intro k
  induction k with
  | zero =>
    intro n fuel acc h1 h2 h3
    obtain ⟨f, rfl⟩ : ∃ f, fuel = f + 1 := ⟨fuel - 1, by omega⟩
    have hlt : n < v := by
      rcases Nat.div_eq_zero_iff.mp h1 with z | z
      · omega
      · exact z
    have hc : ¬ ((v : Nat) : Int) ≤ (n : Int) := by omega
    rw [Nat.mod_eq_of_lt hlt]
    simp (config := { decide := true }) only [whileL, rT, evE, R.bind, nth, c_ge, R.ofP, Option.map, t_bl, decide_eq_false hc, List.replicate_zero, List.flatten_nil, List.append_nil]
  | succ k ih =>
    intro n fuel acc h1 h2 h3
    obtain ⟨f, rfl⟩ : ∃ f, fuel = f + 1 := ⟨fuel - 1, by omega⟩
    have hle : v ≤ n := by
      apply Classical.byContradiction
      intro z
      rw [Nat.div_eq_of_lt (by omega)] at h1
      omega
    have hc : ((v : Nat) : Int) ≤ (n : Int) := by omega
    have e1 : (n : Int) - (v : Int) = ((n - v : Nat) : Int) := by omega
    have hd : (n - v) / v = k := by
      have := Nat.div_eq_sub_div hv hle
      omega
    have hmod : (n - v) % v = n % v := (Nat.mod_eq_sub_mod hle).symm
    have hi := ih (n - v) f (acc ++ s) hd (by omega) (by rw [List.length_append]; omega)
    rw [hmod, List.append_assoc, ← List.flatten_cons, ← List.replicate_succ] at hi
    have ct : bop .add false (W.pv (.str acc)) (W.pv (.str s)) [] = .ok (.pv (.str (acc ++ s))) [] := b_cat (by omega)
    rw [← hi]
    simp (config := { decide := true }) only [whileL, rT, rB_, evE, evSs, evS, R.bind, R.toS, nth, c_ge, R.ofP, Option.map, t_bl, decide_eq_true hc, asT, setN, ct, b_sub, e1]
def rG : Tg := (.tup (.cons (.nm 2) (.cons (.nm 3) .nil)))
def rIt (L : List (Nat × Tx)) : List Item := L.map fun e => .one (.pv (.tup [.int (e.1 : Int), .str e.2]))
theorem flat_len (s : Tx) (hs : s.length ≤ 2) : ∀ k : Nat, (List.replicate k s).flatten.length ≤ 2 * k
  | 0 => Nat.le_refl 0
  | k + 1 => by
    rw [List.replicate_succ, List.flatten_cons, List.length_append]
    have := flat_len s hs k
    omega
theorem rom_for (call : Call) : ∀ (L : List (Nat × Tx)) (n : Nat) (acc : Tx) (x y : Option W), (∀ e ∈ L, 1 ≤ e.1 ∧ e.2.length ≤ 2) → n ≤ 3999 → acc.length + 8000 * L.length ≤ 1000000 →
    ∃ n2 x2 y2, forL (asT Γ call rG) (evSs Γ call (.cons (.whl 100000 rT rB_) .nil)) (rIt L) [some (.pv (.int (n : Int))), some (.pv (.str acc)), x, y] [] = .nx [n2, some (.pv (.str (acc ++ romF L n))), x2, y2] [] := by
  intro L
  induction L with
  | nil => intro n acc x y _ _ _; exact ⟨some (.pv (.int (n : Int))), x, y, by simp only [rIt, List.map, forL, romF, List.append_nil]⟩
  | cons e r ih =>
    intro n acc x y h1 h2 h3
    obtain ⟨v, s⟩ := e
    obtain ⟨hv, hs⟩ := h1 (v, s) (List.mem_cons_self)
    have hk : n / v ≤ 3999 := Nat.le_trans (Nat.div_le_self n v) h2
    have fl := flat_len s hs (n / v)
    rw [List.length_cons] at h3
    obtain ⟨n2, x2, y2, e2⟩ := ih (n % v) (acc ++ (List.replicate (n / v) s).flatten) (some (.pv (.int (v : Int)))) (some (.pv (.str s))) (fun e he => h1 e (List.mem_cons_of_mem _ he)) (by have := Nat.mod_le n v; omega) (by rw [List.length_append]; omega)
    refine ⟨n2, x2, y2, ?_⟩
    have w := rom_while call v s hv hs (n / v) n 100000 acc rfl (by omega) (by omega)
    rw [romF, ← List.append_assoc, ← e2]
    simp only [rIt, List.map, forL]
    have as : asT Γ call rG (.one (.pv (.tup [.int (v : Int), .str s]))) [some (.pv (.int (n : Int))), some (.pv (.str acc)), x, y] [] = .nx (rr n v acc s) [] := by
      simp only [rG, asT, asTs, List.map, setN]
    rw [as]
    simp only [evSs, evS, w]
theorem roman (d n : Nat) (hn : n ≤ 3999) : run Γ (d + 1) 2 [.pv (.int (n : Int))] [] = .ok (.pv (.str (romF TAB n))) [] := by
  show fin (evSs Γ (run Γ d) (.cons (.set (.nm 1) (.cst (.str []))) (.cons (.for_ rG (.seq (.glob 2)) (.cons (.whl 100000 rT rB_) .nil)) (.cons (.ret (.var 1)) .nil))) [some (.pv (.int (n : Int))), none, none, none] []) = _
  obtain ⟨n2, x2, y2, e⟩ := rom_for (run Γ d) TAB n [] none none (by decide) hn (by decide)
  rw [List.nil_append] at e
  have gl : evI Γ (run Γ d) (.seq (.glob 2)) [some (.pv (.int (n : Int))), some (.pv (.str [])), none, none] [] = .ok (.items (rIt TAB)) [] := rfl
  have s1 : evS Γ (run Γ d) (.set (.nm 1) (.cst (.str []))) [some (.pv (.int (n : Int))), none, none, none] [] = .nx [some (.pv (.int (n : Int))), some (.pv (.str [])), none, none] [] := rfl
  have s2 : evS Γ (run Γ d) (.for_ rG (.seq (.glob 2)) (.cons (.whl 100000 rT rB_) .nil)) [some (.pv (.int (n : Int))), some (.pv (.str [])), none, none] [] = .nx [n2, some (.pv (.str (romF TAB n))), x2, y2] [] := by
    rw [evS, gl]
    exact e
  rw [evSs, s1]
  simp only
  rw [evSs, s2]
  rfl
/-! ### the law's Roman signs -/
def rowF (a b c : Tx) : List Tx := [[], a, (List.replicate 2 a).flatten, (List.replicate 3 a).flatten, a ++ b, b, b ++ a, b ++ (List.replicate 2 a).flatten, b ++ (List.replicate 3 a).flatten, a ++ c]
def pick : List Tx → Nat → Tx
  | [], _ => []
  | x :: r, n => match n with
    | 0 => x
    | n + 1 => pick r n
def lrom : List (Tx × Tx × Tx) → Nat → Tx → Tx
  | [], _, acc => acc
  | (a, b, c) :: r, l, acc => lrom r (l / 10) (pick (rowF a b c) (l % 10) ++ acc)
def TRI : List (Tx × Tx × Tx) := [([105], [118], [120]), ([120], [108], [99]), ([99], [100], [109]), ([109], [], [])]
theorem rom_same : ∀ n : Nat, n ≤ 3999 → lrom TRI n [] = romF TAB n := by
  have h : ((List.range 4000).all fun n => txEq (lrom TRI n []) (romF TAB n)) = true := by decide +kernel
  intro n hn
  have := List.all_eq_true.mp h n (List.mem_range.mpr (by omega))
  rw [txEq_eq] at this
  exact of_decide_eq_true this
def pG : Tg := (.tup (.cons (.nm 3) (.cons (.nm 4) (.cons (.nm 5) .nil))))
def pB : Ss := (.cons (.par2 6 2 (.bin .sub false (.var 2) (.bin .mul false (.bin .fdv false (.var 2) (.cst (.int 10))) (.cst (.int 10)))) (.bin .fdv false (.var 2) (.cst (.int 10))))
  (.cons (.set (.nm 7) (.lst false (.cons (.cst (.str [])) (.cons (.var 3) (.cons (.bin .mul false (.var 3) (.cst (.int 2))) (.cons (.bin .mul false (.var 3) (.cst (.int 3))) (.cons (.bin .add false (.var 3) (.var 4)) (.cons (.var 4) (.cons (.bin .add false (.var 4) (.var 3)) (.cons (.bin .add false (.var 4) (.bin .mul false (.var 3) (.cst (.int 2)))) (.cons (.bin .add false (.var 4) (.bin .mul false (.var 3) (.cst (.int 3)))) (.cons (.bin .add false (.var 3) (.var 5)) .nil))))))))))))
  (.cons (.set (.nm 1) (.bin .add false (.ix (.var 7) (.var 6)) (.var 1)))
  .nil)))
theorem b_rep {m : Bool} {x : Tx} {h : LH} (k : Nat) (e1 : k ≤ 100000) (e2 : x.length ≤ 100) : bop .mul m (.pv (.str x)) (.pv (.int (k : Int))) h = .ok (.pv (.str (List.replicate k x).flatten)) h := by
  show okIf (Nat.ble k 100000 && Nat.ble x.length 100) _ h = _
  rw [Nat.ble_eq_true_of_le e1, Nat.ble_eq_true_of_le e2]; rfl
theorem row_len (a b c : Tx) (ha : a.length ≤ 1) (hb : b.length ≤ 1) (hc : c.length ≤ 1) : ∀ k, (pick (rowF a b c) k).length ≤ 4 := by
  intro k
  have f2 := flat_len a (by omega) 2
  have f3 : (List.replicate 3 a).flatten.length ≤ 3 := by
    show (a ++ (a ++ (a ++ []))).length ≤ 3
    simp; omega
  match k with
  | 0 => simp [rowF, pick]
  | 1 => simp [rowF, pick]; omega
  | 2 => show ((List.replicate 2 a).flatten).length ≤ 4; omega
  | 3 => show ((List.replicate 3 a).flatten).length ≤ 4; omega
  | 4 => show (a ++ b).length ≤ 4; rw [List.length_append]; omega
  | 5 => show b.length ≤ 4; omega
  | 6 => show (b ++ a).length ≤ 4; rw [List.length_append]; omega
  | 7 =>
    show (b ++ (List.replicate 2 a).flatten).length ≤ 4
    have : (List.replicate 2 a).flatten.length ≤ 2 := by show (a ++ (a ++ [])).length ≤ 2; simp; omega
    rw [List.length_append]; omega
  | 8 => show (b ++ (List.replicate 3 a).flatten).length ≤ 4; rw [List.length_append]; omega
  | 9 => show (a ++ c).length ≤ 4; rw [List.length_append]; omega
  | k + 10 => simp [rowF, pick]
theorem row_at (a b c : Tx) (k : Nat) (hk : k < 10) : nth ((rowF a b c).map PV.str) k = some (.str (pick (rowF a b c) k)) := by
  match k, hk with
  | 0, _ => rfl
  | 1, _ => rfl
  | 2, _ => rfl
  | 3, _ => rfl
  | 4, _ => rfl
  | 5, _ => rfl
  | 6, _ => rfl
  | 7, _ => rfl
  | 8, _ => rfl
  | 9, _ => rfl
  | k + 10, h => omega
abbrev r8 (n : Option W) (acc : Tx) (l : Nat) (x y z u v : Option W) : Sl := [n, some (.pv (.str acc)), some (.pv (.int (l : Int))), x, y, z, u, v]
theorem lrom_body (call : Call) (n : Option W) (acc a b c : Tx) (l : Nat) (u v : Option W) (ha : a.length ≤ 1) (hb : b.length ≤ 1) (hc : c.length ≤ 1) (hl : l ≤ 3999) (hacc : acc.length ≤ 1000) :
    evSs Γ call pB (r8 n acc l (some (.pv (.str a))) (some (.pv (.str b))) (some (.pv (.str c))) u v) [] =
      .nx (r8 n (pick (rowF a b c) (l % 10) ++ acc) (l / 10) (some (.pv (.str a))) (some (.pv (.str b))) (some (.pv (.str c))) (some (.pv (.int ((l % 10 : Nat) : Int)))) (some (.pv (.lst ((rowF a b c).map PV.str))))) [] := by
  have e1 : (l : Int) / 10 = ((l / 10 : Nat) : Int) := by omega
  have e2 : (l : Int) - ((l / 10 : Nat) : Int) * 10 = ((l % 10 : Nat) : Int) := by omega
  have m1 : mulOk ((l / 10 : Nat) : Int) 10 = true := mul_ok2 (by decide) (by decide)
  have ix := i_lst (h := ([] : LH)) (row_at a b c (l % 10) (Nat.mod_lt _ (by decide)))
  have lp := row_len a b c ha hb hc (l % 10)
  have ct : bop .add false (W.pv (.str (pick (rowF a b c) (l % 10)))) (W.pv (.str acc)) [] = .ok (.pv (.str (pick (rowF a b c) (l % 10) ++ acc))) [] := b_cat (by omega)
  have x2 : bop .mul false (W.pv (.str a)) (W.pv (.int 2)) [] = .ok (.pv (.str (List.replicate 2 a).flatten)) [] := b_rep 2 (by decide) (by omega)
  have x3 : bop .mul false (W.pv (.str a)) (W.pv (.int 3)) [] = .ok (.pv (.str (List.replicate 3 a).flatten)) [] := b_rep 3 (by decide) (by omega)
  have f2 := flat_len a (by omega) 2
  have f3 := flat_len a (by omega) 3
  have ab : bop .add false (W.pv (.str a)) (W.pv (.str b)) [] = .ok (.pv (.str (a ++ b))) [] := b_cat (by omega)
  have ba : bop .add false (W.pv (.str b)) (W.pv (.str a)) [] = .ok (.pv (.str (b ++ a))) [] := b_cat (by omega)
  have b2 : bop .add false (W.pv (.str b)) (W.pv (.str (List.replicate 2 a).flatten)) [] = .ok (.pv (.str (b ++ (List.replicate 2 a).flatten))) [] := b_cat (by omega)
  have b3 : bop .add false (W.pv (.str b)) (W.pv (.str (List.replicate 3 a).flatten)) [] = .ok (.pv (.str (b ++ (List.replicate 3 a).flatten))) [] := b_cat (by omega)
  have ac : bop .add false (W.pv (.str a)) (W.pv (.str c)) [] = .ok (.pv (.str (a ++ c))) [] := b_cat (by omega)
  have nl : newL false [W.pv (.str []), W.pv (.str a), W.pv (.str (List.replicate 2 a).flatten), W.pv (.str (List.replicate 3 a).flatten), W.pv (.str (a ++ b)), W.pv (.str b), W.pv (.str (b ++ a)), W.pv (.str (b ++ (List.replicate 2 a).flatten)), W.pv (.str (b ++ (List.replicate 3 a).flatten)), W.pv (.str (a ++ c))] [] = .ok (.pv (.lst ((rowF a b c).map PV.str))) [] := rfl
  simp (config := { decide := true }) only [pB, evSs, evS, evE, evEs, R.toS, R.bind, nth, R.ofO, asT, setN, b_sub, b_fdv, b_mul m1, e1, e2, x2, x3, ab, ba, b2, b3, ac, nl, ix, ct]
def pIt (L : List (Tx × Tx × Tx)) : List Item := L.map fun e => .one (.pv (.tup [.str e.1, .str e.2.1, .str e.2.2]))
theorem lrom_for (call : Call) (n : Option W) : ∀ (L : List (Tx × Tx × Tx)) (l : Nat) (acc : Tx) (x y z u v : Option W), (∀ e ∈ L, e.1.length ≤ 1 ∧ e.2.1.length ≤ 1 ∧ e.2.2.length ≤ 1) → l ≤ 3999 → acc.length + 4 * L.length ≤ 1000 →
    ∃ l2 x2 y2 z2 u2 v2, forL (asT Γ call pG) (evSs Γ call pB) (pIt L) (r8 n acc l x y z u v) [] = .nx (r8 n (lrom L l acc) l2 x2 y2 z2 u2 v2) [] := by
  intro L
  induction L with
  | nil => intro l acc x y z u v _ _ _; exact ⟨l, x, y, z, u, v, by simp only [pIt, List.map, forL, lrom]⟩
  | cons e r ih =>
    intro l acc x y z u v h1 h2 h3
    obtain ⟨a, b, c⟩ := e
    obtain ⟨ha, hb, hc⟩ := h1 (a, b, c) (List.mem_cons_self)
    rw [List.length_cons] at h3
    have lp := row_len a b c ha hb hc (l % 10)
    obtain ⟨l2, x2, y2, z2, u2, v2, e2⟩ := ih (l / 10) (pick (rowF a b c) (l % 10) ++ acc) (some (.pv (.str a))) (some (.pv (.str b))) (some (.pv (.str c))) (some (.pv (.int ((l % 10 : Nat) : Int)))) (some (.pv (.lst ((rowF a b c).map PV.str)))) (fun e he => h1 e (List.mem_cons_of_mem _ he)) (by omega) (by rw [List.length_append]; omega)
    refine ⟨l2, x2, y2, z2, u2, v2, ?_⟩
    have w := lrom_body call n acc a b c l u v ha hb hc h2 (by omega)
    rw [lrom, ← e2]
    simp only [pIt, List.map, forL]
    have as : asT Γ call pG (.one (.pv (.tup [.str a, .str b, .str c]))) (r8 n acc l x y z u v) [] = .nx (r8 n acc l (some (.pv (.str a))) (some (.pv (.str b))) (some (.pv (.str c))) u v) [] := by
      simp only [pG, asT, asTs, List.map, setN]
    rw [as]
    simp only [w]
theorem lroman (d n : Nat) (hn : n ≤ 3999) : run Γ (d + 1) 9 [.pv (.int (n : Int))] [] = .ok (.pv (.str (romF TAB n))) [] := by
  show fin (evSs Γ (run Γ d) (.cons (.par2 1 2 (.cst (.str [])) (.var 0)) (.cons (.for_ pG (.seq (.tup (.cons (.tup (.cons (.cst (.str [105])) (.cons (.cst (.str [118])) (.cons (.cst (.str [120])) .nil)))) (.cons (.tup (.cons (.cst (.str [120])) (.cons (.cst (.str [108])) (.cons (.cst (.str [99])) .nil)))) (.cons (.tup (.cons (.cst (.str [99])) (.cons (.cst (.str [100])) (.cons (.cst (.str [109])) .nil)))) (.cons (.tup (.cons (.cst (.str [109])) (.cons (.cst (.str [])) (.cons (.cst (.str [])) .nil)))) .nil)))))) pB) (.cons (.ret (.var 1)) .nil))) [some (.pv (.int (n : Int))), none, none, none, none, none, none, none] []) = _
  obtain ⟨l2, x2, y2, z2, u2, v2, e⟩ := lrom_for (run Γ d) (some (.pv (.int (n : Int)))) TRI n [] none none none none none (by decide) hn (by decide)
  have s1 : evS Γ (run Γ d) (.par2 1 2 (.cst (.str [])) (.var 0)) [some (.pv (.int (n : Int))), none, none, none, none, none, none, none] [] = .nx (r8 (some (.pv (.int (n : Int)))) [] n none none none none none) [] := rfl
  rw [evSs, s1]
  simp only
  rw [evSs, evS, show evI Γ (run Γ d) (.seq (.tup (.cons (.tup (.cons (.cst (.str [105])) (.cons (.cst (.str [118])) (.cons (.cst (.str [120])) .nil)))) (.cons (.tup (.cons (.cst (.str [120])) (.cons (.cst (.str [108])) (.cons (.cst (.str [99])) .nil)))) (.cons (.tup (.cons (.cst (.str [99])) (.cons (.cst (.str [100])) (.cons (.cst (.str [109])) .nil)))) (.cons (.tup (.cons (.cst (.str [109])) (.cons (.cst (.str [])) (.cons (.cst (.str [])) .nil)))) .nil)))))) (r8 (some (.pv (.int (n : Int)))) [] n none none none none none) [] = .ok (.items (pIt TRI)) [] from rfl]
  simp only [forW]
  rw [e, rom_same n hn]
  rfl
end K54
end

section
set_option autoImplicit false
set_option linter.all false
set_option maxRecDepth 4000
namespace K54
open Sx
/-! ### the forms -/
theorem c_in2 {x y z : Tx} {h : LH} : cop .inn (.pv (.str x)) (.pv (.tup [.str y, .str z])) h = some (decide (y = x) || decide (z = x)) := by
  show inL (.str x) [.str y, .str z] = _
  unfold inL
  have : (PV.str x).dep 60 = true := rfl
  rw [this]
  simp only [anyEqv, PV.eqv, txEq_eq]
  cases decide (y = x) <;> cases decide (z = x) <;> rfl
theorem up_ok {m : Bool} {s : Tx} {h : LH} (e1 : ∀ a ∈ s, a < 128) (e2 : s.length ≤ 1000000) : bmeth .upper m (.pv (.str s)) [] h = .ok (.pv (.str (s.map upC))) h := by
  show okIf (ascii s && Nat.ble s.length 5592405) _ h = _
  have a1 : ascii s = true := List.all_eq_true.mpr fun a ha => Nat.blt_eq.mpr (e1 a ha)
  rw [a1, Nat.ble_eq_true_of_le (by omega)]; rfl
theorem bt_up {s : Tx} {h : LH} : bmTy .upper (.pv (.str s)) h = true := rfl
theorem pcall1 {n f : Nat} {p q : PV} {h h2 : LH} (e : run Γ n f [.pv p] [] = .ok (.pv q) h2) : doCall (run Γ n) true f [.pv p] h = .ok (.pv q) h := by
  simp only [doCall, List.all_cons, List.all_nil, isPure, Bool.and_true, e]
theorem pcall2 {n f : Nat} {p p2 q : PV} {h h2 : LH} (e : run Γ n f [.pv p, .pv p2] [] = .ok (.pv q) h2) : doCall (run Γ n) true f [.pv p, .pv p2] h = .ok (.pv q) h := by
  simp only [doCall, List.all_cons, List.all_nil, isPure, Bool.and_true, e]
theorem log_ok {i : Int} (h : i.natAbs < 2 ^ 40) : i.natAbs.log2 < 1920 := by
  by_cases h0 : i.natAbs = 0
  · rw [h0]; decide
  · exact (Nat.log2_lt h0).mpr (Nat.lt_trans h (Nat.pow_lt_pow_right (by decide) (by decide)))
theorem ntext (d : Nat) (i : Int) (h : i.natAbs < 2 ^ 40) : run Γ (d + 1) 0 [.pv (.int i)] [] = .ok (.pv (.str (intTx i))) [] := by
  show fin (evSs Γ (run Γ d) f_number_text.body [some (.pv (.int i))] []) = _
  simp only [f_number_text, evSs, evS, evE, evEs, R.toS, R.bind, nth, R.ofP, Option.map, c_isN1, t_bl, p_strI (log_ok h), fin]
theorem ntext0 (d : Nat) : run Γ (d + 1) 0 [.pv .non] [] = .ok (.pv (.str [110,111,110,101])) [] := rfl
theorem rom_asc : ∀ (L : List (Nat × Tx)) (n : Nat), (∀ e ∈ L, ∀ a ∈ e.2, a < 128) → ∀ a ∈ romF L n, a < 128
  | [], _, _, a, h => by cases h
  | e :: r, n, h, a, ha => by
    rw [romF] at ha
    rcases List.mem_append.mp ha with q | q
    · obtain ⟨l, hl, q⟩ := List.mem_flatten.mp q
      rw [List.eq_of_mem_replicate hl] at q
      exact h e (List.mem_cons_self) a q
    · exact rom_asc r _ (fun e he => h e (List.mem_cons_of_mem _ he)) a q
theorem rom_len : ∀ (L : List (Nat × Tx)) (n : Nat), (∀ e ∈ L, e.2.length ≤ 2) → n ≤ 3999 → (romF L n).length ≤ 8000 * L.length
  | [], _, _, _ => Nat.le_refl 0
  | e :: r, n, h, hn => by
    rw [romF, List.length_append, List.length_cons]
    have f := flat_len e.2 (h e (List.mem_cons_self)) (n / e.1)
    have k := Nat.div_le_self n e.1
    have := rom_len r (n % e.1) (fun e he => h e (List.mem_cons_of_mem _ he)) (by have := Nat.mod_le n e.1; omega)
    omega
/-- what a number and a form tell -/
def ftx (n : Nat) (form : Tx) : Tx :=
  if form = [97] then lett n else if form = [65] then (lett n).map upC else if form = [105] ∧ n ≤ 3999 then romF TAB n else if form = [73] ∧ n ≤ 3999 then (romF TAB n).map upC else intTx (n : Int)
theorem lett_fit {n : Nat} (hn : n < 26 ^ 7) : (lett n).length ≤ 1000000 := Nat.le_trans (lett_len 7 n hn) (by decide)
theorem rom_fit {n : Nat} (hn : n ≤ 3999) : (romF TAB n).length ≤ 1000000 := Nat.le_trans (rom_len TAB n (by decide) hn) (by decide)
theorem rom_a (n : Nat) : ∀ a ∈ romF TAB n, a < 128 := rom_asc TAB n (by decide)
theorem formed (d n : Nat) (form : Tx) (h1 : 1 ≤ n) (hn : n < 26 ^ 7) : run Γ (d + 2) 3 [.pv (.int (n : Int)), .pv (.str form)] [] = .ok (.pv (.str (ftx n form))) [] := by
  show fin (evSs Γ (run Γ (d + 1)) f_formed.body [some (.pv (.int (n : Int))), some (.pv (.str form))] []) = _
  have c1 : ¬ ((n : Int) < 1) := by omega
  have nT : ∀ a b : PV, newT [W.pv a, W.pv b] [] = .ok (.pv (.tup [a, b])) [] := fun _ _ => rfl
  have gg : Γ.glob.get 3 = some (.pv (.int 3999)) := rfl
  have q1 := pcall1 (h := ([] : LH)) (lettered d n hn)
  have q0 := pcall1 (h := ([] : LH)) (ntext d (n : Int) (by show n < 2 ^ 40; omega))
  have u1 := up_ok (m := false) (h := ([] : LH)) (lett_ok n) (lett_fit hn)
  by_cases f1 : form = [97]
  · subst f1
    simp (config := { decide := true }) only [f_formed, evSs, evS, evE, evEs, R.toS, R.bind, nth, R.ofO, R.ofP, Option.map, c_isN1, t_bl, decide_true, decide_false, c_lt, c_le, c_in2, c_eqS, decide_eq_false c1, nT, gg, q1, u1, q0, bt_up, fin, ftx, Bool.or, if_true, if_false]
  · by_cases f2 : form = [65]
    · subst f2
      simp (config := { decide := true }) only [f_formed, evSs, evS, evE, evEs, R.toS, R.bind, nth, R.ofO, R.ofP, Option.map, c_isN1, t_bl, decide_true, decide_false, c_lt, c_le, c_in2, c_eqS, decide_eq_false c1, nT, gg, q1, u1, q0, bt_up, fin, ftx, Bool.or, if_true, if_false]
    · have g1 : ¬ ([97] = form) := fun z => f1 z.symm
      have g2 : ¬ ([65] = form) := fun z => f2 z.symm
      by_cases hr : n ≤ 3999
      · have hr' : (n : Int) ≤ 3999 := by omega
        have q2 := pcall1 (h := ([] : LH)) (roman d n hr)
        have u2 := up_ok (m := false) (h := ([] : LH)) (rom_a n) (rom_fit hr)
        by_cases f3 : form = [105]
        · subst f3
          simp (config := { decide := true }) only [f_formed, evSs, evS, evE, evEs, R.toS, R.bind, nth, R.ofO, R.ofP, Option.map, c_isN1, t_bl, decide_true, decide_false, c_lt, c_le, c_in2, c_eqS, decide_eq_false c1, decide_eq_true hr', hr, nT, gg, q2, u2, q0, bt_up, fin, ftx, Bool.or, if_true, if_false, and_self]
        · by_cases f4 : form = [73]
          · subst f4
            simp (config := { decide := true }) only [f_formed, evSs, evS, evE, evEs, R.toS, R.bind, nth, R.ofO, R.ofP, Option.map, c_isN1, t_bl, decide_true, decide_false, c_lt, c_le, c_in2, c_eqS, decide_eq_false c1, decide_eq_true hr', hr, nT, gg, q2, u2, q0, bt_up, fin, ftx, Bool.or, if_true, if_false, and_self, and_true, false_and]
          · have g3 : ¬ ([105] = form) := fun z => f3 z.symm
            have g4 : ¬ ([73] = form) := fun z => f4 z.symm
            simp (config := { decide := true }) only [f_formed, evSs, evS, evE, evEs, R.toS, R.bind, nth, R.ofO, R.ofP, Option.map, c_isN1, t_bl, decide_true, decide_false, c_lt, c_le, c_in2, c_eqS, decide_eq_false c1, decide_eq_false g1, decide_eq_false g2, decide_eq_false g3, decide_eq_false g4, f1, f2, f3, f4, nT, gg, q0, fin, ftx, Bool.or, if_true, if_false, false_and]
      · have hr' : ¬ (n : Int) ≤ 3999 := by omega
        by_cases f3 : form = [105]
        · subst f3
          simp (config := { decide := true }) only [f_formed, evSs, evS, evE, evEs, R.toS, R.bind, nth, R.ofO, R.ofP, Option.map, c_isN1, t_bl, decide_true, decide_false, c_lt, c_le, c_in2, c_eqS, decide_eq_false c1, decide_eq_false hr', hr, nT, gg, q0, fin, ftx, Bool.or, if_true, if_false, and_false]
        · by_cases f4 : form = [73]
          · subst f4
            simp (config := { decide := true }) only [f_formed, evSs, evS, evE, evEs, R.toS, R.bind, nth, R.ofO, R.ofP, Option.map, c_isN1, t_bl, decide_true, decide_false, c_lt, c_le, c_in2, c_eqS, decide_eq_false c1, decide_eq_false hr', hr, nT, gg, q0, fin, ftx, Bool.or, if_true, if_false, and_false]
          · have g3 : ¬ ([105] = form) := fun z => f3 z.symm
            have g4 : ¬ ([73] = form) := fun z => f4 z.symm
            simp (config := { decide := true }) only [f_formed, evSs, evS, evE, evEs, R.toS, R.bind, nth, R.ofO, R.ofP, Option.map, c_isN1, t_bl, decide_true, decide_false, c_lt, c_le, c_in2, c_eqS, decide_eq_false c1, decide_eq_false g1, decide_eq_false g2, decide_eq_false g3, decide_eq_false g4, f1, f2, f3, f4, nT, gg, q0, fin, ftx, Bool.or, if_true, if_false, false_and]
theorem formed0 (d : Nat) (i : Int) (form : Tx) (h1 : i < 1) (hn : i.natAbs < 2 ^ 40) : run Γ (d + 2) 3 [.pv (.int i), .pv (.str form)] [] = .ok (.pv (.str (intTx i))) [] := by
  show fin (evSs Γ (run Γ (d + 1)) f_formed.body [some (.pv (.int i)), some (.pv (.str form))] []) = _
  have q0 := pcall1 (h := ([] : LH)) (ntext d i hn)
  simp only [f_formed, evSs, evS, evE, evEs, R.toS, R.bind, nth, R.ofO, R.ofP, Option.map, c_isN1, t_bl, c_lt, decide_eq_true h1, q0, fin]
theorem formedN (d : Nat) (form : Tx) : run Γ (d + 2) 3 [.pv .non, .pv (.str form)] [] = .ok (.pv (.str [110,111,110,101])) [] := rfl
/-! ### the law's own -/
theorem lformed (d n : Nat) (form : Tx) (h1 : 1 ≤ n) (hn : n < 26 ^ 7) : run Γ (d + 2) 10 [.pv (.int (n : Int)), .pv (.str form)] [] = .ok (.pv (.str (ftx n form))) [] := by
  show fin (evSs Γ (run Γ (d + 1)) f__law_formed.body [some (.pv (.int (n : Int))), some (.pv (.str form))] []) = _
  have c1 : (0 : Int) < (n : Int) := by omega
  have nT : ∀ a b : PV, newT [W.pv a, W.pv b] [] = .ok (.pv (.tup [a, b])) [] := fun _ _ => rfl
  have q1 := pcall1 (h := ([] : LH)) (letters d n h1 hn)
  have ps : prim .str false [.pv (.int (n : Int))] [] = .ok (.pv (.str (intTx (n : Int)))) [] := p_strI (log_ok (by show n < 2 ^ 40; omega))
  have u1 := up_ok (m := false) (h := ([] : LH)) (lett_ok n) (lett_fit hn)
  by_cases f1 : form = [97]
  · subst f1
    simp (config := { decide := true }) only [f__law_formed, evSs, evS, evE, evEs, R.toS, R.bind, nth, R.ofO, R.ofP, Option.map, c_isN1, t_bl, decide_true, decide_false, c_lt, c_le, c_gt, c_in2, c_eqS, decide_eq_true c1, nT, q1, u1, ps, bt_up, fin, ftx, Bool.or, if_true, if_false]
  · by_cases f2 : form = [65]
    · subst f2
      simp (config := { decide := true }) only [f__law_formed, evSs, evS, evE, evEs, R.toS, R.bind, nth, R.ofO, R.ofP, Option.map, c_isN1, t_bl, decide_true, decide_false, c_lt, c_le, c_gt, c_in2, c_eqS, decide_eq_true c1, nT, q1, u1, ps, bt_up, fin, ftx, Bool.or, if_true, if_false]
    · have g1 : ¬ ([97] = form) := fun z => f1 z.symm
      have g2 : ¬ ([65] = form) := fun z => f2 z.symm
      by_cases hr : n ≤ 3999
      · have hr' : (n : Int) < 4000 := by omega
        have q2 := pcall1 (h := ([] : LH)) (lroman d n hr)
        have u2 := up_ok (m := false) (h := ([] : LH)) (rom_a n) (rom_fit hr)
        by_cases f3 : form = [105]
        · subst f3
          simp (config := { decide := true }) only [f__law_formed, evSs, evS, evE, evEs, R.toS, R.bind, nth, R.ofO, R.ofP, Option.map, c_isN1, t_bl, decide_true, decide_false, c_lt, c_le, c_gt, c_in2, c_eqS, decide_eq_true c1, decide_eq_true hr', hr, nT, q2, u2, ps, bt_up, fin, ftx, Bool.or, if_true, if_false, and_self]
        · by_cases f4 : form = [73]
          · subst f4
            simp (config := { decide := true }) only [f__law_formed, evSs, evS, evE, evEs, R.toS, R.bind, nth, R.ofO, R.ofP, Option.map, c_isN1, t_bl, decide_true, decide_false, c_lt, c_le, c_gt, c_in2, c_eqS, decide_eq_true c1, decide_eq_true hr', hr, nT, q2, u2, ps, bt_up, fin, ftx, Bool.or, if_true, if_false, and_self, and_true, false_and]
          · have g3 : ¬ ([105] = form) := fun z => f3 z.symm
            have g4 : ¬ ([73] = form) := fun z => f4 z.symm
            simp (config := { decide := true }) only [f__law_formed, evSs, evS, evE, evEs, R.toS, R.bind, nth, R.ofO, R.ofP, Option.map, c_isN1, t_bl, decide_true, decide_false, c_lt, c_le, c_gt, c_in2, c_eqS, decide_eq_true c1, decide_eq_false g1, decide_eq_false g2, decide_eq_false g3, decide_eq_false g4, f1, f2, f3, f4, nT, ps, fin, ftx, Bool.or, if_true, if_false, false_and]
      · have hr' : ¬ (n : Int) < 4000 := by omega
        by_cases f3 : form = [105]
        · subst f3
          simp (config := { decide := true }) only [f__law_formed, evSs, evS, evE, evEs, R.toS, R.bind, nth, R.ofO, R.ofP, Option.map, c_isN1, t_bl, decide_true, decide_false, c_lt, c_le, c_gt, c_in2, c_eqS, decide_eq_true c1, decide_eq_false hr', hr, nT, ps, fin, ftx, Bool.or, if_true, if_false, and_false]
        · by_cases f4 : form = [73]
          · subst f4
            simp (config := { decide := true }) only [f__law_formed, evSs, evS, evE, evEs, R.toS, R.bind, nth, R.ofO, R.ofP, Option.map, c_isN1, t_bl, decide_true, decide_false, c_lt, c_le, c_gt, c_in2, c_eqS, decide_eq_true c1, decide_eq_false hr', hr, nT, ps, fin, ftx, Bool.or, if_true, if_false, and_false]
          · have g3 : ¬ ([105] = form) := fun z => f3 z.symm
            have g4 : ¬ ([73] = form) := fun z => f4 z.symm
            simp (config := { decide := true }) only [f__law_formed, evSs, evS, evE, evEs, R.toS, R.bind, nth, R.ofO, R.ofP, Option.map, c_isN1, t_bl, decide_true, decide_false, c_lt, c_le, c_gt, c_in2, c_eqS, decide_eq_true c1, decide_eq_false g1, decide_eq_false g2, decide_eq_false g3, decide_eq_false g4, f1, f2, f3, f4, nT, ps, fin, ftx, Bool.or, if_true, if_false, false_and]
theorem lformed0 (d : Nat) (i : Int) (form : Tx) (h1 : i < 1) (hn : i.natAbs < 2 ^ 40) : run Γ (d + 2) 10 [.pv (.int i), .pv (.str form)] [] = .ok (.pv (.str (intTx i))) [] := by
  show fin (evSs Γ (run Γ (d + 1)) f__law_formed.body [some (.pv (.int i)), some (.pv (.str form))] []) = _
  have nT : ∀ a b : PV, newT [W.pv a, W.pv b] [] = .ok (.pv (.tup [a, b])) [] := fun _ _ => rfl
  have c1 : ¬ (0 : Int) < i := by omega
  have ps : prim .str false [.pv (.int i)] [] = .ok (.pv (.str (intTx i))) [] := p_strI (log_ok hn)
  cases x1 : cop .inn (W.pv (.str form)) (W.pv (.tup [.str [97], .str [65]])) [] with
  | none => rw [c_in2] at x1; cases x1
  | some b1 =>
    cases x2 : cop .inn (W.pv (.str form)) (W.pv (.tup [.str [105], .str [73]])) [] with
    | none => rw [c_in2] at x2; cases x2
    | some b2 =>
      cases b1 <;> cases b2 <;>
        simp (config := { decide := true }) only [f__law_formed, evSs, evS, evE, evEs, R.toS, R.bind, nth, R.ofO, R.ofP, Option.map, c_isN1, t_bl, c_lt, c_gt, decide_true, decide_false, decide_eq_false c1, x1, x2, nT, ps, fin]
theorem lformedN (d : Nat) (form : Tx) : run Γ (d + 2) 10 [.pv .non, .pv (.str form)] [] = .ok (.pv (.str [110,111,110,101])) [] := rfl
/-! ### alike -/
theorem like_ (d : Nat) (s : Tx) (hs : s.length ≤ 1000000) : run Γ (d + 1) 7 [.pv (.str s), .pv (.str s)] [] = .ok (.pv (.bl true)) [] := by
  show fin (evSs Γ (run Γ d) f__law_like.body [some (.pv (.str s)), some (.pv (.str s))] []) = _
  have l1 : likeP (.pv (.str s)) [] = some (.str s) := by
    show (match likeOk (.str s) with
      | false => none
      | true => some (PV.str s)) = _
    have : likeOk (.str s) = true := line_le (by show 10 * s.length + 2 ≤ _; omega)
    rw [this]
  have l2 : likeQ (.str s) (.pv (.str s)) [] = some (.bl true) := by
    show (match PV.beq (.str s) (.str s) with
      | true => some (PV.bl true)
      | false => none) = _
    have : PV.beq (.str s) (.str s) = true := by rw [PV.beq, txEq_eq]; exact decide_eq_true rfl
    rw [this]
  simp only [f__law_like, evSs, evS, evE, R.toS, R.bind, nth, l1, l2, R.ofP, fin]
end K54
end

section
set_option autoImplicit false
set_option linter.all false
set_option maxRecDepth 4000
namespace K54
open Sx
def sNear : S := (.set (.nm 3) (.bin .sub false (.bin .add false (.call false 6 (.cons (.var 1) (.cons (.lst false (.cons (.cst (.int 0)) (.cons (.cst (.int 5)) (.cons (.cst (.int 26)) (.cons (.cst (.int 52)) (.cons (.cst (.int 702)) (.cons (.cst (.int 1000)) (.cons (.cst (.int 18278)) (.cons (.cst (.int 3999)) (.cons (.cst (.int 475254)) (.cons (.cst (.int 999999990)) .nil))))))))))) .nil))) (.call false 5 (.cons (.var 1) (.cons (.cst (.int 9)) .nil)))) (.cst (.int 4))))
def sNum : S := (.set (.nm 4) (.call false 6 (.cons (.var 1) (.cons (.lst false (.cons (.var 3) (.cons (.bin .add false (.cst (.int 1)) (.call false 5 (.cons (.var 1) (.cons (.cst (.int 3999)) .nil)))) (.cons (.call false 5 (.cons (.var 1) (.cons (.bin .pow false (.cst (.int 10)) (.cst (.int 9))) .nil))) (.cons (.neg (.call false 5 (.cons (.var 1) (.cons (.cst (.int 99)) .nil)))) (.cons (.cst (.non)) .nil)))))) .nil))))
def inB : Ss := (.cons (.sif (.ntt (.call true 7 (.cons (.call true 3 (.cons (.var 4) (.cons (.var 5) .nil))) (.cons (.call true 10 (.cons (.var 4) (.cons (.var 5) .nil))) .nil)))) (.cons (.ret (.cst (.bl false))) .nil) .nil) .nil)
def eForms : E := (.tup (.cons (.cst (.str [49])) (.cons (.cst (.str [97])) (.cons (.cst (.str [65])) (.cons (.cst (.str [105])) (.cons (.cst (.str [73])) (.cons (.call false 6 (.cons (.var 1) (.cons (.lst false (.cons (.cst (.str [])) (.cons (.cst (.str [48,49])) (.cons (.cst (.str [97,97])) (.cons (.cst (.str [120])) (.cons (.cst (.str [73,73])) (.cons (.cst (.str [105,32])) (.cons (.cst (.str [110,111,110,101])) .nil)))))))) .nil))) .nil)))))))
def tB : Ss := .cons sNear (.cons sNum (.cons (.for_ (.nm 5) (.seq eForms) inB) .nil))
def sTwo : S := (.par2 6 7 (.bin .add false (.cst (.int 1)) (.call false 5 (.cons (.var 1) (.cons (.cst (.int 20000)) .nil)))) (.bin .add false (.cst (.int 1)) (.call false 5 (.cons (.var 1) (.cons (.cst (.int 20000)) .nil)))))
def sCmp : S := (.sif (.cmp .ne (.cmp .eq (.call true 3 (.cons (.var 6) (.cons (.cst (.str [97])) .nil))) (.call true 3 (.cons (.var 7) (.cons (.cst (.str [97])) .nil)))) (.cmp .eq (.var 6) (.var 7))) (.cons (.ret (.cst (.bl false))) .nil) .nil)
def rest : Ss := (.cons (.set (.nm 8) (.lst false (.cons (.tup (.cons (.cst (.int 1)) (.cons (.cst (.str [97])) (.cons (.cst (.str [97])) .nil)))) (.cons (.tup (.cons (.cst (.int 26)) (.cons (.cst (.str [97])) (.cons (.cst (.str [122])) .nil)))) (.cons (.tup (.cons (.cst (.int 27)) (.cons (.cst (.str [65])) (.cons (.cst (.str [65,65])) .nil)))) (.cons (.tup (.cons (.cst (.int 52)) (.cons (.cst (.str [97])) (.cons (.cst (.str [97,122])) .nil)))) (.cons (.tup (.cons (.cst (.int 53)) (.cons (.cst (.str [97])) (.cons (.cst (.str [98,97])) .nil)))) (.cons (.tup (.cons (.cst (.int 702)) (.cons (.cst (.str [97])) (.cons (.cst (.str [122,122])) .nil)))) (.cons (.tup (.cons (.cst (.int 703)) (.cons (.cst (.str [97])) (.cons (.cst (.str [97,97,97])) .nil)))) (.cons (.tup (.cons (.cst (.int 18279)) (.cons (.cst (.str [97])) (.cons (.cst (.str [97,97,97,97])) .nil)))) .nil)))))))))) (.cons (.set (.nm 8) (.bin .add false (.var 8) (.lst false (.cons (.tup (.cons (.cst (.int 4)) (.cons (.cst (.str [105])) (.cons (.cst (.str [105,118])) .nil)))) (.cons (.tup (.cons (.cst (.int 9)) (.cons (.cst (.str [73])) (.cons (.cst (.str [73,88])) .nil)))) (.cons (.tup (.cons (.cst (.int 40)) (.cons (.cst (.str [105])) (.cons (.cst (.str [120,108])) .nil)))) (.cons (.tup (.cons (.cst (.int 90)) (.cons (.cst (.str [105])) (.cons (.cst (.str [120,99])) .nil)))) (.cons (.tup (.cons (.cst (.int 400)) (.cons (.cst (.str [105])) (.cons (.cst (.str [99,100])) .nil)))) (.cons (.tup (.cons (.cst (.int 900)) (.cons (.cst (.str [105])) (.cons (.cst (.str [99,109])) .nil)))) (.cons (.tup (.cons (.cst (.int 1994)) (.cons (.cst (.str [105])) (.cons (.cst (.str [109,99,109,120,99,105,118])) .nil)))) .nil)))))))))) (.cons (.set (.nm 8) (.bin .add false (.var 8) (.lst false (.cons (.tup (.cons (.cst (.int 3999)) (.cons (.cst (.str [73])) (.cons (.cst (.str [77,77,77,67,77,88,67,73,88])) .nil)))) (.cons (.tup (.cons (.cst (.int 4000)) (.cons (.cst (.str [73])) (.cons (.cst (.str [52,48,48,48])) .nil)))) (.cons (.tup (.cons (.cst (.int 0)) (.cons (.cst (.str [97])) (.cons (.cst (.str [48])) .nil)))) (.cons (.tup (.cons (.cst (.int 0)) (.cons (.cst (.str [105])) (.cons (.cst (.str [48])) .nil)))) (.cons (.tup (.cons (.neg (.cst (.int 5))) (.cons (.cst (.str [65])) (.cons (.cst (.str [45,53])) .nil)))) (.cons (.tup (.cons (.cst (.non)) (.cons (.cst (.str [97])) (.cons (.cst (.str [110,111,110,101])) .nil)))) (.cons (.tup (.cons (.cst (.non)) (.cons (.cst (.str [49])) (.cons (.cst (.str [110,111,110,101])) .nil)))) .nil)))))))))) (.cons (.set (.nm 8) (.bin .add false (.var 8) (.lst false (.cons (.tup (.cons (.cst (.int 999999999)) (.cons (.cst (.str [97])) (.cons (.cst (.str [99,102,100,103,115,120,107])) .nil)))) (.cons (.tup (.cons (.cst (.int 3888)) (.cons (.cst (.str [105])) (.cons (.cst (.str [109,109,109,100,99,99,99,108,120,120,120,118,105,105,105])) .nil)))) (.cons (.tup (.cons (.neg (.cst (.int 999999999))) (.cons (.cst (.str [49])) (.cons (.cst (.str [45,57,57,57,57,57,57,57,57,57])) .nil)))) (.cons (.tup (.cons (.cst (.int 12)) (.cons (.cst (.str [])) (.cons (.cst (.str [49,50])) .nil)))) .nil))))))) (.cons (.ret (.cmp .eq (.lc false [9] (.nm 9) (.seq (.var 8)) (.so (.ntt (.call true 7 (.cons (.call true 3 (.cons (.ix (.var 9) (.cst (.int 0))) (.cons (.ix (.var 9) (.cst (.int 1))) .nil))) (.cons (.ix (.var 9) (.cst (.int 2))) .nil))))) (.var 9)) (.lst false .nil))) .nil)))))
theorem law_body : f_law.body = .cons (.set (.nm 1) (.call false 4 (.cons (.var 0) .nil))) (.cons (.for_ (.nm 2) (.rng1 (.cst (.int 20))) tB) (.cons sTwo (.cons sCmp rest))) := rfl
theorem int_len {i : Int} (h : i.natAbs < 2 ^ 40) : (intTx i).length ≤ 1921 := by
  have := PyProof.Rows.int_text_len_1921 (log_ok h)
  rwa [int_tx, toStr_len] at this
theorem ftx_len {n : Nat} {form : Tx} (hn : n < 26 ^ 7) : (ftx n form).length ≤ 1000000 := by
  unfold ftx
  split
  · exact lett_fit hn
  · split
    · rw [List.length_map]; exact lett_fit hn
    · split
      · rename_i h; exact rom_fit h.2
      · split
        · rename_i h; rw [List.length_map]; exact rom_fit h.2
        · exact Nat.le_trans (int_len (by show n < 2 ^ 40; omega)) (by decide)
/-- what a number may be -/
def okNum (p : PV) : Prop := p = .non ∨ ∃ i : Int, p = .int i ∧ -1000 ≤ i ∧ i < 8000000000
/-- both tell the same -/
theorem both (d : Nat) (p : PV) (form : Tx) (h : okNum p) : ∃ s : Tx, run Γ (d + 2) 3 [.pv p, .pv (.str form)] [] = .ok (.pv (.str s)) [] ∧ run Γ (d + 2) 10 [.pv p, .pv (.str form)] [] = .ok (.pv (.str s)) [] ∧ s.length ≤ 1000000 := by
  rcases h with rfl | ⟨i, rfl, h1, h2⟩
  · exact ⟨_, formedN d form, lformedN d form, by decide⟩
  · by_cases h0 : i < 1
    · exact ⟨_, formed0 d i form h0 (by omega), lformed0 d i form h0 (by omega), Nat.le_trans (int_len (by omega)) (by decide)⟩
    · obtain ⟨n, rfl⟩ : ∃ n : Nat, i = (n : Int) := ⟨i.toNat, by omega⟩
      have hn : n < 26 ^ 7 := by omega
      exact ⟨_, formed d n form (by omega) hn, lformed d n form (by omega) hn, ftx_len hn⟩
abbrev r10 (x0 : W) (t near num form one two u v : Option W) : Sl := [some x0, some (.ref 0), t, near, num, form, one, two, u, v]
theorem in_body (d : Nat) (x0 : W) (t near : Option W) (p : PV) (form : Tx) (o1 o2 u v : Option W) (h : LH) (hp : okNum p) :
    evSs Γ (run Γ (d + 2)) inB (r10 x0 t near (some (.pv p)) (some (.pv (.str form))) o1 o2 u v) h = .nx (r10 x0 t near (some (.pv p)) (some (.pv (.str form))) o1 o2 u v) h := by
  obtain ⟨s, e1, e2, e3⟩ := both d p form hp
  have q1 := pcall2 (h := h) e1
  have q2 := pcall2 (h := h) e2
  have q3 := pcall2 (h := h) (like_ (d + 1) s e3)
  simp (config := { decide := true }) only [inB, evSs, evS, evE, evEs, R.toS, R.bind, nth, R.ofP, Option.map, q1, q2, q3, t_bl, Bool.not_true]
theorem in_for (d : Nat) (x0 : W) (t near : Option W) (p : PV) (o1 o2 u v : Option W) (h : LH) (hp : okNum p) : ∀ (fs : List Tx) (f0 : Option W),
    ∃ f1, forL (asT Γ (run Γ (d + 2)) (.nm 5)) (evSs Γ (run Γ (d + 2)) inB) ((fs.map PV.str).map fun p => .one (.pv p)) (r10 x0 t near (some (.pv p)) f0 o1 o2 u v) h = .nx (r10 x0 t near (some (.pv p)) f1 o1 o2 u v) h
  | [], f0 => ⟨f0, rfl⟩
  | f :: r, f0 => by
    obtain ⟨f1, e⟩ := in_for d x0 t near p o1 o2 u v h hp r (some (.pv (.str f)))
    refine ⟨f1, ?_⟩
    have b := in_body d x0 t near p f o1 o2 u v h hp
    simp only [List.map, forL]
    have as : asT Γ (run Γ (d + 2)) (.nm 5) (.one (.pv (.str f))) (r10 x0 t near (some (.pv p)) f0 o1 o2 u v) h = .nx (r10 x0 t near (some (.pv p)) (some (.pv (.str f))) o1 o2 u v) h := by simp only [asT, setN]
    rw [as]
    simp only [b]
    exact e
def NEARS : List PV := [.int 0, .int 5, .int 26, .int 52, .int 702, .int 1000, .int 18278, .int 3999, .int 475254, .int 999999990]
theorem near_ok : ∀ p ∈ NEARS, ∃ i : Int, p = .int i ∧ 0 ≤ i ∧ i ≤ 999999990 := by
  intro p hp
  simp only [NEARS, List.mem_cons, List.not_mem_nil, or_false] at hp
  rcases hp with rfl | rfl | rfl | rfl | rfl | rfl | rfl | rfl | rfl | rfl <;> exact ⟨_, rfl, by decide, by decide⟩
def TXS : List Tx := [[], [48,49], [97,97], [120], [73,73], [105,32], [110,111,110,101]]
theorem turn (d : Nat) (x0 : W) (t near num form o1 o2 u v : Option W) (a b : Int) (h0 : 0 ≤ a) :
    ∃ near2 num2 form2 a2 b2, evSs Γ (run Γ (d + 2)) tB (r10 x0 t near num form o1 o2 u v) (C a b) = .nx (r10 x0 t near2 num2 form2 o1 o2 u v) (C a2 b2) ∧ 0 ≤ a2 := by
  obtain ⟨p1, a1, b1, e1, m1, g1⟩ := some_ d NEARS a b h0 (by decide) (by decide)
  obtain ⟨i1, rfl, l1, l2⟩ := near_ok p1 m1
  obtain ⟨r1, a2, b2, e2, l3, l4, g2⟩ := roll (d + 1) 9 a1 b1 g1 (by decide) (by decide)
  have n1 : newL false [W.pv (.int 0), W.pv (.int 5), W.pv (.int 26), W.pv (.int 52), W.pv (.int 702), W.pv (.int 1000), W.pv (.int 18278), W.pv (.int 3999), W.pv (.int 475254), W.pv (.int 999999990)] (C a b) = .ok (.pv (.lst NEARS)) (C a b) := rfl
  have s1 : evS Γ (run Γ (d + 2)) sNear (r10 x0 t near num form o1 o2 u v) (C a b) = .nx (r10 x0 t (some (.pv (.int (i1 + r1 - 4)))) num form o1 o2 u v) (C a2 b2) := by
    simp (config := { decide := true }) only [sNear, evS, evE, evEs, R.toS, R.bind, nth, n1, doCall, e1, e2, b_add, b_sub, asT, setN]
  obtain ⟨r2, a3, b3, e3, l5, l6, g3⟩ := roll (d + 1) 3999 a2 b2 g2 (by decide) (by decide)
  obtain ⟨r3, a4, b4, e4, l7, l8, g4⟩ := roll (d + 1) 1000000000 a3 b3 g3 (by decide) (by decide)
  obtain ⟨r4, a5, b5, e5, l9, l10, g5⟩ := roll (d + 1) 99 a4 b4 g4 (by decide) (by decide)
  obtain ⟨p2, a6, b6, e6, m6, g6⟩ := some_ d [.int (i1 + r1 - 4), .int (1 + r2), .int r3, .int (-r4), .non] a5 b5 g5 (List.cons_ne_nil _ _) (by show 5 < 1000; decide)
  have hp : okNum p2 := by
    simp only [List.mem_cons, List.not_mem_nil, or_false] at m6
    rcases m6 with rfl | rfl | rfl | rfl | rfl
    · exact .inr ⟨_, rfl, by omega, by omega⟩
    · exact .inr ⟨_, rfl, by omega, by omega⟩
    · exact .inr ⟨_, rfl, by omega, by omega⟩
    · exact .inr ⟨_, rfl, by omega, by omega⟩
    · exact .inl rfl
  have pw : ∀ h, bop .pow false (.pv (.int 10)) (.pv (.int 9)) h = .ok (.pv (.int 1000000000)) h := fun h => rfl
  have n2 : ∀ x y z u : Int, newL false [W.pv (.int x), W.pv (.int y), W.pv (.int z), W.pv (.int u), W.pv .non] (C a5 b5) = .ok (.pv (.lst [.int x, .int y, .int z, .int u, .non])) (C a5 b5) := fun _ _ _ _ => rfl
  have s2 : evS Γ (run Γ (d + 2)) sNum (r10 x0 t (some (.pv (.int (i1 + r1 - 4)))) num form o1 o2 u v) (C a2 b2) = .nx (r10 x0 t (some (.pv (.int (i1 + r1 - 4)))) (some (.pv p2)) form o1 o2 u v) (C a6 b6) := by
    simp (config := { decide := true }) only [sNum, evS, evE, evEs, R.toS, R.bind, nth, doCall, e3, pw, e4, e5, ineg_eq, b_add, n2, e6, asT, setN]
  obtain ⟨p3, a7, b7, e7, m7, g7⟩ := some_ d (TXS.map PV.str) a6 b6 g6 (by decide) (by decide)
  obtain ⟨f3, _, rfl⟩ := List.mem_map.mp m7
  have n3 : newL false [W.pv (.str []), W.pv (.str [48,49]), W.pv (.str [97,97]), W.pv (.str [120]), W.pv (.str [73,73]), W.pv (.str [105,32]), W.pv (.str [110,111,110,101])] (C a6 b6) = .ok (.pv (.lst (TXS.map PV.str))) (C a6 b6) := rfl
  have n4 : ∀ f, newT [W.pv (.str [49]), W.pv (.str [97]), W.pv (.str [65]), W.pv (.str [105]), W.pv (.str [73]), W.pv (.str f)] (C a7 b7) = .ok (.pv (.tup (([[49], [97], [65], [105], [73], f] : List Tx).map PV.str))) (C a7 b7) := fun _ => rfl
  obtain ⟨f9, ef⟩ := in_for d x0 t (some (.pv (.int (i1 + r1 - 4)))) p2 o1 o2 u v (C a7 b7) hp [[49], [97], [65], [105], [73], f3] form
  have s3 : evI Γ (run Γ (d + 2)) (.seq eForms) (r10 x0 t (some (.pv (.int (i1 + r1 - 4)))) (some (.pv p2)) form o1 o2 u v) (C a6 b6) = .ok (.items ((([[49], [97], [65], [105], [73], f3] : List Tx).map PV.str).map fun p => .one (.pv p))) (C a7 b7) := by
    simp (config := { decide := true }) only [eForms, evI, evE, evEs, R.bind, nth, doCall, n3, e7, n4, walkOf]
  refine ⟨some (.pv (.int (i1 + r1 - 4))), some (.pv p2), f9, a7, b7, ?_, g7⟩
  rw [tB, evSs, s1]
  simp only
  rw [evSs, s2]
  simp only
  rw [evSs, evS, s3]
  simp only [forW]
  rw [ef]
  simp only [evSs]
theorem turns (d : Nat) (x0 : W) (o1 o2 u v : Option W) : ∀ (k : Nat) (i : Int) (t near num form : Option W) (a b : Int), 0 ≤ a →
    ∃ t2 near2 num2 form2 a2 b2, forL (asT Γ (run Γ (d + 2)) (.nm 2)) (evSs Γ (run Γ (d + 2)) tB) (rngL i 1 k) (r10 x0 t near num form o1 o2 u v) (C a b) = .nx (r10 x0 t2 near2 num2 form2 o1 o2 u v) (C a2 b2) ∧ 0 ≤ a2 := by
  intro k
  induction k with
  | zero => intro i t near num form a b h0; exact ⟨t, near, num, form, a, b, rfl, h0⟩
  | succ k ih =>
    intro i t near num form a b h0
    obtain ⟨near2, num2, form2, a2, b2, e, g⟩ := turn d x0 (some (.pv (.int i))) near num form o1 o2 u v a b h0
    obtain ⟨t3, near3, num3, form3, a3, b3, e3, g3⟩ := ih (iadd i 1) (some (.pv (.int i))) near2 num2 form2 a2 b2 g
    refine ⟨t3, near3, num3, form3, a3, b3, ?_, g3⟩
    rw [← e3]
    have as : asT Γ (run Γ (d + 2)) (.nm 2) (.one (.pv (.int i))) (r10 x0 t near num form o1 o2 u v) (C a b) = .nx (r10 x0 (some (.pv (.int i))) near num form o1 o2 u v) (C a b) := by simp only [asT, setN]
    simp only [rngL, forL]
    rw [as]
    simp only [e]
theorem two_cmp (d : Nat) (x0 : W) (t near num form : Option W) (a b : Int) (h0 : 0 ≤ a) :
    ∃ o1 o2 a2 b2, evS Γ (run Γ (d + 2)) sTwo (r10 x0 t near num form none none none none) (C a b) = .nx (r10 x0 t near num form (some o1) (some o2) none none) (C a2 b2) ∧
      evS Γ (run Γ (d + 2)) sCmp (r10 x0 t near num form (some o1) (some o2) none none) (C a2 b2) = .nx (r10 x0 t near num form (some o1) (some o2) none none) (C a2 b2) := by
  obtain ⟨r1, a1, b1, e1, l1, l2, g1⟩ := roll (d + 1) 20000 a b h0 (by decide) (by decide)
  obtain ⟨r2, a2, b2, e2, l3, l4, g2⟩ := roll (d + 1) 20000 a1 b1 g1 (by decide) (by decide)
  obtain ⟨m, hm⟩ : ∃ m : Nat, 1 + r1 = (m : Int) := ⟨(1 + r1).toNat, by omega⟩
  obtain ⟨n, hn⟩ : ∃ n : Nat, 1 + r2 = (n : Int) := ⟨(1 + r2).toNat, by omega⟩
  refine ⟨.pv (.int (m : Int)), .pv (.int (n : Int)), a2, b2, ?_, ?_⟩
  · simp (config := { decide := true }) only [sTwo, evS, evE, evEs, R.toS, R.bind, nth, doCall, e1, e2, b_add, setN, hm, hn]
  · have q1 := pcall2 (h := C a2 b2) (formed d m [97] (by omega) (by omega))
    have q2 := pcall2 (h := C a2 b2) (formed d n [97] (by omega) (by omega))
    have f1 : ∀ k, ftx k [97] = lett k := fun k => by simp only [ftx, if_true]
    rw [f1] at q1 q2
    have eq : (decide (lett m = lett n)) = (decide ((m : Int) = (n : Int))) := by
      by_cases hmn : m = n
      · subst hmn; rw [decide_eq_true rfl, decide_eq_true rfl]
      · rw [decide_eq_false fun z => hmn (lett_inj z), decide_eq_false fun z => hmn (by omega)]
    simp (config := { decide := true }) only [sCmp, evS, evE, evEs, evSs, R.toS, R.bind, nth, R.ofP, Option.map, q1, q2, c_eqS, c_eqI, c_neB, eq, t_bl, BEq.rfl, Bool.not_true]
end K54
end

section
set_option autoImplicit false
set_option linter.all false
set_option maxRecDepth 100000
set_option maxHeartbeats 0
namespace K54
open Sx
theorem rest_ok (x0 o1 o2 : W) (t near num form : Option W) (a b : Int) :
    fin (evSs Γ (run Γ 59) rest (r10 x0 t near num form (some o1) (some o2) none none) (C a b)) = .ok (.pv (.bl true)) (C a b) := by
  kernel_rfl
theorem end_ (ns : List Int) (hl : ns.length ≤ 63) : ∃ h, run Γ 60 id_law [.pv (.lst (ns.map .int))] [] = .ok (.pv (.bl true)) h := by
  obtain ⟨a, b, e1, g1⟩ := cup 58 ns hl
  obtain ⟨t2, near2, num2, form2, a2, b2, e2, g2⟩ := turns 57 (.pv (.lst (ns.map .int))) none none none none 20 0 none none none none a b g1
  obtain ⟨o1, o2, a3, b3, e3, e4⟩ := two_cmp 57 (.pv (.lst (ns.map .int))) t2 near2 num2 form2 a2 b2 g2
  refine ⟨C a3 b3, ?_⟩
  show fin (evSs Γ (run Γ 59) f_law.body [some (.pv (.lst (ns.map .int))), none, none, none, none, none, none, none, none, none] []) = _
  have s1 : evS Γ (run Γ 59) (.set (.nm 1) (.call false 4 (.cons (.var 0) .nil))) [some (.pv (.lst (ns.map .int))), none, none, none, none, none, none, none, none, none] [] = .nx (r10 (.pv (.lst (ns.map .int))) none none none none none none none none) (C a b) := by
    simp only [evS, evE, evEs, R.toS, R.bind, nth, doCall, e1, asT, setN]
  have s2 : evS Γ (run Γ 59) (.for_ (.nm 2) (.rng1 (.cst (.int 20))) tB) (r10 (.pv (.lst (ns.map .int))) none none none none none none none none) (C a b) = .nx (r10 (.pv (.lst (ns.map .int))) t2 near2 num2 form2 none none none none) (C a2 b2) := by
    rw [evS, show evI Γ (run Γ 59) (.rng1 (.cst (.int 20))) (r10 (.pv (.lst (ns.map .int))) none none none none none none none none) (C a b) = .ok (.items (rngL 0 1 20)) (C a b) from rfl]
    exact e2
  rw [law_body, evSs, s1]
  simp only
  rw [evSs, s2]
  simp only
  rw [evSs, e3]
  simp only
  rw [evSs, e4]
  exact rest_ok _ _ _ _ _ _ _ _ _
end K54
end

section
set_option Elab.async false
set_option linter.all false
set_option maxRecDepth 100000
set_option maxHeartbeats 0
namespace K54
open PySem PySem.Spec PyProof.Rows L2 Sx
def loose : List Str := ["number_text", "NONE", "LETTERS", "ROMAN", "GREATEST", "lettered", "roman", "formed", "_law_cup", "_law_roll", "_law_some", "_law_like", "_law_letters", "_law_roman", "_law_formed"]
theorem run (w : World) : HandSHeadRun.RunEq Rw (PySem.W.view Rw.prog [18]) hk ob 1500 loose w := by
  intro os
  kernel_rfl
end K54
open PySem PySem.W PySem.Calls PyProof.Rows
theorem PySem.Challenge.cw_sheetturn_k54_numbers_in_forms_holds : PySem.Challenge.rw_sheetturn_k54_numbers_in_forms.Holds := by
  w_on; o_law
  refine HandSHeadRun.head_any (r := K54.Rw) (q := view K54.Rw.prog [18]) (H := K54.hk) (ob := K54.ob) (M := 1500) (loose := K54.loose) (d := HandSHeadRun.topDef K54.Rw.prog 18) (kwd := []) K54.ob_eq
    (by kernel_rfl) (fun s => by kernel_rfl) K54.run (by kernel_rfl) (by kernel_rfl) (by kernel_rfl) (by rfl) (by first | assumption | decide +kernel) (by decide +kernel) ⟨rfl, rfl, rfl, rfl, rfl, by decide +kernel⟩ ?hw ?hc
  case hw => w_witness2
  case hc =>
    refine Sx.law_ok (l := PySem.Challenge.rw_sheetturn_k54_numbers_in_forms) (n := 63) (k := 60) (m := 60) (f := K54.id_law) (Γ := K54.Γ) (ds := K54.dns) (gl := K54.gls) rfl (by decide) (by kernel_rfl) ⟨rfl, by decide, by decide⟩
      (fun w h Y => Y) K54.ck1 K54.ck2 (by kernel_rfl) ⟨K54.f_law, rfl, rfl⟩ K54.end_
end
